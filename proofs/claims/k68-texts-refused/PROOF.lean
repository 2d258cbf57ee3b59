import PyProof.Rows.All
import HandS.Defaults
import HandS.EndBits
import HandS.HeadHook2
import HandS.ExcIs
import HandS.IsInst
import PyProof.Rows.Digits
import HandS.Words
import HandS.Head0
import HandS.Head1
import HandS.Head2
import Wide.All
import OpenK.AllK
import Wide.FinOn
import HandS.ForMost
import HandS.ForExc
import HandS.Wide
import HandS.WideBits
import HandS.Walk
import HandS.HeadHook1
import PyProof.Rows.RuleB_pow
import HandS.SortInts
import HandS.SortRule
import HandS.More
import HandS.Conv
import HandS.Deep
import HandS.WordsExc
import KE.DatumOrd
import KE.IntBitsLaws
import KE.RegMulBits
import KE.DatumIndex
import HandS.Style
import HandS.Iter
import HandS.Rev
import HandS.TupAny
import HandS.Zip
import HandS.SortOrd
import HandS.NamedTupSort
import HandS.TupSets
import KE.KTupSum
import KE.LtSeq
import HandS.Text
import HandS.Codes
import HandS.SetFor
import KE.KIntText
import HandS.Steps
import KE.GoesRaise
import HandS.TryOnly
import HandS.HeadEnd
import PySem.Challenge.RW_owinghall_k68_texts_refused
set_option Elab.async false
set_option linter.all false
set_option maxRecDepth 100000
/-! Wk0: the facts behind a head. -/
namespace Wk
open PySem PySem.Spec PyProof.Rows L2
/-! ### facts about the error classes, the head's Hook with them -/
/-- the interpreter's own statics hold no limit on digits -/
def nodK (K : PySem.W.Frag) : Bool := match K.lookup cStatics with
  | some o => (match o.data with
    | .dict es _ => es.toList.all (fun e => match e.key with
      | .str .. => true
      | _ => false) && (nsFind es "sys.int_max_str_digits").isNone
    | _ => false)
  | none => false
theorem nod_of {K : PySem.W.Frag} {h : Heap} (X : K.In h) (c : nodK K = true) : h.NoDigits := by
  unfold nodK at c
  split at c
  · rename_i o ho
    split at c
    · rename_i es ep hd
      rw [Bool.and_eq_true] at c
      refine ⟨fun x => nsFind es x, ⟨o, es, ep, X _ _ ho, hd, fun e he => ?_, fun _ => rfl⟩, Option.isNone_iff_eq_none.mp c.2⟩
      have := List.all_eq_true.mp c.1 e (Array.mem_toList_iff.mpr he)
      split at this
      · rename_i n t hk
        exact ⟨n, t, hk⟩
      · cases this
    · cases c
  · cases c
inductive Fe where
  | nod
  | exc (x : Str)
  | kit (x y : Str) (b : Bool)
  | kitB (x : Str) (n : String) (b : Bool)
def Fe.ok (K : PySem.W.Frag) : Fe → Bool
  | .nod => nodK K
  | .exc x => decide (PySem.W.findIn K (.ref (He.ga K x)) "__getattribute__" = some (some (.builtin "BaseException.__getattribute__"))) && (decide (PySem.W.findIn K (.ref (He.ga K x)) "__getattr__" = some none) && (decide (PySem.W.subIn K (.ref (He.ga K x)) (.type "BaseException") = some true) && (PySem.W.hasDictIn K (He.ga K x) &&
    (decide (PySem.W.findIn K (.ref (He.ga K x)) "__class__" = some (some (.builtin "object.__class__"))) && (decide (PySem.W.specialIn K (.builtin "object.__class__") "__get__" = some (some (.builtin "getset_descriptor.__get__"))) && (decide (PySem.W.takesIn K (.builtin "object.__class__") = some true) && decide (PySem.W.mroIn K (He.ga K x) (.type "object") = some true)))))))
  | .kit x y b => decide (PySem.W.kitOne K (.ref (He.ga K x)) (.ref (He.ga K y)) = some b)
  | .kitB x n b => decide (PySem.W.kitOne K (.ref (He.ga K x)) (.type n) = some b)
abbrev AlE : Type := Bool × He.AlD
def obsE (fe : List Fe) (fa : List He.Fa) (fn : List He.DefD) (K : PySem.W.Frag) : AlE := (fe.all fun f => f.ok K, He.obsD fa fn K)
def valE (fn : List He.DefD) : AlE := (true, He.valD fn)
structure Says (fe : List Fe) (fa : List He.Fa) (fn : List He.DefD) (K : PySem.W.Frag) : Prop where
  e : fe.all (fun f => f.ok K) = true
  d : He.SaysD fa fn K
def obsEG (n : Nat) (fe : List Fe) (fa : List He.Fa) (fn : List He.DefD) (g : Addr → Option Obj) : AlE := obsE fe fa fn (He.frG g (He.asD g n ++ [cStatics]))
def hookE (n : Nat) (fe : List Fe) (fa : List He.Fa) (fn : List He.DefD) : PySem.W.Hook where
  α := AlE
  obs := fun s => obsEG n fe fa fn s.heap.get?
  val := fun _ => valE fn
  says := fun _ h => ∃ K : PySem.W.Frag, K.In h ∧ Says fe fa fn K
  of := fun _ _ e => ⟨_, He.frG_in, ⟨congrArg (fun z : AlE => z.1) e, congrArg (fun z : AlE => z.2) e⟩⟩
  keeps := fun _ _ _ ⟨K, hK, c⟩ k => ⟨K, PySem.W.Frag.In.keeps hK k, c⟩
theorem obsEG_eq {n : Nat} {fe : List Fe} {fa : List He.Fa} {fn : List He.DefD} {g : Addr → Option Obj} {s : Shared} (h : ∀ a, g a = s.heap.get? a) : obsEG n fe fa fn g = (hookE n fe fa fn).obs s := by
  have e : g = s.heap.get? := funext h
  rw [e] <;> rfl
theorem Says.fact {fe : List Fe} {fa : List He.Fa} {fn : List He.DefD} {K : PySem.W.Frag} (c : Says fe fa fn K) (i : Nat) {f : Fe} (h : fe[i]? = some f := by rfl) : f.ok K = true := List.all_eq_true.mp c.e f (List.mem_of_getElem? h)
theorem exc_of {x : Str} {K : PySem.W.Frag} (c : (Fe.exc x).ok K = true) : ExcC K (He.ga K x) := by
  obtain ⟨c1, c⟩ := He.ba c
  obtain ⟨c2, c⟩ := He.ba c
  obtain ⟨c3, c⟩ := He.ba c
  obtain ⟨c4, c⟩ := He.ba c
  obtain ⟨c5, c⟩ := He.ba c
  obtain ⟨c6, c⟩ := He.ba c
  obtain ⟨c7, c8⟩ := He.ba c
  exact ⟨of_decide_eq_true c1, of_decide_eq_true c2, of_decide_eq_true c3, c4, of_decide_eq_true c5, of_decide_eq_true c6, of_decide_eq_true c7, of_decide_eq_true c8⟩
theorem kit_of' {x y : Str} {b : Bool} {K : PySem.W.Frag} (c : (Fe.kit x y b).ok K = true) : PySem.W.kitOne K (.ref (He.ga K x)) (.ref (He.ga K y)) = some b := of_decide_eq_true c
theorem kitB_of {x : Str} {n : String} {b : Bool} {K : PySem.W.Frag} (c : (Fe.kitB x n b).ok K = true) : PySem.W.kitOne K (.ref (He.ga K x)) (.type n) = some b := of_decide_eq_true c
/-- facts behind the top -/
structure Fac (fe : List Fe) (fa : List He.Fa) (fn : List He.DefD) (K : PySem.W.Frag) (mg : Str → Option Value) : Prop where
  ex : ∃ h : Heap, K.In h ∧ h.Ns mainGlobals mg
  s : Says fe fa fn K
section
variable {fe : List Fe} {fa : List He.Fa} {fn : List He.DefD} {K : PySem.W.Frag} {mg : Str → Option Value}
theorem Fac.glo (f : Fac fe fa fn K mg) (i : Nat) {x : Str} (h : fa[i]? = some (.glo x) := by rfl) : mg x = some (.ref (He.ga K x)) := by
  obtain ⟨h', X, G⟩ := f.ex
  exact He.glo_ok X G (f.s.d.fact i h)
theorem Fac.free (f : Fac fe fa fn K mg) (i : Nat) {x : Str} (h : fa[i]? = some (.free x) := by rfl) : mg x = none := by
  obtain ⟨h', X, G⟩ := f.ex
  exact He.free_ok X G (f.s.d.fact i h)
theorem Fac.int (f : Fac fe fa fn K mg) (i : Nat) {x : Str} {z : Int} (h : fa[i]? = some (.int x z) := by rfl) : ∃ t, mg x = some (.int z t) := by
  obtain ⟨h', X, G⟩ := f.ex
  exact He.int_ok X G (f.s.d.fact i h)
theorem Fac.str (f : Fac fe fa fn K mg) (i : Nat) {x z : Str} (h : fa[i]? = some (.str x z) := by rfl) : ∃ t, mg x = some (.str z t) := by
  obtain ⟨h', X, G⟩ := f.ex
  exact He.str_ok X G (f.s.d.fact i h)
end
/-! ### a head's run, looked at in parts -/
theorem map_two {α β γ : Type} {x : Option α} {f : α → β} {g : α → γ} {b : β} {c : γ} (h1 : x.map f = some b) (h2 : x.map g = some c) : ∃ s, x = some s ∧ f s = b ∧ g s = c := by
  obtain ⟨s, hs, e1⟩ := Option.map_eq_some_iff.mp h1
  obtain ⟨s2, hs2, e2⟩ := Option.map_eq_some_iff.mp h2
  rw [hs] at hs2
  injection hs2 with hs2
  subst hs2
  exact ⟨s, hs, e1, e2⟩
theorem obsE_app {fe1 fe2 : List Fe} {fa1 fa2 : List He.Fa} {fn1 fn2 : List He.DefD} {K : PySem.W.Frag} (h1 : obsE fe1 fa1 fn1 K = valE fn1) (h2 : obsE fe2 fa2 fn2 K = valE fn2) : obsE (fe1 ++ fe2) (fa1 ++ fa2) (fn1 ++ fn2) K = valE (fn1 ++ fn2) := by
  have a1 : (fe1.all fun f => f.ok K) = true := congrArg (fun z : AlE => z.1) h1
  have a2 : (fe2.all fun f => f.ok K) = true := congrArg (fun z : AlE => z.1) h2
  have b1 : ((fa1.all fun f => f.ok K) && fn1.all fun d => d.ok K) = true := congrArg (fun z : AlE => z.2.1) h1
  have b2 : ((fa2.all fun f => f.ok K) && fn2.all fun d => d.ok K) = true := congrArg (fun z : AlE => z.2.1) h2
  have c1 : (fn1.map fun d => He.fnW K d.at_) = fn1.map He.DefD.val := congrArg (fun z : AlE => z.2.2) h1
  have c2 : (fn2.map fun d => He.fnW K d.at_) = fn2.map He.DefD.val := congrArg (fun z : AlE => z.2.2) h2
  rw [Bool.and_eq_true] at b1 b2
  show ((fe1 ++ fe2).all _, ((fa1 ++ fa2).all _ && (fn1 ++ fn2).all _, (fn1 ++ fn2).map _)) = (true, (true, (fn1 ++ fn2).map _))
  rw [List.all_append, List.all_append, List.all_append, List.map_append, List.map_append, a1, a2, b1.1, b1.2, b2.1, b2.2, c1, c2]
  rfl
/-- what a part of the facts tells of the run -/
def RunOb (r : PySem.W.OpenRow) (M n : Nat) (fe : List Fe) (fa : List He.Fa) (fn : List He.DefD) (w : World) : Prop :=
  ∀ os : OsState, (HandSHeadRun.endF (HandSHeadRun.stepQ (HandSHeadRun.denQ HandSHeadRun.tabQ) r.prog w) M r.prog w os).map (fun s => obsEG n fe fa fn (HandSHeadRun.getT s)) = some (valE fn)
theorem RunOb.app {r : PySem.W.OpenRow} {M n : Nat} {fe1 fe2 : List Fe} {fa1 fa2 : List He.Fa} {fn1 fn2 : List He.DefD} {w : World} (h1 : RunOb r M n fe1 fa1 fn1 w) (h2 : RunOb r M n fe2 fa2 fn2 w) : RunOb r M n (fe1 ++ fe2) (fa1 ++ fa2) (fn1 ++ fn2) w := fun os => by
  obtain ⟨s, hs, e1, e2⟩ := map_two (h1 os) (h2 os)
  rw [hs]
  exact congrArg some (obsE_app e1 e2)
end Wk
set_option Elab.async false
set_option linter.all false
set_option maxRecDepth 100000
/-! Wk1: outcomes, frozen parts of heaps, typed data, what stands in the slots. -/
namespace Wk
open PySem PySem.Spec PyProof.Rows L2
/-! ### outcomes -/
inductive Exc where
  | owing | badWeb | parted | badStanding | badHouse | badOrder | badNumber | tooWide | noBridge | noText
  deriving DecidableEq
def Exc.nm : Exc → Str
  | .owing => "OwingError" | .badWeb => "BadWeb" | .parted => "Parted" | .badStanding => "BadStanding" | .badHouse => "BadHouse"
  | .badOrder => "BadOrder" | .badNumber => "BadNumber" | .tooWide => "TooWide" | .noBridge => "NoBridge" | .noText => "NoText"
inductive R (α : Type) where
  | ok (a : α) | exc (c : Exc) | stuck
def R.bind {α β : Type} (m : R α) (f : α → R β) : R β := match m with
  | .ok a => f a
  | .exc c => .exc c
  | .stuck => .stuck
/-- no exception may come out -/
def R.sure {α : Type} : R α → R α
  | .ok a => .ok a
  | _ => .stuck
def R.ofO {α : Type} : Option α → R α
  | some a => .ok a
  | none => .stuck
def R.chk {α : Type} (c : Bool) (a : α) : R α := if c = true then .ok a else .stuck
def PX {α : Type} (A : α → Prop) (B : Exc → Prop) : R α → Prop
  | .ok a => A a
  | .exc c => B c
  | .stuck => False
section
variable {α β : Type} {A A' : α → Prop} {B B' : Exc → Prop}
theorem PX.mono {m : R α} (h : PX A B m) (h1 : ∀ a, A a → A' a) (h2 : ∀ c, B c → B' c) : PX A' B' m := by
  cases m with
  | ok a => exact h1 a h
  | exc c => exact h2 c h
  | stuck => exact h
theorem PX.bind {A : β → Prop} {m : R α} {f : α → R β} (h : PX A B (m.bind f)) : PX (fun x => PX A B (f x)) B m := by
  cases m with
  | ok a => exact h
  | exc c => exact h
  | stuck => exact h
theorem PX.ofO {o : Option α} (h : PX A B (R.ofO o)) : ∃ a, o = some a ∧ A a := by
  cases o with
  | some a => exact ⟨a, rfl, h⟩
  | none => exact h.elim
theorem PX.chk {c : Bool} {a : α} (h : PX A B (R.chk c a)) : c = true ∧ A a := by
  cases c with
  | true => exact ⟨rfl, h⟩
  | false => exact (show False from h).elim
theorem PX.sure {m : R α} (h : PX A B m.sure) : PX A (fun _ => False) m := by
  cases m with
  | ok a => exact h
  | exc c => exact (show False from h).elim
  | stuck => exact (show False from h).elim
end
/-! ### heaps -/
/-- the heap without what stands at ps -/
def Fz (H : Hp) (ps : List Addr) : Hp := fun b => if b ∈ ps then none else H b
section
variable {H H' : Hp} {ps ps' : List Addr} {p b : Addr} {o : HO}
theorem Fz.at (h : b ∉ ps) : Fz H ps b = H b := by unfold Fz; rw [if_neg h]
theorem Fz.some_iff : Fz H ps b = some o ↔ b ∉ ps ∧ H b = some o := by
  unfold Fz
  by_cases h : b ∈ ps
  · rw [if_pos h]; simp [h]
  · rw [if_neg h]; simp [h]
theorem Fz.out : Same (Fz H ps) H := fun b o h => (Fz.some_iff.mp h).2
theorem Fz.go (h : ∀ b o, b ∉ ps → H b = some o → b ∉ ps' ∧ H' b = some o) : Same (Fz H ps) (Fz H' ps') := fun b o q =>
  let ⟨q1, q2⟩ := Fz.some_iff.mp q
  let ⟨q3, q4⟩ := h b o q1 q2
  Fz.some_iff.mpr ⟨q3, q4⟩
theorem Fz.mono (s : Same H H') : Same (Fz H ps) (Fz H' ps) := Fz.go fun b o h q => ⟨h, s b o q⟩
theorem Fz.sub (s : Same H H') (h : ∀ a ∈ ps', a ∈ ps) : Same (Fz H ps) (Fz H' ps') := Fz.go fun b o q r => ⟨fun z => q (h b z), s b o r⟩
theorem Fz.new (s : Same H H') (h : ∀ a ∈ ps', a ∈ ps ∨ H a = none) : Same (Fz H ps) (Fz H' ps') := Fz.go fun b o q r => ⟨fun z => (h b z).elim q fun n => (by rw [n] at r; cases r), s b o r⟩
theorem Fz.mut (hp : p ∈ ps) : Same (Fz H ps) (Fz (upd H p o) ps) := Fz.go fun b o q r => ⟨q, (upd_ne (fun e => q (by rw [e]; exact hp))).trans r⟩
theorem Fz.nil : Fz H [] = H := by
  funext b
  unfold Fz
  simp
theorem same_new (h : H p = none) : Same H (upd H p o) := fun b x e => by
  rw [upd_ne (ne_of_none e h)]
  exact e
theorem same_mut {H0 : Hp} (e : Same H0 H) (h : H0 p = none) : Same H0 (upd H p o) := fun b x q => by
  rw [upd_ne (ne_of_none q h)]
  exact e b x q
end
theorem sqL_mono {K : PySem.W.Frag} {F F' : Hp} {a : Addr} {xs : List V} (e : Same F F') (h : SqL K F a xs) : SqL K F' a xs := e.seq h
theorem sqT_mono {K : PySem.W.Frag} {F F' : Hp} {a : Addr} {xs : List V} (e : Same F F') (h : SqT K F a xs) : SqT K F' a xs := by
  rcases h with (h | ⟨o, h⟩) | h
  · exact .inl (.inl (e _ _ h))
  · exact .inl (.inr ⟨o, e _ _ h⟩)
  · exact .inr h
/-! ### typed data -/
class PyT (α : Type) where
  rep : PySem.W.Frag → Hp → V → α → Prop
  mono : ∀ {K : PySem.W.Frag} {F F' : Hp} {v : V} {x : α}, Same F F' → rep K F v x → rep K F' v x
abbrev rep {α : Type} [PyT α] (K : PySem.W.Frag) (F : Hp) (v : V) (x : α) : Prop := PyT.rep K F v x
def RepL {α : Type} [PyT α] (K : PySem.W.Frag) (F : Hp) : List V → List α → Prop
  | [], [] => True
  | v :: vs, x :: xs => rep K F v x ∧ RepL K F vs xs
  | _, _ => False
section
variable {α : Type} [PyT α] {K : PySem.W.Frag} {F F' : Hp}
theorem RepL.mono (e : Same F F') : ∀ {vs : List V} {xs : List α}, RepL K F vs xs → RepL K F' vs xs
  | [], [], _ => trivial
  | v :: vs, x :: xs, h => ⟨PyT.mono e h.1, RepL.mono e h.2⟩
  | [], _ :: _, h => h.elim
  | _ :: _, [], h => h.elim
theorem RepL.len : ∀ {vs : List V} {xs : List α}, RepL K F vs xs → vs.length = xs.length
  | [], [], _ => rfl
  | v :: vs, x :: xs, h => congrArg Nat.succ (RepL.len h.2)
  | [], _ :: _, h => h.elim
  | _ :: _, [], h => h.elim
theorem RepL.get : ∀ {vs : List V} {xs : List α} {i : Nat} {v : V}, RepL K F vs xs → vs[i]? = some v → ∃ x, xs[i]? = some x ∧ rep K F v x
  | v :: vs, x :: xs, 0, w, h, e => by
    have e2 : v = w := Option.some.inj e
    subst e2
    exact ⟨x, rfl, h.1⟩
  | v :: vs, x :: xs, i + 1, w, h, e => RepL.get (i := i) h.2 e
  | [], [], i, w, h, e => by simp at e
  | [], _ :: _, _, _, h, _ => h.elim
  | _ :: _, [], _, _, h, _ => h.elim
theorem RepL.get' : ∀ {vs : List V} {xs : List α} {i : Nat} {x : α}, RepL K F vs xs → xs[i]? = some x → ∃ v, vs[i]? = some v ∧ rep K F v x
  | v :: vs, x :: xs, 0, w, h, e => by
    have e2 : x = w := Option.some.inj e
    subst e2
    exact ⟨v, rfl, h.1⟩
  | v :: vs, x :: xs, i + 1, w, h, e => RepL.get' (i := i) h.2 e
  | [], [], i, w, h, e => by simp at e
  | [], _ :: _, _, _, h, _ => h.elim
  | _ :: _, [], _, _, h, _ => h.elim
theorem RepL.app : ∀ {vs ws : List V} {xs ys : List α}, RepL K F vs xs → RepL K F ws ys → RepL K F (vs ++ ws) (xs ++ ys)
  | [], _, [], _, _, h2 => h2
  | v :: vs, _, x :: xs, _, h, h2 => ⟨h.1, RepL.app h.2 h2⟩
  | [], _, _ :: _, _, h, _ => h.elim
  | _ :: _, _, [], _, h, _ => h.elim
theorem RepL.one {v : V} {x : α} (h : rep K F v x) : RepL K F [v] [x] := ⟨h, trivial⟩
theorem RepL.set : ∀ {vs : List V} {xs : List α} {i : Nat} {v : V} {x : α}, RepL K F vs xs → rep K F v x → RepL K F (vs.set i v) (xs.set i x)
  | [], [], _, _, _, _, _ => trivial
  | v :: vs, x :: xs, 0, _, _, h, h2 => ⟨h2, h.2⟩
  | v :: vs, x :: xs, i + 1, _, _, h, h2 => ⟨h.1, RepL.set h.2 h2⟩
  | [], _ :: _, _, _, _, h, _ => h.elim
  | _ :: _, [], _, _, _, h, _ => h.elim
theorem RepL.take : ∀ {vs : List V} {xs : List α} (n : Nat), RepL K F vs xs → RepL K F (vs.take n) (xs.take n)
  | _, _, 0, _ => by simp [RepL]
  | [], [], _ + 1, _ => trivial
  | v :: vs, x :: xs, n + 1, h => ⟨h.1, RepL.take n h.2⟩
  | [], _ :: _, _ + 1, h => h.elim
  | _ :: _, [], _ + 1, h => h.elim
theorem RepL.drop : ∀ {vs : List V} {xs : List α} (n : Nat), RepL K F vs xs → RepL K F (vs.drop n) (xs.drop n)
  | _, _, 0, h => h
  | [], [], _ + 1, _ => trivial
  | v :: vs, x :: xs, n + 1, h => RepL.drop n h.2
  | [], _ :: _, _ + 1, h => h.elim
  | _ :: _, [], _ + 1, h => h.elim
theorem RepL.erase : ∀ {vs : List V} {xs : List α} (n : Nat), RepL K F vs xs → RepL K F (vs.eraseIdx n) (xs.eraseIdx n)
  | [], [], _, _ => trivial
  | v :: vs, x :: xs, 0, h => h.2
  | v :: vs, x :: xs, n + 1, h => ⟨h.1, RepL.erase n h.2⟩
  | [], _ :: _, _, h => h.elim
  | _ :: _, [], _, h => h.elim
theorem RepL.dropLast {vs : List V} {xs : List α} (h : RepL K F vs xs) : RepL K F vs.dropLast xs.dropLast := by
  rw [List.dropLast_eq_take, List.dropLast_eq_take, h.len]
  exact h.take _
theorem RepL.replicate {v : V} {x : α} (h : rep K F v x) : ∀ n : Nat, RepL K F (List.replicate n v) (List.replicate n x)
  | 0 => trivial
  | n + 1 => ⟨h, RepL.replicate h n⟩
theorem RepL.reps {vs : List V} {xs : List α} (h : RepL K F vs xs) : ∀ n : Nat, RepL K F (List.replicate n vs).flatten (List.replicate n xs).flatten
  | 0 => trivial
  | n + 1 => by
    rw [List.replicate_succ, List.replicate_succ, List.flatten_cons, List.flatten_cons]
    exact h.app (RepL.reps h n)
end
/-- data that stand in no heap -/
class PyF (α : Type) extends PyT α where
  flat : ∀ {K : PySem.W.Frag} {F F' : Hp} {v : V} {x : α}, rep K F v x → rep K F' v x
theorem RepL.flat {α : Type} [PyF α] {K : PySem.W.Frag} {F F' : Hp} : ∀ {vs : List V} {xs : List α}, RepL K F vs xs → RepL K F' vs xs
  | [], [], _ => trivial
  | v :: vs, x :: xs, h => ⟨PyF.flat h.1, RepL.flat h.2⟩
  | [], _ :: _, h => h.elim
  | _ :: _, [], h => h.elim
instance : PyF Int where
  rep := fun _ _ v x => v = .int x
  mono := fun _ h => h
  flat := fun h => h
instance : PyF Bool where
  rep := fun _ _ v x => v = .bl x
  mono := fun _ h => h
  flat := fun h => h
instance : PyF Str where
  rep := fun _ _ v x => v = .str x ∧ PyData.strOk x = true
  mono := fun _ h => h
  flat := fun h => h
instance : PyF Unit where
  rep := fun _ _ v _ => v = .non
  mono := fun _ h => h
  flat := fun h => h
instance {α : Type} [PyT α] : PyT (List α) where
  rep := fun K F v xs => ∃ a vs, v = .ref a ∧ F a = some (.lst vs) ∧ RepL K F vs xs
  mono := fun e ⟨a, vs, h1, h2, h3⟩ => ⟨a, vs, h1, e _ _ h2, h3.mono e⟩
/-- the script: a list that the law is handed -/
structure Scr where
  l : List Int
instance : PyT Scr where
  rep := fun K F v xs => ∃ a, v = .ref a ∧ SqL K F a (xs.l.map V.int)
  mono := fun e ⟨a, h1, h2⟩ => ⟨a, h1, sqL_mono e h2⟩
/-- an object without own variables -/
def NoD (K : PySem.W.Frag) (F : Hp) (a : Addr) : Prop := (∃ o u, F a = some (.frz o u) ∧ o.cls = .type "tuple" ∧ o.dict = none) ∨ ∃ o, K.lookup a = some o ∧ o.cls = .type "tuple" ∧ o.dict = none
theorem NoD.mono {K : PySem.W.Frag} {F F' : Hp} {a : Addr} (e : Same F F') : NoD K F a → NoD K F' a
  | .inl ⟨o, u, h, q⟩ => .inl ⟨o, u, e _ _ h, q⟩
  | .inr h => .inr h
/-- a tuple of any length, whose methods may be called -/
structure Tu (α : Type) where
  l : List α
  deriving DecidableEq
instance {α : Type} [PyT α] : PyT (Tu α) where
  rep := fun K F v xs => ∃ a vs, v = .ref a ∧ (SqT K F a vs ∧ NoD K F a) ∧ RepL K F vs xs.l
  mono := fun e ⟨a, vs, h1, h2, h3⟩ => ⟨a, vs, h1, ⟨sqT_mono e h2.1, h2.2.mono e⟩, h3.mono e⟩
/-- a tuple of any length -/
structure Tv (α : Type) where
  l : List α
  deriving DecidableEq
instance {α : Type} [PyT α] : PyT (Tv α) where
  rep := fun K F v xs => ∃ a vs, v = .ref a ∧ F a = some (.tup vs) ∧ RepL K F vs xs.l
  mono := fun e ⟨a, vs, h1, h2, h3⟩ => ⟨a, vs, h1, e _ _ h2, h3.mono e⟩
/-- what a dict with tuples of ints as keys holds -/
def RepD {β : Type} [PyT β] (K : PySem.W.Frag) (F : Hp) : List (List Key × V) → List (List Int × β) → Prop
  | [], [] => True
  | p :: ws, q :: kvs => p.1 = q.1.map Sum.inl ∧ rep K F p.2 q.2 ∧ RepD K F ws kvs
  | _, _ => False
theorem RepD.mono {β : Type} [PyT β] {K : PySem.W.Frag} {F F' : Hp} (e : Same F F') : ∀ {ws : List (List Key × V)} {kvs : List (List Int × β)}, RepD K F ws kvs → RepD K F' ws kvs
  | [], [], _ => trivial
  | p :: ws, q :: kvs, h => ⟨h.1, PyT.mono e h.2.1, RepD.mono e h.2.2⟩
  | [], _ :: _, h => h.elim
  | _ :: _, [], h => h.elim
/-- a dict with ints as keys -/
def RepDi {β : Type} [PyT β] (K : PySem.W.Frag) (F : Hp) : List (Key × V) → List (Int × β) → Prop
  | [], [] => True
  | p :: ws, q :: kvs => p.1 = Sum.inl q.1 ∧ rep K F p.2 q.2 ∧ RepDi K F ws kvs
  | _, _ => False
theorem RepDi.mono {β : Type} [PyT β] {K : PySem.W.Frag} {F F' : Hp} (e : Same F F') : ∀ {ws : List (Key × V)} {kvs : List (Int × β)}, RepDi K F ws kvs → RepDi K F' ws kvs
  | [], [], _ => trivial
  | p :: ws, q :: kvs, h => ⟨h.1, PyT.mono e h.2.1, RepDi.mono e h.2.2⟩
  | [], _ :: _, h => h.elim
  | _ :: _, [], h => h.elim
/-- tuples of one, three, four items (of two: a pair) -/
structure T1 (α : Type) where
  a : α
  deriving DecidableEq
structure T3 (α β γ : Type) where
  a : α
  b : β
  c : γ
  deriving DecidableEq
structure T4 (α β γ δ : Type) where
  a : α
  b : β
  c : γ
  d : δ
  deriving DecidableEq
section
variable {α β γ δ : Type} [PyT α] [PyT β] [PyT γ] [PyT δ]
instance : PyT (T1 α) where
  rep := fun K F v x => ∃ p w, v = .ref p ∧ SqT K F p [w] ∧ rep K F w x.a
  mono := fun e ⟨a, w, h1, h2, h3⟩ => ⟨a, w, h1, sqT_mono e h2, PyT.mono e h3⟩
instance : PyT (α × β) where
  rep := fun K F v x => ∃ p w u, v = .ref p ∧ SqT K F p [w, u] ∧ rep K F w x.1 ∧ rep K F u x.2
  mono := fun e ⟨a, w, u, h1, h2, h3, h4⟩ => ⟨a, w, u, h1, sqT_mono e h2, PyT.mono e h3, PyT.mono e h4⟩
instance : PyT (T3 α β γ) where
  rep := fun K F v x => ∃ p w u t, v = .ref p ∧ SqT K F p [w, u, t] ∧ rep K F w x.a ∧ rep K F u x.b ∧ rep K F t x.c
  mono := fun e ⟨a, w, u, t, h1, h2, h3, h4, h5⟩ => ⟨a, w, u, t, h1, sqT_mono e h2, PyT.mono e h3, PyT.mono e h4, PyT.mono e h5⟩
instance : PyT (T4 α β γ δ) where
  rep := fun K F v x => ∃ p w u t s, v = .ref p ∧ SqT K F p [w, u, t, s] ∧ rep K F w x.a ∧ rep K F u x.b ∧ rep K F t x.c ∧ rep K F s x.d
  mono := fun e ⟨a, w, u, t, s, h1, h2, h3, h4, h5, h6⟩ => ⟨a, w, u, t, s, h1, sqT_mono e h2, PyT.mono e h3, PyT.mono e h4, PyT.mono e h5, PyT.mono e h6⟩
/-- one or the other -/
instance : PyT (α ⊕ β) where
  rep := fun K F v x => match x with
    | .inl a => rep K F v a
    | .inr b => rep K F v b
  mono := fun {K F F' v x} e h => by
    cases x with
    | inl a => exact PyT.mono (α := α) e h
    | inr b => exact PyT.mono (α := β) e h
/-- nothing, or a thing -/
instance : PyT (Option α) where
  rep := fun K F v x => match x with
    | none => v = .non
    | some a => rep K F v a
  mono := fun {K F F' v x} e h => by
    cases x with
    | none => exact h
    | some a => exact PyT.mono (α := α) e h
end
/-! ### lists whose items are no more known -/
inductive Jc where
  | li | an
  | t2 (a b : Jc) | t3 (a b c : Jc) | t4 (a b c d : Jc)
  | ls (n : Nat) (c : Jc)
def Jc.fl : Jc → Bool
  | .li => true
  | .an => true
  | .t2 a b => a.fl && b.fl
  | .t3 a b c => a.fl && (b.fl && c.fl)
  | .t4 a b c d => a.fl && (b.fl && (c.fl && d.fl))
  | .ls _ _ => false
def JV (K : PySem.W.Frag) (H : Hp) (pi po : List Addr) : Jc → V → Prop
  | .li, v => ∃ a, v = .ref a ∧ a ∈ pi
  | .an, _ => True
  | .t2 a b, v => ∃ p w1 w2, v = .ref p ∧ SqT K H p [w1, w2] ∧ JV K H pi po a w1 ∧ JV K H pi po b w2
  | .t3 a b c, v => ∃ p w1 w2 w3, v = .ref p ∧ SqT K H p [w1, w2, w3] ∧ JV K H pi po a w1 ∧ JV K H pi po b w2 ∧ JV K H pi po c w3
  | .t4 a b c d, v => ∃ p w1 w2 w3 w4, v = .ref p ∧ SqT K H p [w1, w2, w3, w4] ∧ JV K H pi po a w1 ∧ JV K H pi po b w2 ∧ JV K H pi po c w3 ∧ JV K H pi po d w4
  | .ls n c, v => ∃ p vs, v = .ref p ∧ p ∈ po ∧ H p = some (.lst vs) ∧ vs.length = n ∧ ∀ w ∈ vs, JV K H pi po c w
theorem JV.mono {K : PySem.W.Frag} {H H' : Hp} {pi pi' po : List Addr} (h1 : ∀ a ∈ pi, a ∈ pi') (h2 : ∀ p xs, SqT K H p xs → SqT K H' p xs) (h3 : ∀ p ∈ po, ∀ vs, H p = some (.lst vs) → H' p = some (.lst vs)) : ∀ {c : Jc} {v : V}, JV K H pi po c v → JV K H' pi' po c v
  | .li, v, ⟨a, e, m⟩ => ⟨a, e, h1 a m⟩
  | .an, _, _ => trivial
  | .t2 a b, v, ⟨p, w1, w2, e, q, j1, j2⟩ => ⟨p, w1, w2, e, h2 _ _ q, JV.mono h1 h2 h3 j1, JV.mono h1 h2 h3 j2⟩
  | .t3 a b c, v, ⟨p, w1, w2, w3, e, q, j1, j2, j3⟩ => ⟨p, w1, w2, w3, e, h2 _ _ q, JV.mono h1 h2 h3 j1, JV.mono h1 h2 h3 j2, JV.mono h1 h2 h3 j3⟩
  | .t4 a b c d, v, ⟨p, w1, w2, w3, w4, e, q, j1, j2, j3, j4⟩ => ⟨p, w1, w2, w3, w4, e, h2 _ _ q, JV.mono h1 h2 h3 j1, JV.mono h1 h2 h3 j2, JV.mono h1 h2 h3 j3, JV.mono h1 h2 h3 j4⟩
  | .ls n c, v, ⟨p, vs, e, m, q, l, j⟩ => ⟨p, vs, e, m, h3 p m vs q, l, fun w hw => JV.mono h1 h2 h3 (j w hw)⟩
theorem JV.flat {K : PySem.W.Frag} {H : Hp} {pi po : List Addr} : ∀ {c : Jc} {v : V}, c.fl = true → JV K H pi po c v → JV K H pi [] c v
  | .li, v, _, h => h
  | .an, _, _, _ => trivial
  | .t2 a b, v, f, ⟨p, w1, w2, e, q, j1, j2⟩ => by
    have f := Bool.and_eq_true_iff.mp (show (a.fl && b.fl) = true from f)
    exact ⟨p, w1, w2, e, q, j1.flat f.1, j2.flat f.2⟩
  | .t3 a b c, v, f, ⟨p, w1, w2, w3, e, q, j1, j2, j3⟩ => by
    have f := Bool.and_eq_true_iff.mp (show (a.fl && (b.fl && c.fl)) = true from f)
    have g := Bool.and_eq_true_iff.mp f.2
    exact ⟨p, w1, w2, w3, e, q, j1.flat f.1, j2.flat g.1, j3.flat g.2⟩
  | .t4 a b c d, v, f, ⟨p, w1, w2, w3, w4, e, q, j1, j2, j3, j4⟩ => by
    have f := Bool.and_eq_true_iff.mp (show (a.fl && (b.fl && (c.fl && d.fl))) = true from f)
    have g := Bool.and_eq_true_iff.mp f.2
    have k := Bool.and_eq_true_iff.mp g.2
    exact ⟨p, w1, w2, w3, w4, e, q, j1.flat f.1, j2.flat g.1, j3.flat k.1, j4.flat k.2⟩
  | .ls n c, v, f, _ => by cases f
/-- neither a tuple nor a thing known to the object stands there -/
def NT (H : Hp) (p : Addr) : Prop := (∀ xs, H p ≠ some (.tup xs)) ∧ ∀ o u, H p ≠ some (.frz o u)
theorem NT.lst {H : Hp} {p : Addr} {vs : List V} (h : H p = some (.lst vs)) : NT H p := ⟨fun xs r => (by rw [h] at r; cases r), fun o u r => by rw [h] at r; cases r⟩
theorem NT.dT {H : Hp} {p : Addr} {ws : List (List Key × V)} (h : H p = some (.dT ws)) : NT H p := ⟨fun xs r => (by rw [h] at r; cases r), fun o u r => by rw [h] at r; cases r⟩
theorem NT.dK {H : Hp} {p : Addr} {ws : List (Key × V)} (h : H p = some (.dK ws)) : NT H p := ⟨fun xs r => (by rw [h] at r; cases r), fun o u r => by rw [h] at r; cases r⟩
theorem NT.rd {H : Hp} {p : Addr} (h : NT H p) (xs : List V) : ¬ Rd H p (.tup xs) := fun r => r.elim (h.1 xs) fun ⟨o, r⟩ => h.2 o _ r
theorem NT.sq {K : PySem.W.Frag} {H : Hp} {p : Addr} {u : HO} (h : NT H p) {b : Addr} {xs : List V} (q : SqT K H b xs) : SqT K (upd H p u) b xs := by
  rcases q with q | q
  · by_cases e : b = p
    · rw [e] at q
      exact (h.rd xs q).elim
    · rcases q with q | ⟨o, q⟩
      · exact .inl (.inl ((upd_ne e).trans q))
      · exact .inl (.inr ⟨o, (upd_ne e).trans q⟩)
  · exact .inr q
/-- the heap with no lists but those at ps -/
def Onl (H : Hp) (ps : List Addr) : Hp := fun b => match H b with
  | some (.tup xs) => some (.tup xs)
  | some (.frz o u) => some (.frz o u)
  | o => if b ∈ ps then o else none
theorem Onl.cases {H : Hp} {ps : List Addr} {b : Addr} {o : HO} : Onl H ps b = some o ↔ H b = some o ∧ (¬ NT H b ∨ b ∈ ps) := by
  unfold Onl
  split
  · rename_i xs e
    rw [e]
    exact ⟨fun h => ⟨h, .inl fun n => n.1 _ e⟩, fun h => h.1⟩
  · rename_i u xs e
    rw [e]
    exact ⟨fun h => ⟨h, .inl fun n => n.2 _ _ e⟩, fun h => h.1⟩
  · rename_i h1 h2
    constructor
    · intro h
      split at h
      · rename_i m
        exact ⟨h, .inr m⟩
      · cases h
    · rintro ⟨h, h3⟩
      rcases h3 with h3 | h3
      · exact (h3 ⟨fun xs e => h1 xs e, fun o u e => h2 o u e⟩).elim
      · rw [if_pos h3]; exact h
theorem Onl.out {H : Hp} {ps : List Addr} : Same (Onl H ps) H := fun b o h => (Onl.cases.mp h).1
theorem NT.back {H H' : Hp} {b : Addr} {o : HO} (h : H b = some o) (e : Same H H') (n : NT H' b) : NT H b := ⟨fun xs k => n.1 xs (e _ _ k), fun o u k => n.2 o u (e _ _ k)⟩
theorem NT.go {H H' : Hp} {b : Addr} {o : HO} (h : H b = some o) (e : Same H H') (n : NT H b) : NT H' b := ⟨fun xs k => n.1 xs (by rw [← k, h]; exact (e _ _ h).symm), fun w u k => n.2 w u (by rw [← k, h]; exact (e _ _ h).symm)⟩
theorem Onl.grow {H H' : Hp} {ps : List Addr} (e : Same H H') : Same (Onl H ps) (Onl H' ps) := fun b o h => by
  obtain ⟨h1, h2⟩ := Onl.cases.mp h
  exact Onl.cases.mpr ⟨e _ _ h1, h2.imp (fun k n => k (n.back h1 e)) id⟩
theorem Onl.more {H : Hp} {ps ps' : List Addr} (h : ∀ a ∈ ps, a ∈ ps') : Same (Onl H ps) (Onl H ps') := fun b o q => by
  obtain ⟨h1, h2⟩ := Onl.cases.mp q
  exact Onl.cases.mpr ⟨h1, h2.imp id (h b)⟩
theorem Onl.upd {H : Hp} {ps : List Addr} {p : Addr} {u : HO} (np : p ∉ ps) (nt : NT H p) : Same (Onl H ps) (Onl (L2.upd H p u) ps) := fun b o h => by
  obtain ⟨h1, h2⟩ := Onl.cases.mp h
  have e : b ≠ p := fun z => by
    rw [z] at h2
    exact h2.elim (fun k => k nt) np
  refine Onl.cases.mpr ⟨(upd_ne e).trans h1, h2.imp (fun k n => k ?_) id⟩
  exact ⟨fun xs z => n.1 xs ((upd_ne e).trans z), fun w u z => n.2 w u ((upd_ne e).trans z)⟩
/-- a list of ints that isn't empty -/
def JI (n : Nat) (H : Hp) (a : Addr) : Prop := ∃ vs, H a = some (.lst vs) ∧ vs ≠ [] ∧ vs.length ≤ n ∧ ∀ w ∈ vs, ∃ i, w = V.int i
/-! ### what stands in the slots -/
inductive Sl : Type 1 where
  | un
  /-- a value that isn't changed -/
  | fr {α : Type} [PyT α] (x : α)
  /-- a list of the def's own, of these items -/
  | ow {α : Type} [PyT α] (xs : List α)
  /-- a value that isn't changed as long as none of the def's own lists is -/
  | tm {α : Type} [PyT α] (x : α)
  /-- a dict of the def's own, its keys tuples of ints -/
  | dc {β : Type} [PyT β] (kvs : List (List Int × β))
  /-- .. its keys ints -/
  | di {β : Type} [PyT β] (kvs : List (Int × β))
  /-- a table of the def's own: its rows' addresses, their items -/
  | ot {α : Type} [PyT α] (rs : List Addr) (xss : List (List α))
  /-- a value that was handed in (in the heap G) and may lean on what is to be left alone -/
  | pm {α : Type} [PyT α] (G : Hp) (x : α)
  /-- a value whose lists, all at ps, are the def's own -/
  | nw {α : Type} [PyT α] (ps : List Addr) (x : α)
  /-- lists of ints at pi, other lists at po, all the def's own; what they hold is no more known -/
  | jk (n : Nat) (pi po : List Addr) (c : Jc)
  /-- a value that leads to such lists of ints -/
  | jr (pi : List Addr) (c : Jc)
def Rows (K : PySem.W.Frag) (F H H0 : Hp) {α : Type} [PyT α] : List Addr → List (List α) → Prop
  | [], [] => True
  | r :: rs, xs :: xss => (∃ vs, H r = some (.lst vs) ∧ RepL K F vs xs) ∧ H0 r = none ∧ Rows K F H H0 rs xss
  | _, _ => False
section
variable {K : PySem.W.Frag} {F F' H H' H0 H1 : Hp} {α : Type} [PyT α] {p : Addr}
theorem Rows.grow (e : Same F F') (e2 : Same H H') : ∀ {rs : List Addr} {xss : List (List α)}, Rows K F H H0 rs xss → Rows K F' H' H0 rs xss
  | [], [], _ => trivial
  | r :: rs, xs :: xss, ⟨⟨vs, h1, h2⟩, h3, h4⟩ => ⟨⟨vs, e2 _ _ h1, h2.mono e⟩, h3, Rows.grow e e2 h4⟩
  | [], _ :: _, h => h.elim
  | _ :: _, [], h => h.elim
theorem Rows.base : ∀ {rs : List Addr} {xss : List (List α)}, Rows K F H H0 rs xss → (∀ r ∈ rs, H1 r = none) → Rows K F H H1 rs xss
  | [], [], _, _ => trivial
  | r :: rs, xs :: xss, ⟨h1, h3, h4⟩, h => ⟨h1, h r List.mem_cons_self, Rows.base h4 fun q hq => h q (List.mem_cons_of_mem _ hq)⟩
  | [], _ :: _, h, _ => h.elim
  | _ :: _, [], h, _ => h.elim
theorem Rows.upd {o : HO} (e : Same F F') : ∀ {rs : List Addr} {xss : List (List α)}, Rows K F H H0 rs xss → p ∉ rs → Rows K F' (L2.upd H p o) H0 rs xss
  | [], [], _, _ => trivial
  | r :: rs, xs :: xss, ⟨⟨vs, h1, h2⟩, h3, h4⟩, h => ⟨⟨vs, (upd_ne (fun z => h (by rw [← z]; exact List.mem_cons_self))).trans h1, h2.mono e⟩, h3, Rows.upd e h4 fun z => h (List.mem_cons_of_mem _ z)⟩
  | [], _ :: _, h, _ => h.elim
  | _ :: _, [], h, _ => h.elim
theorem Rows.mem : ∀ {rs : List Addr} {xss : List (List α)}, Rows K F H H0 rs xss → p ∈ rs → H p ≠ none ∧ H0 p = none
  | r :: rs, xs :: xss, ⟨⟨vs, h1, h2⟩, h3, h4⟩, h => by
    rcases List.mem_cons.mp h with e | h
    · subst e
      exact ⟨(by rw [h1]; intro z; cases z), h3⟩
    · exact Rows.mem h4 h
  | [], _, _, h => by cases h
  | _ :: _, [], h, _ => h.elim
theorem Rows.lst : ∀ {rs : List Addr} {xss : List (List α)}, Rows K F H H0 rs xss → p ∈ rs → ∃ vs, H p = some (.lst vs)
  | r :: rs, xs :: xss, ⟨⟨vs, h1, h2⟩, h3, h4⟩, h => by
    rcases List.mem_cons.mp h with e | h
    · subst e
      exact ⟨vs, h1⟩
    · exact Rows.lst h4 h
  | [], _, _, h => by cases h
  | _ :: _, [], h, _ => h.elim
theorem Rows.len : ∀ {rs : List Addr} {xss : List (List α)}, Rows K F H H0 rs xss → rs.length = xss.length
  | [], [], _ => rfl
  | r :: rs, xs :: xss, ⟨_, _, h4⟩ => congrArg Nat.succ (Rows.len h4)
  | [], _ :: _, h => h.elim
  | _ :: _, [], h => h.elim
/-- rows no more changed -/
theorem Rows.rep (G : Hp) : ∀ {rs : List Addr} {xss : List (List α)}, Rows K F H H0 rs xss → Same F G → (∀ r ∈ rs, ∀ o, H r = some o → G r = some o) → RepL K G (rs.map V.ref) xss
  | [], [], _, _, _ => trivial
  | r :: rs, xs :: xss, ⟨⟨vs, h1, h2⟩, h3, h4⟩, e, hg => ⟨⟨r, vs, rfl, hg r List.mem_cons_self _ h1, h2.mono e⟩, Rows.rep G h4 e fun q hq => hg q (List.mem_cons_of_mem _ hq)⟩
  | [], _ :: _, h, _, _ => h.elim
  | _ :: _, [], h, _, _ => h.elim
/-- one row -/
theorem Rows.get : ∀ {rs : List Addr} {xss : List (List α)} {i : Nat} {xs : List α}, Rows K F H H0 rs xss → xss[i]? = some xs → ∃ r vs, rs[i]? = some r ∧ H r = some (.lst vs) ∧ H0 r = none ∧ RepL K F vs xs
  | r :: rs, xs :: xss, 0, ys, ⟨⟨vs, h1, h2⟩, h3, h4⟩, e => by
    cases e
    exact ⟨r, vs, rfl, h1, h3, h2⟩
  | r :: rs, xs :: xss, i + 1, ys, ⟨_, _, h4⟩, e => Rows.get (i := i) h4 e
  | [], [], _, _, _, e => by simp at e
  | [], _ :: _, _, _, h, _ => h.elim
  | _ :: _, [], _, _, h, _ => h.elim
/-- .. changed -/
theorem Rows.set {vs' : List V} {xs' : List α} (e : Same F F') (hr : RepL K F' vs' xs') : ∀ {rs : List Addr} {xss : List (List α)} {i : Nat}, Rows K F H H0 rs xss → rs.Nodup → rs[i]? = some p → Rows K F' (L2.upd H p (.lst vs')) H0 rs (xss.set i xs')
  | r :: rs, xs :: xss, 0, ⟨_, h3, h4⟩, nd, hi => by
    cases hi
    exact ⟨⟨vs', upd_same, hr⟩, h3, h4.upd e (List.nodup_cons.mp nd).1⟩
  | r :: rs, xs :: xss, i + 1, ⟨⟨vs, h1, h2⟩, h3, h4⟩, nd, hi => by
    have hm : p ∈ rs := List.mem_of_getElem? (i := i) hi
    have ne : r ≠ p := fun z => (List.nodup_cons.mp nd).1 (by rw [z]; exact hm)
    exact ⟨⟨vs, (upd_ne ne).trans h1, h2.mono e⟩, h3, Rows.set (i := i) e hr h4 (List.nodup_cons.mp nd).2 hi⟩
  | [], _, _, _, _, hi => by simp at hi
  | _ :: _, [], _, h, _, _ => h.elim
theorem Rows.app : ∀ {rs : List Addr} {xss : List (List α)} {r : Addr} {vs : List V} {xs : List α}, Rows K F H H0 rs xss → H r = some (.lst vs) → H0 r = none → RepL K F vs xs → Rows K F H H0 (rs ++ [r]) (xss ++ [xs])
  | [], [], r, vs, xs, _, h1, h2, h3 => ⟨⟨vs, h1, h3⟩, h2, trivial⟩
  | r :: rs, xs :: xss, _, _, _, ⟨h1, h3, h4⟩, a, b, c => ⟨h1, h3, Rows.app h4 a b c⟩
  | [], _ :: _, _, _, _, h, _, _, _ => h.elim
  | _ :: _, [], _, _, _, h, _, _, _ => h.elim
end
def SlOk (K : PySem.W.Frag) (F H H0 : Hp) : Sl → Option V → Prop
  | .un, _ => True
  | @Sl.fr α i x, o => ∃ v, o = some v ∧ @PyT.rep α i K F v x
  | @Sl.ow α i xs, o => ∃ p vs, o = some (.ref p) ∧ H p = some (.lst vs) ∧ H0 p = none ∧ @RepL α i K F vs xs
  | @Sl.tm α i x, o => ∃ v, o = some v ∧ @PyT.rep α i K H v x
  | @Sl.ot α i rs xss, o => ∃ p rs', o = some (.ref p) ∧ rs'.Perm rs ∧ H p = some (.lst (rs'.map V.ref)) ∧ H0 p = none ∧ @Rows K F H H0 α i rs' xss
  | @Sl.dc β i kvs, o => ∃ p ws, o = some (.ref p) ∧ H p = some (.dT ws) ∧ H0 p = none ∧ @RepD β i K F ws kvs
  | @Sl.di β i kvs, o => ∃ p ws, o = some (.ref p) ∧ H p = some (.dK ws) ∧ H0 p = none ∧ @RepDi β i K F ws kvs
  | @Sl.pm α i G x, o => ∃ v, o = some v ∧ @PyT.rep α i K G v x ∧ Same G H0
  | @Sl.nw α i ps x, o => ∃ v, o = some v ∧ @PyT.rep α i K (Onl H ps) v x ∧ ∀ p ∈ ps, (∃ vs, H p = some (.lst vs)) ∧ H0 p = none
  | .jk n pi po c, o => ∃ v, o = some v ∧ JV K H pi po c v ∧ (∀ a ∈ pi, JI n H a ∧ H0 a = none) ∧ ∀ p ∈ po, (∃ vs, H p = some (.lst vs)) ∧ H0 p = none
  | .jr pi c, o => ∃ v, o = some v ∧ c.fl = true ∧ JV K H pi [] c v
/-- what a slot adds -/
def own1 : Sl → Option V → List Addr
  | @Sl.ow _ _ _, some (.ref p) => [p]
  | @Sl.dc _ _ _, some (.ref p) => [p]
  | @Sl.di _ _ _, some (.ref p) => [p]
  | @Sl.ot _ _ rs _, some (.ref p) => p :: rs
  | @Sl.nw _ _ ps _, _ => ps
  | .jk _ pi po _, _ => pi ++ po
  | _, _ => []
def tmF1 : Sl → Bool
  | @Sl.tm _ _ _ => false
  | _ => true
/-- nothing stands that leans on the def's own lists -/
def tmF (Γ : List Sl) : Bool := Γ.all tmF1
/-- the lists of the def's own -/
def owA : List Sl → L2.St → List Addr
  | s :: Γ, o :: σ => own1 s o ++ owA Γ σ
  | _, _ => []
def AllOk (K : PySem.W.Frag) (F H H0 : Hp) : List Sl → L2.St → Prop
  | [], [] => True
  | s :: Γ, o :: σ => SlOk K F H H0 s o ∧ AllOk K F H H0 Γ σ
  | _, _ => False
/-- a thing that isn't a tuple stands there -/
def Hv (H : Hp) (q : Addr) : Prop := ∃ o, H q = some o ∧ (∀ xs, o ≠ HO.tup xs) ∧ ∀ a u, o ≠ HO.frz a u
theorem Hv.ne {H : Hp} {q : Addr} (h : Hv H q) : H q ≠ none := fun z => by
  obtain ⟨o, e, _⟩ := h
  rw [z] at e
  cases e
theorem Hv.grow {H H' : Hp} {q : Addr} (h : Hv H q) (s : Same H H') : Hv H' q := by
  obtain ⟨o, e, n⟩ := h
  exact ⟨o, s q o e, n⟩
theorem Hv.lst {H : Hp} {q : Addr} {vs : List V} (h : H q = some (.lst vs)) : Hv H q := ⟨_, h, (fun _ z => by cases z), fun _ _ z => by cases z⟩
theorem Hv.nt {H : Hp} {q : Addr} (h : Hv H q) : NT H q := let ⟨o, e, n1, n2⟩ := h; ⟨fun xs z => n1 xs (by rw [e] at z; exact Option.some.inj z), fun a u z => n2 a u (by rw [e] at z; exact Option.some.inj z)⟩
theorem Hv.tup {H : Hp} {q : Addr} {vs : List V} (h : Hv H q) (e : H q = some (.tup vs)) : False := by
  obtain ⟨o, e2, n⟩ := h
  rw [e] at e2
  exact n.1 vs (Option.some.inj e2).symm
theorem Hv.other {H : Hp} {q p : Addr} {o : HO} (h : Hv H q) (n : q ≠ p) : Hv (upd H p o) q := by
  obtain ⟨u, e, k⟩ := h
  exact ⟨u, (upd_ne n).trans e, k⟩
structure At (K : PySem.W.Frag) (H0 : Hp) (qs : List Addr) (Γ : List Sl) (σ : L2.St) (H : Hp) : Prop where
  ex : Same H0 H
  ok : AllOk K (Fz H (owA Γ σ ++ qs)) H H0 Γ σ
  nd : (owA Γ σ).Nodup
  sep : ∀ p ∈ owA Γ σ, p ∉ qs
  qd : ∀ q ∈ qs, Hv H q
section
variable {K : PySem.W.Frag} {F F' H H' H0 : Hp} {qs : List Addr} {Γ Γ' : List Sl} {σ : L2.St}
theorem SlOk.grow {s : Sl} {o : Option V} (h : SlOk K F H H0 s o) (e : Same F F') (e2 : Same H H') : SlOk K F' H' H0 s o := by
  cases s with
  | un => trivial
  | fr x =>
    obtain ⟨v, h1, h2⟩ := h
    exact ⟨v, h1, PyT.mono e h2⟩
  | ow xs =>
    obtain ⟨p, vs, h1, h2, h3, h4⟩ := h
    exact ⟨p, vs, h1, e2 _ _ h2, h3, h4.mono e⟩
  | dc xs =>
    obtain ⟨p, vs, h1, h2, h3, h4⟩ := h
    exact ⟨p, vs, h1, e2 _ _ h2, h3, h4.mono e⟩
  | di xs =>
    obtain ⟨p, vs, h1, h2, h3, h4⟩ := h
    exact ⟨p, vs, h1, e2 _ _ h2, h3, h4.mono e⟩
  | tm x =>
    obtain ⟨v, h1, h2⟩ := h
    exact ⟨v, h1, PyT.mono e2 h2⟩
  | ot rs xss =>
    obtain ⟨p, rs', h1, hp, h2, h3, h4⟩ := h
    exact ⟨p, rs', h1, hp, e2 _ _ h2, h3, h4.grow e e2⟩
  | pm G x => exact h
  | nw ps x =>
    obtain ⟨v, h1, h2, h3⟩ := h
    exact ⟨v, h1, PyT.mono (Onl.grow e2) h2, fun p hp => let ⟨⟨vs, k⟩, k0⟩ := h3 p hp; ⟨⟨vs, e2 _ _ k⟩, k0⟩⟩
  | jk n pi po c =>
    obtain ⟨v, h1, h2, h3, h4⟩ := h
    exact ⟨v, h1, h2.mono (fun _ z => z) (fun _ _ z => sqT_mono e2 z) (fun _ _ _ z => e2 _ _ z), fun a ha => let ⟨⟨vs, k, k1⟩, k0⟩ := h3 a ha; ⟨⟨vs, e2 _ _ k, k1⟩, k0⟩, fun p hp => let ⟨⟨vs, k⟩, k0⟩ := h4 p hp; ⟨⟨vs, e2 _ _ k⟩, k0⟩⟩
  | jr pi c =>
    obtain ⟨v, h1, h2, h3⟩ := h
    exact ⟨v, h1, h2, h3.mono (fun _ z => z) (fun _ _ z => sqT_mono e2 z) (fun _ m => by cases m)⟩
theorem AllOk.grow (e : Same F F') (e2 : Same H H') : ∀ {Γ : List Sl} {σ : L2.St}, AllOk K F H H0 Γ σ → AllOk K F' H' H0 Γ σ
  | [], [], _ => trivial
  | s :: Γ, o :: σ, h => ⟨h.1.grow e e2, AllOk.grow e e2 h.2⟩
  | [], _ :: _, h => h.elim
  | _ :: _, [], h => h.elim
theorem AllOk.len : ∀ {Γ : List Sl} {σ : L2.St}, AllOk K F H H0 Γ σ → Γ.length = σ.length
  | [], [], _ => rfl
  | s :: Γ, o :: σ, h => congrArg Nat.succ (AllOk.len h.2)
  | [], _ :: _, h => h.elim
  | _ :: _, [], h => h.elim
theorem AllOk.get : ∀ {Γ : List Sl} {σ : L2.St} {i : Nat} {s : Sl}, AllOk K F H H0 Γ σ → Γ[i]? = some s → ∃ o, σ[i]? = some o ∧ SlOk K F H H0 s o
  | s :: Γ, o :: σ, 0, t, h, e => by
    have e2 : s = t := Option.some.inj e
    subst e2
    exact ⟨o, rfl, h.1⟩
  | s :: Γ, o :: σ, i + 1, t, h, e => AllOk.get (i := i) h.2 e
  | [], [], _, _, _, e => by simp at e
  | [], _ :: _, _, _, h, _ => h.elim
  | _ :: _, [], _, _, h, _ => h.elim
theorem owA_cons {s : Sl} {o : Option V} : owA (s :: Γ) (o :: σ) = own1 s o ++ owA Γ σ := rfl
theorem owA_nil : owA Γ [] = [] := by cases Γ <;> rfl
theorem owA_mem : ∀ {Γ : List Sl} {σ : L2.St} {i : Nat} {α : Type} [PyT α] {xs : List α} {p : Addr}, Γ[i]? = some (.ow xs) → σ[i]? = some (some (.ref p)) → p ∈ owA Γ σ
  | s :: Γ, o :: σ, 0, _, _, _, p, e1, e2 => by
    have q1 := Option.some.inj e1
    have q2 := Option.some.inj e2
    subst q1 q2
    rw [owA_cons]
    exact List.mem_append_left _ (by simp [own1])
  | s :: Γ, o :: σ, i + 1, _, _, _, p, e1, e2 => by
    have ih := owA_mem (Γ := Γ) (σ := σ) (i := i) e1 e2
    rw [owA_cons]
    exact List.mem_append_right _ ih
  | [], _, _, _, _, _, _, e, _ => by simp at e
  | _ :: _, [], _, _, _, _, _, _, e => by simp at e
theorem owA_set_sub {s : Sl} {o : Option V} : ∀ {Γ : List Sl} {σ : L2.St} {i : Nat} {a : Addr}, a ∈ owA (Γ.set i s) (σ.set i o) → a ∈ own1 s o ∨ a ∈ owA Γ σ
  | [], [], _, _, h => .inr h
  | [], _ :: _, _, _, h => by cases h
  | t :: Γ, [], i, a, h => by
    rw [List.set_nil, owA_nil] at h
    cases h
  | t :: Γ, u :: σ, 0, a, h => by
    rw [List.set_cons_zero, List.set_cons_zero, owA_cons] at h
    rw [owA_cons]
    rcases List.mem_append.mp h with h | h
    · exact .inl h
    · exact .inr (List.mem_append_right _ h)
  | t :: Γ, u :: σ, i + 1, a, h => by
    rw [List.set_cons_succ, List.set_cons_succ, owA_cons] at h
    rw [owA_cons]
    rcases List.mem_append.mp h with h | h
    · exact .inr (List.mem_append_left _ h)
    · rcases owA_set_sub h with h | h
      · exact .inl h
      · exact .inr (List.mem_append_right _ h)
theorem owA_set_nd {s : Sl} {o : Option V} (h1 : (own1 s o).Nodup) : ∀ {Γ : List Sl} {σ : L2.St} {i : Nat}, (∀ a ∈ own1 s o, a ∉ owA Γ σ) → (owA Γ σ).Nodup → (owA (Γ.set i s) (σ.set i o)).Nodup
  | [], _, _, _, _ => by simp [owA]
  | t :: Γ, [], i, _, _ => by cases i <;> simp [owA]
  | t :: Γ, u :: σ, 0, hn, hd => by
    rw [List.set_cons_zero, List.set_cons_zero, owA_cons]
    rw [owA_cons] at hd hn
    refine List.nodup_append.mpr ⟨h1, (List.nodup_append.mp hd).2.1, fun a ha b hb e => ?_⟩
    subst e
    exact hn a ha (List.mem_append_right _ hb)
  | t :: Γ, u :: σ, i + 1, hn, hd => by
    rw [List.set_cons_succ, List.set_cons_succ, owA_cons]
    rw [owA_cons] at hd hn
    obtain ⟨d1, d2, d3⟩ := List.nodup_append.mp hd
    refine List.nodup_append.mpr ⟨d1, owA_set_nd h1 (fun a ha hb => hn a ha (List.mem_append_right _ hb)) d2, fun a ha b hb e => ?_⟩
    subst e
    rcases owA_set_sub hb with hb | hb
    · exact hn a hb (List.mem_append_left _ ha)
    · exact d3 a ha a hb rfl
theorem AllOk.set {s : Sl} {o : Option V} (hs : SlOk K F H H0 s o) : ∀ {Γ : List Sl} {σ : L2.St} {i : Nat}, AllOk K F H H0 Γ σ → AllOk K F H H0 (Γ.set i s) (σ.set i o)
  | [], [], _, _ => trivial
  | t :: Γ, u :: σ, 0, h => ⟨hs, h.2⟩
  | t :: Γ, u :: σ, i + 1, h => ⟨h.1, AllOk.set hs h.2⟩
  | [], _ :: _, _, h => h.elim
  | _ :: _, [], _, h => h.elim
theorem At.own_hv (a : At K H0 qs Γ σ H) {p : Addr} (hp : p ∈ owA Γ σ) : Hv H p := by
  have go : ∀ {Γ : List Sl} {σ : L2.St} {F : Hp}, AllOk K F H H0 Γ σ → p ∈ owA Γ σ → Hv H p := by
    intro Γ
    induction Γ with
    | nil => intro σ F _ h; cases h
    | cons t Γ ih =>
      intro σ F ok h
      cases σ with
      | nil =>
        rw [owA_nil] at h
        cases h
      | cons u σ =>
        rw [owA_cons] at h
        rcases List.mem_append.mp h with h | h
        · cases t with
          | ow xs =>
            obtain ⟨q, vs, e1, e2, _⟩ := ok.1
            subst e1
            have e : p = q := by simpa [own1] using h
            rw [e]
            exact ⟨_, e2, (fun _ z => by cases z), fun _ _ z => by cases z⟩
          | dc xs =>
            obtain ⟨q, vs, e1, e2, _⟩ := ok.1
            subst e1
            have e : p = q := by simpa [own1] using h
            rw [e]
            exact ⟨_, e2, (fun _ z => by cases z), fun _ _ z => by cases z⟩
          | di xs =>
            obtain ⟨q, vs, e1, e2, _⟩ := ok.1
            subst e1
            have e : p = q := by simpa [own1] using h
            rw [e]
            exact ⟨_, e2, (fun _ z => by cases z), fun _ _ z => by cases z⟩
          | un => cases h
          | fr x => cases h
          | tm x => cases h
          | pm G x => cases h
          | jr pi c => cases h
          | nw ps x =>
            obtain ⟨v, e1, e2, e3⟩ := ok.1
            subst e1
            obtain ⟨⟨vs, z⟩, _⟩ := e3 p h
            exact ⟨_, z, (fun _ z => by cases z), fun _ _ z => by cases z⟩
          | jk n pi po c =>
            obtain ⟨v, e1, e2, e3, e4⟩ := ok.1
            subst e1
            rcases List.mem_append.mp (show p ∈ pi ++ po from h) with h | h
            · obtain ⟨⟨vs, z, _⟩, _⟩ := e3 p h
              exact ⟨_, z, (fun _ z => by cases z), fun _ _ z => by cases z⟩
            · obtain ⟨⟨vs, z⟩, _⟩ := e4 p h
              exact ⟨_, z, (fun _ z => by cases z), fun _ _ z => by cases z⟩
          | ot rs xss =>
            obtain ⟨q, rs', e1, ep, e2, e3, e4⟩ := ok.1
            subst e1
            rcases List.mem_cons.mp (show p ∈ q :: rs from h) with e | h
            · rw [e]
              exact ⟨_, e2, (fun _ z => by cases z), fun _ _ z => by cases z⟩
            · exact let ⟨_, z⟩ := e4.lst (ep.mem_iff.mpr h); ⟨_, z, (fun _ z => by cases z), fun _ _ z => by cases z⟩
        · exact ih ok.2 h
  exact go a.ok hp
theorem At.own_there (a : At K H0 qs Γ σ H) {p : Addr} (hp : p ∈ owA Γ σ) : H p ≠ none := (a.own_hv hp).ne
theorem At.av_hv (a : At K H0 qs Γ σ H) {p : Addr} (hp : p ∈ owA Γ σ ++ qs) : Hv H p := (List.mem_append.mp hp).elim a.own_hv (a.qd p)
theorem At.av_there (a : At K H0 qs Γ σ H) {p : Addr} (hp : p ∈ owA Γ σ ++ qs) : H p ≠ none := (a.av_hv hp).ne
theorem At.grow (a : At K H0 qs Γ σ H) (e : Same H H') : At K H0 qs Γ σ H' :=
  ⟨a.ex.trans e, a.ok.grow (Fz.mono e) e, a.nd, a.sep, fun q hq => (a.qd q hq).grow e⟩
theorem At.len (a : At K H0 qs Γ σ H) : Γ.length = σ.length := a.ok.len
theorem At.fr {i : Nat} {α : Type} [PyT α] {x : α} (a : At K H0 qs Γ σ H) (h : Γ[i]? = some (.fr x)) : ∃ v, σ[i]? = some (some v) ∧ rep K (Fz H (owA Γ σ ++ qs)) v x := by
  obtain ⟨o, h1, v, h2, h3⟩ := a.ok.get h
  subst h2
  exact ⟨v, h1, h3⟩
theorem At.ow {i : Nat} {α : Type} [PyT α] {xs : List α} (a : At K H0 qs Γ σ H) (h : Γ[i]? = some (.ow xs)) :
    ∃ p vs, σ[i]? = some (some (.ref p)) ∧ p ∈ owA Γ σ ∧ H p = some (.lst vs) ∧ H0 p = none ∧ RepL K (Fz H (owA Γ σ ++ qs)) vs xs := by
  obtain ⟨o, h1, p, vs, h2, h3, h4, h5⟩ := a.ok.get h
  subst h2
  exact ⟨p, vs, h1, owA_mem h h1, h3, h4, h5⟩
theorem At.setFr {i : Nat} {α : Type} [PyT α] {x : α} {v : V} (a : At K H0 qs Γ σ H) (h : rep K (Fz H (owA Γ σ ++ qs)) v x) : At K H0 qs (Γ.set i (.fr x)) (σ.set i (some v)) H := by
  have sub : ∀ b ∈ owA (Γ.set i (.fr x)) (σ.set i (some v)), b ∈ owA Γ σ := fun b hb => (owA_set_sub hb).elim (fun z => by cases z) id
  have e : Same (Fz H (owA Γ σ ++ qs)) (Fz H (owA (Γ.set i (.fr x)) (σ.set i (some v)) ++ qs)) := Fz.sub (fun _ _ z => z) fun b hb => (List.mem_append.mp hb).elim (fun z => List.mem_append_left _ (sub b z)) (List.mem_append_right _)
  exact ⟨a.ex, (AllOk.grow e (fun _ _ z => z) a.ok).set (s := .fr x) (o := some v) ⟨v, rfl, PyT.mono e h⟩, owA_set_nd (s := .fr x) (o := some v) List.nodup_nil (fun b hb => by cases hb) a.nd, fun p hp => a.sep p (sub p hp), a.qd⟩
theorem At.setUn {i : Nat} {o : Option V} (a : At K H0 qs Γ σ H) : At K H0 qs (Γ.set i .un) (σ.set i o) H := by
  have sub : ∀ b ∈ owA (Γ.set i .un) (σ.set i o), b ∈ owA Γ σ := fun b hb => (owA_set_sub hb).elim (fun z => by cases z) id
  have e : Same (Fz H (owA Γ σ ++ qs)) (Fz H (owA (Γ.set i .un) (σ.set i o) ++ qs)) := Fz.sub (fun _ _ z => z) fun b hb => (List.mem_append.mp hb).elim (fun z => List.mem_append_left _ (sub b z)) (List.mem_append_right _)
  exact ⟨a.ex, (AllOk.grow e (fun _ _ z => z) a.ok).set (s := .un) (o := o) trivial, owA_set_nd (s := .un) (o := o) List.nodup_nil (fun b hb => by cases hb) a.nd, fun p hp => a.sep p (sub p hp), a.qd⟩
/-- a new list comes into a slot -/
theorem At.setOw {i : Nat} {α : Type} [PyT α] {xs : List α} {p : Addr} {vs : List V} (a : At K H0 qs Γ σ H) (e : Same H H') (hp : H p = none) (hp' : H' p = some (.lst vs)) (h : RepL K (Fz H' (p :: (owA Γ σ ++ qs))) vs xs) :
    At K H0 qs (Γ.set i (.ow xs)) (σ.set i (some (.ref p))) H' := by
  have a' := a.grow e
  have np : p ∉ owA Γ σ := fun z => a.own_there z hp
  have nq : p ∉ qs := fun z => (a.qd p z).ne hp
  have sub : ∀ b ∈ owA (Γ.set i (.ow xs)) (σ.set i (some (.ref p))), b = p ∨ b ∈ owA Γ σ := fun b hb => (owA_set_sub hb).imp (fun z => by simpa [own1] using z) id
  have e1 : Same (Fz H' (p :: (owA Γ σ ++ qs))) (Fz H' (owA (Γ.set i (.ow xs)) (σ.set i (some (.ref p))) ++ qs)) := Fz.sub (fun _ _ z => z) fun b hb => (List.mem_append.mp hb).elim
    (fun z => (sub b z).elim (fun q => by rw [q]; exact List.mem_cons_self) fun q => List.mem_cons_of_mem _ (List.mem_append_left _ q)) fun z => List.mem_cons_of_mem _ (List.mem_append_right _ z)
  have e2 : Same (Fz H (owA Γ σ ++ qs)) (Fz H' (owA (Γ.set i (.ow xs)) (σ.set i (some (.ref p))) ++ qs)) := Fz.new e fun b hb => (List.mem_append.mp hb).elim
    (fun z => (sub b z).elim (fun q => .inr (by rw [q]; exact hp)) fun q => .inl (List.mem_append_left _ q)) fun z => .inl (List.mem_append_right _ z)
  refine ⟨a'.ex, (AllOk.grow e2 e a.ok).set (s := .ow xs) (o := some (.ref p)) ⟨p, vs, rfl, hp', a.ex.free hp, h.mono e1⟩, owA_set_nd (s := .ow xs) (o := some (.ref p)) (by simp [own1]) (fun b hb => ?_) a.nd, fun b hb => (sub b hb).elim (fun q => by rw [q]; exact nq) (a.sep b), a'.qd⟩
  have q : b = p := by simpa [own1] using hb
  rw [q]; exact np
theorem SlOk.upd {s : Sl} {ov : Option V} {p : Addr} {o : HO} (h : SlOk K F H H0 s ov) (e : Same F F') (np : p ∉ own1 s ov) (ht : tmF1 s = true) (nt : NT H p) : SlOk K F' (L2.upd H p o) H0 s ov := by
  cases s with
  | un => trivial
  | fr x =>
    obtain ⟨v, k1, k2⟩ := h
    exact ⟨v, k1, PyT.mono e k2⟩
  | ow ys =>
    obtain ⟨q, ws, k1, k2, k3, k4⟩ := h
    subst k1
    exact ⟨q, ws, rfl, (upd_ne (fun z => np (by rw [← z]; simp [own1]))).trans k2, k3, k4.mono e⟩
  | dc ys =>
    obtain ⟨q, ws, k1, k2, k3, k4⟩ := h
    subst k1
    exact ⟨q, ws, rfl, (upd_ne (fun z => np (by rw [← z]; simp [own1]))).trans k2, k3, k4.mono e⟩
  | di ys =>
    obtain ⟨q, ws, k1, k2, k3, k4⟩ := h
    subst k1
    exact ⟨q, ws, rfl, (upd_ne (fun z => np (by rw [← z]; simp [own1]))).trans k2, k3, k4.mono e⟩
  | tm x => cases ht
  | ot rs xss =>
    obtain ⟨q, rs', k1, kp, k2, k3, k4⟩ := h
    subst k1
    exact ⟨q, rs', rfl, kp, (upd_ne (fun z => np (by rw [← z]; exact List.mem_cons_self))).trans k2, k3, k4.upd e fun z => np (List.mem_cons_of_mem _ (kp.mem_iff.mp z))⟩
  | pm G x => exact h
  | nw ps x =>
    obtain ⟨v, h1, h2, h3⟩ := h
    have np' : p ∉ ps := np
    exact ⟨v, h1, PyT.mono (Onl.upd np' nt) h2, fun q hq => let ⟨⟨vs, k⟩, k0⟩ := h3 q hq; ⟨⟨vs, (upd_ne fun z => np' (by rw [← z]; exact hq)).trans k⟩, k0⟩⟩
  | jk n pi po c =>
    obtain ⟨v, h1, h2, h3, h4⟩ := h
    have n1 : ∀ q, q ∈ pi ∨ q ∈ po → q ≠ p := fun q hq z => np (by rw [← z]; exact List.mem_append.mpr hq)
    exact ⟨v, h1, h2.mono (fun _ z => z) (fun _ _ z => nt.sq z) (fun q m _ z => (upd_ne (n1 q (.inr m))).trans z), fun a ha => let ⟨⟨vs, k, k1⟩, k0⟩ := h3 a ha; ⟨⟨vs, (upd_ne (n1 a (.inl ha))).trans k, k1⟩, k0⟩, fun q hq => let ⟨⟨vs, k⟩, k0⟩ := h4 q hq; ⟨⟨vs, (upd_ne (n1 q (.inr hq))).trans k⟩, k0⟩⟩
  | jr pi c =>
    obtain ⟨v, h1, h2, h3⟩ := h
    exact ⟨v, h1, h2, h3.mono (fun _ z => z) (fun _ _ z => nt.sq z) (fun _ m => by cases m)⟩
theorem AllOk.upd {p : Addr} {o : HO} (e : Same F F') (nt : NT H p) : ∀ {Γ : List Sl} {σ : L2.St}, AllOk K F H H0 Γ σ → p ∉ owA Γ σ → tmF Γ = true → AllOk K F' (L2.upd H p o) H0 Γ σ
  | [], [], _, _, _ => trivial
  | s :: Γ, ov :: σ, h, np, ht => by
    rw [owA_cons] at np
    obtain ⟨h1, h2⟩ := Bool.and_eq_true_iff.mp (show (tmF1 s && tmF Γ) = true from ht)
    exact ⟨h.1.upd e (fun z => np (List.mem_append_left _ z)) h1 nt, AllOk.upd e nt h.2 (fun z => np (List.mem_append_right _ z)) h2⟩
  | [], _ :: _, h, _, _ => h.elim
  | _ :: _, [], h, _, _ => h.elim
theorem owA_mem1 {s : Sl} {ov : Option V} {p : Addr} : ∀ {Γ : List Sl} {σ : L2.St} {i : Nat}, Γ[i]? = some s → σ[i]? = some ov → p ∈ own1 s ov → p ∈ owA Γ σ
  | t :: Γ, o :: σ, 0, e1, e2, h => by
    cases e1
    cases e2
    rw [owA_cons]
    exact List.mem_append_left _ h
  | t :: Γ, o :: σ, i + 1, e1, e2, h => by
    rw [owA_cons]
    exact List.mem_append_right _ (owA_mem1 (i := i) e1 e2 h)
  | [], _, _, e, _, _ => by simp at e
  | _ :: _, [], _, _, e, _ => by simp at e
/-- the list of a slot changes -/
theorem AllOk.mut {p : Addr} {o : HO} {s s' : Sl} {ov : Option V} (nt : NT H p) (e : Same F F') (hs : SlOk K F' (L2.upd H p o) H0 s' ov) (hp : p ∈ own1 s ov) : ∀ {Γ : List Sl} {σ : L2.St} {i : Nat}, AllOk K F H H0 Γ σ → (owA Γ σ).Nodup → tmF Γ = true →
    Γ[i]? = some s → σ[i]? = some ov → AllOk K F' (L2.upd H p o) H0 (Γ.set i s') σ
  | t :: Γ, w :: σ, 0, h, nd, ht, e1, e2 => by
    cases e1
    cases e2
    rw [owA_cons] at nd
    obtain ⟨d1, d2, d3⟩ := List.nodup_append.mp nd
    obtain ⟨h1, h2⟩ := Bool.and_eq_true_iff.mp (show (tmF1 s && tmF Γ) = true from ht)
    exact ⟨hs, h.2.upd e nt (fun z => d3 p hp p z rfl) h2⟩
  | t :: Γ, w :: σ, i + 1, h, nd, ht, e1, e2 => by
    rw [owA_cons] at nd
    obtain ⟨d1, d2, d3⟩ := List.nodup_append.mp nd
    obtain ⟨h1, h2⟩ := Bool.and_eq_true_iff.mp (show (tmF1 t && tmF Γ) = true from ht)
    have hm : p ∈ owA Γ σ := owA_mem1 (i := i) e1 e2 hp
    exact ⟨h.1.upd e (fun z => d3 p z p hm rfl) h1 nt, AllOk.mut (i := i) nt e hs hp h.2 d2 h2 e1 e2⟩
  | [], _, _, _, _, _, e, _ => by simp at e
  | _ :: _, [], _, _, _, _, _, e => by simp at e
theorem owA_set_same {s s' : Sl} {ov : Option V} (hs : own1 s' ov = own1 s ov) : ∀ {Γ : List Sl} {σ : L2.St} {i : Nat}, Γ[i]? = some s → σ[i]? = some ov → owA (Γ.set i s') σ = owA Γ σ
  | t :: Γ, o :: σ, 0, e1, e2 => by
    cases e1
    cases e2
    rw [List.set_cons_zero, owA_cons, owA_cons, hs]
  | t :: Γ, o :: σ, i + 1, e1, e2 => by
    rw [List.set_cons_succ, owA_cons, owA_cons, owA_set_same (i := i) hs e1 e2]
  | [], _, _, e, _ => by simp at e
  | _ :: _, [], _, _, e => by simp at e
theorem At.mut {i : Nat} {α : Type} [PyT α] {xs xs' : List α} {p : Addr} {vs' : List V} (a : At K H0 qs Γ σ H) (h : Γ[i]? = some (.ow xs)) (hp : σ[i]? = some (some (.ref p))) (hv : RepL K (Fz H (owA Γ σ ++ qs)) vs' xs') (ht : tmF Γ = true) :
    At K H0 qs (Γ.set i (.ow xs')) σ (upd H p (.lst vs')) := by
  obtain ⟨p', vs, k1, k2, k3, k4, k5⟩ := a.ow h
  have e : p' = p := by rw [hp] at k1; exact (V.ref.inj (Option.some.inj (Option.some.inj k1))).symm
  subst e
  have eo : owA (Γ.set i (.ow xs')) σ = owA Γ σ := owA_set_same (s := .ow xs) (s' := .ow xs') (ov := some (.ref p')) rfl h hp
  have e1 : Same (Fz H (owA Γ σ ++ qs)) (Fz (upd H p' (.lst vs')) (owA Γ σ ++ qs)) := Fz.mut (List.mem_append_left _ k2)
  refine ⟨same_mut a.ex k4, ?_, by rw [eo]; exact a.nd, by rw [eo]; exact a.sep, fun q hq => ?_⟩
  · rw [eo]
    exact AllOk.mut (s := .ow xs) (s' := .ow xs') (NT.lst k3) e1 ⟨p', vs', rfl, upd_same, k4, hv.mono e1⟩ List.mem_cons_self a.ok a.nd ht h hp
  · exact (a.qd q hq).other fun z => a.sep p' k2 (by rw [← z]; exact hq)
/-- a dict of the def's own -/
theorem At.dc {i : Nat} {β : Type} [PyT β] {kvs : List (List Int × β)} (a : At K H0 qs Γ σ H) (h : Γ[i]? = some (.dc kvs)) :
    ∃ p ws, σ[i]? = some (some (.ref p)) ∧ p ∈ owA Γ σ ∧ H p = some (.dT ws) ∧ H0 p = none ∧ RepD K (Fz H (owA Γ σ ++ qs)) ws kvs := by
  obtain ⟨o, h1, p, ws, h2, h3, h4, h5⟩ := a.ok.get h
  subst h2
  exact ⟨p, ws, h1, owA_mem1 (ov := some (.ref p)) h h1 List.mem_cons_self, h3, h4, h5⟩
/-- a dict of the def's own -/
theorem At.di {i : Nat} {β : Type} [PyT β] {kvs : List (Int × β)} (a : At K H0 qs Γ σ H) (h : Γ[i]? = some (.di kvs)) :
    ∃ p ws, σ[i]? = some (some (.ref p)) ∧ p ∈ owA Γ σ ∧ H p = some (.dK ws) ∧ H0 p = none ∧ RepDi K (Fz H (owA Γ σ ++ qs)) ws kvs := by
  obtain ⟨o, h1, p, ws, h2, h3, h4, h5⟩ := a.ok.get h
  subst h2
  exact ⟨p, ws, h1, owA_mem1 (ov := some (.ref p)) h h1 List.mem_cons_self, h3, h4, h5⟩
/-- a table of the def's own -/
theorem At.ot {i : Nat} {α : Type} [PyT α] {rs : List Addr} {xss : List (List α)} (a : At K H0 qs Γ σ H) (h : Γ[i]? = some (.ot rs xss)) :
    ∃ p rs', σ[i]? = some (some (.ref p)) ∧ rs'.Perm rs ∧ (∀ q ∈ p :: rs', q ∈ owA Γ σ) ∧ H p = some (.lst (rs'.map V.ref)) ∧ H0 p = none ∧ Rows K (Fz H (owA Γ σ ++ qs)) H H0 rs' xss := by
  obtain ⟨o, h1, p, rs', h2, hp, h3, h4, h5⟩ := a.ok.get h
  subst h2
  exact ⟨p, rs', h1, hp, fun q hq => owA_mem1 (ov := some (.ref p)) h h1 (List.mem_cons.mpr ((List.mem_cons.mp hq).imp id hp.mem_iff.mp)), h3, h4, h5⟩
theorem At.tm {i : Nat} {α : Type} [PyT α] {x : α} (a : At K H0 qs Γ σ H) (h : Γ[i]? = some (.tm x)) : ∃ v, σ[i]? = some (some v) ∧ rep K H v x := by
  obtain ⟨o, h1, v, h2, h3⟩ := a.ok.get h
  subst h2
  exact ⟨v, h1, h3⟩
/-- a list no more changed -/
theorem frz_out {α : Type} [PyT α] {xs : List α} {p : Addr} : ∀ {Γ : List Sl} {σ : L2.St} {i : Nat}, Γ[i]? = some (.ow xs) → σ[i]? = some (some (.ref p)) → (owA Γ σ).Nodup → p ∉ owA (Γ.set i (.fr xs)) σ
  | s :: Γ, o :: σ, 0, e1, e2, nd => by
    have q1 := Option.some.inj e1
    have q2 := Option.some.inj e2
    subst q1 q2
    exact (List.nodup_cons.mp nd).1
  | s :: Γ, o :: σ, i + 1, e1, e2, nd => by
    rw [List.set_cons_succ, owA_cons]
    rw [owA_cons] at nd
    obtain ⟨_, d2, d3⟩ := List.nodup_append.mp nd
    intro h
    rcases List.mem_append.mp h with h | h
    · exact d3 p h p (owA_mem e1 e2) rfl
    · exact frz_out (i := i) e1 e2 d2 h
  | [], _, _, e, _, _ => by simp at e
  | _ :: _, [], _, _, e, _ => by simp at e
theorem At.frz {i : Nat} {α : Type} [PyT α] {xs : List α} (a : At K H0 qs Γ σ H) (h : Γ[i]? = some (.ow xs)) : At K H0 qs (Γ.set i (.fr xs)) σ H := by
  obtain ⟨p, vs, k1, k2, k3, k4, k5⟩ := a.ow h
  have es : σ.set i (some (.ref p)) = σ := by
    obtain ⟨hl, e⟩ := List.getElem?_eq_some_iff.mp k1
    rw [← e]
    exact List.set_getElem_self hl
  have sub : ∀ b ∈ owA (Γ.set i (.fr xs)) σ, b ∈ owA Γ σ := fun b hb => by
    have hb' : b ∈ owA (Γ.set i (.fr xs)) (σ.set i (some (.ref p))) := by rw [es]; exact hb
    exact (owA_set_sub hb').elim (fun z => by cases z) id
  have e : Same (Fz H (owA Γ σ ++ qs)) (Fz H (owA (Γ.set i (.fr xs)) σ ++ qs)) := Fz.sub (fun _ _ z => z) fun b hb => (List.mem_append.mp hb).elim (fun z => List.mem_append_left _ (sub b z)) (List.mem_append_right _)
  have np : p ∉ owA (Γ.set i (.fr xs)) σ := frz_out h k1 a.nd
  have hq : Fz H (owA (Γ.set i (.fr xs)) σ ++ qs) p = some (.lst vs) := Fz.some_iff.mpr ⟨fun z => (List.mem_append.mp z).elim np (a.sep p k2), k3⟩
  have ok := (AllOk.grow e (fun _ _ z => z) a.ok).set (s := .fr xs) (o := some (.ref p)) (i := i) ⟨.ref p, rfl, p, vs, rfl, hq, k5.mono e⟩
  rw [es] at ok
  have nd := owA_set_nd (s := .fr xs) (o := some (.ref p)) (i := i) List.nodup_nil (fun b hb => by cases hb) a.nd
  rw [es] at nd
  exact ⟨a.ex, ok, nd, fun b hb => a.sep b (sub b hb), a.qd⟩
end
end Wk
set_option Elab.async false
set_option linter.all false
set_option maxRecDepth 100000
/-! Wk2: what an expression comes to, by typed rules. -/
namespace Wk
open PySem PySem.Spec PyProof.Rows L2
/-! ### the weakest readings -/
structure wE (X : Cx) (e : Expr) (σ : L2.St) (H : Hp) (Q : VK) : Prop where
  run : ∀ (pins : List (Addr × Obj)) (s : Shared), Inv X pins σ H s → wpAny (model X.prog X.w) X.A (eval e X.env) (EP X pins σ Q) X.xe s
structure wT (X : Cx) (e : Expr) (σ : L2.St) (H : Hp) (Q : Bool → Hp → Prop) : Prop where
  run : ∀ (pins : List (Addr × Obj)) (s : Shared), Inv X pins σ H s → wpAny (model X.prog X.w) X.A (isTrue e X.env (eval e X.env)) (TP X pins σ Q) X.xe s
structure wA (X : Cx) (es : List Expr) (σ : L2.St) (H : Hp) (Q : List V → Hp → Prop) : Prop where
  run : ∀ (pos : Pos) (pins : List (Addr × Obj)) (s : Shared), Inv X pins σ H s → wpAny (model X.prog X.w) X.A (spliced (backTo pos (starEach es X.env))) (AP X pins σ Q) X.xe s
structure wS (X : Cx) (st : Stmt) (D : Ends) (σ : L2.St) (H : Hp) : Prop where
  run : ∀ (pins : List (Addr × Obj)) (s : Shared), Inv X pins σ H s → wpAny (model X.prog X.w) X.A (exec st X.env) (SP X pins D) X.xe s
structure wSs (X : Cx) (st : List Stmt) (D : Ends) (σ : L2.St) (H : Hp) : Prop where
  run : ∀ (pins : List (Addr × Obj)) (s : Shared), Inv X pins σ H s → wpAny (model X.prog X.w) X.A (execs st X.env) (SP X pins D) X.xe s
section
variable {X : Cx} {e : Expr} {es : List Expr} {st : Stmt} {ss : List Stmt} {σ : L2.St} {H : Hp} {Q : VK} {D : Ends}
theorem pe_w : PE X e (wE X e) := ⟨fun pins s _ _ _ I h => h.run pins s I⟩
theorem pt_w : PT X e (wT X e) := ⟨fun pins s _ _ _ I h => h.run pins s I⟩
theorem pa_w : PA X es (wA X es) := ⟨fun pos pins s _ _ _ I h => h.run pos pins s I⟩
theorem ps_w : PS X st (wS X st) := ⟨fun pins s _ _ _ I h => h.run pins s I⟩
theorem pss_w : PSs X ss (wSs X ss) := ⟨fun pins s _ _ _ I h => h.run pins s I⟩
theorem wE_of {t : TE} (h : PE X e t) (q : t σ H Q) : wE X e σ H Q := ⟨fun pins s I => h.run pins s σ H Q I q⟩
theorem wT_of {t : TT} {Q : Bool → Hp → Prop} (h : PT X e t) (q : t σ H Q) : wT X e σ H Q := ⟨fun pins s I => h.run pins s σ H Q I q⟩
theorem wA_of {t : TA} {Q : List V → Hp → Prop} (h : PA X es t) (q : t σ H Q) : wA X es σ H Q := ⟨fun pos pins s I => h.run pos pins s σ H Q I q⟩
theorem wS_of {t : TS} (h : PS X st t) (q : t D σ H) : wS X st D σ H := ⟨fun pins s I => h.run pins s σ H D I q⟩
theorem wSs_of {t : TS} (h : PSs X ss t) (q : t D σ H) : wSs X ss D σ H := ⟨fun pins s I => h.run pins s σ H D I q⟩
end
/-! ### names -/
/-- the names of a context -/
structure XN (X : Cx) (N : List Str) (sc : Scope) : Prop where
  hN : X.N = N
  hs : X.env.scope = sc
  nd : X.N.Nodup
structure XOk (X : Cx) (N : List Str) (sc : Scope) : Prop extends XN X N sc where
  calm : X.calm = true
def visB (k : Option NameKind) : Bool := match k with
  | some .local => true
  | some .cell => true
  | some .free => true
  | _ => false
def nmC (N : List Str) (sc : Scope) (i : Nat) (x : Str) : Bool := decide (N[i]? = some x) && (visB (sc.names.lookup x) && (!(x == ("__debug__" : Str)) && !(x == ("__classdict__" : Str))))
structure Nm (X : Cx) (i : Nat) (x : Str) : Prop where
  hi : X.N[i]? = some x
  vis : Vis X.env.scope x
  hd : (x == ("__debug__" : Str)) = false
  hc : (x == ("__classdict__" : Str)) = false
theorem nm_mk {X : Cx} {N : List Str} {sc : Scope} {i : Nat} {x : Str} (hX : XN X N sc) (h : nmC N sc i x = true) : Nm X i x := by
  unfold nmC at h
  simp only [Bool.and_eq_true, Bool.not_eq_true', decide_eq_true_eq] at h
  obtain ⟨h1, h2, h3, h4⟩ := h
  refine ⟨by rw [hX.hN]; exact h1, ?_, h3, h4⟩
  rw [hX.hs]
  unfold visB at h2
  split at h2 <;> first | (rename_i q; first | exact .inl q | exact .inr (.inl q) | exact .inr (.inr q)) | cases h2
def glC (sc : Scope) (x : Str) : Bool := decide (sc.names.lookup x = some .globalImplicit) && !(x == ("__debug__" : Str))
structure Gn (X : Cx) (x : Str) : Prop where
  gl : Gl X x
  hd : (x == ("__debug__" : Str)) = false
theorem gn_mk {X : Cx} {N : List Str} {sc : Scope} {x : Str} (hX : XN X N sc) (h : glC sc x = true) : Gn X x := by
  unfold glC at h
  simp only [Bool.and_eq_true, Bool.not_eq_true', decide_eq_true_eq] at h
  exact ⟨by show X.env.scope.names.lookup x = _; rw [hX.hs]; exact h.1, h.2⟩
/-! ### judgements -/
/-- the lists that what is told doesn't lean on -/
def av (md : Bool) (Γ : List Sl) (σ : L2.St) (qs : List Addr) : List Addr := match md with
  | true => owA Γ σ ++ qs
  | false => []
/-- an exception goes out -/
def XW (X : Cx) (E : XK) (H : Hp) : Exc → Prop := fun c => ∀ H', Same H H' → E (.ref (He.ga X.K c.nm)) none H'
structure Pas (X : Cx) (σ : L2.St) (E : XK) : Prop where
  out : PassesAt (L2.CX X.prog X.w) X σ E
  tk : X.stack = X.env :: X.outer → ∃ W : WX, Takes X W ∧ WE W σ = E
theorem XW.grow {X : Cx} {E : XK} {H H' : Hp} {c : Exc} (s : Same H H') (h : XW X E H c) : XW X E H' c := fun H2 s2 => h H2 (s.trans s2)
section
variable (X : Cx) (H0 : Hp) (qs : List Addr) (md : Bool) (Γ : List Sl)
/-- a value that isn't changed -/
def Ev {α : Type} [PyT α] (e : Expr) (m : R α) : Prop :=
  ∀ σ H, At X.K H0 qs Γ σ H → ∀ E : XK, Pas X σ E → ∀ Q : VK, PX (fun x => ∀ v H', Same H H' → rep X.K (Fz H' (av md Γ σ qs)) v x → Q v H') (XW X E H) m → wE X e σ H Q
/-- a new list -/
def EvO {α : Type} [PyT α] (e : Expr) (m : R (List α)) : Prop :=
  ∀ σ H, At X.K H0 qs Γ σ H → ∀ E : XK, Pas X σ E → ∀ Q : VK, PX (fun xs => ∀ p vs H', Same H H' → H p = none → H' p = some (.lst vs) → RepL X.K (Fz H' (p :: av md Γ σ qs)) vs xs → Q (.ref p) H') (XW X E H) m → wE X e σ H Q
/-- a test -/
def EvT (e : Expr) (m : R Bool) : Prop :=
  ∀ σ H, At X.K H0 qs Γ σ H → ∀ E : XK, Pas X σ E → ∀ Q : Bool → Hp → Prop, PX (fun b => ∀ H', Same H H' → Q b H') (XW X E H) m → wT X e σ H Q
end
/-- arguments -/
class PyA (τ : Type) where
  reps : PySem.W.Frag → Hp → List V → τ → Prop
  mono : ∀ {K : PySem.W.Frag} {F F' : Hp} {vs : List V} {x : τ}, Same F F' → reps K F vs x → reps K F' vs x
instance : PyA Unit where
  reps := fun _ _ vs _ => vs = []
  mono := fun _ h => h
instance {α τ : Type} [PyT α] [PyA τ] : PyA (α × τ) where
  reps := fun K F vs x => ∃ v ws, vs = v :: ws ∧ rep K F v x.1 ∧ PyA.reps K F ws x.2
  mono := fun e ⟨v, ws, h1, h2, h3⟩ => ⟨v, ws, h1, PyT.mono e h2, PyA.mono e h3⟩
def EvA (X : Cx) (H0 : Hp) (qs : List Addr) (md : Bool) (Γ : List Sl) {τ : Type} [PyA τ] (es : List Expr) (m : R τ) : Prop :=
  ∀ σ H, At X.K H0 qs Γ σ H → ∀ E : XK, Pas X σ E → ∀ Q : List V → Hp → Prop, PX (fun x => ∀ vs H', Same H H' → vs.length = es.length → PyA.reps X.K (Fz H' (av md Γ σ qs)) vs x → Q vs H') (XW X E H) m → wA X es σ H Q
section
variable {X : Cx} {H0 : Hp} {qs : List Addr} {md ma mb : Bool} {Γ : List Sl} {a b e : Expr} {es : List Expr} {pos : Pos}
theorem av_out {K : PySem.W.Frag} {α : Type} [PyT α] {x : α} {v : V} {H : Hp} {σ : L2.St} (h : rep K (Fz H (av md Γ σ qs)) v x) : rep K H v x := PyT.mono Fz.out h
theorem av_same {H H' : Hp} {σ : L2.St} (s : Same H H') : Same (Fz H (av md Γ σ qs)) (Fz H' (av md Γ σ qs)) := Fz.mono s
theorem av_there {H : Hp} {σ : L2.St} (a : At X.K H0 qs Γ σ H) : ∀ q ∈ av md Γ σ qs, Hv H q := fun q hq => by
  cases md with
  | true => exact a.av_hv hq
  | false => cases hq
/-! leaves -/
theorem ev_var {i : Nat} {x : Str} {α : Type} [PyT α] {y : α} {m : R α} (n : Nm X i x) (h : Γ[i]? = some (.fr y) := by rfl) (he : m = .ok y := by rfl) : Ev X H0 qs md Γ (.Name x pos) m := by
  intro σ H at_ E pe Q q
  subst he
  obtain ⟨v, h1, h2⟩ := at_.fr h
  refine wE_of (pe_var n.hi n.vis n.hd n.hc) ⟨v, h1, q v H (Same.refl H) ?_⟩
  cases md with
  | true => exact h2
  | false => exact PyT.mono (Fz.sub (Same.refl _) fun _ z => by cases z) h2
/-- a list of the def's own, read -/
theorem ev_own {i : Nat} {x : Str} {α : Type} [PyT α] {ys : List α} {m : R (List α)} (n : Nm X i x) (h : Γ[i]? = some (.ow ys) := by rfl) (he : m = .ok ys := by rfl) : Ev X H0 qs false Γ (.Name x pos) m := by
  intro σ H at_ E pe Q q
  subst he
  obtain ⟨p, vs, h1, h2, h3, h4, h5⟩ := at_.ow h
  refine wE_of (pe_var n.hi n.vis n.hd n.hc) ⟨_, h1, q _ H (Same.refl H) ⟨p, vs, rfl, ?_, ?_⟩⟩
  · show Fz H [] p = some (.lst vs)
    rw [Fz.nil]
    exact h3
  · exact h5.mono (Fz.sub (Same.refl _) fun _ z => by cases z)
theorem ev_int {i : Int} {j : Nat} {m : R Int} (he : m = .ok i := by rfl) : Ev X H0 qs md Γ (.Constant (.int i) j pos) m := by
  intro σ H at_ E pe Q q
  subst he
  exact wE_of pe_int (q (.int i) H (Same.refl H) rfl)
theorem ev_bool {i : Bool} {j : Nat} {m : R Bool} (he : m = .ok i := by rfl) : Ev X H0 qs md Γ (.Constant (.bool i) j pos) m := by
  intro σ H at_ E pe Q q
  subst he
  exact wE_of pe_bl (q (.bl i) H (Same.refl H) rfl)
theorem ev_str {i : Str} {j : Nat} {m : R Str} (he : m = .ok i := by rfl) (hk : PyData.strOk i = true := by decide +kernel) : Ev X H0 qs md Γ (.Constant (.str i) j pos) m := by
  intro σ H at_ E pe Q q
  subst he
  exact wE_of pe_str (q (.str i) H (Same.refl H) ⟨rfl, hk⟩)
theorem ev_none {α : Type} [PyT α] {j : Nat} {m : R (Option α)} (he : m = .ok none := by rfl) : Ev X H0 qs md Γ (.Constant .none j pos) m := by
  intro σ H at_ E pe Q q
  subst he
  exact wE_of pe_non (q .non H (Same.refl H) rfl)
/-- a module's constant -/
theorem ev_gint {x : Str} {i : Int} {t : Tok} {m : R Int} (g : Gn X x) (hm : X.mg x = some (.int i t)) (he : m = .ok i := by rfl) : Ev X H0 qs md Γ (.Name x pos) m := by
  intro σ H at_ E pe Q q
  subst he
  exact wE_of (pe_glob (v := .int i) g.gl hm ⟨t, rfl⟩ g.hd) (q (.int i) H (Same.refl H) rfl)
theorem ev_gstr {x : Str} {i : Str} {t : Tok} {m : R Str} (g : Gn X x) (hm : X.mg x = some (.str i t)) (he : m = .ok i := by rfl) (hk : PyData.strOk i = true := by decide +kernel) : Ev X H0 qs md Γ (.Name x pos) m := by
  intro σ H at_ E pe Q q
  subst he
  exact wE_of (pe_glob (v := .str i) g.gl hm ⟨t, rfl⟩ g.hd) (q (.str i) H (Same.refl H) ⟨rfl, hk⟩)
/-! turns of a judgement -/
theorem Ev.flat {α : Type} [PyF α] {m : R α} (d : Ev X H0 qs ma Γ e m) : Ev X H0 qs md Γ e m := fun σ H at_ E pe Q q =>
  d σ H at_ E pe Q (q.mono (fun x k v H' s r => k v H' s (PyF.flat r)) fun _ z => z)
theorem EvO.flat {α : Type} [PyF α] {m : R (List α)} (d : EvO X H0 qs ma Γ e m) : EvO X H0 qs md Γ e m := fun σ H at_ E pe Q q =>
  d σ H at_ E pe Q (q.mono (fun x k p vs H' s n l r => k p vs H' s n l r.flat) fun _ z => z)
/-- a new list, no more changed -/
theorem EvO.fz {α : Type} [PyT α] {m : R (List α)} (d : EvO X H0 qs md Γ e m) : Ev X H0 qs md Γ e m := fun σ H at_ E pe Q q =>
  d σ H at_ E pe Q (q.mono (fun x k p vs H' s n l r => k (.ref p) H' s ⟨p, vs, rfl, Fz.some_iff.mpr ⟨fun z => (av_there (X := X) (md := md) at_ p z).ne n, l⟩, r.mono (Fz.sub (Same.refl _) fun b z => List.mem_cons_of_mem _ z)⟩) fun _ z => z)
/-- one side of a pair of types -/
theorem Ev.inl {α β : Type} [PyT α] [PyT β] {m : R α} {m' : R (α ⊕ β)} (d : Ev X H0 qs md Γ e m) (he : m' = m.bind fun x => .ok (.inl x) := by rfl) : Ev X H0 qs md Γ e m' := fun σ H at_ E pe Q q => by
  subst he
  exact d σ H at_ E pe Q ((PX.bind q).mono (fun x k v H' s r => k v H' s r) fun _ z => z)
theorem Ev.inr {α β : Type} [PyT α] [PyT β] {m : R β} {m' : R (α ⊕ β)} (d : Ev X H0 qs md Γ e m) (he : m' = m.bind fun x => .ok (.inr x) := by rfl) : Ev X H0 qs md Γ e m' := fun σ H at_ E pe Q q => by
  subst he
  exact d σ H at_ E pe Q ((PX.bind q).mono (fun x k v H' s r => k v H' s r) fun _ z => z)
theorem Ev.some {α : Type} [PyT α] {m : R α} {m' : R (Option α)} (d : Ev X H0 qs md Γ e m) (he : m' = m.bind fun x => .ok (some x) := by rfl) : Ev X H0 qs md Γ e m' := fun σ H at_ E pe Q q => by
  subst he
  exact d σ H at_ E pe Q ((PX.bind q).mono (fun x k v H' s r => k v H' s r) fun _ z => z)
/-- what is there of a thing that may be none -/
theorem Ev.there {α : Type} [PyT α] {m : R (Option α)} {m' : R α} (d : Ev X H0 qs md Γ e m) (he : m' = m.bind R.ofO := by rfl) : Ev X H0 qs md Γ e m' := fun σ H at_ E pe Q q => by
  subst he
  refine d σ H at_ E pe Q ((PX.bind q).mono (fun x k v H' s r => ?_) fun _ z => z)
  obtain ⟨y, rfl, k2⟩ := PX.ofO k
  exact k2 v H' s r
/-- a way that isn't come to -/
theorem Ev.stuck {α : Type} [PyT α] : Ev X H0 qs md Γ e (.stuck : R α) := fun σ H at_ E pe Q q => q.elim
theorem EvT.stuck : EvT X H0 qs Γ e .stuck := fun σ H at_ E pe Q q => q.elim
/-! two things, one behind another -/
theorem two {α β γ : Type} [PyT α] [PyT β] {m1 : R α} {m2 : R β} {f : α → β → R γ} (da : Ev X H0 qs ma Γ a m1) (db : Ev X H0 qs mb Γ b m2) {σ : L2.St} {H : Hp} (at_ : At X.K H0 qs Γ σ H) {E : XK} (pe : Pas X σ E)
    {A : γ → Prop} (q : PX A (XW X E H) (m1.bind fun x => m2.bind fun y => f x y)) {K : V → V → Hp → Prop}
    (k : ∀ x y v w H2, Same H H2 → rep X.K (Fz H2 (av ma Γ σ qs)) v x → rep X.K (Fz H2 (av mb Γ σ qs)) w y → PX A (XW X E H2) (f x y) → K v w H2) :
    wE X a σ H fun v H1 => wE X b σ H1 fun w H2 => K v w H2 := by
  refine da σ H at_ E pe _ ((PX.bind q).mono (fun x q2 v H1 s1 r1 => ?_) fun _ z => z)
  refine db σ H1 (at_.grow s1) E pe _ ((PX.bind q2).mono (fun y q3 w H2 s2 r2 => ?_) fun _ z => z.grow s1)
  exact k x y v w H2 (s1.trans s2) (PyT.mono (av_same s2) r1) r2 (q3.mono (fun _ z => z) fun _ z => z.grow (s1.trans s2))
/-- an operation of flat outcome, by values -/
def OpF (X : Cx) {α β γ : Type} [PyT α] [PyT β] [PyF γ] (r : R2) (f : α → β → R γ) : Prop :=
  ∀ (H : Hp) (x : α) (y : β) (v w : V) (Q : VK) (B : Exc → Prop), rep X.K H v x → rep X.K H w y → PX (fun z => ∀ u, (∀ F, rep X.K F u z) → ∀ H', Same H H' → Q u H') B (f x y) → r v w H Q
theorem ev_op {α β γ : Type} [PyT α] [PyT β] [PyF γ] {op : Operator} {r : R2} {f : α → β → R γ} {m1 : R α} {m2 : R β} {m : R γ} (ho : OpR X (binaryOp op) r) (hf : OpF X r f) (da : Ev X H0 qs ma Γ a m1) (db : Ev X H0 qs mb Γ b m2)
    (he : m = m1.bind fun x => m2.bind fun y => f x y) : Ev X H0 qs md Γ (.BinOp a op b pos) m := by
  intro σ H at_ E pe Q q
  subst he
  refine wE_of (pe_op ho pe_w pe_w) (two da db at_ pe q fun x y v w H2 s rx ry q2 => ?_)
  exact hf H2 x y v w Q _ (av_out rx) (av_out ry) (q2.mono (fun z k u hu H' s' => k u H' (s.trans s') (hu _)) fun _ z => z)
theorem ev_cmp {α β : Type} [PyT α] [PyT β] {op : CmpOp} {r : R2} {f : α → β → R Bool} {m1 : R α} {m2 : R β} {m : R Bool} (ho : OpR X (compareOp op) r) (hf : OpF X r f) (da : Ev X H0 qs ma Γ a m1) (db : Ev X H0 qs mb Γ b m2)
    (he : m = m1.bind fun x => m2.bind fun y => f x y) (hm : behindInMarks op b = false) : Ev X H0 qs md Γ (.Compare a [op] [b] pos) m := by
  intro σ H at_ E pe Q q
  subst he
  refine wE_of (pe_cmpR ho pe_w pe_w hm) (two da db at_ pe q fun x y v w H2 s rx ry q2 => ?_)
  exact hf H2 x y v w Q _ (av_out rx) (av_out ry) (q2.mono (fun z k u hu H' s' => k u H' (s.trans s') (hu _)) fun _ z => z)
theorem et_cmp {α β : Type} [PyT α] [PyT β] {op : CmpOp} {r : R2} {f : α → β → R Bool} {m1 : R α} {m2 : R β} {m : R Bool} (ho : OpR X (compareOp op) r) (hf : OpF X r f) (da : Ev X H0 qs ma Γ a m1) (db : Ev X H0 qs mb Γ b m2)
    (he : m = m1.bind fun x => m2.bind fun y => f x y) (hm : behindInMarks op b = false) : EvT X H0 qs Γ (.Compare a [op] [b] pos) m := by
  intro σ H at_ E pe Q q
  subst he
  refine wT_of (pt_cmpR ho pe_w pe_w hm) (two da db at_ pe q fun x y v w H2 s rx ry q2 => ?_)
  refine hf H2 x y v w _ _ (av_out rx) (av_out ry) (q2.mono (fun z k u hu H' s' => ?_) fun _ z => z)
  exact ⟨z, hu H', k H' (s.trans s')⟩
/-! ### ints -/
def CFd (i j : Int) : Prop := j ≠ 0 ∧ j.natAbs.log2 < 9000
theorem cfd_of {x y : Int} (h : decide (y ≠ 0 ∧ y.natAbs.log2 < 9000) = true) : CFd x y := by
  have h2 : y ≠ 0 ∧ y.natAbs.log2 < 9000 := of_decide_eq_true h
  exact h2
theorem op_fdX : OpR X (binaryOp .FloorDiv) (rI CFd fun i j => .int (i.fdiv j)) := opI fun _ _ _ _ _ _ _ hc q => floordiv_int hc.1 q (.inl (PyProof.noPylong_of_log2 hc.2))
def CPw (i j : Int) : Prop := 0 ≤ j ∧ (Builtin.Int.intBits i : Int) * j ≤ 2 ^ 27
theorem op_pwX : OpR X (binaryOp .Pow) (rI CPw fun i j => .int (i ^ j.toNat)) := opI fun _ _ _ _ _ _ _ hc q => pow_int hc.1 hc.2 q
theorem opf_I0 {g : Int → Int → Int} : OpF X (rI0 fun i j => .int (g i j)) (fun x y => R.ok (g x y)) := fun H x y v w Q B hx hy k => ⟨x, y, hx, hy, k _ (fun _ => rfl) H (Same.refl H)⟩
theorem opf_B0 {g : Int → Int → Bool} : OpF X (rI0 fun i j => .bl (g i j)) (fun x y => R.ok (g x y)) := fun H x y v w Q B hx hy k => ⟨x, y, hx, hy, k _ (fun _ => rfl) H (Same.refl H)⟩
theorem opf_I {C : Int → Int → Prop} {c : Int → Int → Bool} {g : Int → Int → Int} (hc : ∀ x y, c x y = true → C x y) : OpF X (rI C fun i j => .int (g i j)) (fun x y => R.chk (c x y) (g x y)) := fun H x y v w Q B hx hy k => by
  obtain ⟨k1, k2⟩ := PX.chk k
  exact ⟨x, y, hx, hy, hc x y k1, k2 _ (fun _ => rfl) H (Same.refl H)⟩
/-- the bits of a factor, of both -/
def bits (i : Int) : Nat := Builtin.Int.intBits i
def mulR (x y : Int) : R Int := R.chk (decide (bits x + bits y ≤ 134217728)) (x * y)
def divR (x y : Int) : R Int := R.chk (decide (y ≠ 0 ∧ y.natAbs.log2 < 9000)) (x.fdiv y)
def modR (x y : Int) : R Int := R.chk (decide (y ≠ 0)) (x.fmod y)
def powR (x y : Int) : R Int := R.chk (decide (0 ≤ y ∧ (bits x : Int) * y ≤ 134217728)) (x ^ y.toNat)
variable {m1 m2 m : R Int}
theorem ev_add (da : Ev X H0 qs ma Γ a m1) (db : Ev X H0 qs mb Γ b m2) (he : m = m1.bind fun x => m2.bind fun y => .ok (x + y) := by rfl) : Ev X H0 qs md Γ (.BinOp a .Add b pos) m := ev_op op_add opf_I0 da db he
theorem ev_sub (da : Ev X H0 qs ma Γ a m1) (db : Ev X H0 qs mb Γ b m2) (he : m = m1.bind fun x => m2.bind fun y => .ok (x - y) := by rfl) : Ev X H0 qs md Γ (.BinOp a .Sub b pos) m := ev_op op_sub opf_I0 da db he
theorem ev_mul (da : Ev X H0 qs ma Γ a m1) (db : Ev X H0 qs mb Γ b m2) (he : m = m1.bind fun x => m2.bind fun y => mulR x y := by rfl) : Ev X H0 qs md Γ (.BinOp a .Mult b pos) m :=
  ev_op op_mulX (opf_I fun x y h => by have := of_decide_eq_true h; unfold bits at this; unfold CMulX; omega) da db he
theorem ev_div (da : Ev X H0 qs ma Γ a m1) (db : Ev X H0 qs mb Γ b m2) (he : m = m1.bind fun x => m2.bind fun y => divR x y := by rfl) : Ev X H0 qs md Γ (.BinOp a .FloorDiv b pos) m :=
  ev_op op_fdX (opf_I fun x y h => cfd_of h) da db he
theorem ev_mod (da : Ev X H0 qs ma Γ a m1) (db : Ev X H0 qs mb Γ b m2) (he : m = m1.bind fun x => m2.bind fun y => modR x y := by rfl) : Ev X H0 qs md Γ (.BinOp a .Mod b pos) m :=
  ev_op op_modN (opf_I fun x y h => of_decide_eq_true h) da db he
theorem ev_pow (da : Ev X H0 qs ma Γ a m1) (db : Ev X H0 qs mb Γ b m2) (he : m = m1.bind fun x => m2.bind fun y => powR x y := by rfl) : Ev X H0 qs md Γ (.BinOp a .Pow b pos) m :=
  ev_op op_pwX (opf_I fun x y h => by
    obtain ⟨h1, h2⟩ := of_decide_eq_true h
    have e : (2 : Int) ^ 27 = 134217728 := by decide
    exact ⟨h1, by rw [e]; exact h2⟩) da db he
theorem ev_neg (da : Ev X H0 qs ma Γ a m1) (he : m = m1.bind fun x => .ok (-x) := by rfl) : Ev X H0 qs md Γ (.UnaryOp .USub a pos) m := by
  intro σ H at_ E pe Q q
  subst he
  refine wE_of (pe_un un_neg pe_w) (da σ H at_ E pe _ ((PX.bind q).mono (fun x k v H' s r => ⟨x, r, k _ H' s rfl⟩) fun _ z => z))
variable {mB : R Bool}
theorem ev_lt (da : Ev X H0 qs ma Γ a m1) (db : Ev X H0 qs mb Γ b m2) (he : mB = m1.bind fun x => m2.bind fun y => .ok (decide (x < y)) := by rfl) : Ev X H0 qs md Γ (.Compare a [.Lt] [b] pos) mB := ev_cmp op_lt opf_B0 da db he (nomark _)
theorem ev_ge (da : Ev X H0 qs ma Γ a m1) (db : Ev X H0 qs mb Γ b m2) (he : mB = m1.bind fun x => m2.bind fun y => .ok (decide (y ≤ x)) := by rfl) : Ev X H0 qs md Γ (.Compare a [.GtE] [b] pos) mB := ev_cmp op_ge opf_B0 da db he (nomark _)
theorem et_lt (da : Ev X H0 qs ma Γ a m1) (db : Ev X H0 qs mb Γ b m2) (he : mB = m1.bind fun x => m2.bind fun y => .ok (decide (x < y)) := by rfl) : EvT X H0 qs Γ (.Compare a [.Lt] [b] pos) mB := et_cmp op_lt opf_B0 da db he (nomark _)
theorem et_gt (da : Ev X H0 qs ma Γ a m1) (db : Ev X H0 qs mb Γ b m2) (he : mB = m1.bind fun x => m2.bind fun y => .ok (decide (y < x)) := by rfl) : EvT X H0 qs Γ (.Compare a [.Gt] [b] pos) mB := et_cmp op_gt opf_B0 da db he (nomark _)
theorem et_ge (da : Ev X H0 qs ma Γ a m1) (db : Ev X H0 qs mb Γ b m2) (he : mB = m1.bind fun x => m2.bind fun y => .ok (decide (y ≤ x)) := by rfl) : EvT X H0 qs Γ (.Compare a [.GtE] [b] pos) mB := et_cmp op_ge opf_B0 da db he (nomark _)
/-! ### tests -/
theorem et_val {mB : R Bool} (d : Ev X H0 qs md Γ e mB) (hw : ∀ env whole, isTrue e env whole = (do let v ← whole; standAt e.pos; holding [v] (truthy v)) := by intro _ _; rfl) : EvT X H0 qs Γ e mB := by
  intro σ H at_ E pe Q q
  exact wT_of (pt_val pe_w (hw X.env)) (d σ H at_ E pe _ (q.mono (fun b k v H' s r => ⟨b, r, k H' s⟩) fun _ z => z))
theorem et_not {mB m : R Bool} (d : EvT X H0 qs Γ e mB) (he : m = mB.bind fun b => .ok (!b) := by rfl) : EvT X H0 qs Γ (.UnaryOp .Not e pos) m := by
  intro σ H at_ E pe Q q
  subst he
  exact wT_of (pt_not pt_w) (d σ H at_ E pe _ ((PX.bind q).mono (fun b k H' s => k H' s) fun _ z => z))
/-- a test whatever its whole is -/
def EvW (X : Cx) (H0 : Hp) (qs : List Addr) (Γ : List Sl) (e : Expr) (m : R Bool) : Prop :=
  ∀ σ H, At X.K H0 qs Γ σ H → ∀ E : XK, Pas X σ E → ∀ Q : Bool → Hp → Prop, PX (fun b => ∀ H', Same H H' → Q b H') (XW X E H) m →
    ∀ (whole : Sem Value) (pins : List (Addr × Obj)) (s : Shared), Inv X pins σ H s → wpAny (model X.prog X.w) X.A (isTrue e X.env whole) (TP X pins σ Q) X.xe s
theorem EvW.t {m : R Bool} (d : EvW X H0 qs Γ e m) : EvT X H0 qs Γ e m := fun σ H at_ E pe Q q => ⟨fun pins s I => d σ H at_ E pe Q q _ pins s I⟩
variable {ma' mb' m' : R Bool} {rest : List Expr}
theorem ew_and1 (d : EvT X H0 qs Γ a m') : EvW X H0 qs Γ (.BoolOp .And [a] pos) m' := fun σ H at_ E pe Q q wh pins s I =>
  (pw_and1 (pt_w (X := X) (e := a))).run wh pins s σ H Q I (d σ H at_ E pe Q q)
theorem ew_or1 (d : EvT X H0 qs Γ a m') : EvW X H0 qs Γ (.BoolOp .Or [a] pos) m' := fun σ H at_ E pe Q q wh pins s I =>
  (pw_or1 (pt_w (X := X) (e := a))).run wh pins s σ H Q I (d σ H at_ E pe Q q)
theorem ew_and (da : EvT X H0 qs Γ a ma') (db : EvW X H0 qs Γ (.BoolOp .And (b :: rest) pos) mb') (he : m' = ma'.bind fun x => if x = true then mb' else .ok false := by rfl) : EvW X H0 qs Γ (.BoolOp .And (a :: b :: rest) pos) m' := by
  intro σ H at_ E pe Q q wh pins s I
  subst he
  let tb : TT := fun σ H Q => ∀ (wh : Sem Value) (pins : List (Addr × Obj)) (s : Shared), Inv X pins σ H s → wpAny (model X.prog X.w) X.A (isTrue (.BoolOp .And (b :: rest) pos) X.env wh) (TP X pins σ Q) X.xe s
  have pb : PW X (.BoolOp .And (b :: rest) pos) tb := ⟨fun wh pins s σ H Q I h => h wh pins s I⟩
  refine (pw_and (pt_w (X := X) (e := a)) pb).run wh pins s σ H Q I ?_
  refine da σ H at_ E pe _ ((PX.bind q).mono (fun x k H' s' => ?_) fun _ z => z)
  cases x with
  | true =>
    show tb σ H' Q
    exact db σ H' (at_.grow s') E pe Q ((show PX _ _ mb' from k).mono (fun y k2 H2 s2 => k2 H2 (s'.trans s2)) fun _ z => z.grow s')
  | false =>
    show Q false H'
    exact (show ∀ H', Same H H' → Q false H' from k) H' s'
theorem ew_or (da : EvT X H0 qs Γ a ma') (db : EvW X H0 qs Γ (.BoolOp .Or (b :: rest) pos) mb') (he : m' = ma'.bind fun x => if x = true then .ok true else mb' := by rfl) : EvW X H0 qs Γ (.BoolOp .Or (a :: b :: rest) pos) m' := by
  intro σ H at_ E pe Q q wh pins s I
  subst he
  let tb : TT := fun σ H Q => ∀ (wh : Sem Value) (pins : List (Addr × Obj)) (s : Shared), Inv X pins σ H s → wpAny (model X.prog X.w) X.A (isTrue (.BoolOp .Or (b :: rest) pos) X.env wh) (TP X pins σ Q) X.xe s
  have pb : PW X (.BoolOp .Or (b :: rest) pos) tb := ⟨fun wh pins s σ H Q I h => h wh pins s I⟩
  refine (pw_or (pt_w (X := X) (e := a)) pb).run wh pins s σ H Q I ?_
  refine da σ H at_ E pe _ ((PX.bind q).mono (fun x k H' s' => ?_) fun _ z => z)
  cases x with
  | true =>
    show Q true H'
    exact (show ∀ H', Same H H' → Q true H' from k) H' s'
  | false =>
    show tb σ H' Q
    exact db σ H' (at_.grow s') E pe Q ((show PX _ _ mb' from k).mono (fun y k2 H2 s2 => k2 H2 (s'.trans s2)) fun _ z => z.grow s')
/-- and, or, not as values -/
theorem ev_one {op : BoolOp} (d : Ev X H0 qs md Γ a m') : Ev X H0 qs md Γ (.BoolOp op [a] pos) m' := fun σ H at_ E pe Q q => wE_of (pe_one pe_w) (d σ H at_ E pe Q q)
theorem ev_and (da : Ev X H0 qs ma Γ a ma') (db : Ev X H0 qs mb Γ (.BoolOp .And (b :: rest) pos) mb') (he : m' = ma'.bind fun x => if x = true then mb' else .ok false := by rfl) : Ev X H0 qs md Γ (.BoolOp .And (a :: b :: rest) pos) m' := by
  intro σ H at_ E pe Q q
  subst he
  refine wE_of (pe_and pe_w pe_w) (da σ H at_ E pe _ ((PX.bind q).mono (fun x k v H' s' r => ⟨x, r, ?_⟩) fun _ z => z))
  cases x with
  | true =>
    show wE X _ σ H' Q
    exact db σ H' (at_.grow s') E pe Q ((show PX _ _ mb' from k).mono (fun y k2 v2 H2 s2 r2 => k2 v2 H2 (s'.trans s2) r2) fun _ z => z.grow s')
  | false =>
    show Q (.bl false) H'
    exact (show ∀ v H', Same H H' → v = .bl false → Q v H' from k) _ H' s' rfl
theorem ev_not (da : Ev X H0 qs ma Γ a ma') (he : m' = ma'.bind fun x => .ok (!x) := by rfl) : Ev X H0 qs md Γ (.UnaryOp .Not a pos) m' := by
  intro σ H at_ E pe Q q
  subst he
  exact wE_of (pe_not pe_w) (da σ H at_ E pe _ ((PX.bind q).mono (fun x k v H' s' r => ⟨x, r, k _ H' s' rfl⟩) fun _ z => z))
/-- a if t else b -/
theorem ev_ifx {α : Type} [PyT α] {c : Expr} {mc : R Bool} {mx my mz : R α} (dc : EvT X H0 qs Γ c mc) (da : Ev X H0 qs md Γ a mx) (db : Ev X H0 qs md Γ b my) (he : mz = mc.bind fun x => if x = true then mx else my := by rfl) : Ev X H0 qs md Γ (.IfExp c a b pos) mz := by
  intro σ H at_ E pe Q q
  subst he
  refine wE_of (pe_ifExp pt_w pe_w pe_w) (dc σ H at_ E pe _ ((PX.bind q).mono (fun x k H' s' => ?_) fun _ z => z))
  cases x with
  | true =>
    show wE X a σ H' Q
    exact da σ H' (at_.grow s') E pe Q ((show PX _ _ mx from k).mono (fun y k2 v2 H2 s2 r2 => k2 v2 H2 (s'.trans s2) r2) fun _ z => z.grow s')
  | false =>
    show wE X b σ H' Q
    exact db σ H' (at_.grow s') E pe Q ((show PX _ _ my from k).mono (fun y k2 v2 H2 s2 r2 => k2 v2 H2 (s'.trans s2) r2) fun _ z => z.grow s')
end
end Wk
set_option Elab.async false
set_option linter.all false
set_option maxRecDepth 100000
/-! Wk3: lists, tuples, built-ins, calls. -/
namespace Wk
open PySem PySem.Spec PyProof.Rows L2
/-! ### more of typed data -/
theorem repI {K : PySem.W.Frag} {F : Hp} : ∀ {vs : List V} {ns : List Int}, RepL K F vs ns → vs = ns.map V.int
  | [], [], _ => rfl
  | v :: vs, n :: ns, h => by
    have h1 : v = .int n := h.1
    rw [h1, repI h.2] <;> rfl
  | [], _ :: _, h => h.elim
  | _ :: _, [], h => h.elim
theorem iRep {K : PySem.W.Frag} {F : Hp} : ∀ ns : List Int, RepL K F (ns.map V.int) ns
  | [] => trivial
  | n :: ns => ⟨rfl, iRep ns⟩
theorem repS {K : PySem.W.Frag} {F : Hp} : ∀ {vs : List V} {ns : List Str}, RepL K F vs ns → vs = ns.map V.str ∧ ∀ x ∈ ns, PyData.strOk x = true
  | [], [], _ => ⟨rfl, fun _ h => by cases h⟩
  | v :: vs, n :: ns, h => by
    obtain ⟨h1, h2⟩ := h.1
    obtain ⟨h3, h4⟩ := repS h.2
    refine ⟨by rw [h1, h3] <;> rfl, fun x hx => ?_⟩
    rcases List.mem_cons.mp hx with e | e
    · rw [e]; exact h2
    · exact h4 x e
  | [], _ :: _, h => h.elim
  | _ :: _, [], h => h.elim
theorem sRep {K : PySem.W.Frag} {F : Hp} : ∀ ns : List Str, (∀ x ∈ ns, PyData.strOk x = true) → RepL K F (ns.map V.str) ns
  | [], _ => trivial
  | n :: ns, h => ⟨⟨rfl, h n List.mem_cons_self⟩, sRep ns fun x hx => h x (List.mem_cons_of_mem _ hx)⟩
theorem RepL.atI {α : Type} [PyT α] {K : PySem.W.Frag} {F : Hp} {vs : List V} {xs : List α} {i : Int} {x : α} (h : RepL K F vs xs) (e : atI xs i = some x) : ∃ v, L2.atI vs i = some v ∧ rep K F v x := by
  unfold L2.atI at e ⊢
  rw [h.len]
  cases q : ixN xs.length i with
  | none => rw [q] at e; cases e
  | some j =>
    rw [q] at e
    exact h.get' (show xs[j]? = some x from e)
/-- the items of xs[lo:hi] -/
def cutL {α : Type} (xs : List α) (lo hi : Option Int) : List α := (xs.drop (HT.sIx xs.length 0 lo)).take (HT.sIx xs.length xs.length hi - HT.sIx xs.length 0 lo)
theorem RepL.cut {α : Type} [PyT α] {K : PySem.W.Frag} {F : Hp} {vs : List V} {xs : List α} (h : RepL K F vs xs) (lo hi : Option Int) : RepL K F (cutV vs lo hi) (cutL xs lo hi) := by
  unfold cutV cutL
  rw [h.len]
  exact (h.drop _).take _
def ixR {α : Type} (xs : List α) (i : Int) : R α := R.ofO (atI xs i)
section
variable {X : Cx} {H0 : Hp} {qs : List Addr} {md ma mb : Bool} {Γ : List Sl} {a b e : Expr} {es : List Expr} {pos : Pos} {α β γ : Type}
/-! ### one, two things to a thing that stands in the heap -/
theorem ev_ixL [PyT α] {m1 : R (List α)} {m2 : R Int} {m : R α} (da : Ev X H0 qs md Γ a m1) (db : Ev X H0 qs mb Γ b m2) (he : m = m1.bind fun xs => m2.bind fun i => ixR xs i := by rfl) (hs : PlainIx b := by exact fun _ _ => rfl) :
    Ev X H0 qs md Γ (.Subscript a b pos) m := by
  intro σ H at_ E pe Q q
  subst he
  refine wE_of (pe_ix ix_list pe_w pe_w hs) (two da db at_ pe q fun xs i v w H2 s rx ry q2 => ?_)
  obtain ⟨p, vs, e1, e2, e3⟩ := rx
  obtain ⟨x, k1, k2⟩ := PX.ofO q2
  obtain ⟨u, k3, k4⟩ := e3.atI k1
  exact ⟨p, vs, i, u, e1, ry, SqL.of (Fz.out _ _ e2), k3, k2 u H2 s k4⟩
theorem ev_ixS {m1 : R Scr} {m2 m : R Int} (da : Ev X H0 qs ma Γ a m1) (db : Ev X H0 qs mb Γ b m2) (he : m = m1.bind fun xs => m2.bind fun i => ixR xs.l i := by rfl) (hs : PlainIx b := by exact fun _ _ => rfl) :
    Ev X H0 qs md Γ (.Subscript a b pos) m := by
  intro σ H at_ E pe Q q
  subst he
  refine wE_of (pe_ix ix_list pe_w pe_w hs) (two da db at_ pe q fun xs i v w H2 s rx ry q2 => ?_)
  obtain ⟨p, e1, e2⟩ := rx
  obtain ⟨x, k1, k2⟩ := PX.ofO q2
  obtain ⟨u, k3, k4⟩ := (iRep (K := X.K) (F := H2) xs.l).atI k1
  exact ⟨p, _, i, u, e1, ry, sqL_mono Fz.out e2, k3, k2 u H2 s k4⟩
/-- a written place of a tuple of written items -/
def IxP [PyT α] [PyT β] (i : Int) (f : α → Option β) : Prop := ∀ (K : PySem.W.Frag) (F : Hp) (v : V) (x : α) (z : β), rep K F v x → f x = some z → ∃ p xs w, v = .ref p ∧ SqT K F p xs ∧ atI xs i = some w ∧ rep K F w z
theorem ev_ixP [PyT α] [PyT β] {f : α → Option β} {i : Int} {m1 : R α} {m : R β} (hf : IxP i f) (da : Ev X H0 qs md Γ a m1) (db : Ev X H0 qs md Γ b (R.ok i)) (he : m = m1.bind fun t => R.ofO (f t) := by rfl) (hs : PlainIx b := by exact fun _ _ => rfl) :
    Ev X H0 qs md Γ (.Subscript a b pos) m := by
  intro σ H at_ E pe Q q
  have e2 : m = m1.bind fun t => (R.ok i).bind fun j => if j = i then R.ofO (f t) else .stuck := by
    rw [he]
    refine congrArg m1.bind (funext fun t => ?_)
    show _ = if i = i then R.ofO (f t) else .stuck
    rw [if_pos rfl]
  subst e2
  refine wE_of (pe_ix ix_tup pe_w pe_w hs) (two (f := fun t j => if j = i then R.ofO (f t) else .stuck) da db at_ pe q fun x j v w H2 s rx ry q2 => ?_)
  by_cases hj : j = i
  · rw [if_pos hj] at q2
    obtain ⟨z, k1, k2⟩ := PX.ofO q2
    obtain ⟨p, xs, u, e1, e2, e3, e4⟩ := hf _ _ v x z rx k1
    have ry' : w = .int j := ry
    exact ⟨p, xs, i, u, e1, by rw [ry', hj], sqT_mono Fz.out e2, e3, k2 u H2 s e4⟩
  · rw [if_neg hj] at q2
    exact (show False from q2).elim
theorem ix20 [PyT α] [PyT β] : IxP 0 (fun t : α × β => some t.1) := fun K F v x z ⟨p, w, u, h1, h2, h3, h4⟩ e => ⟨p, _, w, h1, h2, rfl, by cases e; exact h3⟩
theorem ix21 [PyT α] [PyT β] : IxP 1 (fun t : α × β => some t.2) := fun K F v x z ⟨p, w, u, h1, h2, h3, h4⟩ e => ⟨p, _, u, h1, h2, rfl, by cases e; exact h4⟩
/-! ### parts of slices -/
def EvP (X : Cx) (H0 : Hp) (qs : List Addr) (Γ : List Sl) (o : Option Expr) (m : R (Option Int)) : Prop := match o with
  | none => m = .ok none
  | some e => ∃ m1, Ev X H0 qs false Γ e m1 ∧ m = m1.bind fun i => .ok (some i)
theorem ep_no : EvP X H0 qs Γ none (.ok none) := rfl
theorem ep_of {m1 : R Int} {m : R (Option Int)} (d : Ev X H0 qs ma Γ e m1) (he : m = m1.bind fun i => .ok (some i) := by rfl) : EvP X H0 qs Γ (some e) m := ⟨m1, d.flat, he⟩
/-- the reading of a part -/
def wP (X : Cx) (o : Option Expr) : TO := match o with
  | none => tNoPart
  | some e => tPart (wE X e)
theorem po_w {o : Option Expr} : PO X o (wP X o) := by
  cases o with
  | none => exact po_none
  | some e => exact po_some pe_w
theorem EvP.use {o : Option Expr} {m : R (Option Int)} (d : EvP X H0 qs Γ o m) {σ : L2.St} {H : Hp} (at_ : At X.K H0 qs Γ σ H) {E : XK} (pe : Pas X σ E) {Q : Option Int → Hp → Prop}
    (q : PX (fun x => ∀ H', Same H H' → Q x H') (XW X E H) m) : wP X o σ H Q := by
  cases o with
  | none =>
    have e : m = .ok none := d
    subst e
    exact q H (Same.refl H)
  | some e =>
    obtain ⟨m1, d1, rfl⟩ := d
    exact d1 σ H at_ E pe _ ((PX.bind q).mono (fun i k v H' s r => ⟨i, r, k H' s⟩) fun _ z => z)
variable {p2 : Pos} {lo hi : Option Expr} {ml mh : R (Option Int)}
theorem ev_cut [PyT α] {m1 m : R (List α)} (da : Ev X H0 qs md Γ a m1) (dl : EvP X H0 qs Γ lo ml) (dh : EvP X H0 qs Γ hi mh) (he : m = m1.bind fun xs => ml.bind fun l => mh.bind fun h => .ok (cutL xs l h) := by rfl) :
    EvO X H0 qs md Γ (.Subscript a (.Slice lo hi none p2) pos) m := by
  intro σ H at_ E pe Q q
  subst he
  refine wE_of (pe_slice sl_list pe_w po_w po_w) (da σ H at_ E pe _ ((PX.bind q).mono (fun xs q2 v H1 s1 r1 => ?_) fun _ z => z))
  refine dl.use (at_.grow s1) pe ((PX.bind q2).mono (fun l q3 H2 s2 => ?_) fun _ z => z.grow s1)
  refine dh.use (at_.grow (s1.trans s2)) pe ((PX.bind q3).mono (fun h q4 H3 s3 => ?_) fun _ z => z.grow (s1.trans s2))
  have s := (s1.trans s2).trans s3
  obtain ⟨p, vs, e1, e2, e3⟩ := PyT.mono (av_same (qs := qs) (Γ := Γ) (σ := σ) (md := md) (s2.trans s3)) r1
  refine ⟨p, vs, e1, SqL.of (Fz.out _ _ e2), fun D hD => ?_⟩
  have h0 : H D = none := s.free hD
  refine (show ∀ p vs H', Same H H' → H p = none → H' p = some (.lst vs) → RepL X.K (Fz H' (p :: av md Γ σ qs)) vs (cutL xs l h) → Q (.ref p) H' from q4) D _ _ (s.trans (same_new hD)) h0 upd_same ?_
  exact (e3.cut l h).mono (Fz.new (same_new hD) fun b hb => (List.mem_cons.mp hb).elim (fun z => .inr (by rw [z]; exact hD)) .inl)
/-! ### new lists of two things -/
theorem fz_new {H : Hp} {D : Addr} {ps : List Addr} {o : HO} (hD : H D = none) : Same (Fz H ps) (Fz (upd H D o) (D :: ps)) := Fz.new (same_new hD) fun b hb => (List.mem_cons.mp hb).elim (fun z => .inr (by rw [z]; exact hD)) .inl
theorem fz_new' {H : Hp} {D : Addr} {ps : List Addr} {o : HO} (hD : H D = none) : Same (Fz H ps) (Fz (upd H D o) ps) := Fz.mono (same_new hD)
theorem ev_cutS {m1 : R Scr} {m : R (List Int)} (da : Ev X H0 qs ma Γ a m1) (dl : EvP X H0 qs Γ lo ml) (dh : EvP X H0 qs Γ hi mh) (he : m = m1.bind fun xs => ml.bind fun l => mh.bind fun h => .ok (cutL xs.l l h) := by rfl) :
    EvO X H0 qs md Γ (.Subscript a (.Slice lo hi none p2) pos) m := by
  intro σ H at_ E pe Q q
  subst he
  refine wE_of (pe_slice sl_list pe_w po_w po_w) (da σ H at_ E pe _ ((PX.bind q).mono (fun xs q2 v H1 s1 r1 => ?_) fun _ z => z))
  refine dl.use (at_.grow s1) pe ((PX.bind q2).mono (fun l q3 H2 s2 => ?_) fun _ z => z.grow s1)
  refine dh.use (at_.grow (s1.trans s2)) pe ((PX.bind q3).mono (fun h q4 H3 s3 => ?_) fun _ z => z.grow (s1.trans s2))
  have s := (s1.trans s2).trans s3
  obtain ⟨p, e1, e2⟩ := PyT.mono (av_same (qs := qs) (Γ := Γ) (σ := σ) (md := ma) (s2.trans s3)) r1
  refine ⟨p, _, e1, sqL_mono Fz.out e2, fun D hD => ?_⟩
  refine (show ∀ p vs H', Same H H' → H p = none → H' p = some (.lst vs) → RepL X.K (Fz H' (p :: av md Γ σ qs)) vs (cutL xs.l l h) → Q (.ref p) H' from q4) D _ _ (s.trans (same_new hD)) (s.free hD) upd_same ?_
  exact (iRep xs.l).cut l h
/-- an operation that gives a new list, by values -/
def OpN (X : Cx) {α β γ : Type} [PyT α] [PyT β] [PyT γ] (r : R2) (f : α → β → R (List γ)) : Prop :=
  ∀ (H : Hp) (ps pt : List Addr) (x : α) (y : β) (v w : V) (Q : VK) (B : Exc → Prop), rep X.K (Fz H ps) v x → rep X.K (Fz H pt) w y → (∀ b ∈ pt, b ∈ ps) →
    PX (fun z => ∀ p vs H', Same H H' → H p = none → H' p = some (.lst vs) → RepL X.K (Fz H' (p :: pt)) vs z → Q (.ref p) H') B (f x y) → r v w H Q
theorem ev_opN {δ : Type} [PyT α] [PyT β] [PyT δ] {op : Operator} {r : R2} {f : α → β → R (List δ)} {m1 : R α} {m2 : R β} {m : R (List δ)} (ho : OpR X (binaryOp op) r) (hf : OpN X r f) (da : Ev X H0 qs md Γ a m1) (db : Ev X H0 qs md Γ b m2)
    (he : m = m1.bind fun x => m2.bind fun y => f x y) : EvO X H0 qs md Γ (.BinOp a op b pos) m := by
  intro σ H at_ E pe Q q
  subst he
  refine wE_of (pe_op ho pe_w pe_w) (two da db at_ pe q fun x y v w H2 s rx ry q2 => ?_)
  exact hf H2 _ _ x y v w Q _ rx ry (fun _ z => z) (q2.mono (fun z k p vs H' s' n l r => k p vs H' (s.trans s') (s.free n) l r) fun _ z => z)
def catR (xs ys : List α) : R (List α) := R.chk (decide (xs.length + ys.length ≤ 16777216)) (xs ++ ys)
theorem ev_cat [PyT α] {m1 m2 m : R (List α)} (da : Ev X H0 qs md Γ a m1) (db : Ev X H0 qs md Γ b m2) (he : m = m1.bind fun x => m2.bind fun y => catR x y := by rfl) : EvO X H0 qs md Γ (.BinOp a .Add b pos) m :=
  ev_opN op_cat (fun H ps pt x y v w Q B hx hy hsub k => by
    obtain ⟨p, vs, rfl, h2, h3⟩ := hx
    obtain ⟨p', ws, rfl, k2, k3⟩ := hy
    obtain ⟨c, k⟩ := PX.chk k
    refine ⟨p, p', vs, ws, rfl, rfl, Fz.out _ _ h2, Fz.out _ _ k2, ?_, fun D hD => k D _ _ (same_new hD) hD upd_same ?_⟩
    · rw [h3.len, k3.len, sizeLine_eq]
      exact of_decide_eq_true c
    · exact ((h3.mono (Fz.sub (Same.refl H) hsub)).app k3).mono (fz_new hD)) da db he
/-- [x] * k -/
def repR (xs : List α) (k : Int) : R (List α) := R.chk (decide (-9223372036854775808 ≤ k ∧ k < 9223372036854775808 ∧ xs.length * k.toNat ≤ 16777216)) (List.replicate k.toNat xs).flatten
theorem ev_rep [PyT α] {m1 m : R (List α)} {m2 : R Int} (da : Ev X H0 qs md Γ a m1) (db : Ev X H0 qs mb Γ b m2) (he : m = m1.bind fun x => m2.bind fun y => repR x y := by rfl) : EvO X H0 qs md Γ (.BinOp a .Mult b pos) m :=
  ev_opN op_rep (fun H ps pt x y v w Q B hx hy hsub k => by
    obtain ⟨p, vs, rfl, h2, h3⟩ := hx
    obtain ⟨c, k⟩ := PX.chk k
    have c' : -9223372036854775808 ≤ y ∧ y < 9223372036854775808 ∧ x.length * y.toNat ≤ 16777216 := of_decide_eq_true c
    refine ⟨p, y, vs, rfl, hy, Fz.out _ _ h2, by omega, by omega, ?_, fun D hD => k D _ _ (same_new hD) hD upd_same ?_⟩
    · rw [h3.len, sizeLine_eq]
      exact c'.2.2
    · exact ((h3.mono (Fz.sub (Same.refl H) hsub)).reps _).mono (fz_new hD)) da db.flat he
/-! ### displays -/
/-- items of one kind -/
def EvLs (X : Cx) (H0 : Hp) (qs : List Addr) (md : Bool) (Γ : List Sl) [PyT α] (es : List Expr) (m : R (List α)) : Prop :=
  ∀ σ H, At X.K H0 qs Γ σ H → ∀ E : XK, Pas X σ E → ∀ Q : List V → Hp → Prop, PX (fun xs => ∀ vs H', Same H H' → vs.length = es.length → RepL X.K (Fz H' (av md Γ σ qs)) vs xs → Q vs H') (XW X E H) m → wA X es σ H Q
theorem el_nil [PyT α] {m : R (List α)} (he : m = .ok [] := by rfl) : EvLs X H0 qs md Γ [] m := fun σ H at_ E pe Q q => by
  subst he
  exact wA_of pa_nil (q [] H (Same.refl H) rfl trivial)
theorem el_cons [PyT α] {m1 : R α} {m2 m : R (List α)} (d : Ev X H0 qs md Γ e m1) (ds : EvLs X H0 qs md Γ es m2) (he : m = m1.bind fun x => m2.bind fun xs => .ok (x :: xs) := by rfl)
    (hs : ∀ env, starEach (e :: es) env = (false, eval e env) :: starEach es env := by intro _; rfl) : EvLs X H0 qs md Γ (e :: es) m := fun σ H at_ E pe Q q => by
  subst he
  refine wA_of (pa_cons pe_w pa_w (hs X.env)) (d σ H at_ E pe _ ((PX.bind q).mono (fun x q2 v H1 s1 r1 => ?_) fun _ z => z))
  refine ds σ H1 (at_.grow s1) E pe _ ((PX.bind q2).mono (fun xs q3 vs H2 s2 hl r2 => ?_) fun _ z => z.grow s1)
  exact (show ∀ vs H', Same H H' → vs.length = (e :: es).length → RepL X.K (Fz H' (av md Γ σ qs)) vs (x :: xs) → Q vs H' from q3) _ H2 (s1.trans s2) (by rw [List.length_cons, List.length_cons, hl]) ⟨PyT.mono (av_same s2) r1, r2⟩
theorem ev_lst [PyT α] {m : R (List α)} (ds : EvLs X H0 qs md Γ es m) (hl : es.length ≤ 100000 := by decide) : EvO X H0 qs md Γ (.List es pos) m := fun σ H at_ E pe Q q =>
  wE_of (pe_lst pa_w) (ds σ H at_ E pe _ (q.mono (fun xs k vs H1 s1 el r1 =>
    ⟨by rw [el, sizeLine_eq]; omega, fun D hD => k D vs _ (s1.trans (same_new hD)) (s1.free hD) upd_same (r1.mono (fz_new hD))⟩) fun _ z => z))
/-! arguments, tuples -/
theorem ea_nil {m : R Unit} (he : m = .ok () := by rfl) : EvA X H0 qs md Γ [] m := fun σ H at_ E pe Q q => by
  subst he
  exact wA_of pa_nil (q [] H (Same.refl H) rfl rfl)
theorem ea_cons {τ : Type} [PyT α] [PyA τ] {m1 : R α} {m2 : R τ} {m : R (α × τ)} (d : Ev X H0 qs md Γ e m1) (ds : EvA X H0 qs md Γ es m2) (he : m = m1.bind fun x => m2.bind fun xs => .ok (x, xs) := by rfl)
    (hs : ∀ env, starEach (e :: es) env = (false, eval e env) :: starEach es env := by intro _; rfl) : EvA X H0 qs md Γ (e :: es) m := fun σ H at_ E pe Q q => by
  subst he
  refine wA_of (pa_cons pe_w pa_w (hs X.env)) (d σ H at_ E pe _ ((PX.bind q).mono (fun x q2 v H1 s1 r1 => ?_) fun _ z => z))
  refine ds σ H1 (at_.grow s1) E pe _ ((PX.bind q2).mono (fun xs q3 vs H2 s2 hl r2 => ?_) fun _ z => z.grow s1)
  exact (show ∀ vs H', Same H H' → vs.length = (e :: es).length → PyA.reps X.K (Fz H' (av md Γ σ qs)) vs (x, xs) → Q vs H' from q3) _ H2 (s1.trans s2) (by rw [List.length_cons, List.length_cons, hl]) ⟨v, vs, rfl, PyT.mono (av_same s2) r1, r2⟩
/-- a tuple display of items told one by one -/
def TupP {τ : Type} [PyA τ] [PyT α] (f : τ → α) : Prop := ∀ (K : PySem.W.Frag) (F : Hp) (vs : List V) (t : τ) (p : Addr), PyA.reps K F vs t → F p = some (.tup vs) → rep K F (.ref p) (f t)
theorem ev_tup {τ : Type} [PyA τ] [PyT α] {f : τ → α} {k : Nat} {m1 : R τ} {m : R α} (hf : TupP f) (ds : EvA X H0 qs md Γ es m1) (he : m = m1.bind fun t => .ok (f t) := by rfl) (hl : es.length ≤ 100000 := by decide) : Ev X H0 qs md Γ (.Tuple es k pos) m := fun σ H at_ E pe Q q => by
  subst he
  refine wE_of (pe_tup pa_w) (ds σ H at_ E pe _ ((PX.bind q).mono (fun t q2 vs H1 s1 el r1 => ⟨by rw [el, sizeLine_eq]; omega, fun D hD => ?_⟩) fun _ z => z))
  have np : D ∉ av md Γ σ qs := fun z => (av_there (X := X) (md := md) (at_.grow s1) D z).ne hD
  exact (show ∀ v H', Same H H' → rep X.K (Fz H' (av md Γ σ qs)) v (f t) → Q v H' from q2) _ _ (s1.trans (same_new hD)) (hf X.K _ vs t D (PyA.mono (fz_new' hD) r1) (Fz.some_iff.mpr ⟨np, upd_same⟩))
theorem tup1 [PyT α] : TupP (fun t : α × Unit => T1.mk t.1) := fun K F vs t p ⟨v, ws, h1, h2, h3⟩ e => by
  have h4 : ws = [] := h3
  subst h1 h4
  exact ⟨p, v, rfl, SqT.of e, h2⟩
theorem tup2 [PyT α] [PyT β] : TupP (fun t : α × β × Unit => (t.1, t.2.1)) := fun K F vs t p ⟨v, ws, h1, h2, v2, ws2, h3, h4, h5⟩ e => by
  have h6 : ws2 = [] := h5
  subst h1 h3 h6
  exact ⟨p, v, v2, rfl, SqT.of e, h2, h4⟩
theorem tup3 [PyT α] [PyT β] [PyT γ] : TupP (fun t : α × β × γ × Unit => T3.mk t.1 t.2.1 t.2.2.1) := fun K F vs t p ⟨v, ws, h1, h2, v2, ws2, h3, h4, v3, ws3, h5, h6, h7⟩ e => by
  have h8 : ws3 = [] := h7
  subst h1 h3 h5 h8
  exact ⟨p, v, v2, v3, rfl, SqT.of e, h2, h4, h6⟩
/-! tuples cut and put together -/
/-! ### built-ins by their names -/
/-- a built-in's call of flat outcome, by values -/
def CbF (X : Cx) {τ γ : Type} [PyA τ] [PyF γ] (r : List V → Hp → VK → Prop) (f : τ → R γ) : Prop :=
  ∀ (H : Hp) (t : τ) (vs : List V) (Q : VK) (B : Exc → Prop), PyA.reps X.K H vs t → PX (fun z => ∀ u, (∀ F, rep X.K F u z) → ∀ H', Same H H' → Q u H') B (f t) → r vs H Q
variable {p : Pos} {x : Str} {id T : String} {r : List V → Hp → VK → Prop}
theorem ev_callB {τ : Type} [PyA τ] [PyF γ] {f : τ → R γ} {m1 : R τ} {m : R γ} (hc : CallR X (.builtin id) r) (hf : CbF X r f) (g : Gn X x) (hm : X.mg x = none) (hv : bootBuiltins x = some (.builtin id)) (hn : x ≠ "__name__")
    (d : EvA X H0 qs ma Γ (a :: es) m1) (he : m = m1.bind f) (hs : ∀ env, starEach (a :: es) env = (false, eval a env) :: starEach es env) (hp : ∀ env, (backTo pos (starEach es env)).any (·.1) = false) :
    Ev X H0 qs md Γ (.Call (.Name x p) (a :: es) [] pos) m := by
  intro σ H at_ E pe Q q
  subst he
  refine wE_of (pe_callB hc g.gl hm hv pa_w hn g.hd (hs X.env) (hp X.env)) (d σ H at_ E pe _ ((PX.bind q).mono (fun t q2 vs H1 s1 _ r1 => ?_) fun _ z => z))
  exact hf H1 t vs Q _ (PyA.mono Fz.out r1) (q2.mono (fun z k u hu H' s' => k u H' (s1.trans s') (hu _)) fun _ z => z)
theorem ev_callTy {τ : Type} [PyA τ] [PyF γ] {f : τ → R γ} {m1 : R τ} {m : R γ} (hc : CallR X (.type T) r) (hf : CbF X r f) (g : Gn X x) (hm : X.mg x = none) (hv : bootBuiltins x = some (.type T)) (hn : x ≠ "__name__")
    (d : EvA X H0 qs ma Γ (a :: es) m1) (he : m = m1.bind f) (hs : ∀ env, starEach (a :: es) env = (false, eval a env) :: starEach es env) (hp : ∀ env, (backTo pos (starEach es env)).any (·.1) = false) :
    Ev X H0 qs md Γ (.Call (.Name x p) (a :: es) [] pos) m := by
  intro σ H at_ E pe Q q
  subst he
  refine wE_of (pe_callTy hc g.gl hm hv pa_w hn g.hd (hs X.env) (hp X.env)) (d σ H at_ E pe _ ((PX.bind q).mono (fun t q2 vs H1 s1 _ r1 => ?_) fun _ z => z))
  exact hf H1 t vs Q _ (PyA.mono Fz.out r1) (q2.mono (fun z k u hu H' s' => k u H' (s1.trans s') (hu _)) fun _ z => z)
theorem one_of [PyT α] {K : PySem.W.Frag} {F : Hp} {vs : List V} {t : α × Unit} (h : PyA.reps K F vs t) : ∃ v, vs = [v] ∧ rep K F v t.1 := by
  obtain ⟨v, ws, h1, h2, h3⟩ := h
  have h4 : ws = [] := h3
  subst h1 h4
  exact ⟨v, rfl, h2⟩
theorem two_of [PyT α] [PyT β] {K : PySem.W.Frag} {F : Hp} {vs : List V} {t : α × β × Unit} (h : PyA.reps K F vs t) : ∃ v w, vs = [v, w] ∧ rep K F v t.1 ∧ rep K F w t.2.1 := by
  obtain ⟨v, ws, h1, h2, w, ws2, h3, h4, h5⟩ := h
  have h6 : ws2 = [] := h5
  subst h1 h3 h6
  exact ⟨v, w, rfl, h2, h4⟩
/-- len of a list, a tuple, a text, the script -/
theorem ev_lenL [PyT α] {m1 : R (List α)} {m : R Int} (g : Gn X "len") (hm : X.mg "len" = none) (d : Ev X H0 qs ma Γ a m1) (he : m = m1.bind fun xs => .ok (xs.length : Int) := by rfl) (hs : ∀ env, starEach [a] env = (false, eval a env) :: starEach [] env := by intro _; rfl) :
    Ev X H0 qs md Γ (.Call (.Name "len" p) [a] [] pos) m :=
  ev_callB (f := fun t => .ok (t.1.length : Int)) (m1 := m1.bind fun x => .ok (x, ())) call_len_seq (fun H t vs Q B h k => by
    obtain ⟨v, rfl, q, ws, rfl, h2, h3⟩ := one_of h
    exact ⟨q, ws, rfl, .inl (SqL.of h2), by rw [h3.len]; exact k _ (fun _ => rfl) H (Same.refl H)⟩) g hm PySem.boot_len (by decide) (ea_cons d ea_nil (by cases m1 <;> rfl) hs) (by rw [he]; cases m1 <;> rfl) hs (fun _ => rfl)
theorem ev_lenS {m1 : R Scr} {m : R Int} (g : Gn X "len") (hm : X.mg "len" = none) (d : Ev X H0 qs ma Γ a m1) (he : m = m1.bind fun xs => .ok (xs.l.length : Int) := by rfl) (hs : ∀ env, starEach [a] env = (false, eval a env) :: starEach [] env := by intro _; rfl) :
    Ev X H0 qs md Γ (.Call (.Name "len" p) [a] [] pos) m :=
  ev_callB (f := fun t => .ok (t.1.l.length : Int)) (m1 := m1.bind fun x => .ok (x, ())) call_len_seq (fun H t vs Q B h k => by
    obtain ⟨v, rfl, q, rfl, h2⟩ := one_of h
    exact ⟨q, _, rfl, .inl h2, by rw [List.length_map]; exact k _ (fun _ => rfl) H (Same.refl H)⟩) g hm PySem.boot_len (by decide) (ea_cons d ea_nil (by cases m1 <;> rfl) hs) (by rw [he]; cases m1 <;> rfl) hs (fun _ => rfl)
end
end Wk
set_option Elab.async false
set_option linter.all false
set_option maxRecDepth 100000
/-! Wk4: more built-ins, ==, in, isinstance, calls of the text's own defs. -/
namespace Wk
open PySem PySem.Spec PyProof.Rows L2
section
variable {X : Cx} {H0 : Hp} {qs : List Addr} {md ma mb : Bool} {Γ : List Sl} {a b e : Expr} {es : List Expr} {pos p : Pos} {α β γ : Type}
variable {x : Str} {idn T : String} {r : List V → Hp → VK → Prop}
/-- what star says of one, two arguments -/
abbrev St1 (a : Expr) : Prop := ∀ env, starEach [a] env = (false, eval a env) :: starEach [] env
abbrev St2 (a b : Expr) : Prop := ∀ env, starEach [a, b] env = (false, eval a env) :: starEach [b] env
theorem ev_b1 [PyT α] [PyF γ] {f : α → R γ} {m1 : R α} {m : R γ} (hc : CallR X (.builtin idn) r)
    (hf : ∀ (H : Hp) (y : α) (v : V) (Q : VK) (B : Exc → Prop), rep X.K H v y → PX (fun z => ∀ u, (∀ F, rep X.K F u z) → ∀ H', Same H H' → Q u H') B (f y) → r [v] H Q)
    (g : Gn X x) (hm : X.mg x = none) (hv : bootBuiltins x = some (.builtin idn)) (hn : x ≠ "__name__") (d : Ev X H0 qs ma Γ a m1) (he : m = m1.bind f) (hs : St1 a) :
    Ev X H0 qs md Γ (.Call (.Name x p) [a] [] pos) m :=
  ev_callB (f := fun t : α × Unit => f t.1) (m1 := m1.bind fun y => .ok (y, ())) hc (fun H t vs Q B h k => by
    obtain ⟨v, rfl, h2⟩ := one_of h
    exact hf H t.1 v Q B h2 k) g hm hv hn (ea_cons d ea_nil (by cases m1 <;> rfl) hs) (by rw [he]; cases m1 <;> rfl) hs (fun _ => rfl)
theorem ev_b2 [PyT α] [PyT β] [PyF γ] {f : α → β → R γ} {m1 : R α} {m2 : R β} {m : R γ} (hc : CallR X (.builtin idn) r)
    (hf : ∀ (H : Hp) (y : α) (z : β) (v w : V) (Q : VK) (B : Exc → Prop), rep X.K H v y → rep X.K H w z → PX (fun z => ∀ u, (∀ F, rep X.K F u z) → ∀ H', Same H H' → Q u H') B (f y z) → r [v, w] H Q)
    (g : Gn X x) (hm : X.mg x = none) (hv : bootBuiltins x = some (.builtin idn)) (hn : x ≠ "__name__") (d : Ev X H0 qs false Γ a m1) (d2 : Ev X H0 qs false Γ b m2) (he : m = m1.bind fun y => m2.bind fun z => f y z) (hs : St2 a b) (hs2 : St1 b) (hp : ∀ env, (backTo pos (starEach [b] env)).any (·.1) = false) :
    Ev X H0 qs md Γ (.Call (.Name x p) [a, b] [] pos) m :=
  ev_callB (f := fun t : α × β × Unit => f t.1 t.2.1) (m1 := m1.bind fun y => m2.bind fun z => .ok (y, z, ())) hc (fun H t vs Q B h k => by
    obtain ⟨v, w, rfl, h2, h3⟩ := two_of h
    exact hf H t.1 t.2.1 v w Q B h2 h3 k) g hm hv hn (ea_cons (m2 := m2.bind fun z => .ok (z, ())) d (ea_cons d2 ea_nil (by cases m2 <;> rfl) hs2) (by cases m1 <;> first | rfl | (cases m2 <;> rfl)) hs) (by rw [he]; cases m1 <;> first | rfl | (cases m2 <;> rfl)) hs hp
/-- the least, the greatest -/
def minL : List Int → Option Int
  | [] => none
  | x :: xs => some (xs.foldl min x)
def maxL : List Int → Option Int
  | [] => none
  | x :: xs => some (xs.foldl max x)
theorem foldl_min : ∀ (xs : List Int) (x : Int), (xs.foldl min x = x ∨ xs.foldl min x ∈ xs) ∧ xs.foldl min x ≤ x ∧ ∀ y ∈ xs, xs.foldl min x ≤ y
  | [], x => ⟨.inl rfl, Int.le_refl _, fun _ h => by cases h⟩
  | z :: xs, x => by
    obtain ⟨h1, h2, h3⟩ := foldl_min xs (min x z)
    refine ⟨?_, ?_, ?_⟩
    · rcases h1 with h | h
      · rw [List.foldl_cons, h]
        by_cases q : x ≤ z
        · exact .inl (by omega)
        · exact .inr (by rw [show min x z = z by omega]; exact List.mem_cons_self)
      · exact .inr (List.mem_cons_of_mem _ h)
    · rw [List.foldl_cons]; omega
    · intro y hy
      rw [List.foldl_cons]
      rcases List.mem_cons.mp hy with e | hy
      · subst e; omega
      · exact h3 y hy
theorem foldl_max : ∀ (xs : List Int) (x : Int), (xs.foldl max x = x ∨ xs.foldl max x ∈ xs) ∧ x ≤ xs.foldl max x ∧ ∀ y ∈ xs, y ≤ xs.foldl max x
  | [], x => ⟨.inl rfl, Int.le_refl _, fun _ h => by cases h⟩
  | z :: xs, x => by
    obtain ⟨h1, h2, h3⟩ := foldl_max xs (max x z)
    refine ⟨?_, ?_, ?_⟩
    · rcases h1 with h | h
      · rw [List.foldl_cons, h]
        by_cases q : z ≤ x
        · exact .inl (by omega)
        · exact .inr (by rw [show max x z = z by omega]; exact List.mem_cons_self)
      · exact .inr (List.mem_cons_of_mem _ h)
    · rw [List.foldl_cons]; omega
    · intro y hy
      rw [List.foldl_cons]
      rcases List.mem_cons.mp hy with e | hy
      · subst e; omega
      · exact h3 y hy
theorem minL_is {xs : List Int} {m : Int} (h : m ∈ xs) (hl : ∀ y ∈ xs, m ≤ y) : minL xs = some m := by
  cases xs with
  | nil => cases h
  | cons x xs =>
    obtain ⟨h1, h2, h3⟩ := foldl_min xs x
    have k1 : m ≤ xs.foldl min x := by
      rcases h1 with e | e
      · rw [e]; exact hl x List.mem_cons_self
      · exact hl _ (List.mem_cons_of_mem _ e)
    have k2 : xs.foldl min x ≤ m := by
      rcases List.mem_cons.mp h with e | e
      · rw [e]; exact h2
      · exact h3 m e
    show some _ = some _
    rw [Int.le_antisymm k2 k1]
theorem maxL_is {xs : List Int} {m : Int} (h : m ∈ xs) (hl : ∀ y ∈ xs, y ≤ m) : maxL xs = some m := by
  cases xs with
  | nil => cases h
  | cons x xs =>
    obtain ⟨h1, h2, h3⟩ := foldl_max xs x
    have k1 : xs.foldl max x ≤ m := by
      rcases h1 with e | e
      · rw [e]; exact hl x List.mem_cons_self
      · exact hl _ (List.mem_cons_of_mem _ e)
    have k2 : m ≤ xs.foldl max x := by
      rcases List.mem_cons.mp h with e | e
      · rw [e]; exact h2
      · exact h3 m e
    show some _ = some _
    rw [Int.le_antisymm k1 k2]
theorem ev_minL {m1 : R (List Int)} {m : R Int} (hc : X.calm = true) (g : Gn X "min") (hm : X.mg "min" = none) (d : Ev X H0 qs ma Γ a m1) (he : m = m1.bind fun xs => R.ofO (minL xs) := by rfl) (hs : St1 a := by intro _; rfl) : Ev X H0 qs md Γ (.Call (.Name "min" p) [a] [] pos) m :=
  ev_b1 (f := fun xs => R.ofO (minL xs)) (cr_min hc) (fun H y v Q B h k => by
    obtain ⟨q, ws, rfl, h2, h3⟩ := h
    rw [repI h3] at h2
    obtain ⟨z, k1, k2⟩ := PX.ofO k
    refine ⟨q, y, rfl, SqL.of h2, by cases y <;> simp [minL] at k1 ⊢, fun m hm hl => ?_⟩
    rw [minL_is hm hl] at k1
    cases k1
    exact k2 _ (fun _ => rfl) H (Same.refl H)) g hm (by decide +kernel) (by decide) d he hs
theorem ev_maxL {m1 : R (List Int)} {m : R Int} (hc : X.calm = true) (g : Gn X "max") (hm : X.mg "max" = none) (d : Ev X H0 qs ma Γ a m1) (he : m = m1.bind fun xs => R.ofO (maxL xs) := by rfl) (hs : St1 a := by intro _; rfl) : Ev X H0 qs md Γ (.Call (.Name "max" p) [a] [] pos) m :=
  ev_b1 (f := fun xs => R.ofO (maxL xs)) (cr_max hc) (fun H y v Q B h k => by
    obtain ⟨q, ws, rfl, h2, h3⟩ := h
    rw [repI h3] at h2
    obtain ⟨z, k1, k2⟩ := PX.ofO k
    refine ⟨q, y, rfl, SqL.of h2, by cases y <;> simp [maxL] at k1 ⊢, fun m hm hl => ?_⟩
    rw [maxL_is hm hl] at k1
    cases k1
    exact k2 _ (fun _ => rfl) H (Same.refl H)) g hm (by decide +kernel) (by decide) d he hs
theorem ev_min2 {m1 m2 m : R Int} (hc : X.calm = true) (g : Gn X "min") (hm : X.mg "min" = none) (d : Ev X H0 qs ma Γ a m1) (d2 : Ev X H0 qs mb Γ b m2) (he : m = m1.bind fun y => m2.bind fun z => .ok (min y z) := by rfl) (hs : St2 a b := by intro _; rfl) (hs2 : St1 b := by intro _; rfl)
    (hp : ∀ env, (backTo pos (starEach [b] env)).any (·.1) = false := by intro _; rfl) : Ev X H0 qs md Γ (.Call (.Name "min" p) [a, b] [] pos) m :=
  ev_b2 (f := fun y z => .ok (min y z)) (call_min2 hc) (fun H y z v w Q B hv hw k => ⟨y, z, by rw [show v = .int y from hv, show w = .int z from hw], by
    have e : (if z < y then z else y) = min y z := by split <;> omega
    rw [e]
    exact k _ (fun _ => rfl) H (Same.refl H)⟩) g hm (by decide +kernel) (by decide) d.flat d2.flat he hs hs2 hp
theorem ev_max2 {m1 m2 m : R Int} (hc : X.calm = true) (g : Gn X "max") (hm : X.mg "max" = none) (d : Ev X H0 qs ma Γ a m1) (d2 : Ev X H0 qs mb Γ b m2) (he : m = m1.bind fun y => m2.bind fun z => .ok (max y z) := by rfl) (hs : St2 a b := by intro _; rfl) (hs2 : St1 b := by intro _; rfl)
    (hp : ∀ env, (backTo pos (starEach [b] env)).any (·.1) = false := by intro _; rfl) : Ev X H0 qs md Γ (.Call (.Name "max" p) [a, b] [] pos) m :=
  ev_b2 (f := fun y z => .ok (max y z)) (call_max2 hc) (fun H y z v w Q B hv hw k => ⟨y, z, by rw [show v = .int y from hv, show w = .int z from hw], by
    have e : (if z > y then z else y) = max y z := by split <;> omega
    rw [e]
    exact k _ (fun _ => rfl) H (Same.refl H)⟩) g hm (by decide +kernel) (by decide) d.flat d2.flat he hs hs2 hp
/-! ### built-ins that give a new list -/
theorem ev_bN [PyT α] [PyT β] {f : α → R (List β)} {m1 : R α} {m : R (List β)} (hc : CallR X (.builtin idn) r)
    (hf : ∀ (H : Hp) (ps : List Addr) (y : α) (v : V) (Q : VK) (B : Exc → Prop), rep X.K (Fz H ps) v y → PX (fun z => ∀ p vs H', Same H H' → H p = none → H' p = some (.lst vs) → RepL X.K (Fz H' (p :: ps)) vs z → Q (.ref p) H') B (f y) → r [v] H Q)
    (g : Gn X x) (hm : X.mg x = none) (hv : bootBuiltins x = some (.builtin idn)) (hn : x ≠ "__name__") (d : Ev X H0 qs md Γ a m1) (he : m = m1.bind f) (hs : St1 a) :
    EvO X H0 qs md Γ (.Call (.Name x p) [a] [] pos) m := fun σ H at_ E pe Q q => by
  subst he
  refine wE_of (pe_callB hc g.gl hm hv (pa_cons pe_w pa_nil (hs X.env)) hn g.hd (hs X.env) rfl) (d σ H at_ E pe _ ((PX.bind q).mono (fun y q2 v H1 s1 r1 => ?_) fun _ z => z))
  exact hf H1 _ y v Q _ r1 (q2.mono (fun z k p vs H' s' n l r => k p vs H' (s1.trans s') (s1.free n) l r) fun _ z => z)
theorem call_tuple_ofD {X : Cx} : CallR X (.type "tuple") (fun xs H Q => ∃ p ys, xs = [.ref p] ∧ SqL X.K H p ys ∧ ∀ l (o : Obj), H l = none → o.cls = .type "tuple" → o.dict = none → Q (.ref l) (upd H l (.frz o (.tup ys)))) := by
  intro pins s σ H xs us Q I r h
  obtain ⟨p, ys, rfl, hq, q⟩ := h
  obtain ⟨u, rfl, rx⟩ := vals1 r
  cases rx
  obtain ⟨its, r', pl, hz⟩ := I.list hq
  have hlen := r'.length
  refine call_tuple_list pl.isList (fun h' kp => ?_) (by simp only [List.size_toArray] <;> omega)
  have I1 : Inv X pins σ H { s with heap := h' } := I.kept (t' := s.toks) kp
  have I2 : Inv X pins σ (upd H h'.objs.size (.frz { cls := .type "tuple", data := .seq its.toArray } (.tup ys))) { s with heap := h'.push { cls := .type "tuple", data := .seq its.toArray } } :=
    I1.laid (t' := s.toks) (fun b o e => Heap.get?_push_of_some _ e) (Nat.le_refl _) (show ObjOk X.prog X.w _ _ _ (.frz _ (.tup ys)) from ⟨Heap.get?_push_size _ rfl, hz, its, r', IsTup.new _ _⟩)
  exact ⟨.ref h'.objs.size, _, I2, rfl, q _ _ (I1.hok.fresh (Nat.le_refl _)) rfl rfl⟩
/-- tuple(a list) -/
theorem ev_tupL [PyT α] {m1 : R (List α)} {m : R (Tu α)} (g : Gn X "tuple") (hm : X.mg "tuple" = none) (d : Ev X H0 qs md Γ a m1) (he : m = m1.bind fun xs => .ok (Tu.mk xs) := by rfl) (hs : St1 a := by intro _; rfl) : Ev X H0 qs md Γ (.Call (.Name "tuple" p) [a] [] pos) m := fun σ H at_ E pe Q q => by
  subst he
  refine wE_of (pe_callTy call_tuple_ofD g.gl hm (by decide +kernel) (pa_cons pe_w pa_nil (hs X.env)) (by decide) g.hd (hs X.env) rfl) (d σ H at_ E pe _ ((PX.bind q).mono (fun y q2 v H1 s1 r1 => ?_) fun _ z => z))
  obtain ⟨q', ws, rfl, h2, h3⟩ := r1
  refine ⟨q', ws, rfl, SqL.of (Fz.out _ _ h2), fun D o hD hc hd => ?_⟩
  have np : D ∉ av md Γ σ qs := fun z => (av_there (X := X) (md := md) (at_.grow s1) D z).ne hD
  have hf : Fz (upd H1 D (.frz o (.tup ws))) (av md Γ σ qs) D = some (.frz o (.tup ws)) := Fz.some_iff.mpr ⟨np, upd_same⟩
  exact (show ∀ v H', Same H H' → rep X.K (Fz H' (av md Γ σ qs)) v (Tu.mk y) → Q v H' from q2) _ _ (s1.trans (same_new hD)) ⟨D, ws, rfl, ⟨.inl (.inr ⟨o, hf⟩), .inl ⟨o, _, hf, hc, hd⟩⟩, h3.mono (fz_new' hD)⟩
end
end Wk
set_option Elab.async false
set_option linter.all false
set_option maxRecDepth 100000
/-! Wk5: ==, in, is None, isinstance, calls of the text's own defs. -/
namespace Wk
open PySem PySem.Spec PyProof.Rows L2
/-! ### data for == -/
class PyD (α : Type) extends PyT α where
  toD : α → PyData
  dp : ∀ {K : PySem.W.Frag} {H : Hp} {v : V} {x : α}, rep K H v x → Dp K H v (toD x) ∧ (toD x).canLay0 = true
  dep : Nat
  depth : ∀ x : α, (toD x).depth ≤ dep
/-- == is equality -/
class PyQ (α : Type) extends PyD α where
  eq : ∀ x y : α, PyData.eqv (toD x) (toD y) = true ↔ x = y
  nn : ∀ x : α, PyData.eqv .none (toD x) = false ∧ PyData.eqv (toD x) .none = false
theorem dpAll {α : Type} [PyD α] {K : PySem.W.Frag} {H : Hp} : ∀ {vs : List V} {xs : List α}, RepL K H vs xs → DpAll K H vs (xs.map PyD.toD) ∧ PyData.canLayAll0 (xs.map PyD.toD) = true
  | [], [], _ => ⟨.nil, by simp [PyData.canLayAll0]⟩
  | v :: vs, x :: xs, h => by
    obtain ⟨h1, h2⟩ := PyD.dp h.1
    obtain ⟨h3, h4⟩ := dpAll h.2
    exact ⟨.cons h1 h3, by simp only [List.map_cons, PyData.canLayAll0, h2, h4, Bool.and_true]⟩
  | [], _ :: _, h => h.elim
  | _ :: _, [], h => h.elim
theorem depAll {α : Type} [d : PyD α] : ∀ xs : List α, PyData.depthAll (xs.map d.toD) ≤ d.dep
  | [] => by simp [PyData.depthAll]
  | x :: xs => by
    have h1 := d.depth x
    have h2 := depAll xs
    rw [List.map_cons, PyData.depthAll]
    omega
theorem eqAll {α : Type} [q : PyQ α] : ∀ xs ys : List α, PyData.eqvAll (xs.map q.toD) (ys.map q.toD) = true ↔ xs = ys
  | [], [] => by simp [PyData.eqvAll]
  | [], y :: ys => by simp [PyData.eqvAll]
  | x :: xs, [] => by simp [PyData.eqvAll]
  | x :: xs, y :: ys => by
    rw [List.map_cons, List.map_cons, PyData.eqvAll, Bool.and_eq_true, q.eq, eqAll xs ys]
    exact ⟨fun h => by rw [h.1, h.2], fun h => List.cons.inj h⟩
instance : PyQ Int where
  toD := .int
  dp := fun h => ⟨by rw [show _ = V.int _ from h]; exact .int _, by simp [PyData.canLay0]⟩
  dep := 0
  depth := fun _ => by simp [PyData.depth]
  eq := fun x y => by rw [PyData.eqv]; exact beq_iff_eq
  nn := fun _ => ⟨by simp [PyData.eqv], by simp [PyData.eqv]⟩
instance : PyQ Bool where
  toD := .bool
  dp := fun h => ⟨by rw [show _ = V.bl _ from h]; exact .bl _, by simp [PyData.canLay0]⟩
  dep := 0
  depth := fun _ => by simp [PyData.depth]
  eq := fun x y => by rw [PyData.eqv]; exact beq_iff_eq
  nn := fun _ => ⟨by simp [PyData.eqv], by simp [PyData.eqv]⟩
instance : PyQ Str where
  toD := .str
  dp := fun h => ⟨by rw [show _ = V.str _ from h.1]; exact .str _, by simp only [PyData.canLay0]; exact h.2⟩
  dep := 0
  depth := fun _ => by simp [PyData.depth]
  eq := fun x y => by rw [PyData.eqv]; exact beq_iff_eq
  nn := fun _ => ⟨by simp [PyData.eqv], by simp [PyData.eqv]⟩
instance {α : Type} [q : PyQ α] : PyQ (List α) where
  toD := fun xs => .list (xs.map q.toD)
  dp := fun {K H v x} h => by
    obtain ⟨a, vs, h1, h2, h3⟩ := h
    obtain ⟨d1, d2⟩ := dpAll h3
    exact ⟨by rw [h1]; exact .lst (SqL.of h2) d1, by simp only [PyData.canLay0]; exact d2⟩
  dep := q.dep + 1
  depth := fun xs => by
    have h := depAll xs
    simp only [PyData.depth]
    omega
  eq := fun x y => by rw [PyData.eqv, eqAll]
  nn := fun _ => ⟨by simp [PyData.eqv], by simp [PyData.eqv]⟩
instance {α : Type} [q : PyQ α] : PyQ (Tu α) where
  toD := fun xs => .tuple (xs.l.map q.toD)
  dp := fun {K H v x} h => by
    obtain ⟨a, vs, h1, h2, h3⟩ := h
    obtain ⟨d1, d2⟩ := dpAll h3
    exact ⟨by rw [h1]; exact .tup h2.1 d1, by simp only [PyData.canLay0]; exact d2⟩
  dep := q.dep + 1
  depth := fun xs => by
    have h := depAll xs.l
    simp only [PyData.depth]
    omega
  eq := fun x y => by
    rw [PyData.eqv, eqAll]
    exact ⟨fun h => by cases x; cases y; exact congrArg Tu.mk h, fun h => by rw [h]⟩
  nn := fun _ => ⟨by simp [PyData.eqv], by simp [PyData.eqv]⟩
instance {α : Type} [q : PyQ α] : PyQ (Tv α) where
  toD := fun xs => .tuple (xs.l.map q.toD)
  dp := fun {K H v x} h => by
    obtain ⟨a, vs, h1, h2, h3⟩ := h
    obtain ⟨d1, d2⟩ := dpAll h3
    exact ⟨by rw [h1]; exact .tup (SqT.of h2) d1, by simp only [PyData.canLay0]; exact d2⟩
  dep := q.dep + 1
  depth := fun xs => by
    have h := depAll xs.l
    simp only [PyData.depth]
    omega
  eq := fun x y => by
    rw [PyData.eqv, eqAll]
    exact ⟨fun h => by cases x; cases y; exact congrArg Tv.mk h, fun h => by rw [h]⟩
  nn := fun _ => ⟨by simp [PyData.eqv], by simp [PyData.eqv]⟩
instance {α β : Type} [q : PyQ α] [u : PyQ β] : PyQ (α × β) where
  toD := fun t => .tuple [q.toD t.1, u.toD t.2]
  dp := fun {K H v x} h => by
    obtain ⟨a, w, z, h1, h2, h3, h4⟩ := h
    obtain ⟨d1, d2⟩ := PyD.dp h3
    obtain ⟨e1, e2⟩ := PyD.dp h4
    exact ⟨by rw [h1]; exact .tup h2 (.cons d1 (.cons e1 .nil)), by simp only [PyData.canLay0, PyData.canLayAll0, d2, e2, Bool.and_true]⟩
  dep := max q.dep u.dep + 1
  depth := fun t => by
    have h := q.depth t.1
    have h2 := u.depth t.2
    simp only [PyData.depth, PyData.depthAll]
    omega
  eq := fun x y => by
    rw [PyData.eqv, PyData.eqvAll, PyData.eqvAll, PyData.eqvAll, Bool.and_true, Bool.and_eq_true, q.eq, u.eq]
    exact ⟨fun h => Prod.ext h.1 h.2, fun h => by rw [h]; exact ⟨rfl, rfl⟩⟩
  nn := fun _ => ⟨by simp [PyData.eqv], by simp [PyData.eqv]⟩
instance {α : Type} [q : PyQ α] : PyQ (T1 α) where
  toD := fun t => .tuple [q.toD t.a]
  dp := fun {K H v x} h => by
    obtain ⟨a, w, h1, h2, h3⟩ := h
    obtain ⟨d1, d2⟩ := PyD.dp h3
    exact ⟨by rw [h1]; exact .tup h2 (.cons d1 .nil), by simp only [PyData.canLay0, PyData.canLayAll0, d2, Bool.and_true]⟩
  dep := q.dep + 1
  depth := fun t => by
    have h := q.depth t.a
    simp only [PyData.depth, PyData.depthAll]
    omega
  eq := fun x y => by
    rw [PyData.eqv, PyData.eqvAll, PyData.eqvAll, Bool.and_true, q.eq]
    exact ⟨fun h => by cases x; cases y; exact congrArg T1.mk h, fun h => by rw [h]⟩
  nn := fun _ => ⟨by simp [PyData.eqv], by simp [PyData.eqv]⟩
instance {α β γ : Type} [q : PyQ α] [u : PyQ β] [w : PyQ γ] : PyQ (T3 α β γ) where
  toD := fun t => .tuple [q.toD t.a, u.toD t.b, w.toD t.c]
  dp := fun {K H v x} h => by
    obtain ⟨a, w, z, y, h1, h2, h3, h4, h5⟩ := h
    obtain ⟨d1, d2⟩ := PyD.dp h3
    obtain ⟨e1, e2⟩ := PyD.dp h4
    obtain ⟨f1, f2⟩ := PyD.dp h5
    exact ⟨by rw [h1]; exact .tup h2 (.cons d1 (.cons e1 (.cons f1 .nil))), by simp only [PyData.canLay0, PyData.canLayAll0, d2, e2, f2, Bool.and_true]⟩
  dep := max (max q.dep u.dep) w.dep + 1
  depth := fun t => by
    have h := q.depth t.a
    have h2 := u.depth t.b
    have h3 := w.depth t.c
    simp only [PyData.depth, PyData.depthAll]
    omega
  eq := fun x y => by
    rw [PyData.eqv, PyData.eqvAll, PyData.eqvAll, PyData.eqvAll, PyData.eqvAll, Bool.and_true, Bool.and_eq_true, Bool.and_eq_true, q.eq, u.eq, w.eq]
    refine ⟨fun h => ?_, fun h => by rw [h]; exact ⟨rfl, rfl, rfl⟩⟩
    cases x; cases y
    simp only [T3.mk.injEq]
    exact h
  nn := fun _ => ⟨by simp [PyData.eqv], by simp [PyData.eqv]⟩
/-- nothing, or a thing -/
def optD {α : Type} [q : PyQ α] : Option α → PyData
  | none => .none
  | some a => q.toD a
instance {α : Type} [q : PyQ α] : PyD (Option α) where
  toD := optD
  dp := fun {K H v x} h => by
    cases x with
    | none => exact ⟨by rw [show v = V.non from h]; exact .non, by simp [optD, PyData.canLay0]⟩
    | some a => exact PyD.dp (α := α) h
  dep := q.dep
  depth := fun x => by
    cases x with
    | none => simp [optD, PyData.depth]
    | some a => exact q.depth a
section
variable {X : Cx} {H0 : Hp} {qs : List Addr} {md ma mb : Bool} {Γ : List Sl} {a b e : Expr} {es : List Expr} {pos p : Pos} {α β γ : Type}
def pyEq [PyD α] (x y : α) : Bool := PyData.eqv (PyD.toD x) (PyD.toD y)
theorem opf_eqD [d : PyD α] (hd : d.dep ≤ 64) : OpF X (rEqD X.K) (fun x y : α => R.ok (pyEq x y)) := fun H x y v w Q B hx hy k => by
  obtain ⟨d1, d2⟩ := PyD.dp hx
  obtain ⟨e1, e2⟩ := PyD.dp hy
  have sh : ∀ z : α, (PyD.toD z).canLay0 = true → SeqAt.shaped (PyD.toD z) = true := fun z h => by
    unfold SeqAt.shaped
    rw [h, decide_eq_true (Nat.le_trans (d.depth z) hd)] <;> rfl
  exact ⟨_, _, d1, e1, sh _ d2, sh _ e2, k _ (fun _ => rfl) H (Same.refl H)⟩
theorem opf_neD [d : PyD α] (hd : d.dep ≤ 64) : OpF X (rNeD X.K) (fun x y : α => R.ok (!pyEq x y)) := fun H x y v w Q B hx hy k => by
  obtain ⟨d1, d2⟩ := PyD.dp hx
  obtain ⟨e1, e2⟩ := PyD.dp hy
  have sh : ∀ z : α, (PyD.toD z).canLay0 = true → SeqAt.shaped (PyD.toD z) = true := fun z h => by
    unfold SeqAt.shaped
    rw [h, decide_eq_true (Nat.le_trans (d.depth z) hd)] <;> rfl
  exact ⟨_, _, d1, e1, sh _ d2, sh _ e2, k _ (fun _ => rfl) H (Same.refl H)⟩
variable {mB : R Bool}
theorem ev_eq [d : PyD α] {m1 m2 : R α} (hu : X.A.units + 64 < cLine) (da : Ev X H0 qs ma Γ a m1) (db : Ev X H0 qs mb Γ b m2) (he : mB = m1.bind fun x => m2.bind fun y => .ok (pyEq x y) := by rfl) (hd : d.dep ≤ 64 := by decide) : Ev X H0 qs md Γ (.Compare a [.Eq] [b] pos) mB := ev_cmp (op_eqD hu) (opf_eqD hd) da db he (nomark _)
theorem ev_ne [d : PyD α] {m1 m2 : R α} (hu : X.A.units + 64 < cLine) (da : Ev X H0 qs ma Γ a m1) (db : Ev X H0 qs mb Γ b m2) (he : mB = m1.bind fun x => m2.bind fun y => .ok (!pyEq x y) := by rfl) (hd : d.dep ≤ 64 := by decide) : Ev X H0 qs md Γ (.Compare a [.NotEq] [b] pos) mB := ev_cmp (op_neD hu) (opf_neD hd) da db he (nomark _)
theorem et_eq [d : PyD α] {m1 m2 : R α} (hu : X.A.units + 64 < cLine) (da : Ev X H0 qs ma Γ a m1) (db : Ev X H0 qs mb Γ b m2) (he : mB = m1.bind fun x => m2.bind fun y => .ok (pyEq x y) := by rfl) (hd : d.dep ≤ 64 := by decide) : EvT X H0 qs Γ (.Compare a [.Eq] [b] pos) mB := et_cmp (op_eqD hu) (opf_eqD hd) da db he (nomark _)
theorem et_ne [d : PyD α] {m1 m2 : R α} (hu : X.A.units + 64 < cLine) (da : Ev X H0 qs ma Γ a m1) (db : Ev X H0 qs mb Γ b m2) (he : mB = m1.bind fun x => m2.bind fun y => .ok (!pyEq x y) := by rfl) (hd : d.dep ≤ 64 := by decide) : EvT X H0 qs Γ (.Compare a [.NotEq] [b] pos) mB := et_cmp (op_neD hu) (opf_neD hd) da db he (nomark _)
theorem pyEq_q [q : PyQ α] (x y : α) : pyEq x y = true ↔ x = y := q.eq x y
/-! ### in -/
theorem inV_ints (x : Int) : ∀ ns : List Int, inV (.int x) (ns.map V.int) = decide (x ∈ ns)
  | [] => rfl
  | n :: ns => by
    have ih := inV_ints x ns
    unfold inV at ih ⊢
    rw [List.map_cons, List.any_cons, ih]
    have e : eqV (.int n) (.int x) = (n == x) := rfl
    rw [e, Bool.eq_iff_iff, Bool.or_eq_true, decide_eq_true_eq, decide_eq_true_eq, List.mem_cons, beq_iff_eq]
    exact ⟨fun h => h.imp Eq.symm id, fun h => h.imp Eq.symm id⟩
theorem flat_ints : ∀ ns : List Int, (ns.map V.int).all flatV = true
  | [] => rfl
  | n :: ns => by rw [List.map_cons, List.all_cons, flat_ints ns]; rfl
theorem opf_inL : OpF X (rIn X.K false) (fun (x : Int) (xs : List Int) => R.ok (decide (x ∈ xs))) := fun H x y v w Q B hx hy k => by
  obtain ⟨q, ws, rfl, h2, h3⟩ := hy
  rw [repI h3] at h2
  have hv : v = .int x := hx
  subst hv
  exact ⟨q, _, rfl, .inl (SqL.of h2), rfl, flat_ints y, by rw [inV_ints]; exact k _ (fun _ => rfl) H (Same.refl H)⟩
variable {m1 : R Int} {m2 : R (List Int)} {mp : R (Int × Int)}
abbrev NoMark (op : CmpOp) (b : Expr) : Prop := behindInMarks op b = false
theorem ev_inL (da : Ev X H0 qs ma Γ a m1) (db : Ev X H0 qs mb Γ b m2) (he : mB = m1.bind fun x => m2.bind fun y => .ok (decide (x ∈ y)) := by rfl) (hn : NoMark .In b := by rfl) : Ev X H0 qs md Γ (.Compare a [.In] [b] pos) mB := ev_cmp op_in_seq opf_inL da db he hn
theorem et_inL (da : Ev X H0 qs ma Γ a m1) (db : Ev X H0 qs mb Γ b m2) (he : mB = m1.bind fun x => m2.bind fun y => .ok (decide (x ∈ y)) := by rfl) (hn : NoMark .In b := by rfl) : EvT X H0 qs Γ (.Compare a [.In] [b] pos) mB := et_cmp op_in_seq opf_inL da db he hn
/-! ### kinds -/
class PyK (α : Type) [PyT α] where
  ty : String
  is : ∀ {K : PySem.W.Frag} {H : Hp} {v : V} {x : α}, rep K H v x → TyX K H v (.type ty)
  nn : ∀ {K : PySem.W.Frag} {H : Hp} {v : V} {x : α}, rep K H v x → v ≠ .non
theorem ty_tup {K : PySem.W.Frag} {H : Hp} {p : Addr} {xs : List V} (h : SqT K H p xs) : TyX K H (.ref p) (.type "tuple") := by
  rcases h with (h | ⟨o, h⟩) | ⟨o, its, n, h1, h2, _⟩
  · exact .base (.tup h)
  · exact .fTuple h
  · exact .kTuple h1 h2
instance : PyK Int where
  ty := "int"
  is := fun h => by rw [show _ = V.int _ from h]; exact .base (.int _)
  nn := fun h => by rw [show _ = V.int _ from h]; exact fun z => by cases z
instance : PyK Bool where
  ty := "bool"
  is := fun h => by rw [show _ = V.bl _ from h]; exact .base (.bl _)
  nn := fun h => by rw [show _ = V.bl _ from h]; exact fun z => by cases z
instance : PyK Str where
  ty := "str"
  is := fun h => by rw [show _ = V.str _ from h.1]; exact .base (.str _)
  nn := fun h => by rw [show _ = V.str _ from h.1]; exact fun z => by cases z
instance [PyT α] : PyK (List α) where
  ty := "list"
  is := fun ⟨a, vs, h1, h2, _⟩ => by rw [h1]; exact .base (.lst h2)
  nn := fun ⟨a, vs, h1, h2, _⟩ => by rw [h1]; exact fun z => by cases z
instance [PyT α] : PyK (Tu α) where
  ty := "tuple"
  is := fun ⟨a, vs, h1, h2, _⟩ => by rw [h1]; exact ty_tup h2.1
  nn := fun ⟨a, vs, h1, h2, _⟩ => by rw [h1]; exact fun z => by cases z
instance [PyT α] : PyK (Tv α) where
  ty := "tuple"
  is := fun ⟨a, vs, h1, h2, _⟩ => by rw [h1]; exact ty_tup (SqT.of h2)
  nn := fun ⟨a, vs, h1, h2, _⟩ => by rw [h1]; exact fun z => by cases z
instance [PyT α] [PyT β] : PyK (α × β) where
  ty := "tuple"
  is := fun ⟨a, _, _, h1, h2, _⟩ => by rw [h1]; exact ty_tup h2
  nn := fun ⟨a, _, _, h1, h2, _⟩ => by rw [h1]; exact fun z => by cases z
instance [PyT α] : PyK (T1 α) where
  ty := "tuple"
  is := fun ⟨a, _, h1, h2, _⟩ => by rw [h1]; exact ty_tup h2
  nn := fun ⟨a, _, h1, h2, _⟩ => by rw [h1]; exact fun z => by cases z
instance [PyT α] [PyT β] [PyT γ] : PyK (T3 α β γ) where
  ty := "tuple"
  is := fun ⟨a, _, _, _, h1, h2, _⟩ => by rw [h1]; exact ty_tup h2
  nn := fun ⟨a, _, _, _, h1, h2, _⟩ => by rw [h1]; exact fun z => by cases z
theorem et_isN [PyT α] [k : PyK α] {m1 : R (Option α)} {j : Nat} {pc : Pos} (d : Ev X H0 qs ma Γ a m1) (he : mB = m1.bind fun x => .ok x.isNone := by rfl) : EvT X H0 qs Γ (.Compare a [.Is] [.Constant .none j pc] pos) mB := fun σ H at_ E pe Q q => by
  subst he
  refine wT_of (pt_cmp (pc_isN pe_w)) (d σ H at_ E pe _ ((PX.bind q).mono (fun x q2 v H1 s1 r1 => ?_) fun _ z => z))
  refine ⟨_, rfl, ?_⟩
  have e : decide (v = V.non) = x.isNone := by
    cases x with
    | none => rw [show v = V.non from r1] <;> rfl
    | some y =>
      have h : v ≠ .non := k.nn (show rep X.K _ v y from r1)
      rw [decide_eq_false h] <;> rfl
  rw [e]
  exact (show ∀ H', Same H H' → Q x.isNone H' from q2) _ s1
/-! ### calls of the text's own defs -/
/-- the promise: what is told isn't changed | is a new list -/
def spF (K : PySem.W.Frag) {τ ρ : Type} [PyA τ] [PyT ρ] (n : Nat) (f : τ → R ρ) : Sp := fun vs H Q E => ∃ (ps : List Addr) (x : τ), vs.length = n ∧ (∀ q ∈ ps, Hv H q) ∧ PyA.reps K (Fz H ps) vs x ∧
  PX (fun r => ∀ v H', Same H H' → rep K (Fz H' ps) v r → Q v H') (fun c => ∀ H', Same H H' → E (.ref (He.ga K c.nm)) none H') (f x)
def spO (K : PySem.W.Frag) {τ ρ : Type} [PyA τ] [PyT ρ] (n : Nat) (f : τ → R (List ρ)) : Sp := fun vs H Q E => ∃ (ps : List Addr) (x : τ), vs.length = n ∧ (∀ q ∈ ps, Hv H q) ∧ PyA.reps K (Fz H ps) vs x ∧
  PX (fun r => ∀ p vs H', Same H H' → H p = none → H' p = some (.lst vs) → RepL K (Fz H' (p :: ps)) vs r → Q (.ref p) H') (fun c => ∀ H', Same H H' → E (.ref (He.ga K c.nm)) none H') (f x)
/-- a def of the text that keeps its promise -/
structure Dn (X : Cx) (x : Str) (sp : Sp) (n : Nat) : Prop where
  ex : ∃ (k : Nat) (f : Addr) (fd : FuncData) (ps : List Str), FnOk X.prog X.w X.K X.mg X.base (L2.CX X.prog X.w) k f fd ps sp ∧ Room k X.A ∧ X.mg x = some (.ref f) ∧ PySem.W.keepIn X.K (.ref f) = true ∧ Binds X.K fd ps [] ∧ ps.length = n
theorem call_any {x : Str} {sp : Sp} {n : Nat} {t : TA} {E : XK} {σ : L2.St} {H : Hp} {Q : VK} {pX : Pos} (D : Dn X x sp n) (g : Gn X x) (pe : Pas X σ E) (hs : ∀ env, starEach (a :: es) env = (false, eval a env) :: starEach es env) (hp : ∀ env, (backTo pos (starEach es env)).any (·.1) = false)
    (h : wA X (a :: es) σ H fun vs H1 => sp vs H1 Q E) : wE X (.Call (.Name x pX) (a :: es) [] pos) σ H Q := by
  obtain ⟨k, f, fd, ps, F, hr, hm, hk, hb, _⟩ := D.ex
  refine ⟨fun pins s I => ?_⟩
  refine wpAny_Call_Name_kw (ld_glob I g.gl hm ?_ g.hd)
  refine PySem.W.callWith_K (h₀ := X.base) I.ok.mod.kin hk (thn (h.run pos pins s I) fun us s1 ⟨vs, H1, I1, r, q⟩ => ⟨I1.kIn, ?_⟩) (hs X.env) (hp X.env)
  exact run_fnS (E := fun _ => E) F hr hb pe.out I1 r q
theorem ev_call {τ ρ : Type} [PyA τ] [PyT ρ] {f : τ → R ρ} {x : Str} {n : Nat} {m1 : R τ} {m : R ρ} {pX : Pos} (D : Dn X x (spF X.K n f) n) (g : Gn X x) (d : EvA X H0 qs md Γ (a :: es) m1) (hn : (a :: es).length = n) (he : m = m1.bind f := by rfl)
    (hs : ∀ env, starEach (a :: es) env = (false, eval a env) :: starEach es env := by intro _; rfl) (hp : ∀ env, (backTo pos (starEach es env)).any (·.1) = false := by intro _; rfl) : Ev X H0 qs md Γ (.Call (.Name x pX) (a :: es) [] pos) m := fun σ H at_ E pe Q q => by
  subst he
  refine call_any (t := fun _ _ _ => True) D g pe hs hp (d σ H at_ E pe _ ((PX.bind q).mono (fun y q2 vs H1 s1 el r1 => ?_) fun _ z => z))
  exact ⟨av md Γ σ qs, y, by rw [el, hn], av_there (X := X) (at_.grow s1), r1, q2.mono (fun z k v H' s r => k v H' (s1.trans s) r) fun c z => z.grow s1⟩
theorem ev_callO {τ ρ : Type} [PyA τ] [PyT ρ] {f : τ → R (List ρ)} {x : Str} {n : Nat} {m1 : R τ} {m : R (List ρ)} {pX : Pos} (D : Dn X x (spO X.K n f) n) (g : Gn X x) (d : EvA X H0 qs md Γ (a :: es) m1) (hn : (a :: es).length = n) (he : m = m1.bind f := by rfl)
    (hs : ∀ env, starEach (a :: es) env = (false, eval a env) :: starEach es env := by intro _; rfl) (hp : ∀ env, (backTo pos (starEach es env)).any (·.1) = false := by intro _; rfl) : EvO X H0 qs md Γ (.Call (.Name x pX) (a :: es) [] pos) m := fun σ H at_ E pe Q q => by
  subst he
  refine call_any (t := fun _ _ _ => True) D g pe hs hp (d σ H at_ E pe _ ((PX.bind q).mono (fun y q2 vs H1 s1 el r1 => ?_) fun _ z => z))
  exact ⟨av md Γ σ qs, y, by rw [el, hn], av_there (X := X) (at_.grow s1), r1, q2.mono (fun z k p ws H' s n0 l r => k p ws H' (s1.trans s) (s1.free n0) l r) fun c z => z.grow s1⟩
end
end Wk
set_option Elab.async false
set_option linter.all false
set_option maxRecDepth 100000
/-! Wk6: what is walked; comprehensions. -/
namespace Wk
open PySem PySem.Spec PyProof.Rows L2
structure wI (X : Cx) (tg it : Expr) (σ : L2.St) (H : Hp) (R : It → Hp → Prop) : Prop where
  run : ∀ (pins : List (Addr × Obj)) (s : Shared), Inv X pins σ H s → wpAny (model X.prog X.w) X.A (eval it X.env) (fun v s1 => wpAny (model X.prog X.w) X.A (pyIter v) (PIE X pins σ tg R) X.xe s1) X.xe s
theorem pi_w {X : Cx} {tg it : Expr} : PI X tg it (wI X tg it) := ⟨fun pins s _ _ _ I h => h.run pins s I⟩
theorem wI_of {X : Cx} {tg it : Expr} {wi : TI} {σ : L2.St} {H : Hp} {R : It → Hp → Prop} (h : PI X tg it wi) (q : wi σ H R) : wI X tg it σ H R := ⟨fun pins s I => h.run pins s σ H R I q⟩
/-- a walk of these things, while what F tells stands -/
structure WalkT (K : PySem.W.Frag) {α : Type} [PyT α] (J : It) (xs : List α) (F : Hp) : Prop where
  goes : ∀ i H', i < xs.length → Same F H' → J.go i H'
  stops : ∀ H', Same F H' → J.stop xs.length H'
  yields : ∀ i H' v H'', i < xs.length → Same F H' → J.yld i H' v H'' → Same H' H'' ∧ ∃ x, xs[i]? = some x ∧ ∀ ps, Same F (Fz H' ps) → (∀ q ∈ ps, Hv H' q) → rep K (Fz H'' ps) v x
def EvI (X : Cx) (H0 : Hp) (qs : List Addr) (md : Bool) (Γ : List Sl) {α : Type} [PyT α] (tg it : Expr) (m : R (List α)) : Prop :=
  ∀ σ H, At X.K H0 qs Γ σ H → ∀ E : XK, Pas X σ E → ∀ Rk : It → Hp → Prop, PX (fun xs => ∀ J H1, Same H H1 → WalkT X.K J xs (Fz H1 (av md Γ σ qs)) → Rk J H1) (XW X E H) m → wI X tg it σ H Rk
section
variable {X : Cx} {H0 : Hp} {qs : List Addr} {md ma mb : Bool} {Γ : List Sl} {a b c tg : Expr} {pos p tpos : Pos} {α β γ : Type}
theorem walkL {K : PySem.W.Frag} [PyT α] {q : Addr} {vs : List V} {xs : List α} {F : Hp} (h : SqL K F q vs) (r : RepL K F vs xs) : WalkT K (Itl K q) xs F where
  goes := fun i H' hi s => by
    obtain ⟨v, hv, _⟩ := r.get' (i := i) (x := xs[i]) (List.getElem?_eq_getElem hi)
    exact ⟨vs, v, sqL_mono s h, hv⟩
  stops := fun H' s => ⟨vs, sqL_mono s h, by rw [r.len]; exact Nat.le_refl _⟩
  yields := fun i H' v H'' hi s ⟨e, y⟩ => by
    subst e
    obtain ⟨x, k1, k2⟩ := r.get (y vs (sqL_mono s h))
    exact ⟨Same.refl _, x, k1, fun ps s2 _ => PyT.mono s2 k2⟩
theorem ei_list [PyT α] {m : R (List α)} (d : Ev X H0 qs md Γ a m) : EvI X H0 qs md Γ tg a m := fun σ H at_ E pe Rk q => by
  refine wI_of (pi_list pe_w) (d σ H at_ E pe _ (q.mono (fun xs k v H1 s1 r1 => ?_) fun _ z => z))
  obtain ⟨q', vs, rfl, h2, h3⟩ := r1
  exact ⟨q', rfl, ⟨vs, SqL.of (Fz.out _ _ h2)⟩, k _ H1 s1 (walkL (SqL.of h2) h3)⟩
/-- ranges -/
def rangeL (lo hi : Int) : List Int := (List.range (hi - lo).toNat).map fun i : Nat => lo + (i : Int)
theorem rangeL_len (lo hi : Int) : (rangeL lo hi).length = (hi - lo).toNat := by unfold rangeL; rw [List.length_map, List.length_range]
theorem rangeL_get {lo hi : Int} {i : Nat} (h : i < (hi - lo).toNat) : (rangeL lo hi)[i]? = some (lo + (i : Int)) := by
  unfold rangeL
  rw [List.getElem?_map, List.getElem?_range h] <;> rfl
theorem walkR {K : PySem.W.Frag} {lo hi : Int} {n : Nat} {F : Hp} (hn : n = (hi - lo).toNat) : WalkT K (Itr lo n) (rangeL lo hi) F where
  goes := fun i H' h s => by rw [rangeL_len] at h; show i < n; omega
  stops := fun H' s => by rw [rangeL_len]; show n ≤ _; omega
  yields := fun i H' v H'' h s ⟨e, y⟩ => by
    rw [rangeL_len] at h
    subst e y
    exact ⟨Same.refl _, _, rangeL_get h, fun ps _ _ => rfl⟩
/-- the ends of a range within what is walked -/
def rngR (lo hi : Int) : R (List Int) := R.chk (decide (-1000000000000000000 ≤ lo ∧ lo ≤ 1000000000000000000 ∧ -1000000000000000000 ≤ hi ∧ hi ≤ 1000000000000000000)) (rangeL lo hi)
theorem ei_range1 {m1 : R Int} {m : R (List Int)} (g : Gn X "range") (hm : X.mg "range" = none) (d : Ev X H0 qs ma Γ a m1) (he : m = m1.bind fun n => rngR 0 n := by rfl) (hs : St1 a := by intro _; rfl) : EvI X H0 qs md Γ tg (.Call (.Name "range" p) [a] [] pos) m := fun σ H at_ E pe Rk q => by
  subst he
  refine wI_of (pi_range1 g.gl hm (pa_cons pe_w pa_nil (hs X.env)) (hs X.env)) (d σ H at_ E pe _ ((PX.bind q).mono (fun n k v H1 s1 r1 => ?_) fun _ z => z))
  obtain ⟨c, k⟩ := PX.chk k
  have c' := of_decide_eq_true c
  have hv : v = .int n := r1
  subst hv
  exact ⟨n, rfl, by omega, by omega, k _ H1 s1 (walkR (by omega))⟩
theorem ei_range2 {m1 m2 : R Int} {m : R (List Int)} (g : Gn X "range") (hm : X.mg "range" = none) (d : Ev X H0 qs ma Γ a m1) (d2 : Ev X H0 qs mb Γ b m2) (he : m = m1.bind fun l => m2.bind fun n => rngR l n := by rfl) (hs : St2 a b := by intro _; rfl) (hs2 : St1 b := by intro _; rfl) :
    EvI X H0 qs md Γ tg (.Call (.Name "range" p) [a, b] [] pos) m := fun σ H at_ E pe Rk q => by
  subst he
  refine wI_of (pi_range2 g.gl hm (pa_cons pe_w (pa_cons pe_w pa_nil (hs2 X.env)) (hs X.env)) (by rw [hs X.env, hs2 X.env]; rfl) (hs2 X.env)) (d σ H at_ E pe _ ((PX.bind q).mono (fun l k v H1 s1 r1 => ?_) fun _ z => z))
  refine d2 σ H1 (at_.grow s1) E pe _ ((PX.bind k).mono (fun n k2 w H2 s2 r2 => ?_) fun _ z => z.grow s1)
  obtain ⟨c, k⟩ := PX.chk k2
  have c' := of_decide_eq_true c
  have hv : v = .int l := r1
  have hw : w = .int n := r2
  subst hv hw
  exact ⟨l, n, rfl, ⟨by omega, by omega, by omega, by omega⟩, k _ H2 (s1.trans s2) (walkR rfl)⟩
/-! ### targets -/
structure wG (X : Cx) (tg : Expr) (v : V) (σ : L2.St) (H : Hp) (Q : L2.St → Hp → Prop) : Prop where
  run : ∀ (pins : List (Addr × Obj)) (s : Shared) (u : Value), Inv X pins σ H s → RelV v u → wpAny (model X.prog X.w) X.A (assign tg X.env u) (fun _ s' => ∃ σ' H', Inv X pins σ' H' s' ∧ Q σ' H') X.xe s
theorem pg_w {tg : Expr} : PG X tg (wG X tg) := ⟨fun pins s _ _ _ u _ I r h => h.run pins s u I r⟩
theorem wG_of {tg : Expr} {g : TG} {v : V} {σ : L2.St} {H : Hp} {Q : L2.St → Hp → Prop} (h : PG X tg g) (q : g v σ H Q) : wG X tg v σ H Q := ⟨fun pins s u I r => h.run pins s σ H v u Q I r q⟩
/-- a name that is stored -/
structure Lc (X : Cx) (i : Nat) (x : Str) : Prop where
  hi : X.N[i]? = some x
  loc : Loc X.env.scope x
  fn : X.fn x = true ∨ X.env.scope.names.lookup x = some .local
  nd : X.N.Nodup
def lcC (N : List Str) (sc : Scope) (i : Nat) (x : Str) : Bool := decide (N[i]? = some x) && (match sc.names.lookup x with
  | some .local => true
  | _ => false)
theorem lc_mk {X : Cx} {N : List Str} {sc : Scope} {i : Nat} {x : Str} (hX : XN X N sc) (h : lcC N sc i x = true) : Lc X i x := by
  unfold lcC at h
  simp only [Bool.and_eq_true, decide_eq_true_eq] at h
  obtain ⟨h1, h2⟩ := h
  have h3 : X.env.scope.names.lookup x = some .local := by
    rw [hX.hs]
    split at h2
    · rename_i q; exact q
    · cases h2
  exact ⟨by rw [hX.hN]; exact h1, .inl h3, .inr h3, hX.nd⟩
/-- .. a cell of the def's own -/
def lcK (N : List Str) (sc : Scope) (i : Nat) (x : Str) : Bool := decide (N[i]? = some x) && (match sc.names.lookup x with
  | some .cell => true
  | _ => false)
theorem lc_cell {X : Cx} {N : List Str} {sc : Scope} {i : Nat} {x : Str} (hX : XN X N sc) (hf : X.fn x = true) (h : lcK N sc i x = true) : Lc X i x := by
  unfold lcK at h
  simp only [Bool.and_eq_true, decide_eq_true_eq] at h
  obtain ⟨h1, h2⟩ := h
  have h3 : X.env.scope.names.lookup x = some .cell := by
    rw [hX.hs]
    split at h2
    · rename_i q; exact q
    · cases h2
  exact ⟨by rw [hX.hN]; exact h1, .inr h3, .inl hf, hX.nd⟩
/-- a thing comes to a target, at these slots -/
def EvG (X : Cx) (Γ : List Sl) {α : Type} [PyT α] (tg : Expr) (x : α) (Γ' : List Sl) (is : List Nat) : Prop :=
  ∀ (H0 : Hp) (qs : List Addr) σ H v, At X.K H0 qs Γ σ H → rep X.K (Fz H (owA Γ σ ++ qs)) v x → ∀ Q : L2.St → Hp → Prop,
    (∀ σ', At X.K H0 qs Γ' σ' H → owA Γ' σ' = owA Γ σ → σ'.length = σ.length → (∀ i, i ∉ is → σ'[i]? = σ[i]?) → Q σ' H) → wG X tg v σ H Q
theorem owA_set_no {s : Sl} {o : Option V} (h1 : own1 s o = []) : ∀ {Γ : List Sl} {σ : L2.St} {i : Nat}, (∀ o, own1 (Γ.getD i .un) o = []) → owA (Γ.set i s) (σ.set i o) = owA Γ σ
  | [], σ, i, _ => by simp [owA]
  | t :: Γ, [], i, _ => by rw [List.set_nil, owA_nil, owA_nil]
  | t :: Γ, u :: σ, 0, h => by
    rw [List.set_cons_zero, List.set_cons_zero, owA_cons, owA_cons, h1]
    have h2 : own1 t u = [] := h u
    rw [h2]
  | t :: Γ, u :: σ, i + 1, h => by
    rw [List.set_cons_succ, List.set_cons_succ, owA_cons, owA_cons, owA_set_no h1 (i := i) (fun o => h o)]
/-- the slot holds no list of the def's own -/
abbrev NoOw (Γ : List Sl) (i : Nat) : Prop := ∀ o, own1 (Γ.getD i .un) o = []
theorem eg_name [PyT α] {x : α} {i : Nat} {n : Str} {Γ' : List Sl} (l : Lc X i n) (hΓ : Γ' = Γ.set i (.fr x) := by rfl) (hno : NoOw Γ i := by intro _; rfl) : EvG X Γ (.Name n p) x Γ' [i] := fun H0 qs σ H v at_ r Q k => by
  subst hΓ
  exact wG_of (pg_name l.nd l.hi l.loc l.fn) (k _ (at_.setFr r) (owA_set_no rfl hno) (by rw [List.length_set]) fun j hj => List.getElem?_set_ne (fun e => hj (by rw [e]; exact List.mem_cons_self)))
theorem av_eq {σ σ1 : L2.St} {Γ1 : List Sl} {H : Hp} (h : owA Γ1 σ1 = owA Γ σ) {K : PySem.W.Frag} [PyT α] {v : V} {x : α} (r : rep K (Fz H (owA Γ σ ++ qs)) v x) : rep K (Fz H (owA Γ1 σ1 ++ qs)) v x := by rw [h]; exact r
theorem eg_two [PyT α] [PyT β] {x : α × β} {e1 e2 : Expr} {kk : Nat} {Γ1 Γ2 : List Sl} {i1 i2 : List Nat} (hc : X.calm = true) (g1 : EvG X Γ e1 x.1 Γ1 i1) (g2 : EvG X Γ1 e2 x.2 Γ2 i2)
    (hn : ∀ env, (assignEach [e1, e2] env).length = 2 := by intro _; rfl) (hst : ∀ env, (assignEach [e1, e2] env).findIdx? (·.1) = none := by intro _; rfl)
    (h1 : ∀ env, (assignEach [e1, e2] env).map (·.2) = assign e1 env :: (assignEach [e2] env).map (·.2) := by intro _; rfl) (h2 : ∀ env, (assignEach [e2] env).map (·.2) = assign e2 env :: (assignEach [] env).map (·.2) := by intro _; rfl) :
    EvG X Γ (.Tuple [e1, e2] kk p) x Γ2 (i1 ++ i2) := fun H0 qs σ H v at_ r Q k => by
  obtain ⟨q, w, u, rfl, r1, r2, r3⟩ := r
  refine wG_of (pg_tup hc (pgs_cons pg_w (pgs_cons pg_w pgs_nil (h2 X.env)) (h1 X.env)) (hn X.env) (hst X.env)) ⟨q, [w, u], rfl, sqT_mono Fz.out r1, rfl, w, [u], rfl, ?_⟩
  refine g1 H0 qs σ H w at_ r2 _ fun σ1 a1 o1 l1 k1 => ⟨u, [], rfl, ?_⟩
  refine g2 H0 qs σ1 H u a1 (av_eq o1 r3) _ fun σ2 a2 o2 l2 k2 => ⟨rfl, ?_⟩
  exact k σ2 a2 (o2.trans o1) (l2.trans l1) fun i hi => (k2 i fun z => hi (List.mem_append_right _ z)).trans (k1 i fun z => hi (List.mem_append_left _ z))
theorem eg_three [PyT α] [PyT β] [PyT γ] {x : T3 α β γ} {e1 e2 e3 : Expr} {kk : Nat} {Γ1 Γ2 Γ3 : List Sl} {i1 i2 i3 : List Nat} (hc : X.calm = true) (g1 : EvG X Γ e1 x.a Γ1 i1) (g2 : EvG X Γ1 e2 x.b Γ2 i2) (g3 : EvG X Γ2 e3 x.c Γ3 i3)
    (hn : ∀ env, (assignEach [e1, e2, e3] env).length = 3 := by intro _; rfl) (hst : ∀ env, (assignEach [e1, e2, e3] env).findIdx? (·.1) = none := by intro _; rfl)
    (h1 : ∀ env, (assignEach [e1, e2, e3] env).map (·.2) = assign e1 env :: (assignEach [e2, e3] env).map (·.2) := by intro _; rfl) (h2 : ∀ env, (assignEach [e2, e3] env).map (·.2) = assign e2 env :: (assignEach [e3] env).map (·.2) := by intro _; rfl)
    (h3 : ∀ env, (assignEach [e3] env).map (·.2) = assign e3 env :: (assignEach [] env).map (·.2) := by intro _; rfl) :
    EvG X Γ (.Tuple [e1, e2, e3] kk p) x Γ3 (i1 ++ i2 ++ i3) := fun H0 qs σ H v at_ r Q k => by
  obtain ⟨q, w, u, t, rfl, r1, r2, r3, r4⟩ := r
  refine wG_of (pg_tup hc (pgs_cons pg_w (pgs_cons pg_w (pgs_cons pg_w pgs_nil (h3 X.env)) (h2 X.env)) (h1 X.env)) (hn X.env) (hst X.env)) ⟨q, [w, u, t], rfl, sqT_mono Fz.out r1, rfl, w, [u, t], rfl, ?_⟩
  refine g1 H0 qs σ H w at_ r2 _ fun σ1 a1 o1 l1 k1 => ⟨u, [t], rfl, ?_⟩
  refine g2 H0 qs σ1 H u a1 (av_eq o1 r3) _ fun σ2 a2 o2 l2 k2 => ⟨t, [], rfl, ?_⟩
  refine g3 H0 qs σ2 H t a2 (av_eq o2 (av_eq o1 r4)) _ fun σ3 a3 o3 l3 k3 => ⟨rfl, ?_⟩
  exact k σ3 a3 (o3.trans (o2.trans o1)) (l3.trans (l2.trans l1)) fun i hi => (k3 i fun z => hi (List.mem_append_right _ z)).trans ((k2 i fun z => hi (List.mem_append_left _ (List.mem_append_right _ z))).trans (k1 i fun z => hi (List.mem_append_left _ (List.mem_append_left _ z))))
end
end Wk
set_option Elab.async false
set_option linter.all false
set_option maxRecDepth 100000
/-! Wk7: comprehensions. -/
namespace Wk
open PySem PySem.Spec PyProof.Rows L2
/-- a comprehension's block within X -/
structure Blk (X X' : Cx) (sc : Scope) : Prop where
  prog : X'.prog = X.prog
  w : X'.w = X.w
  K : X'.K = X.K
  mg : X'.mg = X.mg
  base : X'.base = X.base
  A : X'.A = X.A
  N : X'.N = X.N
  calm : X'.calm = X.calm
  hs : X'.env.scope = sc
  fnc : ∀ x, sc.names.lookup x = some .cell → X.env.scope.names.lookup x ≠ some .cell → X'.fn x = true
  pas : ∀ σ, Pas X' σ E0
theorem Blk.ok {X X' : Cx} {sc sc' : Scope} {N : List Str} (b : Blk X X' sc') (h : XOk X N sc) : XOk X' N sc' := ⟨⟨b.N.trans h.hN, b.hs, by rw [b.N]; exact h.nd⟩, b.calm.trans h.calm⟩
theorem Blk.dn {X X' : Cx} {sc : Scope} {x : Str} {sp : Sp} {n : Nat} (b : Blk X X' sc) (D : Dn X x sp n) : Dn X' x sp n := by
  obtain ⟨k, f, fd, ps, F, h1, h2, h3, h4, h5⟩ := D.ex
  refine ⟨k, f, fd, ps, ?_, by rw [b.A]; exact h1, by rw [b.mg]; exact h2, by rw [b.K]; exact h3, by rw [b.K]; exact h4, h5⟩
  rw [b.prog, b.w, b.K, b.mg, b.base]
  exact F
theorem Blk.none {X X' : Cx} {sc : Scope} {x : Str} (b : Blk X X' sc) (h : X.mg x = Option.none) : X'.mg x = Option.none := by rw [b.mg]; exact h
theorem Blk.some {X X' : Cx} {sc : Scope} {x : Str} {v : Value} (b : Blk X X' sc) (h : X.mg x = Option.some v) : X'.mg x = Option.some v := by rw [b.mg]; exact h
theorem Blk.hu {X X' : Cx} {sc : Scope} (b : Blk X X' sc) (h : X.A.units + 64 < cLine) : X'.A.units + 64 < cLine := by rw [b.A]; exact h
/-- the outcomes of a comprehension's turns -/
def compGo {α β : Type} (g : α → R (Option β)) : List α → R (List β)
  | [] => .ok []
  | x :: r => (g x).sure.bind fun o => (compGo g r).bind fun ys => .ok (match o with | some y => y :: ys | none => ys)
def compR {α β : Type} (g : α → R (Option β)) (xs : List α) : R (List β) := if xs.length ≤ 16777216 then compGo g xs else .stuck
def mapGo {α β : Type} (g : α → R β) : List α → R (List β)
  | [] => .ok []
  | x :: r => (g x).sure.bind fun y => (mapGo g r).bind fun ys => .ok (y :: ys)
def mapR {α β : Type} (g : α → R β) (xs : List α) : R (List β) := if xs.length ≤ 16777216 then mapGo g xs else .stuck
theorem mapGo_comp {α β : Type} (g : α → R β) : ∀ xs : List α, mapGo g xs = compGo (fun x => (g x).bind fun y => .ok (some y)) xs
  | [] => rfl
  | x :: r => by
    show (g x).sure.bind _ = ((g x).bind _).sure.bind _
    rw [mapGo_comp g r]
    cases g x <;> rfl
def wipeG (Γ : List Sl) : List Nat → List Sl
  | [] => Γ
  | v :: vs => (wipeG Γ vs).set v .un
theorem wipe_in {σ : L2.St} {i : Nat} : ∀ {vs : List Nat}, i ∈ vs → (wipe σ vs)[i]? = if i < σ.length then some none else none
  | [], h => by cases h
  | v :: vs, h => by
    have hl : (wipe σ vs).length = σ.length := wipe_length σ vs
    show ((wipe σ vs).set v none)[i]? = _
    by_cases e : v = i
    · subst e
      rw [List.getElem?_set]
      simp only [if_true, hl]
    · rw [List.getElem?_set_ne e]
      exact wipe_in ((List.mem_cons.mp h).resolve_left fun z => e z.symm)
theorem wipe_ext {a b : L2.St} {vs : List Nat} (hl : a.length = b.length) (h : ∀ i, i ∉ vs → a[i]? = b[i]?) : wipe a vs = wipe b vs := by
  refine List.ext_getElem? fun i => ?_
  by_cases hi : i ∈ vs
  · rw [wipe_in hi, wipe_in hi, hl]
  · rw [wipe_out hi, wipe_out hi]
    exact h i hi
theorem At.wipe {K : PySem.W.Frag} {H0 H : Hp} {qs : List Addr} {Γ : List Sl} {σ : L2.St} (a : At K H0 qs Γ σ H) : ∀ vs : List Nat, At K H0 qs (wipeG Γ vs) (L2.wipe σ vs) H
  | [] => a
  | v :: vs => (At.wipe a vs).setUn
theorem wipe_own {Γ : List Sl} {σ : L2.St} : ∀ {vs : List Nat}, (∀ v ∈ vs, NoOw Γ v) → owA (wipeG Γ vs) (L2.wipe σ vs) = owA Γ σ
  | [], _ => rfl
  | v :: vs, h => by
    have ih := wipe_own (σ := σ) (vs := vs) fun u hu => h u (List.mem_cons_of_mem _ hu)
    show owA ((wipeG Γ vs).set v .un) ((L2.wipe σ vs).set v none) = _
    rw [owA_set_no rfl ?_, ih]
    have go : ∀ vs : List Nat, ∀ o, own1 ((wipeG Γ vs).getD v .un) o = [] := by
      intro vs
      induction vs with
      | nil => exact h v List.mem_cons_self
      | cons u us ih2 =>
        intro o
        show own1 (((wipeG Γ us).set u .un).getD v .un) o = []
        rw [List.getD_eq_getElem?_getD]
        by_cases e : u = v
        · subst e
          rw [List.getElem?_set]
          simp only [if_true]
          split <;> rfl
        · rw [List.getElem?_set_ne e]
          have q := ih2 o
          rw [List.getD_eq_getElem?_getD] at q
          exact q
    exact go vs
theorem At.addq {K : PySem.W.Frag} {H0 H H' : Hp} {qs : List Addr} {Γ : List Sl} {σ : L2.St} {D : Addr} (a : At K H0 qs Γ σ H) (s : Same H H') (h1 : H D = none) (h2 : Hv H' D) : At K H0 (D :: qs) Γ σ H' := by
  have a' := a.grow s
  have e : Same (Fz H (owA Γ σ ++ qs)) (Fz H' (owA Γ σ ++ D :: qs)) := Fz.new s fun b hb => (List.mem_append.mp hb).elim (fun z => .inl (List.mem_append_left _ z)) fun z => (List.mem_cons.mp z).elim (fun q => .inr (by rw [q]; exact h1)) fun q => .inl (List.mem_append_right _ q)
  refine ⟨a'.ex, a.ok.grow e s, a.nd, fun p hp z => ?_, fun q hq => ?_⟩
  · rcases List.mem_cons.mp z with z | z
    · exact a.own_there hp (by rw [z]; exact h1)
    · exact a.sep p hp z
  · rcases List.mem_cons.mp hq with z | z
    · rw [z]; exact h2
    · exact a'.qd q z
section
variable {X : Cx} {H0 : Hp} {qs : List Addr} {md mi : Bool} {Γ : List Sl} {it elt tg : Expr} {pos : Pos} {α β : Type}
/-- the weakest over all blocks -/
def bE (X : Cx) (sc : Scope) (e : Expr) : TE := fun σ H Q => ∀ X', Blk X X' sc → wE X' e σ H Q
def bT (X : Cx) (sc : Scope) (e : Expr) : TT := fun σ H Q => ∀ X', Blk X X' sc → wT X' e σ H Q
def bG (X : Cx) (sc : Scope) (e : Expr) : TG := fun v σ H Q => ∀ X', Blk X X' sc → wG X' e v σ H Q
theorem rel_look {so : Scope} {x : Str} : ∀ l : List (Str × NameKind), (l.map fun (n, k) => if (k == .free && so.kind == .function && so.names.lookup n == some .cell) then (n, NameKind.cell) else (n, k)).lookup x = some .cell → so.names.lookup x ≠ some .cell → l.lookup x = some .cell
  | [], h, _ => h
  | (n, k) :: r, h, h2 => by
    rw [List.map_cons] at h
    change List.lookup x ((if (k == NameKind.free && so.kind == ScopeKind.function && so.names.lookup n == some NameKind.cell) = true then (n, NameKind.cell) else (n, k)) :: _) = _ at h
    by_cases e : x = n
    · subst e
      have hne : (so.names.lookup x == some NameKind.cell) = false := by
        cases q : so.names.lookup x with
        | none => rfl
        | some z =>
          rw [q] at h2
          cases z <;> first | rfl | exact absurd rfl h2
      simp only [hne, Bool.and_false] at h
      simpa using h
    · have e2 : (x == n) = false := by simpa using e
      have ih := rel_look (so := so) (x := x) r
      rw [List.lookup_cons, e2]
      refine ih ?_ h2
      by_cases c : (k == NameKind.free && so.kind == ScopeKind.function && so.names.lookup n == some NameKind.cell) = true
      · rw [if_pos c, List.lookup_cons, e2] at h
        exact h
      · rw [if_neg c, List.lookup_cons, e2] at h
        exact h
theorem blk_is {s : Shared} {H : Hp} {scope : Scope} {C : Addr} {cl : List (Str × Addr)} {fp : List Addr} : Blk X (X.blk s H scope (compEnvC scope cl C X.env) fp) (relS scope X.env.scope) :=
  ⟨rfl, rfl, rfl, rfl, rfl, rfl, rfl, rfl, rfl, fun x h h2 => by
    have q := rel_look scope.names h h2
    show (scope.names.lookup x == some .cell) = true
    rw [q] <;> rfl, fun σ => ⟨fun pins H s e s' _ h => by
    obtain ⟨_, _, _, _, _, _, _, _, _, _, _, _, z⟩ := h
    exact z.elim, fun z => absurd (congrArg List.length (show X.stack = _ :: X.stack from z)) (by simp)⟩⟩
/-- the core: one test or none -/
theorem lc_any [PyT α] [PyT β] {scope : Scope} {own : List (Str × Nat)} {ifs : List Expr} {mx : R (List α)} {g : α → R (Option β)} {m : R (List β)} {Γx : α → List Sl} {is : List Nat} {tt : TT}
    (hX : ∃ N sc, XOk X N sc) (hi : EvI X H0 qs mi Γ tg it mx) (fl : mi = true ∨ ∀ {K : PySem.W.Frag} {F F' : Hp} {v : V} {x : α}, rep K F v x → rep K F' v x) (fe : md = true ∨ ∀ {K : PySem.W.Frag} {F F' : Hp} {v : V} {x : β}, rep K F v x → rep K F' v x) (hno : ∀ p ∈ own, NoOw Γ p.2) (his : ∀ i ∈ is, i ∈ own.map (·.2))
    (hg : ∀ X', Blk X X' (relS scope X.env.scope) → ∀ x, EvG X' (wipeG Γ (own.map (·.2))) tg x (Γx x) is)
    (htt : ∀ (s : Shared) (H : Hp) (C : Addr) (cl : List (Str × Addr)) (fp : List Addr), PTs (X.blk s H scope (compEnvC scope cl C X.env) fp) ifs tt)
    (hturn : ∀ X', Blk X X' (relS scope X.env.scope) → ∀ (D : Addr) (x : α) σ H, At X.K H0 (D :: qs) (Γx x) σ H → ∀ (A : Option β → Prop), PX A (fun _ => False) (g x) → ∀ Qt : Bool → Hp → Prop,
      (∀ b H', Same H H' → (b = true → ∀ Qe : VK, (∀ y v H'', Same H' H'' → A (some y) → rep X.K (Fz H'' (av md (Γx x) σ (D :: qs))) v y → Qe v H'') → bE X (relS scope X.env.scope) elt σ H' Qe) → (b = false → A none) → Qt b H') → tt σ H Qt)
    (he : m = mx.bind (compR g)) (hs : ∀ env x, foldedSetIterable it env x = pure x) :
    ∀ σ H, At X.K H0 qs Γ σ H → ∀ E : XK, Pas X σ E → ∀ Q : VK, PX (fun xs => ∀ p vs H', Same H H' → H p = none → H' p = some (.lst vs) → RepL X.K (Fz H' (p :: av md Γ σ qs)) vs xs → Q (.ref p) H') (XW X E H) m →
      tLc (wI X tg it) (bG X (relS scope X.env.scope) tg) tt (bE X (relS scope X.env.scope) elt) (own.map (·.2)) σ H Q := by
  intro σ H at_ E pe Q q
  subst he
  obtain ⟨N, sc, hX⟩ := hX
  refine hi σ H at_ E pe _ ((PX.bind q).mono (fun xs q2 J H1 s1 wk D hD => ?_) fun _ z => z)
  unfold compR at q2
  by_cases hlen : xs.length ≤ 16777216
  case neg => rw [if_neg hlen] at q2; exact (show False from q2).elim
  rw [if_pos hlen] at q2
  have at1 := at_.grow s1
  have hD0 : H D = none := s1.free hD
  let Pv : Nat → Hp → Prop := fun i H' => Same H1 H' ∧ ∃ acc ys, H' D = some (.lst acc) ∧ RepL X.K (Fz H' (D :: av md Γ σ qs)) acc ys ∧ acc.length ≤ i ∧
    PX (fun zs => ∀ p vs H', Same H H' → H p = none → H' p = some (.lst vs) → RepL X.K (Fz H' (p :: av md Γ σ qs)) vs (ys ++ zs) → Q (.ref p) H') (XW X E H) (compGo g (xs.drop i))
  refine ⟨fun i m H' => m = xs.length - i ∧ i ≤ xs.length ∧ Pv i H', ⟨xs.length, by simp, Nat.zero_le _, same_new hD, [], [], upd_same, trivial, Nat.le_refl _, ?_⟩, ?_⟩
  · rw [List.drop_zero]
    exact q2.mono (fun zs k p vs H' a b c d => k p vs H' a b c d) fun _ z => z
  rintro i m H2 ⟨rfl, hi', s2, acc, ys, hacc, hrep, hal, hrest⟩
  have sF : Same (Fz H1 (av mi Γ σ qs)) H2 := fun b o z => s2 b o (Fz.out b o z)
  by_cases hlt : i < xs.length
  · refine .inr ⟨wk.goes i H2 hlt sF, Pv (i + 1), fun H' p' => ⟨xs.length - (i + 1), by omega, rfl, hlt, p'⟩, fun v H3 hy => ?_⟩
    obtain ⟨s3, x, hx, hxr⟩ := wk.yields i H2 v H3 hlt sF hy
    have hdrop : xs.drop i = x :: xs.drop (i + 1) := by
      obtain ⟨h1, h2⟩ := List.getElem?_eq_some_iff.mp hx
      rw [List.drop_eq_getElem_cons h1, h2]
    rw [hdrop] at hrest
    have hD3 : H3 D = some (.lst acc) := s3 _ _ hacc
    have at3 : At X.K H0 (D :: qs) Γ σ H3 := at1.addq (s2.trans s3) hD (Hv.lst hD3)
    have at3w := at3.wipe (own.map (·.2))
    have hown : owA (wipeG Γ (own.map (·.2))) (wipe σ (own.map (·.2))) = owA Γ σ := wipe_own fun v hv => by
      obtain ⟨p, hp, rfl⟩ := List.mem_map.mp hv
      exact hno p hp
    have hr3 : rep X.K (Fz H3 (owA (wipeG Γ (own.map (·.2))) (wipe σ (own.map (·.2))) ++ D :: qs)) v x := by
      rcases fl with fl | fl
      · subst fl
        refine hxr _ ?_ ?_
        · rw [hown]
          exact Fz.new s2 fun b hb => (List.mem_append.mp hb).elim (fun z => .inl (List.mem_append_left _ z)) fun z => (List.mem_cons.mp z).elim (fun q => .inr (by rw [q]; exact hD)) fun q => .inl (List.mem_append_right _ q)
        · rw [hown]
          intro q hq
          rcases List.mem_append.mp hq with z | z
          · exact (at1.grow s2).own_hv z
          · rcases List.mem_cons.mp z with z | z
            · rw [z]; exact Hv.lst hacc
            · exact (at1.grow s2).qd q z
      · exact fl (hxr [] (fun b o z => by rw [Fz.nil]; exact sF b o z) fun q hq => by cases hq)
    intro X' hB
    have hK : X'.K = X.K := hB.K
    refine hg X' hB x H0 (D :: qs) (wipe σ (own.map (·.2))) H3 v (by rw [hK]; exact at3w) (by rw [hK]; exact hr3) _ ?_
    intro σ4 at4 ho4 hl4 hk4
    refine ⟨?_, ?_⟩
    · refine wipe_ext (by rw [hl4, wipe_length]) fun j hj => ?_
      rw [hk4 j fun z => hj (his j z), wipe_out hj]
    rw [hK] at at4
    have how : owA (Γx x) σ4 = owA Γ σ := ho4.trans hown
    have hq3 : PX _ _ ((g x).sure.bind fun o => (compGo g (xs.drop (i + 1))).bind fun ys => .ok (match o with | some y => y :: ys | none => ys)) := hrest
    have hq4 := PX.sure (PX.bind hq3)
    refine hturn X' hB D x σ4 H3 at4 _ hq4 _ fun b H4 s4 hb1 hb0 => ?_
    have sD4 : H4 D = some (.lst acc) := s4 _ _ hD3
    cases b with
    | false =>
      show Pv (i + 1) H4
      have k := PX.bind (hb0 rfl)
      refine ⟨(s2.trans s3).trans s4, acc, ys, sD4, hrep.mono (Fz.mono (s3.trans s4)), Nat.le_succ_of_le hal, k.mono (fun zs k2 => k2) fun _ z => z⟩
    | true =>
      show bE X _ elt σ4 H4 _
      refine hb1 rfl _ fun y u H5 s5 hy5 hr5 => ⟨acc, s5 _ _ sD4, by rw [sizeLine_eq]; omega, ?_⟩
      have k := PX.bind hy5
      have hfz : rep X.K (Fz (upd H5 D (.lst (acc ++ [u]))) (D :: av md Γ σ qs)) u y := by
        rcases fe with fe | fe
        · subst fe
          refine PyT.mono ?_ hr5
          refine Fz.go fun b o hb hb2 => ?_
          have e1 : av true (Γx x) σ4 (D :: qs) = owA Γ σ ++ D :: qs := by rw [← how]; rfl
          rw [e1] at hb
          have nb : b ≠ D := fun z => hb (List.mem_append_right _ (by rw [z]; exact List.mem_cons_self))
          refine ⟨fun z => ?_, (upd_ne nb).trans hb2⟩
          rcases List.mem_cons.mp z with z | z
          · exact nb z
          · rcases List.mem_append.mp z with z | z
            · exact hb (List.mem_append_left _ z)
            · exact hb (List.mem_append_right _ (List.mem_cons_of_mem _ z))
        · exact fe hr5
      refine ⟨same_mut (((s2.trans s3).trans s4).trans s5) hD, acc ++ [u], ys ++ [y], upd_same, ?_, by rw [List.length_append, List.length_singleton]; omega, k.mono (fun zs k2 => by rw [List.append_assoc]; exact k2) fun _ z => z⟩
      refine (hrep.mono ?_).app (RepL.one hfz)
      exact Same.trans (Fz.mono ((s3.trans s4).trans s5)) (Fz.mut List.mem_cons_self)
  · have e : i = xs.length := by omega
    subst e
    refine .inl ⟨wk.stops H2 sF, ?_⟩
    rw [List.drop_length] at hrest
    have k : ∀ p vs H', Same H H' → H p = none → H' p = some (.lst vs) → RepL X.K (Fz H' (p :: av md Γ σ qs)) vs (ys ++ []) → Q (.ref p) H' := hrest
    exact k D acc H2 (s1.trans s2) hD0 hacc (by rw [List.append_nil]; exact hrep)
theorem pts_b {scope : Scope} {c : Expr} {s : Shared} {H : Hp} {C : Addr} {cl : List (Str × Addr)} {fp : List Addr} : PTs (X.blk s H scope (compEnvC scope cl C X.env) fp) [c] (bT X (relS scope X.env.scope) c) :=
  pts_one ⟨fun pins s' σ H' Q I h => (pt_w (X := X.blk s H scope (compEnvC scope cl C X.env) fp) (e := c)).run pins s' σ H' Q I (h _ blk_is)⟩
theorem pg_b {scope : Scope} {tg : Expr} {s : Shared} {H : Hp} {C : Addr} {cl : List (Str × Addr)} {fp : List Addr} : PG (X.blk s H scope (compEnvC scope cl C X.env) fp) tg (bG X (relS scope X.env.scope) tg) :=
  ⟨fun pins s' σ H' v u Q I r h => (pg_w (X := X.blk s H scope (compEnvC scope cl C X.env) fp) (tg := tg)).run pins s' σ H' v u Q I r (h _ blk_is)⟩
theorem pe_b {scope : Scope} {e : Expr} {s : Shared} {H : Hp} {C : Addr} {cl : List (Str × Addr)} {fp : List Addr} : PE (X.blk s H scope (compEnvC scope cl C X.env) fp) e (bE X (relS scope X.env.scope) e) :=
  ⟨fun pins s' σ H' Q I h => (pe_w (X := X.blk s H scope (compEnvC scope cl C X.env) fp) (e := e)).run pins s' σ H' Q I (h _ blk_is)⟩
/-- a turn without a test -/
theorem turn_map [PyT α] [PyT β] {sc : Scope} {g : α → R β} {Γx : α → List Sl} (hel : ∀ X', Blk X X' sc → ∀ (D : Addr) (x : α), Ev X' H0 (D :: qs) true (Γx x) elt (g x)) :
    ∀ X', Blk X X' sc → ∀ (D : Addr) (x : α) σ H, At X.K H0 (D :: qs) (Γx x) σ H → ∀ (A : Option β → Prop), PX A (fun _ => False) ((g x).bind fun y => .ok (some y)) → ∀ Qt : Bool → Hp → Prop,
      (∀ b H', Same H H' → (b = true → ∀ Qe : VK, (∀ y v H'', Same H' H'' → A (some y) → rep X.K (Fz H'' (av true (Γx x) σ (D :: qs))) v y → Qe v H'') → bE X sc elt σ H' Qe) → (b = false → A none) → Qt b H') → tYes σ H Qt := fun X' hB D x σ H at_ A hA Qt k => by
  refine k true H (Same.refl H) (fun _ Qe kq X2 hB2 => ?_) (fun z => by cases z)
  have hK : X2.K = X.K := hB2.K
  have q := PX.bind hA
  refine hel X2 hB2 D x σ H (by rw [hK]; exact at_) E0 (hB2.pas σ) Qe (q.mono (fun y ay v H'' s r => kq y v H'' s ay (by rw [hK] at r; exact r)) fun c z => z.elim)
/-- a turn with a test -/
theorem turn_filt [PyT α] [PyT β] {sc : Scope} {c : Expr} {t : α → R Bool} {g : α → R β} {Γx : α → List Sl} (hc : ∀ X', Blk X X' sc → ∀ (D : Addr) (x : α), EvT X' H0 (D :: qs) (Γx x) c (t x)) (hel : ∀ X', Blk X X' sc → ∀ (D : Addr) (x : α), Ev X' H0 (D :: qs) true (Γx x) elt (g x)) :
    ∀ X', Blk X X' sc → ∀ (D : Addr) (x : α) σ H, At X.K H0 (D :: qs) (Γx x) σ H → ∀ (A : Option β → Prop), PX A (fun _ => False) ((t x).bind fun b => if b = true then (g x).bind fun y => .ok (some y) else .ok none) → ∀ Qt : Bool → Hp → Prop,
      (∀ b H', Same H H' → (b = true → ∀ Qe : VK, (∀ y v H'', Same H' H'' → A (some y) → rep X.K (Fz H'' (av true (Γx x) σ (D :: qs))) v y → Qe v H'') → bE X sc elt σ H' Qe) → (b = false → A none) → Qt b H') → bT X sc c σ H Qt := fun X' hB D x σ H at_ A hA Qt k X3 hB3 => by
  have hK3 : X3.K = X.K := hB3.K
  refine hc X3 hB3 D x σ H (by rw [hK3]; exact at_) E0 (hB3.pas σ) Qt ((PX.bind hA).mono (fun b q H' s => ?_) fun c z => z.elim)
  cases b with
  | false => exact k false H' s (fun z => by cases z) (fun _ => q)
  | true =>
    refine k true H' s (fun _ Qe kq X2 hB2 => ?_) (fun z => by cases z)
    have hK : X2.K = X.K := hB2.K
    have q2 : PX A (fun _ => False) ((g x).bind fun y => .ok (some y)) := q
    refine hel X2 hB2 D x σ H' (by rw [hK]; exact at_.grow s) E0 (hB2.pas σ) Qe ((PX.bind q2).mono (fun y ay v H'' s r => kq y v H'' s ay (by rw [hK] at r; exact r)) fun c z => z.elim)
abbrev Fold (it : Expr) : Prop := ∀ env x, foldedSetIterable it env x = pure x
variable {scope : Scope} {own : List (Str × Nat)} {mx : R (List α)} {Γx : α → List Sl} {is : List Nat} {N : List Str} {sc : Scope}
theorem map_core [PyT α] [PyT β] {g : α → R β} {m : R (List β)} (hX : XOk X N sc) (hi : EvI X H0 qs mi Γ tg it mx) (fl : mi = true ∨ ∀ {K : PySem.W.Frag} {F F' : Hp} {v : V} {x : α}, rep K F v x → rep K F' v x) (hno : ∀ p ∈ own, NoOw Γ p.2) (his : ∀ i ∈ is, i ∈ own.map (·.2))
    (hg : ∀ X', Blk X X' (relS scope sc) → ∀ x, EvG X' (wipeG Γ (own.map (·.2))) tg x (Γx x) is) (hel : ∀ X', Blk X X' (relS scope sc) → ∀ (D : Addr) (x : α), Ev X' H0 (D :: qs) true (Γx x) elt (g x))
    (he : m = mx.bind (mapR g)) (hs : Fold it) :
    ∀ σ H, At X.K H0 qs Γ σ H → ∀ E : XK, Pas X σ E → ∀ Q : VK, PX (fun xs => ∀ p vs H', Same H H' → H p = none → H' p = some (.lst vs) → RepL X.K (Fz H' (p :: av true Γ σ qs)) vs xs → Q (.ref p) H') (XW X E H) m →
      tLc (wI X tg it) (bG X (relS scope X.env.scope) tg) tYes (bE X (relS scope X.env.scope) elt) (own.map (·.2)) σ H Q := by
  have hsc : X.env.scope = sc := hX.hs
  rw [← hsc] at hg hel
  refine lc_any (md := true) ⟨_, _, hX⟩ hi fl (.inl rfl) hno his hg (fun _ _ _ _ _ => pts_nil) (g := fun x => (g x).bind fun y => .ok (some y)) (turn_map hel) ?_ hs
  rw [he]
  refine congrArg mx.bind (funext fun xs => ?_)
  unfold mapR compR
  split
  · exact mapGo_comp g xs
  · rfl
theorem ev_map [PyT α] [PyT β] {g : α → R β} {m : R (List β)} (hX : XOk X N sc) (hi : EvI X H0 qs mi Γ tg it mx) (fl : mi = true ∨ ∀ {K : PySem.W.Frag} {F F' : Hp} {v : V} {x : α}, rep K F v x → rep K F' v x) (hb : blkC N sc scope own = true) (hno : ∀ p ∈ own, NoOw Γ p.2) (his : ∀ i ∈ is, i ∈ own.map (·.2))
    (hg : ∀ X', Blk X X' (relS scope sc) → ∀ x, EvG X' (wipeG Γ (own.map (·.2))) tg x (Γx x) is) (hel : ∀ X', Blk X X' (relS scope sc) → ∀ (D : Addr) (x : α), Ev X' H0 (D :: qs) true (Γx x) elt (g x))
    (he : m = mx.bind (mapR g) := by rfl) (hs : Fold it := by intro _ _; rfl) : EvO X H0 qs true Γ (.ListComp elt [⟨tg, it, [], 0⟩] scope pos) m := fun σ H at_ E pe Q q =>
  wE_of (pe_lc hX.calm hX.nd pi_w (blkOk_by (by rw [hX.hN, hX.hs]; exact hb)) (fun _ _ _ _ _ => pg_b) (fun _ _ _ _ _ => pts_nil) (fun _ _ _ _ _ => pe_b) (hs X.env)) (map_core hX hi fl hno his hg hel he hs σ H at_ E pe Q q)
theorem filt_core [PyT α] [PyT β] {c : Expr} {t : α → R Bool} {g : α → R β} {m : R (List β)} (hX : XOk X N sc) (hi : EvI X H0 qs mi Γ tg it mx) (fl : mi = true ∨ ∀ {K : PySem.W.Frag} {F F' : Hp} {v : V} {x : α}, rep K F v x → rep K F' v x) (hno : ∀ p ∈ own, NoOw Γ p.2) (his : ∀ i ∈ is, i ∈ own.map (·.2))
    (hg : ∀ X', Blk X X' (relS scope sc) → ∀ x, EvG X' (wipeG Γ (own.map (·.2))) tg x (Γx x) is) (hc : ∀ X', Blk X X' (relS scope sc) → ∀ (D : Addr) (x : α), EvT X' H0 (D :: qs) (Γx x) c (t x)) (hel : ∀ X', Blk X X' (relS scope sc) → ∀ (D : Addr) (x : α), Ev X' H0 (D :: qs) true (Γx x) elt (g x))
    (he : m = mx.bind (compR fun x => (t x).bind fun b => if b = true then (g x).bind fun y => .ok (some y) else .ok none)) (hs : Fold it) :
    ∀ σ H, At X.K H0 qs Γ σ H → ∀ E : XK, Pas X σ E → ∀ Q : VK, PX (fun xs => ∀ p vs H', Same H H' → H p = none → H' p = some (.lst vs) → RepL X.K (Fz H' (p :: av true Γ σ qs)) vs xs → Q (.ref p) H') (XW X E H) m →
      tLc (wI X tg it) (bG X (relS scope X.env.scope) tg) (bT X (relS scope X.env.scope) c) (bE X (relS scope X.env.scope) elt) (own.map (·.2)) σ H Q := by
  have hsc : X.env.scope = sc := hX.hs
  rw [← hsc] at hg hel hc
  exact lc_any (md := true) ⟨_, _, hX⟩ hi fl (.inl rfl) hno his hg (fun _ _ _ _ _ => pts_b) (turn_filt hc hel) he hs
theorem ev_filt [PyT α] [PyT β] {c : Expr} {t : α → R Bool} {g : α → R β} {m : R (List β)} (hX : XOk X N sc) (hi : EvI X H0 qs mi Γ tg it mx) (fl : mi = true ∨ ∀ {K : PySem.W.Frag} {F F' : Hp} {v : V} {x : α}, rep K F v x → rep K F' v x) (hb : blkC N sc scope own = true) (hno : ∀ p ∈ own, NoOw Γ p.2) (his : ∀ i ∈ is, i ∈ own.map (·.2))
    (hg : ∀ X', Blk X X' (relS scope sc) → ∀ x, EvG X' (wipeG Γ (own.map (·.2))) tg x (Γx x) is) (hc : ∀ X', Blk X X' (relS scope sc) → ∀ (D : Addr) (x : α), EvT X' H0 (D :: qs) (Γx x) c (t x)) (hel : ∀ X', Blk X X' (relS scope sc) → ∀ (D : Addr) (x : α), Ev X' H0 (D :: qs) true (Γx x) elt (g x))
    (he : m = mx.bind (compR fun x => (t x).bind fun b => if b = true then (g x).bind fun y => .ok (some y) else .ok none) := by rfl) (hs : Fold it := by intro _ _; rfl) : EvO X H0 qs true Γ (.ListComp elt [⟨tg, it, [c], 0⟩] scope pos) m := fun σ H at_ E pe Q q =>
  wE_of (pe_lc hX.calm hX.nd pi_w (blkOk_by (by rw [hX.hN, hX.hs]; exact hb)) (fun _ _ _ _ _ => pg_b) (fun _ _ _ _ _ => pts_b) (fun _ _ _ _ _ => pe_b) (hs X.env)) (filt_core hX hi fl hno his hg hc hel he hs σ H at_ E pe Q q)
/-- what y = [..] asks: y = [..] on a line -/
def EvC (X : Cx) (H0 : Hp) (qs : List Addr) (Γ : List Sl) [PyT β] (e : Expr) (m : R (List β)) : Prop :=
  ∀ (i : Nat) (y : Str) (py spos : Pos) (D : Ends) (σ : L2.St) (H : Hp), Lc X i y → X.env.scope.names.lookup y = some .local → (∀ l env, env.scope.kind = .function → env.scope.names.lookup y = some .local → swapsWith e (some (.Name y py)) l env = pure true) → X.env.scope.kind = .function →
    At X.K H0 qs Γ σ H → ∀ E : XK, Pas X σ E → PX (fun xs => ∀ p vs H', Same H H' → H p = none → H' p = some (.lst vs) → RepL X.K (Fz H' (p :: av true Γ σ qs)) vs xs → D.nx (σ.set i (some (.ref p))) H') (XW X E H) m →
      wS X (.Assign [.Name y py] e spos) D σ H
theorem ec_map [PyT α] [PyT β] {g : α → R β} {m : R (List β)} (hX : XOk X N sc) (hi : EvI X H0 qs mi Γ tg it mx) (fl : mi = true ∨ ∀ {K : PySem.W.Frag} {F F' : Hp} {v : V} {x : α}, rep K F v x → rep K F' v x) (hb : blkC N sc scope own = true) (hno : ∀ p ∈ own, NoOw Γ p.2) (his : ∀ i ∈ is, i ∈ own.map (·.2))
    (hg : ∀ X', Blk X X' (relS scope sc) → ∀ x, EvG X' (wipeG Γ (own.map (·.2))) tg x (Γx x) is) (hel : ∀ X', Blk X X' (relS scope sc) → ∀ (D : Addr) (x : α), Ev X' H0 (D :: qs) true (Γx x) elt (g x))
    (he : m = mx.bind (mapR g) := by rfl) (hs : Fold it := by intro _ _; rfl) : EvC X H0 qs Γ (.ListComp elt [⟨tg, it, [], 0⟩] scope pos) m := fun i y py spos D σ H l hl hsw hk at_ E pe q =>
  wS_of (ps_setLc hX.calm hX.nd l.hi hl (hsw _ _ hk hl) pi_w (blkOk_by (by rw [hX.hN, hX.hs]; exact hb)) (fun _ _ _ _ _ => pg_b) (fun _ _ _ _ _ => pts_nil) (fun _ _ _ _ _ => pe_b) (hs X.env))
    (map_core hX hi fl hno his hg hel he hs σ H at_ E pe (fun v H1 => gName i v σ H1 D.nx) q)
end
end Wk
set_option Elab.async false
set_option linter.all false
set_option maxRecDepth 100000
/-! Wk8: statements, by typed rules. -/
namespace Wk
open PySem PySem.Spec PyProof.Rows L2
structure Fr (X : Cx) (H0 : Hp) (B : Exc → Prop) : Prop where
  ex : ∃ E : XK, Takes X (fun cls d _ H => E cls d H) ∧ ∀ c, B c → ∀ H, Same H0 H → E (.ref (He.ga X.K c.nm)) none H
  po : X.calm = true → PassesOwn (model X.prog X.w) X.A X.env X.xe
theorem Fr.up {X : Cx} {H0 H1 : Hp} {B : Exc → Prop} (f : Fr X H0 B) (s : Same H0 H1) : Fr X H1 B :=
  ⟨let ⟨E, h1, h2⟩ := f.ex; ⟨E, h1, fun c hc H s2 => h2 c hc H (s.trans s2)⟩, f.po⟩
theorem Fr.use {X : Cx} {H0 : Hp} {B : Exc → Prop} (f : Fr X H0 B) : ∃ E : XK, (∀ σ, Pas X σ E) ∧ ∀ c H, Same H0 H → B c → XW X E H c := by
  obtain ⟨E, h1, h2⟩ := f.ex
  exact ⟨E, fun σ => ⟨passAt h1 σ, fun _ => ⟨_, h1, rfl⟩⟩, fun c H s hc H' s2 => h2 c hc H' (s.trans s2)⟩
/-- a block -/
def W (X : Cx) (H0 : Hp) (qs : List Addr) (rt : VK) (nx : L2.St → Hp → Prop) {O : Type} (A : O → Prop) (B : Exc → Prop) (Γ : List Sl) (ss : List Stmt) (m : R O) : Prop :=
  PX A B m → ∀ σ H, At X.K H0 qs Γ σ H → wSs X ss { nx := nx, rt := rt } σ H
/-- what is told at a return -/
def RtF (X : Cx) (H0 : Hp) (qs : List Addr) (rt : VK) {ρ : Type} [PyT ρ] (A : ρ → Prop) : Prop := ∀ x, A x → ∀ v H', Same H0 H' → rep X.K (Fz H' qs) v x → rt v H'
def RtO (X : Cx) (H0 : Hp) (qs : List Addr) (rt : VK) {ρ : Type} [PyT ρ] (A : List ρ → Prop) : Prop := ∀ xs, A xs → ∀ p vs H', Same H0 H' → H0 p = none → H' p = some (.lst vs) → RepL X.K (Fz H' (p :: qs)) vs xs → rt (.ref p) H'
theorem RtF.up {X : Cx} {H0 H1 : Hp} {qs : List Addr} {rt : VK} {ρ : Type} [PyT ρ] {A : ρ → Prop} (h : RtF X H0 qs rt A) (s : Same H0 H1) : RtF X H1 qs rt A := fun x a v H' s2 r => h x a v H' (s.trans s2) r
theorem RtO.up {X : Cx} {H0 H1 : Hp} {qs : List Addr} {rt : VK} {ρ : Type} [PyT ρ] {A : List ρ → Prop} (h : RtO X H0 qs rt A) (s : Same H0 H1) : RtO X H1 qs rt A := fun x a p vs H' s2 n l r => h x a p vs H' (s.trans s2) (s.free n) l r
/-- the end of a block whose state is s -/
def Nx (X : Cx) (H0 : Hp) (qs : List Addr) {S : Type} (Γ : S → List Sl) (N : S → Prop) : L2.St → Hp → Prop := fun σ H => ∃ s, N s ∧ At X.K H0 qs (Γ s) σ H
/-- on, or out with what is told -/
inductive Ct (S O : Type) where
  | nx (s : S) | rt (o : O)
def ctA {S O : Type} (N : S → Prop) (A : O → Prop) : Ct S O → Prop
  | .nx s => N s
  | .rt o => A o
/-- by cases -/
def Ct.by {S O β : Type} (f : S → β) (g : O → β) : Ct S O → β
  | .nx s => f s
  | .rt o => g o
/-- on from a block that may have told -/
def R.ct {S O : Type} (m : R (Ct S O)) (f : S → R O) : R O := m.bind (Ct.by f .ok)
def forR {α S : Type} (b : α → S → R S) : List α → S → R S
  | [], s => .ok s
  | x :: r, s => (b x s).bind fun s' => forR b r s'
def forM {α S O : Type} (b : α → S → R (Ct S O)) : List α → S → R (Ct S O)
  | [], s => .ok (.nx s)
  | x :: r, s => (b x s).bind (Ct.by (fun s' => forM b r s') fun o => .ok (.rt o))
def whileR {S : Type} (c : S → R Bool) (b : S → R S) : Nat → S → R S
  | 0, _ => .stuck
  | n + 1, s => (c s).bind fun t => if t = true then (b s).bind fun s' => whileR c b n s' else .ok s
section
variable {X : Cx} {H0 : Hp} {qs : List Addr} {rt : VK} {nx : L2.St → Hp → Prop} {O : Type} {A : O → Prop} {B : Exc → Prop} {Γ : List Sl} {rest : List Stmt} {m : R O} {e a b : Expr} {pos p p1 p2 p3 : Pos} {x : Str} {i : Nat} {α β S : Type}
theorem SP_mono {D D' : Ends} (h1 : ∀ σ H, D.nx σ H → D'.nx σ H) (h2 : ∀ v H, D.rt v H → D'.rt v H) (h3 : ∀ σ H, D.bk σ H → D'.bk σ H) (h4 : ∀ σ H, D.ct σ H → D'.ct σ H) {pins : List (Addr × Obj)} {f : Flow} {s : Shared} (h : SP X pins D f s) : SP X pins D' f s := by
  cases f with
  | next => obtain ⟨σ, H, I, q⟩ := h; exact ⟨σ, H, I, h1 σ H q⟩
  | brk => obtain ⟨σ, H, I, q⟩ := h; exact ⟨σ, H, I, h3 σ H q⟩
  | cont => obtain ⟨σ, H, I, q⟩ := h; exact ⟨σ, H, I, h4 σ H q⟩
  | ret u => obtain ⟨v, σ, H, I, r, q⟩ := h; exact ⟨v, σ, H, I, r, h2 v H q⟩
theorem wSs_mono {D D' : Ends} {ss : List Stmt} {σ : L2.St} {H : Hp} (h1 : ∀ σ H, D.nx σ H → D'.nx σ H) (h2 : ∀ v H, D.rt v H → D'.rt v H) (h3 : ∀ σ H, D.bk σ H → D'.bk σ H) (h4 : ∀ σ H, D.ct σ H → D'.ct σ H) (h : wSs X ss D σ H) : wSs X ss D' σ H :=
  ⟨fun pins s I => thn (h.run pins s I) fun f s' q => SP_mono h1 h2 h3 h4 q⟩
theorem wSs_cons {st : Stmt} {D : Ends} {σ : L2.St} {H : Hp} (h : wS X st { D with nx := wSs X rest D } σ H) : wSs X (st :: rest) D σ H := wSs_of (pss_cons ps_w pss_w) h
theorem cons_of {st : Stmt} {σ : L2.St} {H : Hp} (h : wS X st { nx := wSs X rest { nx := nx, rt := rt }, rt := rt } σ H) : wSs X (st :: rest) { nx := nx, rt := rt } σ H := wSs_cons h
/-- a name comes to stand for a value -/
theorem w_asg [PyT α] {m1 : R α} {f : α → R O} {Γ' : α → List Sl} (fr : Fr X H0 B) (l : Lc X i x) (d : Ev X H0 qs true Γ e m1) (k : ∀ y, W X H0 qs rt nx A B (Γ' y) rest (f y)) (hΓ : ∀ y, Γ' y = Γ.set i (.fr y) := by intro _; rfl) (he : m = m1.bind f := by rfl)
    (hs : ∀ env, swapsWith e (some (.Name x p)) pos.line env = pure false := by intro _; rfl) : W X H0 qs rt nx A B Γ (.Assign [.Name x p] e pos :: rest) m := fun q σ H at_ => by
  subst he
  obtain ⟨E, pe, hx⟩ := fr.use
  refine cons_of (wS_of (ps_set l.nd l.hi l.loc pe_w (hs X.env) l.fn) ?_)
  refine d σ H at_ E (pe σ) _ ((PX.bind q).mono (fun y q2 v H1 s1 r1 => ?_) fun c z => hx c H at_.ex z)
  exact k y q2 _ H1 (by rw [hΓ]; exact (at_.grow s1).setFr r1)
/-- .. for a new list -/
theorem w_asgO [PyT α] {m1 : R (List α)} {f : List α → R O} {Γ' : List α → List Sl} (fr : Fr X H0 B) (l : Lc X i x) (d : EvO X H0 qs true Γ e m1) (k : ∀ y, W X H0 qs rt nx A B (Γ' y) rest (f y)) (hΓ : ∀ y, Γ' y = Γ.set i (.ow y) := by intro _; rfl) (he : m = m1.bind f := by rfl)
    (hs : ∀ env, swapsWith e (some (.Name x p)) pos.line env = pure false := by intro _; rfl) : W X H0 qs rt nx A B Γ (.Assign [.Name x p] e pos :: rest) m := fun q σ H at_ => by
  subst he
  obtain ⟨E, pe, hx⟩ := fr.use
  refine cons_of (wS_of (ps_set l.nd l.hi l.loc pe_w (hs X.env) l.fn) ?_)
  refine d σ H at_ E (pe σ) _ ((PX.bind q).mono (fun y q2 p vs H1 s1 hn hl r1 => ?_) fun c z => hx c H at_.ex z)
  exact k y q2 _ H1 (by rw [hΓ]; exact at_.setOw s1 hn hl r1)
/-- .. for a comprehension, the name a local -/
theorem w_asgC [PyT α] {m1 : R (List α)} {f : List α → R O} {Γ' : List α → List Sl} (fr : Fr X H0 B) (l : Lc X i x) (hl : X.env.scope.names.lookup x = some .local) (hk : X.env.scope.kind = .function) (d : EvC X H0 qs Γ e m1) (k : ∀ y, W X H0 qs rt nx A B (Γ' y) rest (f y))
    (hΓ : ∀ y, Γ' y = Γ.set i (.ow y) := by intro _; rfl) (he : m = m1.bind f := by rfl)
    (hsw : ∀ l env, env.scope.kind = .function → env.scope.names.lookup x = some .local → swapsWith e (some (.Name x p)) l env = pure true := by intro _ _ h1 h2; exact sw_true h1 h2 rfl (by decide +kernel)) : W X H0 qs rt nx A B Γ (.Assign [.Name x p] e pos :: rest) m := fun q σ H at_ => by
  subst he
  obtain ⟨E, pe, hx⟩ := fr.use
  refine cons_of (d i x p pos _ σ H l hl hsw hk at_ E (pe σ) ((PX.bind q).mono (fun y q2 p vs H1 s1 hn hl r1 => ?_) fun c z => hx c H at_.ex z))
  exact k y q2 _ H1 (by rw [hΓ]; exact at_.setOw s1 hn hl r1)
theorem w_asgCf [PyT α] {m1 : R (List α)} {f : List α → R O} {Γ' : List α → List Sl} (fr : Fr X H0 B) (l : Lc X i x) (hl : X.env.scope.names.lookup x = some .local) (hk : X.env.scope.kind = .function) (d : EvC X H0 qs Γ e m1) (k : ∀ y, W X H0 qs rt nx A B (Γ' y) rest (f y))
    (hΓ : ∀ y, Γ' y = Γ.set i (.fr y) := by intro _; rfl) (he : m = m1.bind f := by rfl)
    (hsw : ∀ l env, env.scope.kind = .function → env.scope.names.lookup x = some .local → swapsWith e (some (.Name x p)) l env = pure true := by intro _ _ h1 h2; exact sw_true h1 h2 rfl (by decide +kernel)) : W X H0 qs rt nx A B Γ (.Assign [.Name x p] e pos :: rest) m := fun q σ H at_ => by
  subst he
  obtain ⟨E, pe, hx⟩ := fr.use
  refine cons_of (d i x p pos _ σ H l hl hsw hk at_ E (pe σ) ((PX.bind q).mono (fun y q2 p vs H1 s1 hn hl r1 => ?_) fun c z => hx c H at_.ex z))
  refine k y q2 _ H1 ?_
  rw [hΓ]
  exact (at_.grow s1).setFr ⟨p, vs, rfl, Fz.some_iff.mpr ⟨fun z => at_.av_there z hn, hl⟩, r1.mono (Fz.sub (Same.refl _) fun b z => List.mem_cons_of_mem _ z)⟩
/-- a list of the def's own is no more changed | a slot is forgotten -/
theorem w_frz [PyT α] {xs : List α} {Γ' : List Sl} {ss : List Stmt} (i : Nat) (h : Γ[i]? = some (.ow xs)) (hΓ : Γ' = Γ.set i (.fr xs)) (k : W X H0 qs rt nx A B Γ' ss m) : W X H0 qs rt nx A B Γ ss m := fun q σ H at_ => k q σ H (by rw [hΓ]; exact at_.frz h)
theorem At.unn {K : PySem.W.Frag} {H : Hp} {σ : L2.St} (at_ : At K H0 qs Γ σ H) (i : Nat) : At K H0 qs (Γ.set i .un) σ H := by
  have h := at_.setUn (i := i) (o := (σ[i]?).getD Option.none)
  have e : σ.set i ((σ[i]?).getD Option.none) = σ := by
    refine List.ext_getElem? fun j => ?_
    by_cases hj : i = j
    · subst hj
      rw [List.getElem?_set]
      simp only [if_true]
      by_cases hl : i < σ.length
      · rw [if_pos hl, List.getElem?_eq_getElem hl] <;> rfl
      · rw [if_neg hl, List.getElem?_eq_none (by omega)]
    · rw [List.getElem?_set_ne hj]
  rw [e] at h
  exact h
def unAll : List Sl → List Nat → List Sl
  | Γ, [] => Γ
  | Γ, i :: is => unAll (Γ.set i .un) is
theorem At.uns {K : PySem.W.Frag} {H : Hp} {σ : L2.St} : ∀ {Γ : List Sl} (is : List Nat), At K H0 qs Γ σ H → At K H0 qs (unAll Γ is) σ H
  | _, [], a => a
  | _, i :: is, a => At.uns is (a.unn i)
/-- the block's end -/
theorem w_end {N : S → Prop} {Γs : S → List Sl} {s : S} {m : R S} (is : List Nat) (hΓ : Γs s = unAll Γ is := by rfl) (he : m = .ok s := by rfl) : W X H0 qs rt (Nx X H0 qs Γs N) N B Γ [] m := fun q σ H at_ => by
  subst he
  exact wSs_of pss_nil ⟨s, q, by rw [hΓ]; exact at_.uns is⟩
theorem w_endM {N : S → Prop} {Γs : S → List Sl} {s : S} {m : R (Ct S O)} (is : List Nat) (hΓ : Γs s = unAll Γ is := by rfl) (he : m = .ok (.nx s) := by rfl) : W X H0 qs rt (Nx X H0 qs Γs N) (ctA N A) B Γ [] m := fun q σ H at_ => by
  subst he
  exact wSs_of pss_nil ⟨s, q, by rw [hΓ]; exact at_.uns is⟩
/-- return e -/
theorem w_ret {ρ : Type} [PyT ρ] {A' : ρ → Prop} {m1 : R ρ} {g : ρ → O} (fr : Fr X H0 B) (hR : RtF X H0 qs rt A') (d : Ev X H0 qs true Γ e m1) (hg : ∀ x, A (g x) → A' x) (he : m = m1.bind fun x => .ok (g x)) : W X H0 qs rt nx A B Γ (.Return (some e) pos :: rest) m := fun q σ H at_ => by
  subst he
  obtain ⟨E, pe, hx⟩ := fr.use
  refine cons_of (wS_of (ps_ret pe_w) ?_)
  refine d σ H at_ E (pe σ) _ ((PX.bind q).mono (fun y q2 v H1 s1 r1 => ?_) fun c z => hx c H at_.ex z)
  exact hR y (hg y q2) v H1 (at_.ex.trans s1) (PyT.mono (Fz.sub (Same.refl _) fun b hb => List.mem_append_right _ hb) r1)
theorem w_retO {ρ : Type} [PyT ρ] {A' : List ρ → Prop} {m1 : R (List ρ)} {g : List ρ → O} (fr : Fr X H0 B) (hR : RtO X H0 qs rt A') (d : EvO X H0 qs true Γ e m1) (hg : ∀ x, A (g x) → A' x) (he : m = m1.bind fun x => .ok (g x)) : W X H0 qs rt nx A B Γ (.Return (some e) pos :: rest) m := fun q σ H at_ => by
  subst he
  obtain ⟨E, pe, hx⟩ := fr.use
  refine cons_of (wS_of (ps_ret pe_w) ?_)
  refine d σ H at_ E (pe σ) _ ((PX.bind q).mono (fun y q2 p vs H1 s1 hn hl r1 => ?_) fun c z => hx c H at_.ex z)
  exact hR y (hg y q2) p vs H1 (at_.ex.trans s1) (at_.ex.free hn) hl (r1.mono (Fz.sub (Same.refl _) fun b hb => (List.mem_cons.mp hb).elim (fun z => by rw [z]; exact List.mem_cons_self) fun z => List.mem_cons_of_mem _ (List.mem_append_right _ z)))
/-- return of a list of the def's own -/
theorem w_retV {ρ : Type} [PyT ρ] {A' : List ρ → Prop} {ys : List ρ} {g : List ρ → O} (fr : Fr X H0 B) (hR : RtO X H0 qs rt A') (n : Nm X i x) (h : Γ[i]? = some (.ow ys)) (hg : ∀ x, A (g x) → A' x) (he : m = .ok (g ys)) : W X H0 qs rt nx A B Γ (.Return (some (.Name x p)) pos :: rest) m := fun q σ H at_ => by
  subst he
  obtain ⟨q', vs, h1, h2, h3, h4, h5⟩ := at_.ow h
  refine cons_of (wS_of (ps_ret (pe_var n.hi n.vis n.hd n.hc)) ⟨_, h1, ?_⟩)
  exact hR ys (hg ys q) q' vs H at_.ex h4 h3 (h5.mono (Fz.sub (Same.refl _) fun b hb => (List.mem_cons.mp hb).elim (fun z => by rw [z]; exact List.mem_append_left _ h2) fun z => List.mem_append_right _ z))
/-! ### lists changed -/
def appR (xs : List α) (y : α) : R (List α) := R.chk (decide (xs.length < 16777216)) (xs ++ [y])
/-- xs.append(e) -/
theorem w_append [PyT α] {ys : List α} {m1 : R α} {f : List α → R O} {Γ' : List α → List Sl} (fr : Fr X H0 B) (n : Nm X i x) (h : Γ[i]? = some (.ow ys)) (d : Ev X H0 qs true Γ e m1) (k : ∀ zs, W X H0 qs rt nx A B (Γ' zs) rest (f zs)) (hΓ : ∀ zs, Γ' zs = Γ.set i (.ow zs) := by intro _; rfl) (ht : tmF Γ = true := by rfl)
    (he : m = m1.bind fun y => (appR ys y).bind f := by rfl)
    (hfew : ∀ env, ((backTo p3 (starEach [e] env)).all (fun x => !x.1) && (backToKw p3 (keywordEach [] env)).all (fun x => x.1.isSome) && decide ([e].length + ([] : List Keyword).length + (if ([] : List Keyword).isEmpty then 0 else 1) < 30)) = true := by intro _; rfl)
    (hline : (p2.endLine == p3.line) = true := by rfl) (hs : St1 e := by intro _; rfl) (hbase : ∀ env, attributeBase (.Name x p1) "append" env (eval (.Name x p1) env) = eval (.Name x p1) env := by intro _; rfl)
    (hsw : ∀ env, swapsWith (.Call (.Attribute (.Name x p1) "append" p2) [e] [] p3) none pos.line env = pure false := by intro _; rfl) : W X H0 qs rt nx A B Γ (.Expr (.Call (.Attribute (.Name x p1) "append" p2) [e] [] p3) pos :: rest) m := fun q σ H at_ => by
  subst he
  obtain ⟨E, pe, hx⟩ := fr.use
  refine cons_of (wS_of (ps_expr (pe_bm PySem.F.plainAttrs_list PySem.F.slot_list_append PySem.F.type_list_append mt_append (pe_var n.hi n.vis n.hd n.hc) (pa_cons pe_w pa_nil (hs X.env)) (hbase X.env) (hfew X.env) hline (hs X.env) rfl) (hsw X.env)) ?_)
  obtain ⟨l, vs, hl, hm, hv, h0, hr⟩ := at_.ow h
  refine ⟨_, hl, .inl ⟨rfl, _, SqL.of hv⟩, ?_⟩
  refine d σ H at_ E (pe σ) _ ((PX.bind q).mono (fun y q2 v H1 s1 r1 => ?_) fun c z => hx c H at_.ex z)
  obtain ⟨c, q3⟩ := PX.chk (PX.bind q2)
  have at1 := at_.grow s1
  refine ⟨l, vs, v, rfl, rfl, s1 _ _ hv, by rw [hr.len, sizeLine_eq]; exact of_decide_eq_true c, ?_⟩
  exact k _ q3 _ _ (by rw [hΓ]; exact at1.mut h hl ((hr.mono (Fz.mono s1)).app (RepL.one r1)) ht)
/-- xs.insert(i, e) -/
def insR (xs : List α) (j : Int) (y : α) : R (List α) := R.chk (decide (xs.length < 16777216 ∧ 0 ≤ j ∧ j < 9223372036854775808)) (xs.take j.toNat ++ [y] ++ xs.drop j.toNat)
theorem w_insert [PyT α] {ys : List α} {mj : R Int} {m1 : R α} {f : List α → R O} {Γ' : List α → List Sl} (fr : Fr X H0 B) (n : Nm X i x) (h : Γ[i]? = some (.ow ys)) (dj : Ev X H0 qs true Γ a mj) (d : Ev X H0 qs true Γ e m1) (k : ∀ zs, W X H0 qs rt nx A B (Γ' zs) rest (f zs)) (hΓ : ∀ zs, Γ' zs = Γ.set i (.ow zs) := by intro _; rfl) (ht : tmF Γ = true := by rfl)
    (he : m = mj.bind fun j => m1.bind fun y => (insR ys j y).bind f := by rfl)
    (hfew : ∀ env, ((backTo p3 (starEach [a, e] env)).all (fun x => !x.1) && (backToKw p3 (keywordEach [] env)).all (fun x => x.1.isSome) && decide ([a, e].length + ([] : List Keyword).length + (if ([] : List Keyword).isEmpty then 0 else 1) < 30)) = true := by intro _; rfl)
    (hline : (p2.endLine == p3.line) = true := by rfl) (hs : St2 a e := by intro _; rfl) (hs2 : St1 e := by intro _; rfl) (hp : ∀ env, (backTo p3 (starEach [e] env)).any (·.1) = false := by intro _; rfl) (hbase : ∀ env, attributeBase (.Name x p1) "insert" env (eval (.Name x p1) env) = eval (.Name x p1) env := by intro _; rfl)
    (hsw : ∀ env, swapsWith (.Call (.Attribute (.Name x p1) "insert" p2) [a, e] [] p3) none pos.line env = pure false := by intro _; rfl) : W X H0 qs rt nx A B Γ (.Expr (.Call (.Attribute (.Name x p1) "insert" p2) [a, e] [] p3) pos :: rest) m := fun q σ H at_ => by
  subst he
  obtain ⟨E, pe, hx⟩ := fr.use
  refine cons_of (wS_of (ps_expr (pe_bm PySem.F.plainAttrs_list PySem.F.slot_list_insert PySem.F.type_list_insert mt_insert (pe_var n.hi n.vis n.hd n.hc) (pa_cons pe_w (pa_cons pe_w pa_nil (hs2 X.env)) (hs X.env)) (hbase X.env) (hfew X.env) hline (hs X.env) (hp X.env)) (hsw X.env)) ?_)
  obtain ⟨l, vs, hl, hm, hv, h0, hr⟩ := at_.ow h
  refine ⟨_, hl, .inl ⟨rfl, _, SqL.of hv⟩, ?_⟩
  refine dj σ H at_ E (pe σ) _ ((PX.bind q).mono (fun j q2 vj H1 s1 rj => ?_) fun c z => hx c H at_.ex z)
  refine d σ H1 (at_.grow s1) E (pe σ) _ ((PX.bind q2).mono (fun y q3 v H2 s2 r1 => ?_) fun c z => hx c H1 (at_.ex.trans s1) z)
  obtain ⟨c, q4⟩ := PX.chk (PX.bind q3)
  have c' : ys.length < 16777216 ∧ 0 ≤ j ∧ j < 9223372036854775808 := of_decide_eq_true c
  have s := s1.trans s2
  have at2 := at_.grow s
  have ej : vj = .int j := rj
  subst ej
  have hr2 := hr.mono (Fz.mono (ps := owA Γ σ ++ qs) s)
  refine ⟨l, vs, j, v, rfl, rfl, s _ _ hv, by rw [hr.len, sizeLine_eq]; exact c'.1, c'.2.1, by omega, ?_⟩
  exact k _ q4 _ _ (by rw [hΓ]; exact at2.mut h hl (((hr2.take _).app (RepL.one r1)).app (hr2.drop _)) ht)
/-- xs[i] = e -/
def setR (xs : List α) (j : Int) (y : α) : R (List α) := (R.ofO (ixN xs.length j)).bind fun k => .ok (xs.set k y)
theorem w_setix [PyT α] {ys : List α} {mj : R Int} {m1 : R α} {f : List α → R O} {Γ' : List α → List Sl} (fr : Fr X H0 B) (n : Nm X i x) (h : Γ[i]? = some (.ow ys)) (d : Ev X H0 qs true Γ e m1) (dj : Ev X H0 qs true Γ a mj) (k : ∀ zs, W X H0 qs rt nx A B (Γ' zs) rest (f zs)) (hΓ : ∀ zs, Γ' zs = Γ.set i (.ow zs) := by intro _; rfl) (ht : tmF Γ = true := by rfl)
    (he : m = m1.bind fun y => mj.bind fun j => (setR ys j y).bind f := by rfl)
    (ha : ∀ env v, assign (.Subscript (.Name x p1) a p2) env v = (do
      let ov ← holding [v] (eval (.Name x p1) env)
      let iv ← holding [v, ov] (eval a env)
      standAt p2
      holding [v, ov, iv] (setItem ov iv v)
      release [v, ov, iv] []) := by intro _ _; rfl) (hs : ∀ env, swapsWithSole [.Subscript (.Name x p1) a p2] e pos.line env = pure false := by intro _; rfl) (hw : ∀ env, swappedStores [.Subscript (.Name x p1) a p2] e env = pure none := by intro _; rfl)
    (h1 : ∀ env, (assignEach [.Subscript (.Name x p1) a p2] env).map (·.2) = [assign (.Subscript (.Name x p1) a p2) env] := by intro _; rfl) : W X H0 qs rt nx A B Γ (.Assign [.Subscript (.Name x p1) a p2] e pos :: rest) m := fun q σ H at_ => by
  subst he
  obtain ⟨E, pe, hx⟩ := fr.use
  refine cons_of (wS_of (ps_asg pe_w (pg_sub (pe_var n.hi n.vis n.hd n.hc) pe_w set_list (ha X.env)) (hs X.env) (hw X.env) (h1 X.env)) ?_)
  refine d σ H at_ E (pe σ) _ ((PX.bind q).mono (fun y q2 v H1 s1 r1 => ?_) fun c z => hx c H at_.ex z)
  obtain ⟨l, vs, hl, hm, hv, h0, hr⟩ := (at_.grow s1).ow h
  refine ⟨_, hl, ?_⟩
  refine dj σ H1 (at_.grow s1) E (pe σ) _ ((PX.bind q2).mono (fun j q3 vj H2 s2 rj => ?_) fun c z => hx c H1 (at_.ex.trans s1) z)
  have q4 := PX.bind (PX.bind q3)
  obtain ⟨kk, hk, q5⟩ := PX.ofO q4
  have at2 := at_.grow (s1.trans s2)
  have ej : vj = .int j := rj
  subst ej
  have hr2 := hr.mono (Fz.mono (ps := owA Γ σ ++ qs) s2)
  refine ⟨l, vs, j, kk, rfl, rfl, s2 _ _ hv, by rw [hr.len]; exact hk, ?_⟩
  exact k _ q5 _ _ (by rw [hΓ]; exact at2.mut h hl (hr2.set (PyT.mono (Fz.mono s2) r1)) ht)
/-! ### if -/
variable {sa sb : List Stmt}
/-- a branch that tells -/
theorem w_ifR {c : Expr} {mc : R Bool} {ma mr : R O} (fr : Fr X H0 B) (dc : EvT X H0 qs Γ c mc) (ha : ∀ nx', W X H0 qs rt nx' A B Γ sa ma) (hr : W X H0 qs rt nx A B Γ rest mr) (he : m = mc.bind fun t => if t = true then ma else mr := by rfl) : W X H0 qs rt nx A B Γ (.If c sa [] pos :: rest) m := fun q σ H at_ => by
  subst he
  obtain ⟨E, pe, hx⟩ := fr.use
  refine cons_of (wS_of (ps_if pt_w pss_w pss_nil) ?_)
  refine dc σ H at_ E (pe σ) _ ((PX.bind q).mono (fun t q2 H1 s1 => ?_) fun c z => hx c H at_.ex z)
  cases t with
  | true => exact ha _ q2 σ H1 (at_.grow s1)
  | false => exact hr q2 σ H1 (at_.grow s1)
/-- both branches go on -/
theorem w_ifJ {c : Expr} {mc : R Bool} {ma mb : R S} {f : S → R O} {Γs : S → List Sl} (fr : Fr X H0 B) (dc : EvT X H0 qs Γ c mc) (ha : ∀ N : S → Prop, W X H0 qs rt (Nx X H0 qs Γs N) N B Γ sa ma) (hb : ∀ N : S → Prop, W X H0 qs rt (Nx X H0 qs Γs N) N B Γ sb mb)
    (hr : ∀ s, W X H0 qs rt nx A B (Γs s) rest (f s)) (he : m = mc.bind fun t => (if t = true then ma else mb).bind f := by rfl) : W X H0 qs rt nx A B Γ (.If c sa sb pos :: rest) m := fun q σ H at_ => by
  subst he
  obtain ⟨E, pe, hx⟩ := fr.use
  refine cons_of (wS_of (ps_if pt_w pss_w pss_w) ?_)
  refine dc σ H at_ E (pe σ) _ ((PX.bind q).mono (fun t q2 H1 s1 => ?_) fun c z => hx c H at_.ex z)
  have go : ∀ {ss : List Stmt} {mm : R S}, W X H0 qs rt (Nx X H0 qs Γs (fun s => PX A B (f s))) (fun s => PX A B (f s)) B Γ ss mm → PX A B (mm.bind f) → wSs X ss { nx := wSs X rest { nx := nx, rt := rt }, rt := rt } σ H1 := fun {ss mm} w q3 =>
    wSs_mono (D := { nx := Nx X H0 qs Γs (fun s => PX A B (f s)), rt := rt }) (fun σ' H' ⟨s, hs, as⟩ => hr s hs σ' H' as) (fun _ _ z => z) (fun _ _ z => z) (fun _ _ z => z) (w (PX.bind q3) σ H1 (at_.grow s1))
  cases t with
  | true => exact go (ha _) q2
  | false => exact go (hb _) q2
/-! ### loops -/
theorem At.own0 {K : PySem.W.Frag} {H : Hp} {σ : L2.St} (a : At K H0 qs Γ σ H) {q : Addr} (hq : q ∈ owA Γ σ) : H0 q = none := by
  have go : ∀ {Γ : List Sl} {σ : L2.St} {F : Hp}, AllOk K F H H0 Γ σ → q ∈ owA Γ σ → H0 q = none := by
    intro Γ
    induction Γ with
    | nil => intro σ F _ h; cases h
    | cons t Γ ih =>
      intro σ F ok h
      cases σ with
      | nil =>
        rw [owA_nil] at h
        cases h
      | cons u σ =>
        rw [owA_cons] at h
        rcases List.mem_append.mp h with h | h
        · cases t with
          | ow xs =>
            obtain ⟨q', vs, e1, e2, e3, _⟩ := ok.1
            subst e1
            have e : q = q' := by simpa [own1] using h
            rw [e]; exact e3
          | dc xs =>
            obtain ⟨q', vs, e1, e2, e3, _⟩ := ok.1
            subst e1
            have e : q = q' := by simpa [own1] using h
            rw [e]; exact e3
          | di xs =>
            obtain ⟨q', vs, e1, e2, e3, _⟩ := ok.1
            subst e1
            have e : q = q' := by simpa [own1] using h
            rw [e]; exact e3
          | un => cases h
          | fr x => cases h
          | tm x => cases h
          | pm G x => cases h
          | jr pi c => cases h
          | nw ps x =>
            obtain ⟨v, e1, e2, e3⟩ := ok.1
            subst e1
            exact (e3 q h).2
          | jk n pi po c =>
            obtain ⟨v, e1, e2, e3, e4⟩ := ok.1
            subst e1
            exact (List.mem_append.mp (show q ∈ pi ++ po from h)).elim (fun z => (e3 q z).2) fun z => (e4 q z).2
          | ot rs xss =>
            obtain ⟨q', rs', e1, ep, e2, e3, e4⟩ := ok.1
            subst e1
            rcases List.mem_cons.mp (show q ∈ q' :: rs from h) with e | h
            · rw [e]; exact e3
            · exact (e4.mem (ep.mem_iff.mpr h)).2
        · exact ih ok.2 h
  exact go a.ok hq
/-- the heaps in which things were handed in -/
def pmG : List Sl → List Hp
  | [] => []
  | @Sl.pm _ _ G _ :: Γ => G :: pmG Γ
  | _ :: Γ => pmG Γ
theorem pmG_tail {s : Sl} {G : Hp} (h : G ∈ pmG Γ) : G ∈ pmG (s :: Γ) := by
  cases s <;> first | exact h | exact List.mem_cons_of_mem _ h
theorem AllOk.pms {K : PySem.W.Frag} {F H : Hp} : ∀ {Γ : List Sl} {σ : L2.St}, AllOk K F H H0 Γ σ → ∀ G ∈ pmG Γ, Same G H0
  | [], _, _, G, hG => by cases hG
  | s :: Γ, [], h, _, _ => h.elim
  | s :: Γ, o :: σ, h, G, hG => by
    have ih := AllOk.pms h.2 G
    cases s with
    | pm G' x =>
      rcases List.mem_cons.mp (show G ∈ G' :: pmG Γ from hG) with e | z
      · rw [e]
        obtain ⟨v, _, _, k⟩ := h.1
        exact k
      · exact ih z
    | _ => exact ih hG
theorem AllOk.base {K : PySem.W.Frag} {F H H1 : Hp} : ∀ {Γ : List Sl} {σ : L2.St}, AllOk K F H H0 Γ σ → (∀ q ∈ owA Γ σ, H1 q = none) → (∀ G ∈ pmG Γ, Same G H1) → AllOk K F H H1 Γ σ
  | [], [], _, _, _ => trivial
  | s :: Γ, o :: σ, h, hq, hG => by
    refine ⟨?_, AllOk.base h.2 (fun q z => hq q (by rw [owA_cons]; exact List.mem_append_right _ z)) fun G z => hG G (pmG_tail z)⟩
    have h1 := h.1
    cases s with
    | pm G x =>
      obtain ⟨v, e1, e2, e3⟩ := h1
      exact ⟨v, e1, e2, hG G List.mem_cons_self⟩
    | jr pi c => exact h1
    | nw ps x =>
      obtain ⟨v, e1, e2, e3⟩ := h1
      exact ⟨v, e1, e2, fun p hp => ⟨(e3 p hp).1, hq p (by rw [owA_cons]; exact List.mem_append_left _ hp)⟩⟩
    | jk n pi po c =>
      obtain ⟨v, e1, e2, e3, e4⟩ := h1
      exact ⟨v, e1, e2, fun p hp => ⟨(e3 p hp).1, hq p (by rw [owA_cons]; exact List.mem_append_left _ (List.mem_append_left _ hp))⟩, fun p hp => ⟨(e4 p hp).1, hq p (by rw [owA_cons]; exact List.mem_append_left _ (List.mem_append_right _ hp))⟩⟩
    | un => trivial
    | fr x => exact h1
    | ow xs =>
      obtain ⟨q, vs, e1, e2, e3, e4⟩ := h1
      subst e1
      exact ⟨q, vs, rfl, e2, hq q (by rw [owA_cons]; exact List.mem_append_left _ (by simp [own1])), e4⟩
    | dc xs =>
      obtain ⟨q, vs, e1, e2, e3, e4⟩ := h1
      subst e1
      exact ⟨q, vs, rfl, e2, hq q (by rw [owA_cons]; exact List.mem_append_left _ (by simp [own1])), e4⟩
    | di xs =>
      obtain ⟨q, vs, e1, e2, e3, e4⟩ := h1
      subst e1
      exact ⟨q, vs, rfl, e2, hq q (by rw [owA_cons]; exact List.mem_append_left _ (by simp [own1])), e4⟩
    | tm x => exact h1
    | ot rs xss =>
      obtain ⟨q, rs', e1, ep, e2, e3, e4⟩ := h1
      subst e1
      exact ⟨q, rs', rfl, ep, e2, hq q (by rw [owA_cons]; exact List.mem_append_left _ List.mem_cons_self), e4.base fun r hr => hq r (by rw [owA_cons]; exact List.mem_append_left _ (List.mem_cons_of_mem _ (ep.mem_iff.mp hr)))⟩
  | [], _ :: _, h, _, _ => h.elim
  | _ :: _, [], h, _, _ => h.elim
theorem At.rebase {K : PySem.W.Frag} {H : Hp} {σ : L2.St} (a : At K H0 qs Γ σ H) : At K (Fz H (owA Γ σ)) qs Γ σ H ∧ Same H0 (Fz H (owA Γ σ)) := by
  have sb : Same H0 (Fz H (owA Γ σ)) := fun b o e => Fz.some_iff.mpr ⟨fun z => (by rw [a.own0 z] at e; cases e), a.ex b o e⟩
  exact ⟨⟨Fz.out, a.ok.base (fun q hq => by unfold Fz; rw [if_pos hq]) fun G hG => (a.ok.pms G hG).trans sb, a.nd, a.sep, a.qd⟩, sb⟩
theorem At.unbase {K : PySem.W.Frag} {H H1 : Hp} {σ : L2.St} (a : At K H1 qs Γ σ H) (s : Same H0 H1) (hG : ∀ G ∈ pmG Γ, Same G H0) : At K H0 qs Γ σ H := ⟨s.trans a.ex, a.ok.base (fun q hq => s.free (a.own0 hq)) hG, a.nd, a.sep, a.qd⟩
abbrev FoldO (it : Expr) : Prop := ∀ env x, foldedSetIterable it env x = pure x
/-- for target in it: body, that only goes on -/
theorem w_for [PyT α] {tg it : Expr} {body : List Stmt} {mx : R (List α)} {bd : α → S → R S} {s0 : S} {f : S → R O} {Γs : S → List Sl} {Γb : α → S → List Sl} {is : List Nat} (hc : X.calm = true) (fr : Fr X H0 B) (hi : EvI X H0 qs true Γ tg it mx) (hg : ∀ y s, EvG X (Γs s) tg y (Γb y s) is)
    (hb : ∀ H1, Same H0 H1 → ∀ (N : S → Prop) y s, W X H1 qs rt (Nx X H1 qs Γs N) N B (Γb y s) body (bd y s)) (hr : ∀ s, W X H0 qs rt nx A B (Γs s) rest (f s)) (hΓ : Γ = Γs s0 := by rfl) (he : m = mx.bind fun xs => (forR bd xs s0).bind f := by rfl) (hs : FoldO it := by intro _ _; rfl) (hpm : ∀ s, pmG (Γs s) = pmG (Γs s0) := by intro s; first | rfl | (cases s <;> rfl)) :
    W X H0 qs rt nx A B Γ (.For tg it body [] pos :: rest) m := fun q σ H at_ => by
  subst he
  obtain ⟨E, pe, hx⟩ := fr.use
  refine cons_of (wS_of (ps_for (fr.po hc) hc pi_w pg_w pss_w (hs X.env)) ?_)
  refine hi σ H at_ E (pe σ) _ ((PX.bind q).mono (fun xs q2 J H1 s1 wk => ?_) fun c z => hx c H at_.ex z)
  have at1 := at_.grow s1
  obtain ⟨atb, sb⟩ := at1.rebase
  have frb := fr.up sb
  have hFb : Same (Fz H1 (av true Γ σ qs)) (Fz H1 (owA Γ σ)) := Fz.sub (Same.refl _) fun b hb => List.mem_append_left _ hb
  refine ⟨fun i mm σ' H' => mm = xs.length - i ∧ i ≤ xs.length ∧ ∃ s, At X.K (Fz H1 (owA Γ σ)) qs (Γs s) σ' H' ∧ PX (fun s' => PX A B (f s')) B (forR bd (xs.drop i) s), ⟨xs.length, by simp, Nat.zero_le _, s0, by rw [← hΓ]; exact atb, by rw [List.drop_zero]; exact PX.bind q2⟩, ?_⟩
  rintro i mm σ' H' ⟨rfl, hi', s, ats, hps⟩
  have sF : Same (Fz H1 (av true Γ σ qs)) H' := hFb.trans ats.ex
  by_cases hlt : i < xs.length
  · refine .inr ⟨wk.goes i H' hlt sF, Nx X (Fz H1 (owA Γ σ)) qs Γs (fun s' => PX (fun s2 => PX A B (f s2)) B (forR bd (xs.drop (i + 1)) s')), fun σ2 H2 ⟨s', hs', as'⟩ => ⟨xs.length - (i + 1), by omega, rfl, hlt, s', as', hs'⟩, fun v H2 hy => ?_⟩
    obtain ⟨s2, y, hy1, hy2⟩ := wk.yields i H' v H2 hlt sF hy
    have hdrop : xs.drop i = y :: xs.drop (i + 1) := by
      obtain ⟨h1, h2⟩ := List.getElem?_eq_some_iff.mp hy1
      rw [List.drop_eq_getElem_cons h1, h2]
    rw [hdrop] at hps
    have at2 := ats.grow s2
    refine hg y s _ qs σ' H2 v at2 (hy2 _ ?_ fun q hq => ats.av_hv hq) _ fun σ3 at3 _ _ _ => ?_
    · refine Fz.go fun b o hb hb2 => ?_
      have hbo : (Fz H1 (owA Γ σ)) b = some o := Fz.some_iff.mpr ⟨fun z => hb (List.mem_append_left _ z), hb2⟩
      refine ⟨fun z => ?_, ats.ex b o hbo⟩
      rcases List.mem_append.mp z with z | z
      · rw [ats.own0 z] at hbo; cases hbo
      · exact hb (List.mem_append_right _ z)
    · refine wSs_mono (D := { nx := _, rt := rt }) (fun _ _ z => z) (fun _ _ z => z) (fun _ _ z => False.elim z) (fun _ _ z => False.elim z) (hb _ sb _ y s ?_ σ3 H2 at3)
      exact PX.bind (show PX _ B ((bd y s).bind fun s' => forR bd (xs.drop (i + 1)) s') from hps)
  · have e : i = xs.length := by omega
    subst e
    refine .inl ⟨wk.stops H' sF, ?_⟩
    rw [List.drop_length] at hps
    exact hr s hps σ' H' (ats.unbase sb fun G hG => by rw [hpm, ← hΓ] at hG; exact at_.ok.pms G hG)
/-- .. that may tell -/
theorem w_forM [PyT α] {tg it : Expr} {body : List Stmt} {mx : R (List α)} {bd : α → S → R (Ct S O)} {s0 : S} {f : S → R O} {Γs : S → List Sl} {Γb : α → S → List Sl} {is : List Nat} (hc : X.calm = true) (fr : Fr X H0 B) (hi : EvI X H0 qs true Γ tg it mx) (hg : ∀ y s, EvG X (Γs s) tg y (Γb y s) is)
    (hb : ∀ H1, Same H0 H1 → ∀ (N : S → Prop) y s, W X H1 qs rt (Nx X H1 qs Γs N) (ctA N A) B (Γb y s) body (bd y s)) (hr : ∀ s, W X H0 qs rt nx A B (Γs s) rest (f s)) (hΓ : Γ = Γs s0 := by rfl) (he : m = mx.bind fun xs => (forM bd xs s0).ct f := by rfl) (hs : FoldO it := by intro _ _; rfl) (hpm : ∀ s, pmG (Γs s) = pmG (Γs s0) := by intro s; first | rfl | (cases s <;> rfl)) :
    W X H0 qs rt nx A B Γ (.For tg it body [] pos :: rest) m := fun q σ H at_ => by
  subst he
  obtain ⟨E, pe, hx⟩ := fr.use
  refine cons_of (wS_of (ps_for (fr.po hc) hc pi_w pg_w pss_w (hs X.env)) ?_)
  refine hi σ H at_ E (pe σ) _ ((PX.bind q).mono (fun xs q2 J H1 s1 wk => ?_) fun c z => hx c H at_.ex z)
  have at1 := at_.grow s1
  obtain ⟨atb, sb⟩ := at1.rebase
  have frb := fr.up sb
  have hFb : Same (Fz H1 (av true Γ σ qs)) (Fz H1 (owA Γ σ)) := Fz.sub (Same.refl _) fun b hb => List.mem_append_left _ hb
  let F : Ct S O → Prop := fun c => PX A B (Ct.by f .ok c)
  refine ⟨fun i mm σ' H' => mm = xs.length - i ∧ i ≤ xs.length ∧ ∃ s, At X.K (Fz H1 (owA Γ σ)) qs (Γs s) σ' H' ∧ PX F B (forM bd (xs.drop i) s), ⟨xs.length, by simp, Nat.zero_le _, s0, by rw [← hΓ]; exact atb, by rw [List.drop_zero]; exact PX.bind q2⟩, ?_⟩
  rintro i mm σ' H' ⟨rfl, hi', s, ats, hps⟩
  have sF : Same (Fz H1 (av true Γ σ qs)) H' := hFb.trans ats.ex
  by_cases hlt : i < xs.length
  · refine .inr ⟨wk.goes i H' hlt sF, Nx X (Fz H1 (owA Γ σ)) qs Γs (fun s' => PX F B (forM bd (xs.drop (i + 1)) s')), fun σ2 H2 ⟨s', hs', as'⟩ => ⟨xs.length - (i + 1), by omega, rfl, hlt, s', as', hs'⟩, fun v H2 hy => ?_⟩
    obtain ⟨s2, y, hy1, hy2⟩ := wk.yields i H' v H2 hlt sF hy
    have hdrop : xs.drop i = y :: xs.drop (i + 1) := by
      obtain ⟨h1, h2⟩ := List.getElem?_eq_some_iff.mp hy1
      rw [List.drop_eq_getElem_cons h1, h2]
    rw [hdrop] at hps
    have at2 := ats.grow s2
    refine hg y s _ qs σ' H2 v at2 (hy2 _ ?_ fun q hq => ats.av_hv hq) _ fun σ3 at3 _ _ _ => ?_
    · refine Fz.go fun b o hb hb2 => ?_
      have hbo : (Fz H1 (owA Γ σ)) b = some o := Fz.some_iff.mpr ⟨fun z => hb (List.mem_append_left _ z), hb2⟩
      refine ⟨fun z => ?_, ats.ex b o hbo⟩
      rcases List.mem_append.mp z with z | z
      · rw [ats.own0 z] at hbo; cases hbo
      · exact hb (List.mem_append_right _ z)
    · refine wSs_mono (D := { nx := _, rt := rt }) (fun _ _ z => z) (fun _ _ z => z) (fun _ _ z => False.elim z) (fun _ _ z => False.elim z) (hb _ sb _ y s ?_ σ3 H2 at3)
      refine (PX.bind (show PX F B ((bd y s).bind (Ct.by (fun s' => forM bd (xs.drop (i + 1)) s') fun o => .ok (.rt o))) from hps)).mono (fun c k => ?_) fun _ z => z
      cases c <;> exact k
  · have e : i = xs.length := by omega
    subst e
    refine .inl ⟨wk.stops H' sF, ?_⟩
    rw [List.drop_length] at hps
    exact hr s hps σ' H' (ats.unbase sb fun G hG => by rw [hpm, ← hΓ] at hG; exact at_.ok.pms G hG)
/-- while c: body -/
theorem w_while {c : Expr} {body : List Stmt} {tc : S → R Bool} {bd : S → R S} {n : Nat} {s0 : S} {f : S → R O} {Γs : S → List Sl} (hc : X.calm = true) (fr : Fr X H0 B) (hcc : ∀ s, EvT X H0 qs (Γs s) c (tc s)) (hb : ∀ (N : S → Prop) s, W X H0 qs rt (Nx X H0 qs Γs N) N B (Γs s) body (bd s))
    (hr : ∀ s, W X H0 qs rt nx A B (Γs s) rest (f s)) (hΓ : Γ = Γs s0 := by rfl) (he : m = (whileR tc bd n s0).bind f := by rfl) : W X H0 qs rt nx A B Γ (.While c body [] pos :: rest) m := fun q σ H at_ => by
  subst he
  obtain ⟨E, pe, hx⟩ := fr.use
  refine cons_of (wS_of (ps_while (fr.po hc) pt_w pss_w) ?_)
  refine ⟨fun mm σ' H' => ∃ s, At X.K H0 qs (Γs s) σ' H' ∧ PX (fun s' => PX A B (f s')) B (whileR tc bd mm s), ⟨n, s0, by rw [← hΓ]; exact at_, PX.bind q⟩, ?_⟩
  rintro mm σ' H' ⟨s, ats, hps⟩
  cases mm with
  | zero => exact (show False from hps).elim
  | succ mm =>
    have k := PX.bind (show PX _ B ((tc s).bind fun t => if t = true then (bd s).bind fun s' => whileR tc bd mm s' else .ok s) from hps)
    refine hcc s σ' H' ats E (pe σ') _ (k.mono (fun t kt H2 s2 => ?_) fun c z => hx c H' ats.ex z)
    cases t with
    | true =>
      rw [if_pos rfl]
      refine ⟨Nx X H0 qs Γs (fun s' => PX (fun s2 => PX A B (f s2)) B (whileR tc bd mm s')), fun σ2 H3 ⟨s', hs', as'⟩ => ⟨mm, Nat.lt_succ_self _, s', as', hs'⟩, ?_⟩
      refine wSs_mono (D := { nx := _, rt := rt }) (fun _ _ z => z) (fun _ _ z => z) (fun _ _ z => False.elim z) (fun _ _ z => False.elim z) (hb _ s ?_ σ' H2 (ats.grow s2))
      exact PX.bind (show PX _ B ((bd s).bind fun s' => whileR tc bd mm s') from kt)
    | false =>
      rw [if_neg Bool.false_ne_true]
      exact hr s (show PX A B (f s) from kt) σ' H2 (ats.grow s2)
/-! ### raise -/
/-- an error class of the text -/
structure Xn (X : Cx) (c : Exc) : Prop where
  gC : X.mg c.nm = some (.ref (He.ga X.K c.nm))
  xc : PySem.W.excIn X.K (He.ga X.K c.nm) He.veBase "ValueError.__new__" = true
  kp : PySem.W.keepIn X.K (.ref (He.ga X.K c.nm)) = true
  sb : PySem.W.subIn X.K (.ref (He.ga X.K c.nm)) (.type "BaseException") = some true
  ty : PySem.W.typeIn X.K (.ref (He.ga X.K c.nm)) = some (.type "type")
theorem w_raise {y : Str} {j : Nat} (c : Exc) (hc : X.calm = true) (fr : Fr X H0 B) (xn : Xn X c) (g : Gn X c.nm) (he : m = .exc c := by rfl) : W X H0 qs rt nx A B Γ (.Raise (some (.Call (.Name c.nm p1) [.Constant (.str y) j p2] [] p3)) none pos :: rest) m := fun q σ H at_ => by
  subst he
  obtain ⟨E, tk, hx⟩ := fr.ex
  refine cons_of (wS_of (ps_raise hc tk (pmk_own PySem.F.excBase_ValueError xn.xc xn.gC xn.kp (raises_own xn.sb xn.ty) g.gl g.hd)) ?_)
  exact hx c q H at_.ex
end
end Wk
set_option Elab.async false
set_option linter.all false
set_option maxRecDepth 100000
/-! Wk9: defs by their bodies, the law's end. -/
namespace Wk
open PySem PySem.Spec PyProof.Rows L2
/-- what a body is walked in -/
structure Cb (fe : List Fe) (fa : List He.Fa) (fn : List He.DefD) (X : Cx) (N : List Str) (sc : Scope) (k : Nat) : Prop where
  hX : XOk X N sc
  rm : Room k X.A
  fc : Fac fe fa fn X.K X.mg
  kd : X.env.scope.kind = .function
  fnt : ∀ x, X.fn x = true
  sk : X.stack = X.env :: X.outer
  ff : X.env.frame = some X.env.locals
section
variable {fe : List Fe} {fa : List He.Fa} {fn : List He.DefD} {X : Cx} {N : List Str} {sc : Scope} {k : Nat}
theorem Cb.hu (c : Cb fe fa fn X N sc k) : X.A.units + 64 < cLine := c.rm.units
theorem Cb.xn (c : Cb fe fa fn X N sc k) (e : Exc) (i j : Nat) (h : fa[i]? = some (.glo e.nm) := by rfl) (h2 : fa[j]? = some (.exc e.nm) := by rfl) : Xn X e := by
  obtain ⟨h1, h2, h3, h4⟩ := He.exc_ok (c.fc.s.d.fact j h2)
  exact ⟨c.fc.glo i h, h1, h2, h3, h4⟩
end
/-- a def that keeps its promise -/
structure Gd (P : Program) (w : World) (K : PySem.W.Frag) (mg : Str → Option Value) (base : Heap) (x : Str) (sp : Sp) (n k : Nat) : Prop where
  ex : ∃ (f : Addr) (fd : FuncData) (ps : List Str), FnOk P w K mg base (L2.CX P w) k f fd ps sp ∧ mg x = some (.ref f) ∧ PySem.W.keepIn K (.ref f) = true ∧ Binds K fd ps [] ∧ ps.length = n
theorem Gd.dn {X : Cx} {x : Str} {sp : Sp} {n j k : Nat} (g : Gd X.prog X.w X.K X.mg X.base x sp n j) (r : Room k X.A) (h : j ≤ k := by decide) : Dn X x sp n := by
  obtain ⟨f, fd, ps, F, h1, h2, h3, h4⟩ := g.ex
  exact ⟨j, f, fd, ps, F, r.mono h, h1, h2, h3, h4⟩
/-! ### slots at the entry -/
def NoO (Γ : List Sl) : Prop := ∀ s ∈ Γ, ∀ o, own1 s o = []
theorem NoO.nil {Γ : List Sl} (h : NoO Γ) : ∀ σ : L2.St, owA Γ σ = [] := by
  induction Γ with
  | nil => intro σ; rfl
  | cons s Γ ih =>
    intro σ
    cases σ with
    | nil => rfl
    | cons o σ =>
      rw [owA_cons, h s List.mem_cons_self, ih (fun t ht => h t (List.mem_cons_of_mem _ ht))] <;> rfl
class PyS (τ : Type) extends PyA τ where
  sl : τ → List Sl
  sok : ∀ {K : PySem.W.Frag} {F H H0 : Hp} {vs : List V} {x : τ}, reps K F vs x → AllOk K F H H0 (sl x) (vs.map some)
  sno : ∀ x : τ, NoO (sl x)
instance : PyS Unit where
  sl := fun _ => []
  sok := fun {K F H H0 vs x} h => by
    have e : vs = [] := h
    subst e
    trivial
  sno := fun _ s hs => by cases hs
instance {α τ : Type} [PyT α] [PyS τ] : PyS (α × τ) where
  sl := fun x => .fr x.1 :: PyS.sl x.2
  sok := fun {K F H H0 vs x} h => by
    obtain ⟨v, ws, e, h1, h2⟩ := h
    subst e
    exact ⟨⟨v, rfl, h1⟩, PyS.sok h2⟩
  sno := fun x s hs o => by
    rcases List.mem_cons.mp hs with e | hs
    · subst e; rfl
    · exact PyS.sno x.2 s hs o
theorem AllOk.app {K : PySem.W.Frag} {F H H0 : Hp} : ∀ {Γ Γ' : List Sl} {σ σ' : L2.St}, AllOk K F H H0 Γ σ → AllOk K F H H0 Γ' σ' → AllOk K F H H0 (Γ ++ Γ') (σ ++ σ')
  | [], _, [], _, _, h => h
  | s :: Γ, _, o :: σ, _, h, h2 => ⟨h.1, AllOk.app h.2 h2⟩
  | [], _, _ :: _, _, h, _ => h.elim
  | _ :: _, _, [], _, h, _ => h.elim
theorem AllOk.uns {K : PySem.W.Frag} {F H H0 : Hp} : ∀ n : Nat, AllOk K F H H0 (List.replicate n .un) (List.replicate n none)
  | 0 => trivial
  | n + 1 => ⟨trivial, AllOk.uns n⟩
theorem at_start {K : PySem.W.Frag} {H : Hp} {qs : List Addr} {τ : Type} [PyS τ] {x : τ} {vs : List V} {N : List Str} {n : Nat} (hn : vs.length = n) (r : PyA.reps K (Fz H qs) vs x) (hq : ∀ q ∈ qs, Hv H q) : At K H qs (PyS.sl x ++ List.replicate (N.length - n) .un) (L2.start N vs) H := by
  have no : NoO (PyS.sl x ++ List.replicate (N.length - n) .un) := fun s hs o => by
    rcases List.mem_append.mp hs with h | h
    · exact PyS.sno x s h o
    · rw [(List.mem_replicate.mp h).2] <;> rfl
  have e : owA (PyS.sl x ++ List.replicate (N.length - n) .un) (L2.start N vs) = [] := no.nil _
  refine ⟨Same.refl H, ?_, by rw [e]; exact List.nodup_nil, (by rw [e]; intro p hp; cases hp), hq⟩
  rw [e]
  unfold L2.start
  rw [hn]
  exact (PyS.sok (show PyA.reps K (Fz H ([] ++ qs)) vs x from r)).app (AllOk.uns _)
/-! ### a def by its body -/
section
variable {fe : List Fe} {fa : List He.Fa} {fn : List He.DefD} {P : Program} {w : World} {K : PySem.W.Frag} {mg : Str → Option Value} {base : Heap} {x qual : Str} {params : Arguments} {body : List Stmt} {scope : Scope} {f : Addr} {fd : FuncData} {N ps : List Str} {n k : Nat} {τ ρ : Type}
theorem cb_of {cdv : Value} {A : Around} {outer : List Env} {s : Shared} {H : Hp} {E : XK} (S : FnScope N ps scope) (fc : Fac fe fa fn K mg) (hr : Room k (A.deeper (envOfC qual scope s.heap.objs.size f cdv))) :
    Cb fe fa fn (cxOf (L2.CX P w) P w K mg base N qual scope f cdv A outer s H E) N scope k :=
  ⟨⟨⟨rfl, rfl, S.nd⟩, rfl⟩, hr, fc, S.kind, fun _ => rfl, rfl, rfl⟩
theorem fr_of {cdv : Value} {A : Around} {outer : List Env} {s : Shared} {H : Hp} {E : XK} (S : FnScope N ps scope) : Fr (cxOf (L2.CX P w) P w K mg base N qual scope f cdv A outer s H E) H (fun c => ∀ H', Same H H' → E (.ref (He.ga K c.nm)) none H') :=
  ⟨⟨E, takes_of rfl rfl rfl rfl, fun c h H' s' => h H' s'⟩, fun _ => passes_of rfl⟩
/-- one that tells what isn't changed -/
theorem fn_F [PyS τ] [PyT ρ] {m : τ → R ρ} (F : FunD K x qual params body scope [] [] f fd) (S : FnScope N ps scope) (fc : Fac fe fa fn K mg) (hl : ps.length = n)
    (hb : ∀ (X : Cx), X.prog = P → X.w = w → X.K = K → X.mg = mg → X.base = base → Cb fe fa fn X N scope k → ∀ (H0 : Hp) (qs : List Addr) (rt : VK) (A : ρ → Prop) (B : Exc → Prop), Fr X H0 B → RtF X H0 qs rt A → ∀ t : τ, W X H0 qs rt (fun _ H => rt .non H) A B (PyS.sl t ++ List.replicate (N.length - n) .un) body (m t)) :
    FnOk P w K mg base (L2.CX P w) (k + 1) f fd ps (spF K n m) := by
  refine F.ok S (fun vs H Q E ⟨_, _, h, _⟩ => h.trans hl.symm) fun cdv A outer s H vs Q E hr ⟨qs, t, h1, h2, h3, h4⟩ => ⟨_, pss_w, ?_⟩
  exact hb _ rfl rfl rfl rfl rfl (cb_of S fc hr) H qs Q (fun r => ∀ v H', Same H H' → rep K (Fz H' qs) v r → Q v H') _ (fr_of S) (fun r a => a) t h4 _ H (at_start h1 h3 h2)
/-- .. a new list -/
theorem fn_O [PyS τ] [PyT ρ] {m : τ → R (List ρ)} (F : FunD K x qual params body scope [] [] f fd) (S : FnScope N ps scope) (fc : Fac fe fa fn K mg) (hl : ps.length = n)
    (hb : ∀ (X : Cx), X.prog = P → X.w = w → X.K = K → X.mg = mg → X.base = base → Cb fe fa fn X N scope k → ∀ (H0 : Hp) (qs : List Addr) (rt : VK) (A : List ρ → Prop) (B : Exc → Prop), Fr X H0 B → RtO X H0 qs rt A → ∀ t : τ, W X H0 qs rt (fun _ H => rt .non H) A B (PyS.sl t ++ List.replicate (N.length - n) .un) body (m t)) :
    FnOk P w K mg base (L2.CX P w) (k + 1) f fd ps (spO K n m) := by
  refine F.ok S (fun vs H Q E ⟨_, _, h, _⟩ => h.trans hl.symm) fun cdv A outer s H vs Q E hr ⟨qs, t, h1, h2, h3, h4⟩ => ⟨_, pss_w, ?_⟩
  exact hb _ rfl rfl rfl rfl rfl (cb_of S fc hr) H qs Q (fun r => ∀ p vs H', Same H H' → H p = none → H' p = some (.lst vs) → RepL K (Fz H' (p :: qs)) vs r → Q (.ref p) H') _ (fr_of S) (fun r a => a) t h4 _ H (at_start h1 h3 h2)
abbrev BindE (d : He.DefD) (ps : List Str) : Prop := ∀ (kV doc pm : Value) (an : Option Addr) (cdv ct : Value) (us : List Value), us.length = ps.length → bindArgs (PySem.W.fnOf d.name d.qual d.params d.body d.scope .none kV doc pm an cdv ct) ⟨us, []⟩ = pure (ps.zip us)
theorem gd_F [PyS τ] [PyT ρ] {m : τ → R ρ} {d : He.DefD} (i j : Nat) (fc : Fac fe fa fn K mg) (hi : fn[i]? = some d) (hj : fa[j]? = some (.glo x)) (S : FnScope N ps d.scope) (hl : ps.length = n) (bn : BindE d ps)
    (hb : ∀ (X : Cx), X.prog = P → X.w = w → X.K = K → X.mg = mg → X.base = base → Cb fe fa fn X N d.scope k → ∀ (H0 : Hp) (qs : List Addr) (rt : VK) (A : ρ → Prop) (B : Exc → Prop), Fr X H0 B → RtF X H0 qs rt A → ∀ t : τ, W X H0 qs rt (fun _ H => rt .non H) A B (PyS.sl t ++ List.replicate (N.length - n) .un) d.body (m t))
    (e1 : d.at_ = (x, none) := by rfl) (e2 : d.dfl = [] := by rfl) (e3 : d.kwd = [] := by rfl) : Gd P w K mg base x (spF K n m) n (k + 1) := by
  obtain ⟨fd, F⟩ := fc.s.d.def_ i hi
  have F' : FunD K d.name d.qual d.params d.body d.scope [] [] (He.fAd K d.at_) fd := by
    have q1 : d.dvs K = [] := by unfold He.DefD.dvs; rw [e2] <;> rfl
    have q2 : d.kws K = [] := by unfold He.DefD.kws; rw [e3] <;> rfl
    rw [q1, q2] at F
    exact F
  refine ⟨_, fd, ps, fn_F F' S fc hl hb, ?_, F'.kp, F'.bindsN bn, hl⟩
  rw [e1]
  exact fc.glo j hj
theorem gd_O [PyS τ] [PyT ρ] {m : τ → R (List ρ)} {d : He.DefD} (i j : Nat) (fc : Fac fe fa fn K mg) (hi : fn[i]? = some d) (hj : fa[j]? = some (.glo x)) (S : FnScope N ps d.scope) (hl : ps.length = n) (bn : BindE d ps)
    (hb : ∀ (X : Cx), X.prog = P → X.w = w → X.K = K → X.mg = mg → X.base = base → Cb fe fa fn X N d.scope k → ∀ (H0 : Hp) (qs : List Addr) (rt : VK) (A : List ρ → Prop) (B : Exc → Prop), Fr X H0 B → RtO X H0 qs rt A → ∀ t : τ, W X H0 qs rt (fun _ H => rt .non H) A B (PyS.sl t ++ List.replicate (N.length - n) .un) d.body (m t))
    (e1 : d.at_ = (x, none) := by rfl) (e2 : d.dfl = [] := by rfl) (e3 : d.kwd = [] := by rfl) : Gd P w K mg base x (spO K n m) n (k + 1) := by
  obtain ⟨fd, F⟩ := fc.s.d.def_ i hi
  have F' : FunD K d.name d.qual d.params d.body d.scope [] [] (He.fAd K d.at_) fd := by
    have q1 : d.dvs K = [] := by unfold He.DefD.dvs; rw [e2] <;> rfl
    have q2 : d.kws K = [] := by unfold He.DefD.kws; rw [e3] <;> rfl
    rw [q1, q2] at F
    exact F
  refine ⟨_, fd, ps, fn_O F' S fc hl hb, ?_, F'.kp, F'.bindsN bn, hl⟩
  rw [e1]
  exact fc.glo j hj
/-- the law's end -/
theorem end_of {l : PySem.W.OpenLaw} {q : Program} {loose : List Str} {XP : (Str → Option Value) → Heap → Prop} {d : DefRec} {x : Str} {dd : He.DefD} {hd : Nat} {m : Scr × Unit → R Bool}
    (hn : l.most = some 63) (hdf : d.params.defaults = []) (hdn : d.name = "law") (hr : Room (k + 1) callerA) (i j : Nat) (hi : fn[i]? = some dd) (hj : fa[j]? = some (.glo "law")) (S : FnScope N [x] dd.scope) (bn : BindE dd [x])
    (hb : ∀ (w : World) (X : Cx), X.prog = l.prog → X.w = w → Cb fe fa fn X N dd.scope k → ∀ (H0 : Hp) (qs : List Addr) (rt : VK) (A : Bool → Prop) (B : Exc → Prop), Fr X H0 B → RtF X H0 qs rt A → ∀ t : Scr × Unit, W X H0 qs rt (fun _ H => rt .non H) A B (PyS.sl t ++ List.replicate (N.length - 1) .un) dd.body (m t))
    (hm : ∀ ns : List Int, ns.length ≤ 63 → (∀ z ∈ ns, Builtin.Int.intBits z ≤ 1048576) → m (⟨ns⟩, ()) = .ok true)
    (e1 : dd.at_ = (("law" : Str), none) := by rfl) (e2 : dd.dfl = [] := by rfl) (e3 : dd.kwd = [] := by rfl) :
    PySem.W.WalkO q loose XP (fun _ h => ∃ K : PySem.W.Frag, K.In h ∧ Says fe fa fn K) l.row.toRowW d [] (fun f vs => PySem.call f vs) := by
  refine Att.attach_callB hn hdf fun w s₀ s₁ mg mb f0 o pm cd doc a vs ns G Y ho hd hcd hmg hobj hints hlen hbits hg => ?_
  obtain ⟨K, KX, c⟩ := Y
  have fc : Fac fe fa fn K mg := ⟨⟨_, KX, G.T.g⟩, c⟩
  obtain ⟨fd, F⟩ := c.d.def_ i hi
  have F' : FunD K dd.name dd.qual dd.params dd.body dd.scope [] [] (He.fAd K dd.at_) fd := by
    have q1 : dd.dvs K = [] := by unfold He.DefD.dvs; rw [e2] <;> rfl
    have q2 : dd.kws K = [] := by unfold He.DefD.kws; rw [e3] <;> rfl
    rw [q1, q2] at F
    exact F
  have ef : f0 = He.fAd K dd.at_ := by
    rw [hdn] at hmg
    have h2 := fc.glo j hj
    rw [hmg] at h2
    cases h2
    rw [e1] <;> rfl
  subst ef
  refine law_call (sp := spF K 1 m) KX G.T.g G.T.b G.T.builtins G.T.nolimit hg hobj hints (Nat.le_trans hlen (by decide)) hr
    (fun base _ _ => fn_F F' S fc rfl fun X h1 h2 _ _ _ C => hb w X h1 h2 C) (fun s u => FunD.bindsA (ps := [x]) F' bn s [u] rfl) (fun H hO hS => ?_) fun H e s' h => ?_
  · refine ⟨[], (⟨ns⟩, ()), rfl, (fun q hq => by cases hq), ⟨_, _, rfl, ⟨a, rfl, ?_⟩, rfl⟩, ?_⟩
    · rw [Fz.nil]; exact hS
    · rw [hm ns hlen hbits]
      intro v H' _ hv
      exact hv
  · obtain ⟨a', B, H', cls, d', _, _, _, _, _, _, _, z⟩ := h
    exact z
end
end Wk
set_option Elab.async false
set_option linter.all false
set_option maxRecDepth 100000
/-! Wk10: try .. except. -/
namespace Wk
open PySem PySem.Spec PyProof.Rows L2
/-! ### the error that a suite holds -/
structure ExV where
  a : Addr
instance : PyT ExV where
  rep := fun _ _ v x => v = .ref x.a
  mono := fun _ h => h
/-- isinstance(e, (c1, ..)), e the exception that the suite holds -/
def rIsET (K : PySem.W.Frag) (D a : Addr) : List V → Hp → VK → Prop := fun xs H Q => ∃ (tp : Addr) (cs : List V) (us : List Value) (b : Bool), xs = [.ref a, .ref tp] ∧ H tp = some (.tup cs) ∧ Paired ClsV cs us ∧ PySem.W.kitAny K (.ref D) us = some b ∧ Q (.bl b) H
theorem call_isET {X : Cx} {a D : Addr} {oe : Obj} {pn : List (Addr × Obj)} (C : ExcC X.K D) (hz : Zc (.ref D) none oe) (hf : ∃ vs, oe.data = .fields vs) : CallR (X.suite a ((a, oe) :: pn)) (.builtin "isinstance") (rIsET X.K D a) := by
  intro pins s σ H xs us Q I r h
  obtain ⟨tp, cs, ws, b, rfl, hT, k, e, q⟩ := h
  cases r with
  | cons rx rr =>
    cases rr with
    | cons rt rr =>
      cases rr
      cases rx
      cases rt
      obtain ⟨hget, _⟩ := I.pin (a, oe) (List.mem_append.mpr (.inl List.mem_cons_self))
      obtain ⟨vs, hv⟩ := hf
      have J : PySem.W.InstAt s.heap a oe D none := by
        obtain ⟨oc, od, oda, osl⟩ := oe
        obtain ⟨h1, h2⟩ := hz
        dsimp only at h1 h2 hv
        subst h1 h2 hv
        exact ⟨hget, rfl, rfl, trivial⟩
      obtain ⟨_, its, rv, o, h1, h2, n, h3⟩ := (show ObjOk X.prog X.w H s.heap tp (.tup cs) from I.hok tp _ hT)
      have e3 := ClsV.all k rv
      subst e3
      obtain ⟨oc, od, dt, sl⟩ := o
      simp only at h2 h3
      subst h2 h3
      exact PySem.W.kia_tup (PySem.W.handS_kitx_exc C.hg C.hk C.hs C.hd C.ha C.hn C.ht C.hm) I.kIn J h1 e (fun z => nomatch z) fun tk => ⟨.bl b, H, I.kept (t' := tk) fun _ _ z => z, rfl, q⟩
/-- an except suite within X, for an error of the class c at a -/
structure Su (X X' : Cx) (a : Addr) (c : Exc) : Prop where
  K : X'.K = X.K
  mg : X'.mg = X.mg
  N : X'.N = X.N
  env : X'.env = X.env
  fn : X'.fn = X.fn
  A : X'.A.units = X.A.units
  fr : ∀ H0, Fr X' H0 (fun _ => False)
  is1 : ExcC X.K (He.ga X.K c.nm) → CallR X' (.builtin "isinstance") (rIsE X.K (He.ga X.K c.nm) a)
  isT : ExcC X.K (He.ga X.K c.nm) → CallR X' (.builtin "isinstance") (rIsET X.K (He.ga X.K c.nm) a)
theorem Su.hX {X X' : Cx} {a : Addr} {c : Exc} {N : List Str} {sc : Scope} (u : Su X X' a c) (h : XN X N sc) : XN X' N sc := ⟨u.N.trans h.hN, by rw [u.env]; exact h.hs, by rw [u.N]; exact h.nd⟩
/-- a try's body within X -/
structure Tri (X X' : Cx) : Prop where
  prog : X'.prog = X.prog
  w : X'.w = X.w
  K : X'.K = X.K
  mg : X'.mg = X.mg
  base : X'.base = X.base
  A : X'.A = X.A
  N : X'.N = X.N
  env : X'.env = X.env
  calm : X'.calm = X.calm
  fn : X'.fn = X.fn
  st : X'.stack = X.stack
  ou : X'.outer = X.outer
theorem Tri.sk {X X' : Cx} (u : Tri X X') (h : X.stack = X.env :: X.outer) : X'.stack = X'.env :: X'.outer := by rw [u.st, u.env, u.ou]; exact h
theorem Tri.ff {X X' : Cx} (u : Tri X X') (h : X.env.frame = some X.env.locals) : X'.env.frame = some X'.env.locals := by rw [u.env]; exact h
theorem Tri.hX {X X' : Cx} {N : List Str} {sc : Scope} (u : Tri X X') (h : XOk X N sc) : XOk X' N sc := ⟨⟨u.N.trans h.hN, by rw [u.env]; exact h.hs, by rw [u.N]; exact h.nd⟩, u.calm.trans h.calm⟩
theorem Tri.dn {X X' : Cx} {x : Str} {sp : Sp} {n : Nat} (b : Tri X X') (D : Dn X x sp n) : Dn X' x sp n := by
  obtain ⟨k, f, fd, ps, F, h1, h2, h3, h4, h5⟩ := D.ex
  refine ⟨k, f, fd, ps, ?_, by rw [b.A]; exact h1, by rw [b.mg]; exact h2, by rw [b.K]; exact h3, by rw [b.K]; exact h4, h5⟩
  rw [b.prog, b.w, b.K, b.mg, b.base]
  exact F
theorem Tri.none {X X' : Cx} {x : Str} (b : Tri X X') (h : X.mg x = Option.none) : X'.mg x = Option.none := by rw [b.mg]; exact h
theorem Tri.hu {X X' : Cx} (b : Tri X X') (h : X.A.units + 64 < cLine) : X'.A.units + 64 < cLine := by rw [b.A]; exact h
/-! ### a try's body: one statement, in branches -/
def TB (X : Cx) (H0 : Hp) (qs : List Addr) (Γ : List Sl) (body : List Stmt) {S : Type} (Γs : S → List Sl) (m : R S) : Prop :=
  ∀ σ H, At X.K H0 qs Γ σ H → ∀ E : XK, Pas X σ E → ∀ D : Ends, PX (fun s => ∀ σ' H', At X.K H0 qs (Γs s) σ' H' → D.nx σ' H') (XW X E H) m → wSs X body D σ H
section
variable {X : Cx} {H0 : Hp} {qs : List Addr} {rt : VK} {nx : L2.St → Hp → Prop} {O : Type} {A : O → Prop} {B : Exc → Prop} {Γ : List Sl} {rest : List Stmt} {e a b : Expr} {pos p p1 p2 p3 : Pos} {x n : Str} {i : Nat} {α S : Type}
theorem tb_asg [PyT α] {Γs : S → List Sl} {m1 : R α} {m : R S} {g : α → S} (l : Lc X i x) (d : Ev X H0 qs true Γ e m1) (hΓ : ∀ y, Γs (g y) = Γ.set i (.fr y) := by intro _; rfl) (he : m = m1.bind fun y => .ok (g y) := by rfl)
    (hs : ∀ env, swapsWith e (some (.Name x p)) pos.line env = pure false := by intro _; rfl) : TB X H0 qs Γ [.Assign [.Name x p] e pos] Γs m := fun σ H at_ E pe D q => by
  subst he
  refine wSs_cons (wS_of (ps_set l.nd l.hi l.loc pe_w (hs X.env) l.fn) ?_)
  refine d σ H at_ E pe _ ((PX.bind q).mono (fun y q2 v H1 s1 r1 => ?_) fun c z => z)
  exact wSs_of pss_nil (q2 _ H1 (by rw [hΓ]; exact (at_.grow s1).setFr r1))
/-! ### try -/
def R.tryR {S : Type} (m : R S) (h : Exc → R S) : R S := match m with
  | .ok s => .ok s
  | .exc c => h c
  | .stuck => .stuck
theorem PX.tryR {S : Type} {A : S → Prop} {B : Exc → Prop} {m : R S} {h : Exc → R S} (q : PX A B (m.tryR h)) : PX A (fun c => PX A B (h c)) m := by
  cases m with
  | ok a => exact q
  | exc c => exact q
  | stuck => exact q
/-- what is done at an error -/
def Hdl (X : Cx) (H0 : Hp) (qs : List Addr) (rt : VK) (Γ : List Sl) (suite : List Stmt) (cv : Value) (i : Nat) {S : Type} (Γs : S → List Sl) (c : Exc) (m : R S) : Prop :=
  PySem.W.exmOne X.K (.ref (He.ga X.K c.nm)) cv = some true ∧ ∀ (X' : Cx) (a : Addr), Su X X' a c → ∀ (H1 : Hp), Same H0 H1 → ∀ N : S → Prop, W X' H1 qs rt (Nx X' H1 qs Γs N) N (fun _ => False) (Γ.set i (.fr (ExV.mk a))) suite m
theorem w_try {x : Str} {np pos' : Pos} {body suite : List Stmt} {b0 : Stmt} {cv : Value} {Γs : S → List Sl} {mb : R S} {h : Exc → R S} {f : S → R O} {m : R O} (hcm : X.calm = true) (fr : Fr X H0 B) (sk : X.stack = X.env :: X.outer) (ff : X.env.frame = some X.env.locals) (l : Lc X i n) (hln : X.env.scope.names.lookup n = some .local)
    (hc : Names X x cv) (hb : ∀ X', Tri X X' → TB X' H0 qs Γ body Γs mb) (hh : ∀ c, h c = .stuck ∨ ∃ mm, h c = R.sure mm ∧ Hdl X H0 qs rt Γ (b0 :: suite) cv i Γs c mm) (hr : ∀ s, W X H0 qs rt nx A B (Γs s) rest (f s))
    (hu : ∀ s, (Γs s).set i .un = Γs s := by intro s; rfl) (he : m = (mb.tryR h).bind f := by rfl) (hpm : ∀ s, pmG (Γs s) = pmG Γ := by intro s; first | rfl | (cases s <;> rfl)) : W X H0 qs rt nx A B Γ (.Try body [.ExceptHandler (some (.Name x np)) (some n) (b0 :: suite) pos'] [] [] pos :: rest) m := fun q σ H at_ => by
  subst he
  obtain ⟨E, tk, hx⟩ := fr.ex
  refine cons_of (wS_of (ps_try_as (tb := fun W D σ H => ∀ (pn : List (Addr × Obj)) (xe : Value → Shared → Prop), Takes (X.tr pn xe) W → wSs (X.tr pn xe) body D σ H)
    (ts := fun a cls d D σ H => ∀ (oe : Obj) (pn : List (Addr × Obj)), Zc cls d oe → (∃ vs, oe.data = .fields vs) → wSs (X.suite a ((a, oe) :: pn)) (b0 :: suite) D σ H)
    sk ff l.nd l.hi hln hc tk (fun W pn xe htk hpo => ⟨fun pins s σ H D I h => (h pn xe htk).run pins s I⟩) (fun a oe cls d pn hz hf => ⟨fun pins s σ H D I h => (h oe pn hz hf).run pins s I⟩)) ?_)
  intro pn xe htk
  have q1 := PX.tryR (PX.bind q)
  refine hb (X.tr pn xe) ⟨rfl, rfl, rfl, rfl, rfl, rfl, rfl, rfl, rfl, rfl, rfl, rfl⟩ σ H at_ _ ⟨passAt htk σ, fun _ => ⟨_, htk, rfl⟩⟩ _ (q1.mono (fun s q2 σ' H' at' => hr s q2 σ' H' at') fun c q2 => ?_)
  intro H' sH
  rcases hh c with hst | ⟨mm, em, hex, hsu⟩
  · rw [hst] at q2
    exact (show False from q2).elim
  · refine ⟨true, hex, fun _ a na oe pn' hz hf => ?_, fun z => by cases z⟩
    have at' := at_.grow sH
    obtain ⟨atb, sb⟩ := at'.rebase
    have su : Su X (X.suite a ((a, oe) :: pn')) a c := ⟨rfl, rfl, rfl, rfl, rfl, rfl, fun H0 => ⟨⟨fun _ _ _ => False, takes0, fun c z => z.elim⟩, fun z => by cases z⟩, fun C => call_isE C hz hf, fun C => call_isET C hz hf⟩
    have at2 : At X.K (Fz H' (owA Γ σ)) qs (Γ.set i (.fr (ExV.mk a))) (σ.set i (some (.ref a))) H' := atb.setFr (x := ExV.mk a) (v := .ref a) rfl
    refine wSs_mono (D := { nx := Nx (X.suite a ((a, oe) :: pn')) (Fz H' (owA Γ σ)) qs Γs (fun s => PX A B (f s)), rt := rt }) (fun σ' H2 ⟨s, hs, as⟩ => ?_) (fun _ _ z => z) (fun _ _ z => z.elim) (fun _ _ z => z.elim)
      (hsu _ a su (Fz H' (owA Γ σ)) sb (fun s => PX A B (f s)) (PX.sure (by rw [em] at q2; exact q2)) _ H' at2)
    have as' : At X.K (Fz H' (owA Γ σ)) qs (Γs s) σ' H2 := as
    have a3 := (as'.setUn (i := i) (o := none)).unbase sb fun G hG => by rw [hu, hpm] at hG; exact at_.ok.pms G hG
    rw [hu] at a3
    exact hr s hs _ _ a3
/-! ### isinstance of the error -/
variable {X X' : Cx} {a' : Addr} {c : Exc} {md : Bool} {T : Str} {es : List Expr} {m : R Bool}
theorem ev_isE {cv : V} {u : Value} {b : Bool} {pT : Pos} (su : Su X X' a' c) (C : ExcC X.K (He.ga X.K c.nm)) (g : Gn X' "isinstance") (hm : X.mg "isinstance" = none) (ne : Nm X' i n) (h : Γ[i]? = some (.fr (ExV.mk a'))) (hT : PE X' (.Name T pT) (tC cv)) (hcv : ∀ w, RelV cv w → w = u) (hk : PySem.W.kitOne X.K (.ref (He.ga X.K c.nm)) u = some b)
    (he : m = .ok b := by rfl) : Ev X' H0 qs md Γ (.Call (.Name "isinstance" p1) [.Name n p2, .Name T pT] [] pos) m := fun σ H at_ E pe Q q => by
  subst he
  have hm' : X'.mg "isinstance" = none := by rw [su.mg]; exact hm
  refine wE_of (pe_callB (su.is1 C) g.gl hm' (by decide +kernel) (pa_cons (pe_var ne.hi ne.vis ne.hd ne.hc) (pa_cons hT pa_nil (by rfl)) (by rfl)) (by decide) g.hd (by rfl) (by rfl)) ?_
  obtain ⟨v, h1, h2⟩ := at_.fr h
  have e : v = .ref a' := h2
  subst e
  exact ⟨_, h1, cv, u, b, rfl, hcv, hk, q _ H (Same.refl H) rfl⟩
theorem pe_own' {pT : Pos} {A' : Addr} (g : Gn X' T) (hm : X'.mg T = some (.ref A')) : PE X' (.Name T pT) (tC (.ref A')) := pe_glob g.gl hm rfl g.hd
theorem own_rel {A' : Addr} : ∀ w, RelV (.ref A') w → w = .ref A' := fun w h => h
theorem ty_rel {n : String} : ∀ w, RelV (.ty n) w → w = .type n := fun w h => h
/-- .. of a tuple of classes: the classes' values -/
def ClsA (X : Cx) (es : List Expr) (cs : List V) (us : List Value) : Prop := PA X es (fun _ H Q => Q cs H) ∧ Paired ClsV cs us ∧ cs.length = es.length
theorem cls_nil : ClsA X' [] [] [] := ⟨⟨fun pos pins s _ _ _ I h => (pa_nil (X := X')).run pos pins s _ _ _ I h⟩, .nil, rfl⟩
theorem cls_cons {A' : Addr} {pT : Pos} {cs : List V} {us : List Value} (g : Gn X' T) (hm : X'.mg T = some (.ref A')) (k : ClsA X' es cs us) (hs : ∀ env, starEach (.Name T pT :: es) env = (false, eval (.Name T pT) env) :: starEach es env := by intro _; rfl) : ClsA X' (.Name T pT :: es) (.ref A' :: cs) (.ref A' :: us) :=
  ⟨⟨fun pos pins s _ _ _ I h => (pa_cons (pe_glob (v := .ref A') g.gl hm rfl g.hd) k.1 (hs X'.env)).run pos pins s _ _ _ I h⟩, .cons (.own A') k.2.1, congrArg Nat.succ k.2.2⟩
theorem ev_isET {cs : List V} {us : List Value} {b : Bool} {kk : Nat} {pT : Pos} (su : Su X X' a' c) (C : ExcC X.K (He.ga X.K c.nm)) (g : Gn X' "isinstance") (hm : X.mg "isinstance" = none) (ne : Nm X' i n) (h : Γ[i]? = some (.fr (ExV.mk a'))) (hT : ClsA X' es cs us) (hk : PySem.W.kitAny X.K (.ref (He.ga X.K c.nm)) us = some b)
    (he : m = .ok b := by rfl) (hl : es.length ≤ 1000 := by decide) : Ev X' H0 qs md Γ (.Call (.Name "isinstance" p1) [.Name n p2, .Tuple es kk pT] [] pos) m := fun σ H at_ E pe Q q => by
  subst he
  have hm' : X'.mg "isinstance" = none := by rw [su.mg]; exact hm
  refine wE_of (pe_callB (su.isT C) g.gl hm' (by decide +kernel) (pa_cons (pe_var ne.hi ne.vis ne.hd ne.hc) (pa_cons (pe_tup hT.1) pa_nil (by rfl)) (by rfl)) (by decide) g.hd (by rfl) (by rfl)) ?_
  obtain ⟨v, h1, h2⟩ := at_.fr h
  have e : v = .ref a' := h2
  subst e
  refine ⟨_, h1, ⟨by rw [hT.2.2, sizeLine_eq]; omega, fun D hD => ⟨D, cs, us, b, rfl, upd_same, hT.2.1, hk, q _ _ (same_new hD) rfl⟩⟩⟩
theorem kit_nil {K : PySem.W.Frag} {t : Value} : PySem.W.kitAny K t [] = some false := rfl
theorem kit_no {K : PySem.W.Frag} {t u : Value} {us : List Value} {b : Bool} (h : PySem.W.kitOne K t u = some false) (k : PySem.W.kitAny K t us = some b) : PySem.W.kitAny K t (u :: us) = some b := by
  show (match PySem.W.kitOne K t u with | some true => some true | some false => PySem.W.kitAny K t us | none => none) = some b
  rw [h]
  exact k
end
end Wk
set_option Elab.async false
set_option linter.all false
set_option maxRecDepth 100000
/-! Wk11: further rules. -/
namespace Wk
open PySem PySem.Spec PyProof.Rows L2
section
variable {Γ : List Sl} {x y z : Str} {i j k : Nat}
theorem no1 (h : NoOw Γ i) : ∀ p ∈ [(x, i)], NoOw Γ p.2 := fun p hp => by
  rcases List.mem_cons.mp hp with e | hp
  · subst e; exact h
  · cases hp
end
section
variable {X : Cx} {H0 : Hp} {qs : List Addr} {rt : VK} {nx : L2.St → Hp → Prop} {O : Type} {A : O → Prop} {B : Exc → Prop} {Γ : List Sl} {rest : List Stmt} {m : R O} {e a b elt : Expr} {gs : List Comprehension} {scope : Scope} {pos p p1 p2 p3 : Pos} {x : Str} {i : Nat} {α β S : Type}
theorem sw_cell {l : Nat} {env : Env} (h : env.scope.names.lookup x = some .cell) : swapsWith (.ListComp elt gs scope pos) (some (.Name x p)) l env = pure false := by
  have e : (env.kindOf x == some .local) = false := by
    show (env.scope.names.lookup x == some .local) = false
    rw [h] <;> rfl
  show (pure (env.blockKind == .function && env.kindOf x == some .local && _ && _) : Sem Bool) = pure false
  rw [e, Bool.and_false] <;> rfl
/-- y = [..], y a cell -/
theorem w_asgK [PyT α] {m1 : R (List α)} {f : List α → R O} {Γ' : List α → List Sl} (fr : Fr X H0 B) (l : Lc X i x) (hc : X.env.scope.names.lookup x = some .cell) (d : EvO X H0 qs true Γ (.ListComp elt gs scope p1) m1) (k : ∀ y, W X H0 qs rt nx A B (Γ' y) rest (f y)) (hΓ : ∀ y, Γ' y = Γ.set i (.ow y) := by intro _; rfl) (he : m = m1.bind f := by rfl) :
    W X H0 qs rt nx A B Γ (.Assign [.Name x p] (.ListComp elt gs scope p1) pos :: rest) m := fun q σ H at_ => by
  subst he
  obtain ⟨E, pe, hx⟩ := fr.use
  refine cons_of (wS_of (ps_set l.nd l.hi l.loc pe_w (sw_cell hc) l.fn) ?_)
  refine d σ H at_ E (pe σ) _ ((PX.bind q).mono (fun y q2 p vs H1 s1 hn hl r1 => ?_) fun c z => hx c H at_.ex z)
  exact k y q2 _ H1 (by rw [hΓ]; exact at_.setOw s1 hn hl r1)
end
/-! ### min, max of a pair; sorted of pairs -/
section
open PySem.W (Holds HoldAll holds_int int_of_holds minOf maxOf)
variable {X : Cx}
def rMinP (K : PySem.W.Frag) : List V → Hp → VK → Prop := fun vs H Q => ∃ (p : Addr) (x y : Int), vs = [.ref p] ∧ SqT K H p [.int x, .int y] ∧ Q (.int (min x y)) H
def rMaxP (K : PySem.W.Frag) : List V → Hp → VK → Prop := fun vs H Q => ∃ (p : Addr) (x y : Int), vs = [.ref p] ∧ SqT K H p [.int x, .int y] ∧ Q (.int (max x y)) H
theorem minOf_two (x y : Int) : minOf x [y] = min x y := by
  show (if decide (y < x) = true then y else x) = min x y
  by_cases h : y < x
  · rw [decide_eq_true h, if_pos rfl]; omega
  · rw [decide_eq_false h, if_neg (by decide)]; omega
theorem maxOf_two (x y : Int) : maxOf x [y] = max x y := by
  show (if decide (x < y) = true then y else x) = max x y
  by_cases h : x < y
  · rw [decide_eq_true h, if_pos rfl]; omega
  · rw [decide_eq_false h, if_neg (by decide)]; omega
theorem cr_minP (hc : X.calm = true) (hu : X.A.units + 64 < cLine) : CallR X (.builtin "min") (rMinP X.K) := by
  intro pins s σ H vs us Q I r h
  obtain ⟨p, x, y, rfl, hs, q⟩ := h
  obtain ⟨its, rv, hl, _⟩ := I.tuple hs
  rw [Vals.ref1 r]
  obtain ⟨t, u, rfl⟩ := Vals.int2 rv
  have dp : PySem.W.Datum.depth Int ≤ 60 := by decide
  refine PySem.W.min_tuple_datum (α := Int) (x := x) (xs := [y]) (I.ok.hd hc) hl (.cons (holds_int x t) (.cons (holds_int y u) .nil)) (by omega) fun i v h' tk hi hv hk => ?_
  rw [minOf_two] at hv
  obtain ⟨t', rfl⟩ := int_of_holds hv
  exact ⟨.int _, H, I.kept hk, ⟨_, rfl⟩, q⟩
theorem cr_maxP (hc : X.calm = true) (hu : X.A.units + 64 < cLine) : CallR X (.builtin "max") (rMaxP X.K) := by
  intro pins s σ H vs us Q I r h
  obtain ⟨p, x, y, rfl, hs, q⟩ := h
  obtain ⟨its, rv, hl, _⟩ := I.tuple hs
  rw [Vals.ref1 r]
  obtain ⟨t, u, rfl⟩ := Vals.int2 rv
  have dp : PySem.W.Datum.depth Int ≤ 60 := by decide
  refine PySem.W.max_tuple_datum (α := Int) (x := x) (xs := [y]) (I.ok.hd hc) hl (.cons (holds_int x t) (.cons (holds_int y u) .nil)) (by omega) fun i v h' tk hi hv hk => ?_
  rw [maxOf_two] at hv
  obtain ⟨t', rfl⟩ := int_of_holds hv
  exact ⟨.int _, H, I.kept hk, ⟨_, rfl⟩, q⟩
variable {H0 : Hp} {qs : List Addr} {md ma : Bool} {Γ : List Sl} {a : Expr} {p pos : Pos}
theorem ev_minP {m1 : R (Int × Int)} {m : R Int} (hc : X.calm = true) (hu : X.A.units + 64 < cLine) (g : Gn X "min") (hm : X.mg "min" = none) (d : Ev X H0 qs ma Γ a m1) (he : m = m1.bind fun t => .ok (min t.1 t.2) := by rfl) (hs : St1 a := by intro _; rfl) : Ev X H0 qs md Γ (.Call (.Name "min" p) [a] [] pos) m :=
  ev_b1 (f := fun t : Int × Int => .ok (min t.1 t.2)) (cr_minP hc hu) (fun H y v Q B h k => by
    obtain ⟨q, w, u, rfl, h2, h3, h4⟩ := h
    have e1 : w = .int y.1 := h3
    have e2 : u = .int y.2 := h4
    subst e1 e2
    exact ⟨q, _, _, rfl, h2, k _ (fun _ => rfl) H (Same.refl H)⟩) g hm (by decide +kernel) (by decide) d he hs
theorem ev_maxP {m1 : R (Int × Int)} {m : R Int} (hc : X.calm = true) (hu : X.A.units + 64 < cLine) (g : Gn X "max") (hm : X.mg "max" = none) (d : Ev X H0 qs ma Γ a m1) (he : m = m1.bind fun t => .ok (max t.1 t.2) := by rfl) (hs : St1 a := by intro _; rfl) : Ev X H0 qs md Γ (.Call (.Name "max" p) [a] [] pos) m :=
  ev_b1 (f := fun t : Int × Int => .ok (max t.1 t.2)) (cr_maxP hc hu) (fun H y v Q B h k => by
    obtain ⟨q, w, u, rfl, h2, h3, h4⟩ := h
    have e1 : w = .int y.1 := h3
    have e2 : u = .int y.2 := h4
    subst e1 e2
    exact ⟨q, _, _, rfl, h2, k _ (fun _ => rfl) H (Same.refl H)⟩) g hm (by decide +kernel) (by decide) d he hs
/-! sorted of pairs -/
def lexLe (p q : Int × Int) : Bool := decide (p.1 < q.1 ∨ (p.1 = q.1 ∧ p.2 ≤ q.2))
def sortP (xs : List (Int × Int)) : List (Int × Int) := xs.mergeSort lexLe
theorem lexLe_tr (a b c : Int × Int) (h1 : lexLe a b = true) (h2 : lexLe b c = true) : lexLe a c = true := by
  have q1 := of_decide_eq_true h1
  have q2 := of_decide_eq_true h2
  exact decide_eq_true (by omega)
theorem lexLe_tot (a b : Int × Int) : (lexLe a b || lexLe b a) = true := by
  unfold lexLe
  rw [Bool.or_eq_true, decide_eq_true_eq, decide_eq_true_eq]
  omega
theorem lexLe_anti {a b : Int × Int} (h1 : lexLe a b = true) (h2 : lexLe b a = true) : a = b := by
  have q1 := of_decide_eq_true h1
  have q2 := of_decide_eq_true h2
  exact Prod.ext (by omega) (by omega)
theorem sortP_perm (xs : List (Int × Int)) : (sortP xs).Perm xs := List.mergeSort_perm xs _
theorem sortP_sorted (xs : List (Int × Int)) : (sortP xs).Pairwise (fun a b => lexLe a b = true) := List.pairwise_mergeSort lexLe_tr lexLe_tot xs
theorem sortP_is {xs ys : List (Int × Int)} (hp : ys.Perm xs) (hs : ys.Pairwise (fun a b => lexLe a b = true)) : ys = sortP xs :=
  (hp.trans (sortP_perm xs).symm).eq_of_pairwise (fun a b _ _ h1 h2 => lexLe_anti h1 h2) hs (sortP_sorted xs)
def rSortPP (K : PySem.W.Frag) : List V → Hp → VK → Prop := fun vs H Q => ∃ (a : Addr) (xs : List V) (k : V → Int × Int), vs = [V.ref a] ∧ SqL K H a xs ∧ (∀ x ∈ xs, ∃ t, x = V.ref t ∧ SqT K H t [.int (k x).1, .int (k x).2]) ∧
  ∀ ys p, SrtO.Srtd (ltP k) ys → SrtO.Stb (ltP k) ys xs → H p = none → Q (.ref p) (upd H p (.lst ys))
theorem cr_sortPP : CallR X (.builtin "sorted") (rSortPP X.K) := by
  intro pins s σ H vs us Q I r h
  obtain ⟨a, xs, k, rfl, hs, hx, q⟩ := h
  obtain ⟨its, rv, hl, hz⟩ := I.list hs
  obtain ⟨u, rfl, ru⟩ := vals1 r
  obtain rfl : u = Value.ref a := ru
  obtain ⟨e1, e2⟩ := refs_back rv fun x m => by
    obtain ⟨t, e, _⟩ := hx x m
    exact ⟨t, e⟩
  refine SrtO.sorted_pairsO (k := fun u => k (backV u)) hl.isList (by rw [← rv.length]; exact hz) (fun v hv => ?_) fun h' d out h1 h2 kp hd hn => ?_
  · obtain ⟨t, rfl⟩ := e2 v hv
    have hm : V.ref t ∈ xs := by rw [e1]; exact List.mem_map.mpr ⟨_, hv, rfl⟩
    obtain ⟨t', e, ht⟩ := hx _ hm
    cases e
    obtain ⟨its2, r2, ⟨o, ho, hc, n, hd⟩, _⟩ := I.tuple ht
    obtain ⟨u1, u2, rfl, ri, rj⟩ := vals2 r2
    obtain ⟨t1, rfl⟩ := ri
    obtain ⟨t2, rfl⟩ := rj
    exact ⟨t, o, t1, t2, n, rfl, ho, hc, hd⟩
  · have h3 : ∀ u ∈ out, ∃ a, u = Value.ref a := fun u hu => e2 u (h2.perm.mem_iff.mp hu)
    obtain ⟨n, hn⟩ := hn
    have hb : SrtO.Stb (ltP k) (out.map backV) xs := by
      rw [e1]
      exact SrtO.Stb.map (ltP_swo k) backV h2
    refine ⟨.ref d, upd H d (.lst (out.map backV)), I.laid (t' := s.toks) kp hd ⟨?_, out, n, vals_back h3, hn⟩, rfl, q _ d (SrtO.srtd_map h1) hb (I.hok.fresh hd)⟩
    rw [hb.len]
    exact hz
theorem repL_map {K : PySem.W.Frag} {F : Hp} {β : Type} [PyT β] {k : V → β} : ∀ {ys : List V}, (∀ y ∈ ys, rep K F y (k y)) → RepL K F ys (ys.map k)
  | [], _ => trivial
  | y :: ys, h => ⟨h y List.mem_cons_self, repL_map fun z hz => h z (List.mem_cons_of_mem _ hz)⟩
theorem repL_mem {K : PySem.W.Frag} {F : Hp} {β : Type} [PyT β] : ∀ {xs : List V} {ts : List β}, RepL K F xs ts → ∀ x ∈ xs, ∃ t : β, rep K F x t
  | [], [], _, x, hx => by cases hx
  | y :: xs, t :: ts, h, x, hx => by
    rcases List.mem_cons.mp hx with e | hx
    · subst e; exact ⟨t, h.1⟩
    · exact repL_mem h.2 x hx
  | [], _ :: _, h, _, _ => h.elim
  | _ :: _, [], h, _, _ => h.elim
theorem repL_eq {K : PySem.W.Frag} {F : Hp} {β : Type} [PyT β] {k : V → β} (u : ∀ x t, rep K F x t → k x = t) : ∀ {xs : List V} {ts : List β}, RepL K F xs ts → xs.map k = ts
  | [], [], _ => rfl
  | y :: xs, t :: ts, h => by rw [List.map_cons, u y t h.1, repL_eq u h.2]
  | [], _ :: _, h => h.elim
  | _ :: _, [], h => h.elim
open Classical in
noncomputable def keyOf (K : PySem.W.Frag) (H : Hp) (v : V) : Int × Int := if h : ∃ q : Int × Int, rep K H v q then Classical.choose h else (0, 0)
theorem pair_uniq {pins : List (Addr × Obj)} {σ : L2.St} {H : Hp} {s : Shared} (I : Inv X pins σ H s) {v : V} {t t' : Int × Int} (h : rep X.K H v t) (h' : rep X.K H v t') : t = t' := by
  obtain ⟨p, w, u, e1, h2, h3, h4⟩ := h
  obtain ⟨p', w', u', e1', h2', h3', h4'⟩ := h'
  have a1 : w = .int t.1 := h3
  have a2 : u = .int t.2 := h4
  have a3 : w' = .int t'.1 := h3'
  have a4 : u' = .int t'.2 := h4'
  subst a1 a2 a3 a4 e1
  cases e1'
  have e := I.tuple_inj h2 h2'
  injection e with e1 e2
  injection e2 with e2 _
  exact Prod.ext (V.int.inj e1) (V.int.inj e2)
def rSortTP (K : PySem.W.Frag) : List V → Hp → VK → Prop := fun vs H Q => ∃ (a : Addr) (xs : List V) (ts : List (Int × Int)), vs = [V.ref a] ∧ SqL K H a xs ∧ RepL K H xs ts ∧
  ∀ ys p, (∀ F, RepL K F xs ts → RepL K F ys (sortP ts)) → H p = none → Q (.ref p) (upd H p (.lst ys))
theorem cr_sortTP : CallR X (.builtin "sorted") (rSortTP X.K) := by
  intro pins s σ H vs us Q I r h
  obtain ⟨a, xs, ts, hv, hs, hr, q⟩ := h
  have ku : ∀ {F : Hp}, (∀ x t, rep X.K F x t → rep X.K H x t → keyOf X.K H x = t) := fun {F} x t _ ht => by
    unfold keyOf
    rw [dif_pos ⟨t, ht⟩]
    exact pair_uniq I (Classical.choose_spec (⟨t, ht⟩ : ∃ q : Int × Int, rep X.K H x q)) ht
  refine cr_sortPP pins s σ H vs us Q I r ⟨a, xs, keyOf X.K H, hv, hs, fun x hx => ?_, fun ys p h1 h2 hp => q ys p (fun F hF => ?_) hp⟩
  · obtain ⟨t, ht⟩ := repL_mem hr x hx
    rw [ku (F := H) x t ht ht]
    obtain ⟨p, w, u, e1, g2, g3, g4⟩ := ht
    have a1 : w = .int t.1 := g3
    have a2 : u = .int t.2 := g4
    subst a1 a2
    exact ⟨p, e1, g2⟩
  · have e0 : xs.map (keyOf X.K H) = ts := repL_eq (fun x t ht => ku (F := H) x t ht ht) hr
    have e : ys.map (keyOf X.K H) = sortP ts := sortP_is (by rw [← e0]; exact h2.perm.map _) (by
      refine List.pairwise_map.mpr (h1.imp fun {x y} hxy => ?_)
      have z := SrtO.lexB_no.mp hxy
      exact decide_eq_true (by omega))
    rw [← e]
    refine repL_map fun y hy => ?_
    have hy' : y ∈ xs := h2.perm.mem_iff.mp hy
    have go : ∀ {zs : List V} {us : List (Int × Int)}, RepL X.K F zs us → RepL X.K H zs us → y ∈ zs → rep X.K F y (keyOf X.K H y) := by
      intro zs
      induction zs with
      | nil => intro us _ _ h; cases h
      | cons z zs ih =>
        intro us g1 g2 h
        cases us with
        | nil => exact g1.elim
        | cons t us =>
          rcases List.mem_cons.mp h with e | h
          · subst e
            rw [ku (F := H) y t g2.1 g2.1]
            exact g1.1
          · exact ih g1.2 g2.2 h
    exact go hF hr hy'
theorem ev_sortP {m1 m : R (List (Int × Int))} (g : Gn X "sorted") (hm : X.mg "sorted" = none) (d : Ev X H0 qs md Γ a m1) (he : m = m1.bind fun xs => .ok (sortP xs) := by rfl) (hs : St1 a := by intro _; rfl) : EvO X H0 qs md Γ (.Call (.Name "sorted" p) [a] [] pos) m :=
  ev_bN (f := fun xs => .ok (sortP xs)) cr_sortTP (fun H ps y v Q B h k => by
    obtain ⟨q, ws, rfl, h2, h3⟩ := h
    refine ⟨q, ws, y, rfl, SqL.of (Fz.out _ _ h2), h3.mono Fz.out, fun ys p hp hn => ?_⟩
    exact k p _ _ (same_new hn) hn upd_same ((hp _ h3).mono (fz_new hn))) g hm (by decide +kernel) (by decide) d he hs
end
end Wk
set_option Elab.async false
set_option linter.all false
set_option maxRecDepth 100000
/-! Wk12: a, b = e. -/
namespace Wk
open PySem PySem.Spec PyProof.Rows L2
section
variable {X : Cx} {H0 : Hp} {qs : List Addr} {rt : VK} {nx : L2.St → Hp → Prop} {O : Type} {A : O → Prop} {B : Exc → Prop} {Γ : List Sl} {rest : List Stmt} {m : R O} {e a b elt : Expr} {pos p p1 p2 p3 : Pos} {x : Str} {i : Nat} {α β S : Type} {es : List Expr} {kk : Nat}
theorem w_asgT [PyT α] {m1 : R α} {f : α → R O} {Γ' : α → List Sl} {is : List Nat} (fr : Fr X H0 B) (d : Ev X H0 qs true Γ e m1) (g : ∀ y, EvG X Γ (.Tuple es kk p) y (Γ' y) is) (k : ∀ y, W X H0 qs rt nx A B (Γ' y) rest (f y)) (he : m = m1.bind f := by rfl)
    (hs : ∀ env, swapsWithSole [.Tuple es kk p] e pos.line env = pure false := by intro _; rfl) (hw : ∀ env, swappedStores [.Tuple es kk p] e env = pure none := by intro _; rfl)
    (h1 : ∀ env, (assignEach [.Tuple es kk p] env).map (·.2) = [assign (.Tuple es kk p) env] := by intro _; rfl) : W X H0 qs rt nx A B Γ (.Assign [.Tuple es kk p] e pos :: rest) m := fun q σ H at_ => by
  subst he
  obtain ⟨E, pe, hx⟩ := fr.use
  refine cons_of (wS_of (ps_asg pe_w pg_w (hs X.env) (hw X.env) (h1 X.env)) ?_)
  refine d σ H at_ E (pe σ) _ ((PX.bind q).mono (fun y q2 v H1 s1 r1 => ?_) fun c z => hx c H at_.ex z)
  have at1 := at_.grow s1
  exact g y H0 qs σ H1 v at1 (PyT.mono (Fz.sub (Same.refl _) fun _ z => z) r1) _ fun σ' at2 _ _ _ => k y q2 σ' H1 at2
/-! pairs, one before the other -/
variable {md ma mb : Bool} {mB : R Bool} {m1 m2 : R (Int × Int)}
def fuel : Nat := 10000000000000000000000000000000000000000
end
end Wk
set_option Elab.async false
set_option linter.all false
set_option maxRecDepth 100000
/-! Wk13: slices with a step, of the script; helpers for errors. -/
namespace Wk
open PySem PySem.Spec PyProof.Rows L2
theorem Su.some {X X' : Cx} {a : Addr} {c : Exc} {x : Str} {v : Value} (u : Su X X' a c) (h : X.mg x = Option.some v) : X'.mg x = Option.some v := by rw [u.mg]; exact h
theorem Su.none {X X' : Cx} {a : Addr} {c : Exc} {x : Str} (u : Su X X' a c) (h : X.mg x = Option.none) : X'.mg x = Option.none := by rw [u.mg]; exact h
theorem Tri.some {X X' : Cx} {x : Str} {v : Value} (u : Tri X X') (h : X.mg x = Option.some v) : X'.mg x = Option.some v := by rw [u.mg]; exact h
theorem Blk.dnF {X X' : Cx} {sc : Scope} {x : Str} {τ ρ : Type} [PyA τ] [PyT ρ] {n k : Nat} {f : τ → R ρ} (b : Blk X X' sc) (D : Dn X x (spF X.K n f) k) : Dn X' x (spF X'.K n f) k := by
  rw [b.K]
  exact b.dn D
theorem Tri.dnF {X X' : Cx} {x : Str} {τ ρ : Type} [PyA τ] [PyT ρ] {n k : Nat} {f : τ → R ρ} (b : Tri X X') (D : Dn X x (spF X.K n f) k) : Dn X' x (spF X'.K n f) k := by
  rw [b.K]
  exact b.dn D
end Wk
set_option Elab.async false
set_option linter.all false
set_option maxRecDepth 100000
/-! chains of two comparisons -/
namespace Wk
open PySem PySem.Spec PyProof.Rows L2
section
variable {X : Cx} {H0 : Hp} {qs : List Addr} {md ma mb mc : Bool} {Γ : List Sl} {a b c : Expr} {pos : Pos} {m1 m2 m3 : R Int} {m : R Bool}
/-- one of the four orders -/
structure Ord4 (X : Cx) (op : CmpOp) (g : Int → Int → Bool) : Prop where
  ho : OpR X (compareOp op) (rI0 fun i j => .bl (g i j))
theorem o_le : Ord4 X .LtE (fun i j => decide (i ≤ j)) := ⟨op_le⟩
theorem et_chain {op op' : CmpOp} {g g' : Int → Int → Bool} (o : Ord4 X op g) (o' : Ord4 X op' g') (da : Ev X H0 qs ma Γ a m1) (db : Ev X H0 qs mb Γ b m2) (dc : Ev X H0 qs mc Γ c m3)
    (he : m = m1.bind fun x => m2.bind fun y => if g x y = true then m3.bind fun z => .ok (g' y z) else .ok false) (hm : lastMarks [op, op'] [b, c] = false := by with_unfolding_all rfl) : EvT X H0 qs Γ (.Compare a [op, op'] [b, c] pos) m := by
  intro σ H at_ E pe Q q
  subst he
  refine wT_of (pt_chain o.ho o'.ho pe_w pe_w pe_w hm) (da σ H at_ E pe _ ((PX.bind q).mono (fun x q2 v H1 s1 r1 => ?_) fun _ z => z))
  refine db σ H1 (at_.grow s1) E pe _ ((PX.bind q2).mono (fun y q3 w H2 s2 r2 => ?_) fun _ z => z.grow s1)
  have e1 : v = .int x := r1
  have e2 : w = .int y := r2
  subst e1 e2
  refine ⟨x, y, rfl, rfl, g x y, rfl, ?_⟩
  cases hg : g x y with
  | true =>
    rw [hg] at q3
    refine dc σ H2 (at_.grow (s1.trans s2)) E pe _ ((PX.bind (show PX _ _ (m3.bind fun z => .ok (g' y z)) from q3)).mono (fun z q4 u H3 s3 r3 => ?_) fun _ z => z.grow (s1.trans s2))
    have e3 : u = .int z := r3
    subst e3
    exact ⟨y, z, rfl, rfl, g' y z, rfl, (show ∀ H', Same H H' → Q (g' y z) H' from q4) _ ((s1.trans s2).trans s3)⟩
  | false =>
    rw [hg] at q3
    exact ⟨false, rfl, (show ∀ H', Same H H' → Q false H' from q3) _ (s1.trans s2)⟩
end
end Wk
set_option Elab.async false
set_option linter.all false
set_option maxRecDepth 100000
/-! Wk15: the outcomes' algebra, without a program in sight. -/
namespace Wk
open PySem PySem.Spec PyProof.Rows L2
section
variable {α β S O : Type}
theorem bind_ok (a : α) (f : α → R β) : (R.ok a).bind f = f a := rfl
theorem ite_t (a b : α) : (if true = true then a else b) = a := rfl
theorem ite_f (a b : α) : (if false = true then a else b) = b := rfl
theorem chk_ok {c : Bool} {a : α} (h : c = true) : R.chk c a = .ok a := by rw [h] <;> rfl
theorem divR_ok {x y : Int} (h : y ≠ 0) (h2 : y.natAbs.log2 < 9000) : divR x y = .ok (x.fdiv y) := chk_ok (decide_eq_true ⟨h, h2⟩)
theorem modR_ok {x y : Int} (h : y ≠ 0) : modR x y = .ok (x.fmod y) := chk_ok (decide_eq_true h)
theorem appR_ok {xs : List α} {y : α} (h : xs.length < 16777216) : appR xs y = .ok (xs ++ [y]) := chk_ok (decide_eq_true h)
theorem insR_ok {xs : List α} {y : α} {j : Int} (h : xs.length < 16777216) (h0 : 0 ≤ j) (h1 : j < 9223372036854775808) : insR xs j y = .ok (xs.take j.toNat ++ [y] ++ xs.drop j.toNat) := chk_ok (decide_eq_true ⟨h, h0, h1⟩)
theorem catR_ok {xs ys : List α} (h : xs.length + ys.length ≤ 16777216) : catR xs ys = .ok (xs ++ ys) := chk_ok (decide_eq_true h)
theorem repR_ok {xs : List α} {k : Int} (h1 : -9223372036854775808 ≤ k) (h2 : k < 9223372036854775808) (h : xs.length * k.toNat ≤ 16777216) : repR xs k = .ok (List.replicate k.toNat xs).flatten := chk_ok (decide_eq_true ⟨h1, h2, h⟩)
theorem rngR_ok {lo hi : Int} (h1 : -1000000000000000000 ≤ lo) (h2 : lo ≤ 1000000000000000000) (h3 : -1000000000000000000 ≤ hi) (h4 : hi ≤ 1000000000000000000) : rngR lo hi = .ok (rangeL lo hi) := chk_ok (decide_eq_true ⟨h1, h2, h3, h4⟩)
theorem atI_nat {xs : List α} {i : Nat} {x : α} (h : xs[i]? = some x) : atI xs (i : Int) = some x := by
  have hl : i < xs.length := (List.getElem?_eq_some_iff.mp h).1
  unfold atI ixN
  rw [if_pos (by omega), if_pos (by omega), Int.toNat_natCast]
  exact h
theorem ixR_nat {xs : List α} {i : Nat} {x : α} (h : xs[i]? = some x) : ixR xs (i : Int) = .ok x := by
  unfold ixR
  rw [atI_nat h] <;> rfl
theorem ixR_int {xs : List α} {i : Int} {x : α} (h0 : 0 ≤ i) (h : xs[i.toNat]? = some x) : ixR xs i = .ok x := by
  obtain ⟨k, rfl⟩ := Int.eq_ofNat_of_zero_le h0
  exact ixR_nat h
theorem mapGo_ok {g : α → R β} {f : α → β} : ∀ {xs : List α}, (∀ x ∈ xs, g x = .ok (f x)) → mapGo g xs = .ok (xs.map f)
  | [], _ => rfl
  | x :: xs, h => by
    have ih := mapGo_ok (xs := xs) fun y hy => h y (List.mem_cons_of_mem _ hy)
    show ((g x).sure.bind fun y => (mapGo g xs).bind fun ys => .ok (y :: ys)) = _
    rw [h x List.mem_cons_self, ih] <;> rfl
theorem mapR_ok {g : α → R β} {f : α → β} {xs : List α} (h : ∀ x ∈ xs, g x = .ok (f x)) (hl : xs.length ≤ 16777216) : mapR g xs = .ok (xs.map f) := by
  unfold mapR
  rw [if_pos hl]
  exact mapGo_ok h
/-- a loop that keeps an invariant -/
theorem forR_inv {b : α → S → R S} (P : List α → S → Prop) : ∀ {xs ys : List α} {s : S}, P ys s → (∀ x zs s, (∃ r, xs = zs ++ x :: r) → P (ys ++ zs) s → ∃ s', b x s = .ok s' ∧ P (ys ++ zs ++ [x]) s') → ∃ s', forR b xs s = .ok s' ∧ P (ys ++ xs) s'
  | [], ys, s, h, _ => ⟨s, rfl, by rw [List.append_nil]; exact h⟩
  | x :: xs, ys, s, h, k => by
    obtain ⟨s1, e1, h1⟩ := k x [] s ⟨xs, rfl⟩ (by rw [List.append_nil]; exact h)
    rw [List.append_nil] at h1
    obtain ⟨s2, e2, h2⟩ := forR_inv P (xs := xs) (ys := ys ++ [x]) h1 fun z zs s ⟨r, hr⟩ hp => by
      have := k z (x :: zs) s ⟨r, by rw [hr]; rfl⟩ (by rw [List.append_assoc] at hp; exact hp)
      simpa [List.append_assoc] using this
    refine ⟨s2, ?_, by rw [List.append_assoc] at h2; exact h2⟩
    show ((b x s).bind fun s' => forR b xs s') = _
    rw [e1, bind_ok]
    exact e2
theorem pyEq_refl [PyQ α] (x : α) : pyEq x x = true := (pyEq_q x x).mpr rfl
theorem pyEq_dec [PyQ α] [DecidableEq α] (x y : α) : pyEq x y = decide (x = y) := by
  rw [Bool.eq_iff_iff, pyEq_q, decide_eq_true_eq]
theorem cutL_len (xs : List α) (lo hi : Option Int) : (cutL xs lo hi).length ≤ xs.length := by
  unfold cutL
  rw [List.length_take, List.length_drop]
  omega
theorem rangeL_nat (n : Nat) : rangeL 0 (n : Int) = (List.range n).map fun i : Nat => (i : Int) := by
  unfold rangeL
  rw [Int.sub_zero, Int.toNat_natCast]
  exact List.map_congr_left fun i _ => by omega
theorem mem_rangeL {lo hi i : Int} (h : i ∈ rangeL lo hi) : lo ≤ i ∧ i < hi := by
  unfold rangeL at h
  obtain ⟨k, hk, e⟩ := List.mem_map.mp h
  have := List.mem_range.mp hk
  omega
theorem fmod_bounds (x : Int) {y : Int} (h : 0 < y) : 0 ≤ x.fmod y ∧ x.fmod y < y := ⟨Int.fmod_nonneg_of_pos x h, Int.fmod_lt_of_pos x h⟩
theorem bits_of {x : Int} {m : Nat} (h : x.natAbs < 2 ^ m) : bits x ≤ m := PySem.intBits_le_iff.mpr h
end
end Wk
set_option Elab.async false
set_option linter.all false
set_option maxRecDepth 100000
/-! Wk16: tables of the def's own. -/
namespace Wk
open PySem PySem.Spec PyProof.Rows L2
theorem Rows.flat {K : PySem.W.Frag} {F F' H H0 : Hp} {γ : Type} [PyF γ] : ∀ {rs : List Addr} {xss : List (List γ)}, Rows K F H H0 rs xss → Rows K F' H H0 rs xss
  | [], [], _ => trivial
  | r :: rs, xs :: xss, ⟨⟨vs, h1, h2⟩, h3, h4⟩ => ⟨⟨vs, h1, h2.flat⟩, h3, Rows.flat h4⟩
  | [], _ :: _, h => h.elim
  | _ :: _, [], h => h.elim
/-! ### slots -/
end Wk
set_option Elab.async false
set_option linter.all false
set_option maxRecDepth 100000
/-! Wk17: bits. -/
set_option Elab.async false
set_option linter.all false
set_option maxRecDepth 100000
/-! Wk19: rows of a table that change places; a row put behind and changed at once. -/
namespace Wk
open PySem PySem.Spec PyProof.Rows L2
theorem Rows.get' {K : PySem.W.Frag} {F H H0 : Hp} {α : Type} [PyT α] : ∀ {rs : List Addr} {xss : List (List α)} {i : Nat} {r : Addr}, Rows K F H H0 rs xss → rs[i]? = some r → ∃ xs vs, xss[i]? = some xs ∧ H r = some (.lst vs) ∧ RepL K F vs xs ∧ H0 r = none
  | [], _, i, r, _, e => by simp at e
  | r :: rs, [], i, _, h, _ => h.elim
  | r :: rs, xs :: xss, 0, r', ⟨⟨vs, h1, h2⟩, h3, h4⟩, e => by
    cases e
    exact ⟨xs, vs, rfl, h1, h2, h3⟩
  | r :: rs, xs :: xss, i + 1, r', ⟨_, _, h4⟩, e => Rows.get' (i := i) h4 e
end Wk
set_option Elab.async false
set_option linter.all false
set_option maxRecDepth 100000
/-! Wk20: how often, and where, a pair stands in a tuple; where a thing stands in a list. -/
namespace Wk
open PySem PySem.Spec PyProof.Rows L2
open PySem.W (Holds HoldAll holds_int holds_pair)
/-! ### methods of tuples -/
section
variable {X : Cx} {H0 : Hp} {qs : List Addr} {md ma mb : Bool} {Γ : List Sl} {a e : Expr} {p2 p3 : Pos} {m1 : R (Tu (Int × Int))} {m2 : R (Int × Int)} {m : R Int}
abbrev Few (e : Expr) (p3 : Pos) : Prop := ∀ env, ((backTo p3 (starEach [e] env)).all (fun x => !x.1) && (backToKw p3 (keywordEach [] env)).all (fun x => x.1.isSome) && decide ([e].length + ([] : List Keyword).length + (if ([] : List Keyword).isEmpty then 0 else 1) < 30)) = true
def idxR {α : Type} [BEq α] (xs : List α) (x : α) : R Int := R.chk (xs.contains x) ((xs.idxOf x : Nat) : Int)
end
/-! ### walks -/
end Wk
set_option Elab.async false
set_option linter.all false
set_option maxRecDepth 100000
/-! Wk21: one or the other tuple; is not None. -/
namespace Wk
open PySem PySem.Spec PyProof.Rows L2
/-- tuples of a known length -/
class PyLn (α : Type) [PyT α] where
  ln : α → Nat
  sq : ∀ {K : PySem.W.Frag} {F : Hp} {v : V} {x : α}, rep K F v x → ∃ p vs, v = .ref p ∧ SqT K F p vs ∧ vs.length = ln x
section
variable {α β γ δ : Type} [PyT α] [PyT β] [PyT γ] [PyT δ]
instance : PyLn (T1 α) := ⟨fun _ => 1, fun ⟨p, w, h1, h2, _⟩ => ⟨p, _, h1, h2, rfl⟩⟩
instance : PyLn (α × β) := ⟨fun _ => 2, fun ⟨p, w, u, h1, h2, _⟩ => ⟨p, _, h1, h2, rfl⟩⟩
instance : PyLn (T3 α β γ) := ⟨fun _ => 3, fun ⟨p, w, u, t, h1, h2, _⟩ => ⟨p, _, h1, h2, rfl⟩⟩
instance : PyLn (T4 α β γ δ) := ⟨fun _ => 4, fun ⟨p, w, u, t, s, h1, h2, _⟩ => ⟨p, _, h1, h2, rfl⟩⟩
instance [a : PyLn α] [b : PyLn β] : PyLn (α ⊕ β) where
  ln := fun x => match x with | .inl y => a.ln y | .inr y => b.ln y
  sq := fun {K F v x} h => by
    cases x with
    | inl y => exact a.sq h
    | inr y => exact b.sq h
instance [PyLn α] [PyLn β] : PyK (α ⊕ β) where
  ty := "tuple"
  is := fun {K H v x} h => by
    obtain ⟨p, vs, e, s, _⟩ := PyLn.sq (α := α ⊕ β) h
    rw [e]
    exact ty_tup s
  nn := fun {K H v x} h => by
    obtain ⟨p, vs, e, s, _⟩ := PyLn.sq (α := α ⊕ β) h
    rw [e]
    exact fun z => by cases z
instance : PyK (T4 α β γ δ) where
  ty := "tuple"
  is := fun {K H v x} h => by
    obtain ⟨p, vs, e, s, _⟩ := PyLn.sq (α := T4 α β γ δ) h
    rw [e]
    exact ty_tup s
  nn := fun {K H v x} h => by
    obtain ⟨p, vs, e, s, _⟩ := PyLn.sq (α := T4 α β γ δ) h
    rw [e]
    exact fun z => by cases z
end
instance {α β : Type} [a : PyD α] [b : PyD β] : PyD (α ⊕ β) where
  toD := fun x => match x with | .inl y => a.toD y | .inr y => b.toD y
  dp := fun {K H v x} h => by
    cases x with
    | inl y => exact a.dp h
    | inr y => exact b.dp h
  dep := max a.dep b.dep
  depth := fun x => by
    cases x with
    | inl y => exact Nat.le_trans (a.depth y) (Nat.le_max_left _ _)
    | inr y => exact Nat.le_trans (b.depth y) (Nat.le_max_right _ _)
end Wk
set_option Elab.async false
set_option linter.all false
set_option maxRecDepth 100000
/-! Wk22: dicts with tuples of ints as keys; is True, is not False; isinstance of what may be None. -/
namespace Wk
open PySem PySem.Spec PyProof.Rows L2
def dGet {β : Type} (kvs : List (List Int × β)) (k : List Int) : Option β := (kvs.find? fun kv => decide (kv.1 = k)).map (·.2)
theorem inl_inj : ∀ {a b : List Int}, a.map (Sum.inl : Int → Key) = b.map Sum.inl → a = b
  | [], [], _ => rfl
  | x :: a, y :: b, h => by
    rw [List.map_cons, List.map_cons] at h
    injection h with h1 h2
    rw [Sum.inl.inj h1, inl_inj h2]
  | [], _ :: _, h => by cases h
  | _ :: _, [], h => by cases h
theorem key_dec (a b : List Int) : decide (a.map (Sum.inl : Int → Key) = b.map Sum.inl) = decide (a = b) := decide_eq_decide.mpr ⟨inl_inj, fun h => by rw [h]⟩
theorem RepD.len {β : Type} [PyT β] {K : PySem.W.Frag} {F : Hp} : ∀ {ws : List (List Key × V)} {kvs : List (List Int × β)}, RepD K F ws kvs → ws.length = kvs.length
  | [], [], _ => rfl
  | p :: ws, q :: kvs, h => congrArg Nat.succ (RepD.len h.2.2)
  | [], _ :: _, h => h.elim
  | _ :: _, [], h => h.elim
theorem RepD.get {β : Type} [PyT β] {K : PySem.W.Frag} {F : Hp} (k : List Int) : ∀ {ws : List (List Key × V)} {kvs : List (List Int × β)}, RepD K F ws kvs →
    (valV ws (k.map Sum.inl) = none ∧ dGet kvs k = none) ∨ ∃ v y, valV ws (k.map Sum.inl) = some v ∧ dGet kvs k = some y ∧ rep K F v y
  | [], [], _ => .inl ⟨rfl, rfl⟩
  | p :: ws, q :: kvs, h => by
    by_cases e : q.1 = k
    · refine .inr ⟨p.2, q.2, valV_pos (by rw [h.1, e]), ?_, h.2.1⟩
      unfold dGet
      rw [List.find?_cons_of_pos (by rw [decide_eq_true_iff]; exact e)]
      rfl
    · have e2 : ¬ p.1 = k.map Sum.inl := fun z => e (inl_inj (by rw [← h.1]; exact z))
      have g : dGet (q :: kvs) k = dGet kvs k := by
        unfold dGet
        rw [List.find?_cons_of_neg (by rw [decide_eq_true_iff]; exact e)]
      rw [valV_neg e2, g]
      exact RepD.get k h.2.2
  | [], _ :: _, h => h.elim
  | _ :: _, [], h => h.elim
theorem RepD.any {β : Type} [PyT β] {K : PySem.W.Frag} {F : Hp} (k : List Int) : ∀ {ws : List (List Key × V)} {kvs : List (List Int × β)}, RepD K F ws kvs → (ws.any fun kv => decide (kv.1 = k.map Sum.inl)) = kvs.any fun kv => decide (kv.1 = k)
  | [], [], _ => rfl
  | p :: ws, q :: kvs, h => by
    rw [List.any_cons, List.any_cons, RepD.any k h.2.2, h.1, key_dec]
  | [], _ :: _, h => h.elim
  | _ :: _, [], h => h.elim
end Wk
set_option Elab.async false
set_option linter.all false
set_option maxRecDepth 100000
/-! Wk23: tuples of items of one kind, walked, their tails; is not of truth values. -/
namespace Wk
open PySem PySem.Spec PyProof.Rows L2
class PyUn (α : Type) (β : outParam Type) [PyT α] [PyT β] where
  un : α → List β
  sq : ∀ {K : PySem.W.Frag} {F : Hp} {v : V} {x : α}, rep K F v x → ∃ p vs, v = .ref p ∧ SqT K F p vs ∧ RepL K F vs (un x)
section
variable {α β γ δ : Type} [PyT α] [PyT β] [PyT γ] [PyT δ]
instance : PyUn (T1 β) β := ⟨fun x => [x.a], fun ⟨p, w, h1, h2, h3⟩ => ⟨p, _, h1, h2, h3, trivial⟩⟩
instance : PyUn (β × β) β := ⟨fun x => [x.1, x.2], fun ⟨p, w, u, h1, h2, h3, h4⟩ => ⟨p, _, h1, h2, h3, h4, trivial⟩⟩
instance : PyUn (T3 β β β) β := ⟨fun x => [x.a, x.b, x.c], fun ⟨p, w, u, t, h1, h2, h3, h4, h5⟩ => ⟨p, _, h1, h2, h3, h4, h5, trivial⟩⟩
instance : PyUn (T4 β β β β) β := ⟨fun x => [x.a, x.b, x.c, x.d], fun ⟨p, w, u, t, s, h1, h2, h3, h4, h5, h6⟩ => ⟨p, _, h1, h2, h3, h4, h5, h6, trivial⟩⟩
/-- all but the first item -/
class PyTl (α : Type) (β : outParam Type) [PyT α] [PyT β] where
  tl : α → List β
  sq : ∀ {K : PySem.W.Frag} {F : Hp} {v : V} {x : α}, rep K F v x → ∃ p w vs, v = .ref p ∧ SqT K F p (w :: vs) ∧ RepL K F vs (tl x)
instance : PyTl (α × β) β := ⟨fun x => [x.2], fun ⟨p, w, u, h1, h2, h3, h4⟩ => ⟨p, _, _, h1, h2, h4, trivial⟩⟩
instance : PyTl (T3 α β β) β := ⟨fun x => [x.b, x.c], fun ⟨p, w, u, t, h1, h2, h3, h4, h5⟩ => ⟨p, _, _, h1, h2, h4, h5, trivial⟩⟩
instance [a : PyTl α γ] [b : PyTl β γ] : PyTl (α ⊕ β) γ where
  tl := fun x => match x with | .inl y => a.tl y | .inr y => b.tl y
  sq := fun {K F v x} h => by
    cases x with
    | inl y => exact a.sq h
    | inr y => exact b.sq h
end
end Wk
set_option Elab.async false
set_option linter.all false
set_option maxRecDepth 100000
/-! Wk24: dicts walked: locked while a comprehension reads their keys. -/
namespace Wk
open PySem PySem.Spec PyProof.Rows L2
/-- a dict that is locked: its keys -/
structure Lk where
  l : List (List Int)
instance : PyT Lk where
  rep := fun K F v x => ∃ d od ws, v = .ref d ∧ F d = some (.frz od (.dT ws)) ∧ ws.map (·.1) = x.l.map (·.map Sum.inl)
  mono := fun e ⟨d, od, ws, h1, h2, h3⟩ => ⟨d, od, ws, h1, e _ _ h2, h3⟩
/-- what doesn't lean on a locked dict -/
class PyNf (α : Type) [PyT α] : Prop where
  nf : ∀ {K : PySem.W.Frag} {F : Hp} {v : V} {x : α} {p : Addr} {od : Obj} {ws : List (List Key × V)}, F p = some (.frz od (.dT ws)) → rep K F v x → rep K (Fz F [p]) v x
section
variable {K : PySem.W.Frag} {F : Hp} {p : Addr} {od : Obj} {ws : List (List Key × V)}
theorem fz1 {b : Addr} {o : HO} (hp : F p = some (.frz od (.dT ws))) (h : F b = some o) (n : o ≠ .frz od (.dT ws)) : Fz F [p] b = some o :=
  Fz.some_iff.mpr ⟨fun z => by
    rw [List.mem_singleton.mp z, hp] at h
    exact n (Option.some.inj h).symm, h⟩
theorem RepL.nf {α : Type} [PyT α] [PyNf α] (hp : F p = some (.frz od (.dT ws))) : ∀ {vs : List V} {xs : List α}, RepL K F vs xs → RepL K (Fz F [p]) vs xs
  | [], [], _ => trivial
  | v :: vs, x :: xs, h => ⟨PyNf.nf hp h.1, RepL.nf hp h.2⟩
  | [], _ :: _, h => h.elim
  | _ :: _, [], h => h.elim
theorem SqT.nf {a : Addr} {vs : List V} (hp : F p = some (.frz od (.dT ws))) (h : SqT K F a vs) : SqT K (Fz F [p]) a vs := by
  rcases h with (h | ⟨o, h⟩) | h
  · exact .inl (.inl (fz1 hp h fun z => by cases z))
  · exact .inl (.inr ⟨o, fz1 hp h fun z => by cases z⟩)
  · exact .inr h
variable {α β γ δ : Type} [PyT α] [PyT β] [PyT γ] [PyT δ] [PyNf α] [PyNf β] [PyNf γ] [PyNf δ]
instance (priority := low) {α : Type} [PyF α] : PyNf α := ⟨fun _ h => PyF.flat h⟩
instance : PyNf (List α) := ⟨fun hp ⟨a, vs, h1, h2, h3⟩ => ⟨a, vs, h1, fz1 hp h2 (fun z => by cases z), h3.nf hp⟩⟩
instance : PyNf (Tv α) := ⟨fun hp ⟨a, vs, h1, h2, h3⟩ => ⟨a, vs, h1, fz1 hp h2 (fun z => by cases z), h3.nf hp⟩⟩
instance : PyNf (α × β) := ⟨fun hp ⟨a, w, u, h1, h2, h3, h4⟩ => ⟨a, w, u, h1, SqT.nf hp h2, PyNf.nf hp h3, PyNf.nf hp h4⟩⟩
instance : PyNf (T1 α) := ⟨fun hp ⟨a, w, h1, h2, h3⟩ => ⟨a, w, h1, SqT.nf hp h2, PyNf.nf hp h3⟩⟩
instance : PyNf (T3 α β γ) := ⟨fun hp ⟨a, w, u, t, h1, h2, h3, h4, h5⟩ => ⟨a, w, u, t, h1, SqT.nf hp h2, PyNf.nf hp h3, PyNf.nf hp h4, PyNf.nf hp h5⟩⟩
end
end Wk
set_option Elab.async false
set_option linter.all false
set_option maxRecDepth 100000
/-! Wk25: a thing of any depth in a list; tuples of four as targets. -/
namespace Wk
open PySem PySem.Spec PyProof.Rows L2
theorem units_more {X : Cx} {k : Nat} (r : Room k X.A) : X.A.units + 70 < cLine := by have := r.un; omega
section
variable {X : Cx} {H0 : Hp} {qs : List Addr} {md ma mb : Bool} {Γ : List Sl} {a b e tg : Expr} {p pos : Pos} {α β γ δ : Type} {mB : R Bool}
theorem shp [d : PyD α] {z : α} (hd : d.dep ≤ 60) (h : (PyD.toD z).canLay0 = true) : SeqAt.shaped (PyD.toD z) = true := by
  unfold SeqAt.shaped
  rw [h, decide_eq_true (Nat.le_trans (d.depth z) (by omega))] <;> rfl
theorem shpL [d : PyD α] {zs : List α} (hd : d.dep ≤ 60) (h : PyData.canLayAll0 (zs.map PyD.toD) = true) : SeqAt.shaped (.list (zs.map PyD.toD)) = true := by
  unfold SeqAt.shaped
  have := depAll zs
  rw [show (PyData.list (zs.map PyD.toD)).canLay0 = true by simp only [PyData.canLay0]; exact h, decide_eq_true (show (PyData.list (zs.map PyD.toD)).depth ≤ 64 by simp only [PyData.depth]; omega)] <;> rfl
theorem any_D [d : PyD α] (x : α) (zs : List α) : ((zs.map PyD.toD).any fun z => PyData.eqv z (PyD.toD x)) = zs.any fun z => pyEq z x := by rw [List.any_map]; rfl
theorem opf_inX [d : PyD α] (hd : d.dep ≤ 60) : OpF X (rInD X.K) (fun (x : α) (ys : List α) => R.ok (ys.any fun z => pyEq z x)) := fun H x y v w Q B hx hy k => by
  obtain ⟨d1, d2⟩ := PyD.dp hx
  obtain ⟨q, ws, rfl, h2, h3⟩ := hy
  obtain ⟨e1, e2⟩ := dpAll h3
  exact ⟨_, _, d1, .lst (SqL.of h2) e1, shp hd d2, shpL hd e2, by rw [any_D]; exact k _ (fun _ => rfl) H (Same.refl H)⟩
theorem et_inX [d : PyD α] {m1 : R α} {m2 : R (List α)} (hu : X.A.units + 65 < cLine) (da : Ev X H0 qs ma Γ a m1) (db : Ev X H0 qs mb Γ b m2) (he : mB = m1.bind fun x => m2.bind fun y => .ok (y.any fun z => pyEq z x) := by rfl) (hn : NoMark .In b := by rfl) (hd : d.dep ≤ 60 := by decide) : EvT X H0 qs Γ (.Compare a [.In] [b] pos) mB := et_cmp (op_inD hu) (opf_inX hd) da db he hn
end
theorem Blk.hv {X X' : Cx} {sc : Scope} (b : Blk X X' sc) (h : X.A.units + 65 < cLine) : X'.A.units + 65 < cLine := by rw [b.A]; exact h
theorem Tri.hv {X X' : Cx} (b : Tri X X') (h : X.A.units + 65 < cLine) : X'.A.units + 65 < cLine := by rw [b.A]; exact h
theorem Cb.hv {fe : List Fe} {fa : List He.Fa} {fn : List He.DefD} {X : Cx} {N : List PySem.Str} {sc : Scope} {k : Nat} (c : Cb fe fa fn X N sc k) : X.A.units + 65 < cLine := by have := units_more c.rm; omega
end Wk
set_option Elab.async false
set_option linter.all false
set_option maxRecDepth 100000
/-! Wk26: list(reversed(a list)); a thing's place in a list; an item taken out of a list. -/
namespace Wk
open PySem PySem.Spec PyProof.Rows L2
section
variable {X : Cx} {H0 : Hp} {qs : List Addr} {md ma mb : Bool} {Γ : List Sl} {a b e tg : Expr} {p p1 p2 p3 pos pos1 : Pos} {α β γ δ : Type} {mB : R Bool}
theorem idxOf_le [BEq α] [LawfulBEq α] {y : α} : ∀ {xs : List α} {m : Nat}, xs[m]? = some y → xs.idxOf y ≤ m
  | [], m, h => by simp at h
  | x :: xs, m, h => by
    rw [List.idxOf_cons]
    by_cases c : (x == y) = true
    · rw [c]; exact Nat.zero_le _
    · rw [Bool.not_eq_true _ |>.mp c]
      cases m with
      | zero =>
        have : x = y := Option.some.inj h
        rw [this, beq_self_eq_true] at c
        exact absurd rfl c
      | succ m => exact Nat.succ_le_succ (idxOf_le (m := m) h)
/-- xs.index(y), of a list whose items are of any depth -/
theorem ev_indexD [q : PyQ α] [BEq α] [LawfulBEq α] {m1 : R (List α)} {m2 : R α} {m : R Int} (hu : X.A.units + 65 < cLine) (da : Ev X H0 qs ma Γ a m1) (d : Ev X H0 qs mb Γ e m2) (he : m = m1.bind fun xs => m2.bind fun y => idxR xs y := by rfl) (hd : q.dep ≤ 60 := by decide)
    (hfew : Few e p3 := by intro _; rfl)
    (hline : (p2.endLine == p3.line) = true := by rfl) (hs : St1 e := by intro _; rfl) (hbase : ∀ env, attributeBase a "index" env (eval a env) = eval a env := by intro _; rfl) : Ev X H0 qs md Γ (.Call (.Attribute a "index" p2) [e] [] p3) m := by
  intro σ H at_ E pe Q qq
  subst he
  refine wE_of (pe_bm PySem.F.plainAttrs_list PySem.F.slot_list_index PySem.F.type_list_index (mt_indexD hu) pe_w (pa_cons pe_w pa_nil (hs X.env)) (hbase X.env) (hfew X.env) hline (hs X.env) rfl) ?_
  refine da σ H at_ E pe _ ((PX.bind qq).mono (fun xs q2 v H1 s1 r1 => ?_) fun _ z => z)
  obtain ⟨l, vs, rfl, h2, h3⟩ := r1
  refine ⟨.inl ⟨rfl, _, SqL.of (Fz.out _ _ h2)⟩, ?_⟩
  refine d σ H1 (at_.grow s1) E pe _ ((PX.bind q2).mono (fun y q3 w H2 s2 r2 => ?_) fun _ z => z.grow s1)
  obtain ⟨c, q4⟩ := PX.chk q3
  have hmem : y ∈ xs := List.contains_iff_mem.mp c
  have h4 := s2 _ _ (Fz.out _ _ h2)
  obtain ⟨e1, e2⟩ := dpAll ((h3.mono Fz.out).mono s2)
  obtain ⟨d1, d2⟩ := PyD.dp (av_out r2)
  have hlt := List.idxOf_lt_length_of_mem hmem
  refine ⟨l, w, PyD.toD y, xs.map PyD.toD, xs.idxOf y, PyD.toD y, rfl, rfl, .lst (SqL.of h4) e1, d1, shpL hd e2, shp hd d2, ?_, (q.eq y y).mpr rfl, fun m z hm hz => ?_, q4 _ _ (s1.trans s2) rfl⟩
  · rw [List.getElem?_map, List.getElem?_eq_getElem hlt, List.getElem_idxOf hlt]; rfl
  · rw [List.getElem?_map] at hz
    obtain ⟨u, hu1, rfl⟩ := Option.map_eq_some_iff.mp hz
    obtain ⟨hl, hu2⟩ := List.getElem?_eq_some_iff.mp hu1
    cases hb : PyData.eqv (PyD.toD u) (PyD.toD y) with
    | false => rfl
    | true =>
      have := (q.eq u y).mp hb
      exfalso
      have h5 : xs.idxOf y ≤ m := by
        exact idxOf_le (by rw [hu1, this])
      omega
end
end Wk
set_option Elab.async false
set_option linter.all false
set_option maxRecDepth 100000
/-! Wk27: an item taken out of a list. -/
namespace Wk
open PySem PySem.Spec PyProof.Rows L2
def popR {α : Type} (xs : List α) (j : Int) : R (α × List α) := (R.chk (decide (0 ≤ j ∧ j < xs.length ∧ xs.length ≤ 16777216)) ()).bind fun _ => (R.ofO xs[j.toNat]?).bind fun y => .ok (y, xs.eraseIdx j.toNat)
section
variable {X : Cx} {H0 : Hp} {qs : List Addr} {rt : VK} {nx : L2.St → Hp → Prop} {O : Type} {A : O → Prop} {B : Exc → Prop} {Γ : List Sl} {rest : List Stmt} {m : R O} {e a b : Expr} {pos p p1 p2 p3 : Pos} {x y : PySem.Str} {i ix : Nat} {α β S : Type}
/-- x = ys.pop(j) -/
theorem w_popAsg [PyT α] {ys : List α} {mj : R Int} {f : α × List α → R O} {Γ' : α × List α → List Sl} (fr : Fr X H0 B) (l : Lc X ix x) (n : Nm X i y) (h : Γ[i]? = some (.ow ys)) (dj : Ev X H0 qs true Γ a mj) (k : ∀ u, W X H0 qs rt nx A B (Γ' u) rest (f u)) (hΓ : ∀ u, Γ' u = (Γ.set i (.ow u.2)).set ix (.fr u.1) := by intro _; rfl) (ht : tmF Γ = true := by rfl)
    (he : m = mj.bind fun j => (popR ys j).bind f := by rfl)
    (hfew : ∀ env, ((backTo p3 (starEach [a] env)).all (fun x => !x.1) && (backToKw p3 (keywordEach [] env)).all (fun x => x.1.isSome) && decide ([a].length + ([] : List Keyword).length + (if ([] : List Keyword).isEmpty then 0 else 1) < 30)) = true := by intro _; rfl)
    (hline : (p2.endLine == p3.line) = true := by rfl) (hs : St1 a := by intro _; rfl) (hbase : ∀ env, attributeBase (.Name y p1) "pop" env (eval (.Name y p1) env) = eval (.Name y p1) env := by intro _; rfl)
    (hsw : ∀ env, swapsWith (.Call (.Attribute (.Name y p1) "pop" p2) [a] [] p3) (some (.Name x p)) pos.line env = pure false := by intro _; rfl) : W X H0 qs rt nx A B Γ (.Assign [.Name x p] (.Call (.Attribute (.Name y p1) "pop" p2) [a] [] p3) pos :: rest) m := fun q σ H at_ => by
  subst he
  obtain ⟨E, pe, hx⟩ := fr.use
  refine cons_of (wS_of (ps_set l.nd l.hi l.loc (pe_bm PySem.F.plainAttrs_list PySem.F.slot_list_pop PySem.F.type_list_pop mt_popAt (pe_var n.hi n.vis n.hd n.hc) (pa_cons pe_w pa_nil (hs X.env)) (hbase X.env) (hfew X.env) hline (hs X.env) rfl) (hsw X.env) l.fn) ?_)
  obtain ⟨ll, vs, hl, hm, hv, h0, hr⟩ := at_.ow h
  refine ⟨_, hl, .inl ⟨rfl, _, SqL.of hv⟩, ?_⟩
  refine dj σ H at_ E (pe σ) _ ((PX.bind q).mono (fun j q2 v H1 s1 r1 => ?_) fun c z => hx c H at_.ex z)
  have ej : v = .int j := r1
  subst ej
  have q3 := PX.bind (PX.bind q2)
  obtain ⟨c, q4⟩ := PX.chk q3
  have c2 := of_decide_eq_true c
  obtain ⟨u, hu, q5⟩ := PX.ofO (PX.bind q4)
  obtain ⟨w, hw, rw_⟩ := (hr.mono (Fz.mono (ps := owA Γ σ ++ qs) s1)).get' hu
  have at1 := at_.grow s1
  have hv1 := s1 _ _ hv
  have le := hr.len
  refine ⟨ll, vs, j, j.toNat, w, rfl, rfl, hv1, by omega, by omega, ?_, hw, ?_⟩
  · refine (ixN_seq ?_).1
    unfold ixN
    rw [if_pos c2.1, if_pos (by rw [le]; exact c2.2.1)]
  have at2 := at1.mut h hl ((hr.mono (Fz.mono s1)).erase (n := j.toNat)) ht
  refine k (u, ys.eraseIdx j.toNat) q5 _ _ ?_
  rw [hΓ]
  refine at2.setFr ?_
  have eo : owA (Γ.set i (.ow (ys.eraseIdx j.toNat))) σ = owA Γ σ := owA_set_same (s := .ow ys) (s' := .ow (ys.eraseIdx j.toNat)) (ov := some (.ref ll)) rfl h hl
  rw [eo]
  exact PyT.mono (Fz.mut (List.mem_append_left _ hm)) rw_
end
end Wk
set_option Elab.async false
set_option linter.all false
set_option maxRecDepth 100000
/-! Wk28: things handed in that may lean on what is to be left alone; what is told anew. -/
namespace Wk
open PySem PySem.Spec PyProof.Rows L2
/-! ### arguments, some of them of any kind (mask) -/
class PyM (τ : Type) extends PyA τ where
  sl : List Bool → Hp → τ → List Sl
  rp : List Bool → PySem.W.Frag → Hp → Hp → List V → τ → Prop
  sok : ∀ {mk : List Bool} {K : PySem.W.Frag} {F H G H0 : Hp} {vs : List V} {x : τ}, rp mk K F G vs x → Same G H0 → AllOk K F H H0 (sl mk G x) (vs.map some)
  sno : ∀ (mk : List Bool) (G : Hp) (x : τ), NoO (sl mk G x)
  rpn : ∀ {K : PySem.W.Frag} {F G : Hp} {vs : List V} {x : τ}, rp [] K F G vs x → reps K F vs x
instance : PyM Unit where
  sl := fun _ _ _ => []
  rp := fun _ _ _ _ vs _ => vs = []
  sok := fun {mk K F H G H0 vs x} h _ => by
    have e : vs = [] := h
    subst e
    trivial
  sno := fun _ _ _ s hs => by cases hs
  rpn := fun h => h
instance {α τ : Type} [PyT α] [PyM τ] : PyM (α × τ) where
  sl := fun mk G x => match mk with
    | true :: mk => .pm G x.1 :: PyM.sl mk G x.2
    | false :: mk => .fr x.1 :: PyM.sl mk G x.2
    | [] => .fr x.1 :: PyM.sl [] G x.2
  rp := fun mk K F G vs x => match mk with
    | true :: mk => ∃ v ws, vs = v :: ws ∧ rep K G v x.1 ∧ PyM.rp mk K F G ws x.2
    | false :: mk => ∃ v ws, vs = v :: ws ∧ rep K F v x.1 ∧ PyM.rp mk K F G ws x.2
    | [] => ∃ v ws, vs = v :: ws ∧ rep K F v x.1 ∧ PyM.rp [] K F G ws x.2
  sok := fun {mk K F H G H0 vs x} h hG => by
    cases mk with
    | nil =>
      obtain ⟨v, ws, e, h1, h2⟩ := h
      subst e
      exact ⟨⟨v, rfl, h1⟩, PyM.sok h2 hG⟩
    | cons b mk =>
      cases b with
      | true =>
        obtain ⟨v, ws, e, h1, h2⟩ := h
        subst e
        exact ⟨⟨v, rfl, h1, hG⟩, PyM.sok h2 hG⟩
      | false =>
        obtain ⟨v, ws, e, h1, h2⟩ := h
        subst e
        exact ⟨⟨v, rfl, h1⟩, PyM.sok h2 hG⟩
  sno := fun mk G x s hs o => by
    cases mk with
    | nil =>
      rcases List.mem_cons.mp hs with e | hs
      · subst e; rfl
      · exact PyM.sno [] G x.2 s hs o
    | cons b mk =>
      cases b with
      | true =>
        rcases List.mem_cons.mp hs with e | hs
        · subst e; rfl
        · exact PyM.sno mk G x.2 s hs o
      | false =>
        rcases List.mem_cons.mp hs with e | hs
        · subst e; rfl
        · exact PyM.sno mk G x.2 s hs o
  rpn := fun h => let ⟨v, ws, e, h1, h2⟩ := h; ⟨v, ws, e, h1, PyM.rpn h2⟩
/-! ### promises -/
/-! ### data without lists -/
class PyNL (α : Type) [PyT α] : Prop where
  nl : ∀ {K : PySem.W.Frag} {F : Hp} {v : V} {x : α}, rep K F v x → rep K (Onl F []) v x
theorem tup_onl {F : Hp} {ps : List Addr} {a : Addr} {xs : List V} (h : F a = some (.tup xs)) : Onl F ps a = some (.tup xs) := Onl.cases.mpr ⟨h, .inl fun n => n.1 xs h⟩
theorem frz_onl {F : Hp} {ps : List Addr} {a : Addr} {o : Obj} {u : HO} (h : F a = some (.frz o u)) : Onl F ps a = some (.frz o u) := Onl.cases.mpr ⟨h, .inl fun n => n.2 _ _ h⟩
theorem sqT_onl {K : PySem.W.Frag} {F : Hp} {ps : List Addr} {a : Addr} {xs : List V} (h : SqT K F a xs) : SqT K (Onl F ps) a xs := by
  rcases h with (h | ⟨o, h⟩) | h
  · exact .inl (.inl (tup_onl h))
  · exact .inl (.inr ⟨o, frz_onl h⟩)
  · exact .inr h
theorem noD_onl {K : PySem.W.Frag} {F : Hp} {ps : List Addr} {a : Addr} (d : NoD K F a) : NoD K (Onl F ps) a := d.elim (fun ⟨o, u, d1, d2⟩ => .inl ⟨o, u, frz_onl d1, d2⟩) .inr
instance {α : Type} [PyF α] : PyNL α := ⟨fun h => PyF.flat h⟩
theorem RepL.nl {α : Type} [PyT α] [PyNL α] {K : PySem.W.Frag} {F : Hp} : ∀ {vs : List V} {xs : List α}, RepL K F vs xs → RepL K (Onl F []) vs xs
  | [], [], _ => trivial
  | v :: vs, x :: xs, h => ⟨PyNL.nl h.1, RepL.nl h.2⟩
  | [], _ :: _, h => h.elim
  | _ :: _, [], h => h.elim
section
variable {α β γ δ : Type} [PyT α] [PyT β] [PyT γ] [PyT δ] [PyNL α] [PyNL β] [PyNL γ] [PyNL δ]
instance : PyNL (T1 α) := ⟨fun ⟨a, w, h1, h2, h3⟩ => ⟨a, w, h1, sqT_onl h2, PyNL.nl h3⟩⟩
instance : PyNL (α × β) := ⟨fun ⟨a, w, u, h1, h2, h3, h4⟩ => ⟨a, w, u, h1, sqT_onl h2, PyNL.nl h3, PyNL.nl h4⟩⟩
instance : PyNL (T3 α β γ) := ⟨fun ⟨a, w, u, t, h1, h2, h3, h4, h5⟩ => ⟨a, w, u, t, h1, sqT_onl h2, PyNL.nl h3, PyNL.nl h4, PyNL.nl h5⟩⟩
instance : PyNL (T4 α β γ δ) := ⟨fun ⟨a, w, u, t, s, h1, h2, h3, h4, h5, h6⟩ => ⟨a, w, u, t, s, h1, sqT_onl h2, PyNL.nl h3, PyNL.nl h4, PyNL.nl h5, PyNL.nl h6⟩⟩
instance : PyNL (Tu α) := ⟨fun ⟨a, vs, h1, ⟨h2, h3⟩, h4⟩ => ⟨a, vs, h1, ⟨sqT_onl h2, noD_onl h3⟩, h4.nl⟩⟩
instance : PyNL (Tv α) := ⟨fun ⟨a, vs, h1, h2, h4⟩ => ⟨a, vs, h1, tup_onl h2, h4.nl⟩⟩
instance : PyNL (Option α) := ⟨fun {K F v x} h => by
  cases x with
  | none => exact h
  | some a => exact PyNL.nl (α := α) h⟩
instance : PyNL (α ⊕ β) := ⟨fun {K F v x} h => by
  cases x with
  | inl a => exact PyNL.nl (α := α) h
  | inr b => exact PyNL.nl (α := β) h⟩
end
/-! ### lists that a thing leads to -/
class FP (α : Type) [PyT α] : Prop where
  fp : ∀ {K : PySem.W.Frag} {F : Hp} {v : V} {x : α}, rep K F v x → ∃ ps, (∀ p ∈ ps, ∃ vs, F p = some (.lst vs)) ∧ rep K (Onl F ps) v x
instance {α : Type} [PyF α] : FP α := ⟨fun h => ⟨[], (fun _ z => by cases z), PyF.flat h⟩⟩
theorem onl_l {α : Type} [PyT α] {K : PySem.W.Frag} {F : Hp} {ps qs : List Addr} {v : V} {x : α} (h : rep K (Onl F ps) v x) : rep K (Onl F (ps ++ qs)) v x := PyT.mono (Onl.more fun _ z => List.mem_append_left _ z) h
theorem onl_r {α : Type} [PyT α] {K : PySem.W.Frag} {F : Hp} {ps qs : List Addr} {v : V} {x : α} (h : rep K (Onl F ps) v x) : rep K (Onl F (qs ++ ps)) v x := PyT.mono (Onl.more fun _ z => List.mem_append_right _ z) h
theorem mem_two {F : Hp} {ps qs : List Addr} (h1 : ∀ p ∈ ps, ∃ vs, F p = some (.lst vs)) (h2 : ∀ p ∈ qs, ∃ vs, F p = some (.lst vs)) : ∀ p ∈ ps ++ qs, ∃ vs, F p = some (.lst vs) := fun p hp => (List.mem_append.mp hp).elim (h1 p) (h2 p)
theorem RepL.fp {α : Type} [PyT α] [FP α] {K : PySem.W.Frag} {F : Hp} : ∀ {vs : List V} {xs : List α}, RepL K F vs xs → ∃ ps, (∀ p ∈ ps, ∃ vs, F p = some (.lst vs)) ∧ RepL K (Onl F ps) vs xs
  | [], [], _ => ⟨[], (fun _ z => by cases z), trivial⟩
  | v :: vs, x :: xs, h => by
    obtain ⟨ps, h1, h2⟩ := FP.fp h.1
    obtain ⟨qs, h3, h4⟩ := RepL.fp h.2
    exact ⟨ps ++ qs, mem_two h1 h3, onl_l h2, h4.mono (Onl.more fun _ z => List.mem_append_right _ z)⟩
  | [], _ :: _, h => h.elim
  | _ :: _, [], h => h.elim
section
variable {α β γ δ : Type} [PyT α] [PyT β] [PyT γ] [PyT δ] [FP α] [FP β] [FP γ] [FP δ]
instance : FP (List α) := ⟨fun ⟨a, vs, h1, h2, h3⟩ => by
  obtain ⟨ps, h4, h5⟩ := h3.fp
  refine ⟨a :: ps, fun p hp => ?_, a, vs, h1, Onl.cases.mpr ⟨h2, .inr List.mem_cons_self⟩, h5.mono (Onl.more fun _ z => List.mem_cons_of_mem _ z)⟩
  rcases List.mem_cons.mp hp with e | hp
  · rw [e]; exact ⟨vs, h2⟩
  · exact h4 p hp⟩
instance : FP (T1 α) := ⟨fun ⟨a, w, h1, h2, h3⟩ => by
  obtain ⟨ps, k1, k2⟩ := FP.fp h3
  exact ⟨ps, k1, a, w, h1, sqT_onl h2, k2⟩⟩
instance : FP (α × β) := ⟨fun ⟨a, w, u, h1, h2, h3, h4⟩ => by
  obtain ⟨ps, k1, k2⟩ := FP.fp h3
  obtain ⟨qs, l1, l2⟩ := FP.fp h4
  exact ⟨ps ++ qs, mem_two k1 l1, a, w, u, h1, sqT_onl h2, onl_l k2, onl_r l2⟩⟩
instance : FP (T3 α β γ) := ⟨fun ⟨a, w, u, t, h1, h2, h3, h4, h5⟩ => by
  obtain ⟨ps, k1, k2⟩ := FP.fp h3
  obtain ⟨qs, l1, l2⟩ := FP.fp h4
  obtain ⟨rs, m1, m2⟩ := FP.fp h5
  exact ⟨ps ++ (qs ++ rs), mem_two k1 (mem_two l1 m1), a, w, u, t, h1, sqT_onl h2, onl_l k2, onl_r (onl_l l2), onl_r (onl_r m2)⟩⟩
instance : FP (T4 α β γ δ) := ⟨fun ⟨a, w, u, t, s, h1, h2, h3, h4, h5, h6⟩ => by
  obtain ⟨ps, k1, k2⟩ := FP.fp h3
  obtain ⟨qs, l1, l2⟩ := FP.fp h4
  obtain ⟨rs, m1, m2⟩ := FP.fp h5
  obtain ⟨ts, n1, n2⟩ := FP.fp h6
  exact ⟨ps ++ (qs ++ (rs ++ ts)), mem_two k1 (mem_two l1 (mem_two m1 n1)), a, w, u, t, s, h1, sqT_onl h2, onl_l k2, onl_r (onl_l l2), onl_r (onl_r (onl_l m2)), onl_r (onl_r (onl_r n2))⟩⟩
instance : FP (Tu α) := ⟨fun ⟨a, vs, h1, ⟨h2, h3⟩, h4⟩ => by
  obtain ⟨ps, k1, k2⟩ := h4.fp
  exact ⟨ps, k1, a, vs, h1, ⟨sqT_onl h2, noD_onl h3⟩, k2⟩⟩
instance : FP (Tv α) := ⟨fun ⟨a, vs, h1, h2, h4⟩ => by
  obtain ⟨ps, k1, k2⟩ := h4.fp
  exact ⟨ps, k1, a, vs, h1, tup_onl h2, k2⟩⟩
instance : FP (Option α) := ⟨fun {K F v x} h => by
  cases x with
  | none => exact ⟨[], fun _ z => (by cases z), h⟩
  | some a => exact FP.fp (α := α) h⟩
instance : FP (α ⊕ β) := ⟨fun {K F v x} h => by
  cases x with
  | inl a => exact FP.fp (α := α) h
  | inr b => exact FP.fp (α := β) h⟩
end
/-! ### arguments and calls -/
section
variable {X : Cx} {H0 : Hp} {qs : List Addr} {md : Bool} {Γ : List Sl} {a e : Expr} {es : List Expr} {pos : Pos} {α : Type}
/-! what is told anew: it leans on no list that was there -/
/-- a def without masks -/
theorem Dn.imp {x : Str} {sp sp' : Sp} {n : Nat} (D : Dn X x sp n) (h : ∀ vs H Q E, sp' vs H Q E → sp vs H Q E) : Dn X x sp' n := by
  obtain ⟨k, f, fd, ps, F, h1⟩ := D.ex
  exact ⟨k, f, fd, ps, F.imp h, h1⟩
end
end Wk
set_option Elab.async false
set_option linter.all false
set_option maxRecDepth 100000
/-! Wk29: comprehensions and loops over what may lean on what is to be left alone. -/
namespace Wk
open PySem PySem.Spec PyProof.Rows L2
/-! ### things handed in, as such that aren't changed -/
/-- a thing comes to a target for a while -/
def EvGT (X : Cx) (Γ : List Sl) {α : Type} [PyT α] (tg : Expr) (x : α) (Γ' : List Sl) (is : List Nat) : Prop :=
  ∀ (H0 : Hp) (qs : List Addr) σ H v, At X.K H0 qs Γ σ H → rep X.K H v x → ∀ Q : L2.St → Hp → Prop,
    (∀ σ', At X.K H0 qs Γ' σ' H → owA Γ' σ' = owA Γ σ → σ'.length = σ.length → (∀ i, i ∉ is → σ'[i]? = σ[i]?) → Q σ' H) → wG X tg v σ H Q
section
variable {X : Cx} {Γ : List Sl} {tg : Expr} {p : Pos} {α β : Type}
theorem onl_av {K : PySem.W.Frag} {H0 H : Hp} {qs : List Addr} {σ : L2.St} (a : At K H0 qs Γ σ H) : Same (Onl H []) (Fz H (owA Γ σ ++ qs)) := fun b o h => by
  obtain ⟨h1, h2⟩ := Onl.cases.mp h
  refine Fz.some_iff.mpr ⟨fun z => ?_, h1⟩
  rcases h2 with h2 | h2
  · exact h2 (a.av_hv z).nt
  · cases h2
theorem eg_nl [PyT α] [PyNL α] {x : α} {Γ' : List Sl} {is : List Nat} (g : EvG X Γ tg x Γ' is) : EvGT X Γ tg x Γ' is := fun H0 qs σ H v at_ r Q k => g H0 qs σ H v at_ (PyT.mono (onl_av at_) (PyNL.nl r)) Q k
theorem Ev.nl [PyT α] [PyNL α] {H0 : Hp} {qs : List Addr} {e : Expr} {m : R α} (d : Ev X H0 qs false Γ e m) : Ev X H0 qs true Γ e m := fun σ H at_ E pe Q q =>
  d σ H at_ E pe Q (q.mono (fun x k v H' s r => k v H' s (PyT.mono (onl_av (at_.grow s)) (PyNL.nl (av_out r)))) fun _ z => z)
end
section
variable {X : Cx} {H0 : Hp} {qs : List Addr} {md mi : Bool} {Γ : List Sl} {it elt tg : Expr} {pos : Pos} {α β : Type}
/-- the core: one test or none -/
theorem lc_anyT [PyT α] [PyT β] {scope : Scope} {own : List (Str × Nat)} {ifs : List Expr} {mx : R (List α)} {g : α → R (Option β)} {m : R (List β)} {Γx : α → List Sl} {is : List Nat} {tt : TT}
    (hX : ∃ N sc, XOk X N sc) (hi : EvI X H0 qs mi Γ tg it mx) (fe : md = true ∨ ∀ {K : PySem.W.Frag} {F F' : Hp} {v : V} {x : β}, rep K F v x → rep K F' v x) (hno : ∀ p ∈ own, NoOw Γ p.2) (his : ∀ i ∈ is, i ∈ own.map (·.2))
    (hg : ∀ X', Blk X X' (relS scope X.env.scope) → ∀ x, EvGT X' (wipeG Γ (own.map (·.2))) tg x (Γx x) is)
    (htt : ∀ (s : Shared) (H : Hp) (C : Addr) (cl : List (Str × Addr)) (fp : List Addr), PTs (X.blk s H scope (compEnvC scope cl C X.env) fp) ifs tt)
    (hturn : ∀ X', Blk X X' (relS scope X.env.scope) → ∀ (D : Addr) (x : α) σ H, At X.K H0 (D :: qs) (Γx x) σ H → ∀ (A : Option β → Prop), PX A (fun _ => False) (g x) → ∀ Qt : Bool → Hp → Prop,
      (∀ b H', Same H H' → (b = true → ∀ Qe : VK, (∀ y v H'', Same H' H'' → A (some y) → rep X.K (Fz H'' (av md (Γx x) σ (D :: qs))) v y → Qe v H'') → bE X (relS scope X.env.scope) elt σ H' Qe) → (b = false → A none) → Qt b H') → tt σ H Qt)
    (he : m = mx.bind (compR g)) (hs : ∀ env x, foldedSetIterable it env x = pure x) :
    ∀ σ H, At X.K H0 qs Γ σ H → ∀ E : XK, Pas X σ E → ∀ Q : VK, PX (fun xs => ∀ p vs H', Same H H' → H p = none → H' p = some (.lst vs) → RepL X.K (Fz H' (p :: av md Γ σ qs)) vs xs → Q (.ref p) H') (XW X E H) m →
      tLc (wI X tg it) (bG X (relS scope X.env.scope) tg) tt (bE X (relS scope X.env.scope) elt) (own.map (·.2)) σ H Q := by
  intro σ H at_ E pe Q q
  subst he
  obtain ⟨N, sc, hX⟩ := hX
  refine hi σ H at_ E pe _ ((PX.bind q).mono (fun xs q2 J H1 s1 wk D hD => ?_) fun _ z => z)
  unfold compR at q2
  by_cases hlen : xs.length ≤ 16777216
  case neg => rw [if_neg hlen] at q2; exact (show False from q2).elim
  rw [if_pos hlen] at q2
  have at1 := at_.grow s1
  have hD0 : H D = none := s1.free hD
  let Pv : Nat → Hp → Prop := fun i H' => Same H1 H' ∧ ∃ acc ys, H' D = some (.lst acc) ∧ RepL X.K (Fz H' (D :: av md Γ σ qs)) acc ys ∧ acc.length ≤ i ∧
    PX (fun zs => ∀ p vs H', Same H H' → H p = none → H' p = some (.lst vs) → RepL X.K (Fz H' (p :: av md Γ σ qs)) vs (ys ++ zs) → Q (.ref p) H') (XW X E H) (compGo g (xs.drop i))
  refine ⟨fun i m H' => m = xs.length - i ∧ i ≤ xs.length ∧ Pv i H', ⟨xs.length, by simp, Nat.zero_le _, same_new hD, [], [], upd_same, trivial, Nat.le_refl _, ?_⟩, ?_⟩
  · rw [List.drop_zero]
    exact q2.mono (fun zs k p vs H' a b c d => k p vs H' a b c d) fun _ z => z
  rintro i m H2 ⟨rfl, hi', s2, acc, ys, hacc, hrep, hal, hrest⟩
  have sF : Same (Fz H1 (av mi Γ σ qs)) H2 := fun b o z => s2 b o (Fz.out b o z)
  by_cases hlt : i < xs.length
  · refine .inr ⟨wk.goes i H2 hlt sF, Pv (i + 1), fun H' p' => ⟨xs.length - (i + 1), by omega, rfl, hlt, p'⟩, fun v H3 hy => ?_⟩
    obtain ⟨s3, x, hx, hxr⟩ := wk.yields i H2 v H3 hlt sF hy
    have hdrop : xs.drop i = x :: xs.drop (i + 1) := by
      obtain ⟨h1, h2⟩ := List.getElem?_eq_some_iff.mp hx
      rw [List.drop_eq_getElem_cons h1, h2]
    rw [hdrop] at hrest
    have hD3 : H3 D = some (.lst acc) := s3 _ _ hacc
    have at3 : At X.K H0 (D :: qs) Γ σ H3 := at1.addq (s2.trans s3) hD (Hv.lst hD3)
    have at3w := at3.wipe (own.map (·.2))
    have hown : owA (wipeG Γ (own.map (·.2))) (wipe σ (own.map (·.2))) = owA Γ σ := wipe_own fun v hv => by
      obtain ⟨p, hp, rfl⟩ := List.mem_map.mp hv
      exact hno p hp
    have hr3 : rep X.K H3 v x := by
      have h := hxr [] (fun b o z => by rw [Fz.nil]; exact sF b o z) fun q hq => by cases hq
      rw [Fz.nil] at h
      exact h
    intro X' hB
    have hK : X'.K = X.K := hB.K
    refine hg X' hB x H0 (D :: qs) (wipe σ (own.map (·.2))) H3 v (by rw [hK]; exact at3w) (by rw [hK]; exact hr3) _ ?_
    intro σ4 at4 ho4 hl4 hk4
    refine ⟨?_, ?_⟩
    · refine wipe_ext (by rw [hl4, wipe_length]) fun j hj => ?_
      rw [hk4 j fun z => hj (his j z), wipe_out hj]
    rw [hK] at at4
    have how : owA (Γx x) σ4 = owA Γ σ := ho4.trans hown
    have hq3 : PX _ _ ((g x).sure.bind fun o => (compGo g (xs.drop (i + 1))).bind fun ys => .ok (match o with | some y => y :: ys | none => ys)) := hrest
    have hq4 := PX.sure (PX.bind hq3)
    refine hturn X' hB D x σ4 H3 at4 _ hq4 _ fun b H4 s4 hb1 hb0 => ?_
    have sD4 : H4 D = some (.lst acc) := s4 _ _ hD3
    cases b with
    | false =>
      show Pv (i + 1) H4
      have k := PX.bind (hb0 rfl)
      refine ⟨(s2.trans s3).trans s4, acc, ys, sD4, hrep.mono (Fz.mono (s3.trans s4)), Nat.le_succ_of_le hal, k.mono (fun zs k2 => k2) fun _ z => z⟩
    | true =>
      show bE X _ elt σ4 H4 _
      refine hb1 rfl _ fun y u H5 s5 hy5 hr5 => ⟨acc, s5 _ _ sD4, by rw [sizeLine_eq]; omega, ?_⟩
      have k := PX.bind hy5
      have hfz : rep X.K (Fz (upd H5 D (.lst (acc ++ [u]))) (D :: av md Γ σ qs)) u y := by
        rcases fe with fe | fe
        · subst fe
          refine PyT.mono ?_ hr5
          refine Fz.go fun b o hb hb2 => ?_
          have e1 : av true (Γx x) σ4 (D :: qs) = owA Γ σ ++ D :: qs := by rw [← how]; rfl
          rw [e1] at hb
          have nb : b ≠ D := fun z => hb (List.mem_append_right _ (by rw [z]; exact List.mem_cons_self))
          refine ⟨fun z => ?_, (upd_ne nb).trans hb2⟩
          rcases List.mem_cons.mp z with z | z
          · exact nb z
          · rcases List.mem_append.mp z with z | z
            · exact hb (List.mem_append_left _ z)
            · exact hb (List.mem_append_right _ (List.mem_cons_of_mem _ z))
        · exact fe hr5
      refine ⟨same_mut (((s2.trans s3).trans s4).trans s5) hD, acc ++ [u], ys ++ [y], upd_same, ?_, by rw [List.length_append, List.length_singleton]; omega, k.mono (fun zs k2 => by rw [List.append_assoc]; exact k2) fun _ z => z⟩
      refine (hrep.mono ?_).app (RepL.one hfz)
      exact Same.trans (Fz.mono ((s3.trans s4).trans s5)) (Fz.mut List.mem_cons_self)
  · have e : i = xs.length := by omega
    subst e
    refine .inl ⟨wk.stops H2 sF, ?_⟩
    rw [List.drop_length] at hrest
    have k : ∀ p vs H', Same H H' → H p = none → H' p = some (.lst vs) → RepL X.K (Fz H' (p :: av md Γ σ qs)) vs (ys ++ []) → Q (.ref p) H' := hrest
    exact k D acc H2 (s1.trans s2) hD0 hacc (by rw [List.append_nil]; exact hrep)
variable {scope : Scope} {own : List (Str × Nat)} {mx : R (List α)} {Γx : α → List Sl} {is : List Nat} {N : List Str} {sc : Scope}
theorem map_coreT [PyT α] [PyT β] {g : α → R β} {m : R (List β)} (hX : XOk X N sc) (hi : EvI X H0 qs mi Γ tg it mx) (hno : ∀ p ∈ own, NoOw Γ p.2) (his : ∀ i ∈ is, i ∈ own.map (·.2))
    (hg : ∀ X', Blk X X' (relS scope sc) → ∀ x, EvGT X' (wipeG Γ (own.map (·.2))) tg x (Γx x) is) (hel : ∀ X', Blk X X' (relS scope sc) → ∀ (D : Addr) (x : α), Ev X' H0 (D :: qs) true (Γx x) elt (g x))
    (he : m = mx.bind (mapR g)) (hs : Fold it) :
    ∀ σ H, At X.K H0 qs Γ σ H → ∀ E : XK, Pas X σ E → ∀ Q : VK, PX (fun xs => ∀ p vs H', Same H H' → H p = none → H' p = some (.lst vs) → RepL X.K (Fz H' (p :: av true Γ σ qs)) vs xs → Q (.ref p) H') (XW X E H) m →
      tLc (wI X tg it) (bG X (relS scope X.env.scope) tg) tYes (bE X (relS scope X.env.scope) elt) (own.map (·.2)) σ H Q := by
  have hsc : X.env.scope = sc := hX.hs
  rw [← hsc] at hg hel
  refine lc_anyT (md := true) ⟨_, _, hX⟩ hi (.inl rfl) hno his hg (fun _ _ _ _ _ => pts_nil) (g := fun x => (g x).bind fun y => .ok (some y)) (turn_map hel) ?_ hs
  rw [he]
  refine congrArg mx.bind (funext fun xs => ?_)
  unfold mapR compR
  split
  · exact mapGo_comp g xs
  · rfl
theorem ec_mapT [PyT α] [PyT β] {g : α → R β} {m : R (List β)} (hX : XOk X N sc) (hi : EvI X H0 qs mi Γ tg it mx) (hb : blkC N sc scope own = true) (hno : ∀ p ∈ own, NoOw Γ p.2) (his : ∀ i ∈ is, i ∈ own.map (·.2))
    (hg : ∀ X', Blk X X' (relS scope sc) → ∀ x, EvGT X' (wipeG Γ (own.map (·.2))) tg x (Γx x) is) (hel : ∀ X', Blk X X' (relS scope sc) → ∀ (D : Addr) (x : α), Ev X' H0 (D :: qs) true (Γx x) elt (g x))
    (he : m = mx.bind (mapR g) := by rfl) (hs : Fold it := by intro _ _; rfl) : EvC X H0 qs Γ (.ListComp elt [⟨tg, it, [], 0⟩] scope pos) m := fun i y py spos D σ H l hl hsw hk at_ E pe q =>
  wS_of (ps_setLc hX.calm hX.nd l.hi hl (hsw _ _ hk hl) pi_w (blkOk_by (by rw [hX.hN, hX.hs]; exact hb)) (fun _ _ _ _ _ => pg_b) (fun _ _ _ _ _ => pts_nil) (fun _ _ _ _ _ => pe_b) (hs X.env))
    (map_coreT hX hi hno his hg hel he hs σ H at_ E pe (fun v H1 => gName i v σ H1 D.nx) q)
end
end Wk
set_option Elab.async false
set_option linter.all false
set_option maxRecDepth 100000
/-! Wk30: lists told anew are the def's own; lent, taken back, changed. -/
namespace Wk
open PySem PySem.Spec PyProof.Rows L2
section
variable {K : PySem.W.Frag} {F F' H H' H0 H1 : Hp} {qs ps : List Addr} {Γ Γ' : List Sl} {σ : L2.St} {i : Nat} {α : Type}
theorem set_self {v : Option V} (h : σ[i]? = some v) : σ.set i v = σ := by
  obtain ⟨hl, e⟩ := List.getElem?_eq_some_iff.mp h
  rw [← e]
  exact List.set_getElem_self hl
/-- what is known of lists lent -/
structure Len (H0 H1 G : Hp) (ps qs : List Addr) : Prop where
  s : Same H0 H1
  g : ∀ b o, G b = some o → NT G b → b ∈ ps
  c : ∀ p ∈ ps, H0 p = none ∧ (∃ vs, G p = some (.lst vs)) ∧ p ∉ qs
  nd : ps.Nodup
  t : Same G H1
theorem At.back [PyT α] {x : α} {G : Hp} (a : At K H1 (ps ++ qs) Γ σ H) (h : Γ[i]? = some (.pm G x)) (L : Len H0 H1 G ps qs) (hG : ∀ G' ∈ pmG (Γ.set i .un), Same G' H0) : At K H0 qs (Γ.set i (.nw ps x)) σ H := by
  obtain ⟨o, h1, v, h2, h3, h4⟩ := a.ok.get h
  subst h2
  have es := set_self h1
  have eo : owA (Γ.set i .un) σ = owA Γ σ := by
    have k := owA_set_same (s := .pm G x) (s' := .un) (ov := some v) rfl h h1
    exact k
  have sub : ∀ b ∈ owA (Γ.set i (.nw ps x)) σ, b ∈ ps ∨ b ∈ owA Γ σ := fun b hb => by
    have hb' : b ∈ owA (Γ.set i (.nw ps x)) (σ.set i (some v)) := by rw [es]; exact hb
    exact owA_set_sub hb'
  have nd := owA_set_nd (s := .nw ps x) (o := some v) (i := i) L.nd (fun p hp z => a.sep p z (List.mem_append_left _ hp)) a.nd
  rw [es] at nd
  have e1 : Same (Fz H (owA Γ σ ++ (ps ++ qs))) (Fz H (owA (Γ.set i (.nw ps x)) σ ++ qs)) := Fz.sub (fun _ _ z => z) fun b hb => by
    rcases List.mem_append.mp hb with z | z
    · rcases sub b z with z | z
      · exact List.mem_append_right _ (List.mem_append_left _ z)
      · exact List.mem_append_left _ z
    · exact List.mem_append_right _ (List.mem_append_right _ z)
  have gh := h4.trans a.ex
  refine ⟨L.s.trans a.ex, ?_, nd, fun p hp z => ?_, fun q hq => a.qd q (List.mem_append_right _ hq)⟩
  · have ok1 := (AllOk.grow e1 (fun _ _ z => z) a.ok).set (s := .un) (o := some v) (i := i) trivial
    rw [es] at ok1
    have ok2 := ok1.base (H1 := H0) (fun q hq => by
      rw [eo] at hq
      exact L.s.free (a.own0 hq)) hG
    have ok3 := ok2.set (s := .nw ps x) (o := some v) (i := i) ⟨v, rfl, PyT.mono (fun b o k => ?_) h3, fun p hp => ?_⟩
    · rw [es, List.set_set] at ok3
      exact ok3
    · refine Onl.cases.mpr ⟨gh _ _ k, ?_⟩
      by_cases c : NT G b
      · exact .inr (L.g b o k c)
      · exact .inl fun n => c (n.back k gh)
    · obtain ⟨c1, ⟨vs, c2⟩, c3⟩ := L.c p hp
      exact ⟨⟨vs, gh _ _ c2⟩, c1⟩
  · rcases sub p hp with q | q
    · exact (L.c p q).2.2 z
    · exact a.sep p q (List.mem_append_right _ z)
end
end Wk
set_option Elab.async false
set_option linter.all false
set_option maxRecDepth 100000
/-! Wk31: lists of ints changed, their items no more known. -/
namespace Wk
open PySem PySem.Spec PyProof.Rows L2
theorem JV.anyPo {K : PySem.W.Frag} {H : Hp} {pi po po' : List Addr} : ∀ {c : Jc} {v : V}, c.fl = true → JV K H pi po c v → JV K H pi po' c v
  | .li, v, _, h => h
  | .an, _, _, _ => trivial
  | .t2 a b, v, f, ⟨p, w1, w2, e, q, j1, j2⟩ => by
    have f := Bool.and_eq_true_iff.mp (show (a.fl && b.fl) = true from f)
    exact ⟨p, w1, w2, e, q, j1.anyPo f.1, j2.anyPo f.2⟩
  | .t3 a b c, v, f, ⟨p, w1, w2, w3, e, q, j1, j2, j3⟩ => by
    have f := Bool.and_eq_true_iff.mp (show (a.fl && (b.fl && c.fl)) = true from f)
    have g := Bool.and_eq_true_iff.mp f.2
    exact ⟨p, w1, w2, w3, e, q, j1.anyPo f.1, j2.anyPo g.1, j3.anyPo g.2⟩
  | .t4 a b c d, v, f, ⟨p, w1, w2, w3, w4, e, q, j1, j2, j3, j4⟩ => by
    have f := Bool.and_eq_true_iff.mp (show (a.fl && (b.fl && (c.fl && d.fl))) = true from f)
    have g := Bool.and_eq_true_iff.mp f.2
    have k := Bool.and_eq_true_iff.mp g.2
    exact ⟨p, w1, w2, w3, w4, e, q, j1.anyPo f.1, j2.anyPo g.1, j3.anyPo k.1, j4.anyPo k.2⟩
  | .ls n c, v, f, _ => by cases f
/-! ### what a thing told anew is as such lists -/
def lenOk {β : Type} (xs : List β) : Bool := !xs.isEmpty && decide (xs.length ≤ 1000)
class JU (α : Type) [PyT α] where
  code : Jc
  ok : α → Bool
  fl : code.fl = true
  jv : ∀ {K : PySem.W.Frag} {H : Hp} {ps : List Addr} {v : V} {x : α}, rep K (Onl H ps) v x → ok x = true → ∃ pi, (∀ a ∈ pi, a ∈ ps ∧ JI 1000 H a) ∧ JV K H pi [] code v
class JRef (α : Type) [PyT α] : Prop where
  rf : ∀ {K : PySem.W.Frag} {F : Hp} {v : V} {x : α}, rep K F v x → ∃ a, v = .ref a
class JC (α : Type) [PyT α] where
  code : α → Jc
  ok : α → Bool
  jv : ∀ {K : PySem.W.Frag} {H : Hp} {ps : List Addr} {v : V} {x : α}, rep K (Onl H ps) v x → ok x = true → ∃ pi po, (∀ a ∈ pi, a ∈ ps ∧ JI 1000 H a) ∧ (∀ p ∈ po, p ∈ ps ∧ ∃ vs, H p = some (.lst vs)) ∧ po.Nodup ∧ (∀ a ∈ pi, a ∉ po) ∧ JV K H pi po (code x) v
theorem jv_more {K : PySem.W.Frag} {H : Hp} {pi pi' po : List Addr} {c : Jc} {v : V} (h : JV K H pi po c v) (s : ∀ a ∈ pi, a ∈ pi') : JV K H pi' po c v := h.mono s (fun _ _ z => z) fun _ _ _ z => z
instance (priority := low) juF {α : Type} [PyF α] : JU α := ⟨.an, fun _ => true, rfl, fun _ _ => ⟨[], (fun _ z => by cases z), trivial⟩⟩
instance juB : JU (List Bool) := ⟨.an, fun _ => true, rfl, fun _ _ => ⟨[], (fun _ z => by cases z), trivial⟩⟩
theorem onl_lst {H : Hp} {ps : List Addr} {a : Addr} {vs : List V} (h : Onl H ps a = some (.lst vs)) : H a = some (.lst vs) ∧ a ∈ ps := by
  obtain ⟨k1, k2⟩ := Onl.cases.mp h
  exact ⟨k1, k2.elim (fun z => (z (NT.lst k1)).elim) id⟩
instance juI : JU (List Int) := ⟨.li, lenOk, rfl, fun {K H ps v x} ⟨a, vs, e1, e2, e3⟩ hx => by
  obtain ⟨k1, k2⟩ := onl_lst e2
  have ev := repI e3
  obtain ⟨o1, o2⟩ := Bool.and_eq_true_iff.mp hx
  have o2 := of_decide_eq_true o2
  refine ⟨[a], fun b hb => ?_, a, e1, List.mem_singleton.mpr rfl⟩
  rw [List.mem_singleton.mp hb]
  refine ⟨k2, vs, k1, fun z => ?_, by rw [ev, List.length_map]; exact o2, fun w hw => ?_⟩
  · rw [ev] at z
    have : x = [] := List.map_eq_nil_iff.mp z
    subst this
    cases o1
  · rw [ev] at hw
    obtain ⟨i, _, hi⟩ := List.mem_map.mp hw
    exact ⟨i, hi.symm⟩⟩
section
variable {α β γ δ : Type} [PyT α] [PyT β] [PyT γ] [PyT δ]
instance juT2 [JU α] [JU β] : JU (α × β) := ⟨.t2 (JU.code α) (JU.code β), fun x => JU.ok x.1 && JU.ok x.2, by show (_ && _) = true; rw [JU.fl, JU.fl]; rfl, fun {K H ps v x} ⟨a, w, u, h1, h2, h3, h4⟩ hx => by
  obtain ⟨o1, o2⟩ := Bool.and_eq_true_iff.mp hx
  obtain ⟨p1, k1, j1⟩ := JU.jv h3 o1
  obtain ⟨p2, k2, j2⟩ := JU.jv h4 o2
  exact ⟨p1 ++ p2, fun b hb => (List.mem_append.mp hb).elim (k1 b) (k2 b), a, w, u, h1, sqT_mono Onl.out h2, jv_more j1 fun _ z => List.mem_append_left _ z, jv_more j2 fun _ z => List.mem_append_right _ z⟩⟩
instance juT3 [JU α] [JU β] [JU γ] : JU (T3 α β γ) := ⟨.t3 (JU.code α) (JU.code β) (JU.code γ), fun x => JU.ok x.a && (JU.ok x.b && JU.ok x.c), by show (_ && (_ && _)) = true; rw [JU.fl, JU.fl, JU.fl]; rfl, fun {K H ps v x} ⟨a, w, u, t, h1, h2, h3, h4, h5⟩ hx => by
  obtain ⟨o1, o2⟩ := Bool.and_eq_true_iff.mp hx
  obtain ⟨o2, o3⟩ := Bool.and_eq_true_iff.mp o2
  obtain ⟨p1, k1, j1⟩ := JU.jv h3 o1
  obtain ⟨p2, k2, j2⟩ := JU.jv h4 o2
  obtain ⟨p3, k3, j3⟩ := JU.jv h5 o3
  exact ⟨p1 ++ (p2 ++ p3), fun b hb => (List.mem_append.mp hb).elim (k1 b) fun z => (List.mem_append.mp z).elim (k2 b) (k3 b), a, w, u, t, h1, sqT_mono Onl.out h2, jv_more j1 fun _ z => List.mem_append_left _ z, jv_more j2 fun _ z => List.mem_append_right _ (List.mem_append_left _ z), jv_more j3 fun _ z => List.mem_append_right _ (List.mem_append_right _ z)⟩⟩
instance : JRef (List α) := ⟨fun ⟨a, _, h, _⟩ => ⟨a, h⟩⟩
instance : JRef (α × β) := ⟨fun ⟨a, _, _, h, _⟩ => ⟨a, h⟩⟩
instance : JRef (T3 α β γ) := ⟨fun ⟨a, _, _, _, h, _⟩ => ⟨a, h⟩⟩
theorem RepL.ju [JU α] [JRef α] {K : PySem.W.Frag} {H : Hp} {ps : List Addr} : ∀ {vs : List V} {xs : List α}, RepL K (Onl H ps) vs xs → xs.all JU.ok = true → ∃ pi, (∀ a ∈ pi, a ∈ ps ∧ JI 1000 H a) ∧ ∀ w ∈ vs, JV K H pi [] (JU.code α) w ∧ ∃ a, w = .ref a
  | [], [], _, _ => ⟨[], (fun _ z => by cases z), fun _ z => by cases z⟩
  | v :: vs, x :: xs, h, hx => by
    rw [List.all_cons] at hx
    obtain ⟨o1, o2⟩ := Bool.and_eq_true_iff.mp hx
    obtain ⟨p1, k1, j1⟩ := JU.jv h.1 o1
    obtain ⟨p2, k2, j2⟩ := RepL.ju h.2 o2
    refine ⟨p1 ++ p2, fun b hb => (List.mem_append.mp hb).elim (k1 b) (k2 b), fun w hw => ?_⟩
    rcases List.mem_cons.mp hw with e | hw
    · rw [e]
      exact ⟨jv_more j1 fun _ z => List.mem_append_left _ z, JRef.rf h.1⟩
    · exact ⟨jv_more (j2 w hw).1 fun _ z => List.mem_append_right _ z, (j2 w hw).2⟩
  | [], _ :: _, h, _ => h.elim
  | _ :: _, [], h, _ => h.elim
instance (priority := low) jcU [JU α] : JC α := ⟨fun _ => JU.code α, JU.ok, fun h hx => by
  obtain ⟨pi, k, j⟩ := JU.jv h hx
  exact ⟨pi, [], k, (fun _ z => by cases z), List.nodup_nil, (fun _ _ z => by cases z), j⟩⟩
instance jcL [JU α] [JRef α] : JC (List α) := ⟨fun xs => .ls xs.length (JU.code α), fun xs => xs.all JU.ok && decide (xs.length ≤ 10000), fun {K H ps v x} ⟨a, vs, e1, e2, e3⟩ hx => by
  obtain ⟨k1, k2⟩ := onl_lst e2
  obtain ⟨o1, o2⟩ := Bool.and_eq_true_iff.mp hx
  obtain ⟨pi, p1, p2⟩ := e3.ju o1
  refine ⟨pi, [a], p1, fun p hp => by rw [List.mem_singleton.mp hp]; exact ⟨k2, vs, k1⟩, by simp, fun b hb z => ?_, a, vs, e1, List.mem_singleton.mpr rfl, k1, e3.len, fun w hw => (p2 w hw).1.anyPo JU.fl⟩
  rw [List.mem_singleton.mp z] at hb
  obtain ⟨_, ws, q1, q2, _, q3⟩ := p1 a hb
  rw [k1] at q1
  cases q1
  cases vs with
  | nil => exact q2 rfl
  | cons w vs =>
    obtain ⟨i, hi⟩ := q3 w List.mem_cons_self
    obtain ⟨r, hr⟩ := (p2 w List.mem_cons_self).2
    rw [hi] at hr
    cases hr⟩
instance jcS [JC α] [JC β] : JC (α ⊕ β) := ⟨fun x => match x with
  | .inl a => JC.code a
  | .inr b => JC.code b, fun x => match x with
  | .inl a => JC.ok a
  | .inr b => JC.ok b, fun {K H ps v x} h hx => by
  cases x with
  | inl a => exact JC.jv (α := α) h hx
  | inr b => exact JC.jv (α := β) h hx⟩
instance jcO [JC α] : JC (Option α) := ⟨fun x => match x with
  | some a => JC.code a
  | none => .an, fun x => match x with
  | some a => JC.ok a
  | none => true, fun {K H ps v x} h hx => by
  cases x with
  | none => exact ⟨[], [], (fun _ z => by cases z), (fun _ z => by cases z), List.nodup_nil, (fun _ _ z => by cases z), trivial⟩
  | some a => exact JC.jv (α := α) h hx⟩
end
section
variable {K : PySem.W.Frag} {H H0 : Hp} {qs ps : List Addr} {Γ : List Sl} {σ : L2.St} {i : Nat} {α : Type}
theorem At.jk {n : Nat} {pi po : List Addr} {c : Jc} (a : At K H0 qs Γ σ H) (h : Γ[i]? = some (.jk n pi po c)) : ∃ v, σ[i]? = some (some v) ∧ JV K H pi po c v ∧ (∀ b ∈ pi, JI n H b ∧ H0 b = none) ∧ ∀ p ∈ po, (∃ vs, H p = some (.lst vs)) ∧ H0 p = none := by
  obtain ⟨o, h1, v, h2, h3, h4, h5⟩ := a.ok.get h
  subst h2
  exact ⟨v, h1, h3, h4, h5⟩
end
/-! ### ways to such a list -/
section
variable {X : Cx} {H0 : Hp} {qs pi po : List Addr} {rt : VK} {nx : L2.St → Hp → Prop} {O : Type} {A : O → Prop} {B : Exc → Prop} {Γ : List Sl} {rest : List Stmt} {m : R O} {e a b : Expr} {pos p p1 p2 p3 p4 p5 : Pos} {x : Str} {i j k n : Nat} {c c1 c2 c3 : Jc}
/-! ### statements that change them -/
variable {Γf : Nat → List Sl}
/-! for one in such lists: .. -/
/-- things as they are -/
instance pyTV : PyT V := ⟨fun _ _ v x => v = x, fun _ h => h⟩
end
end Wk
set_option Elab.async false
set_option linter.all false
set_option maxRecDepth 100000
/-! Wk32: more on what is told anew. -/
namespace Wk
open PySem PySem.Spec PyProof.Rows L2
/-- (for `rfl` unfolds repR first) -/
theorem rep_he {α : Type} (x : List α) (y : Int) : repR x y = (R.ok x).bind fun x => (R.ok y).bind fun y => repR x y := by
  show repR x y = R.bind (R.ok y) fun y => repR x y
  generalize repR x = f
  rfl
/-- a thing of which nothing is known -/
inductive AnyP where
  | mk
instance : PyT AnyP := ⟨fun _ _ _ _ => True, fun _ _ => trivial⟩
theorem RepL.any {K : PySem.W.Frag} {F : Hp} : ∀ (vs : List V), RepL K F vs (List.replicate vs.length AnyP.mk)
  | [] => trivial
  | _ :: vs => ⟨trivial, RepL.any vs⟩
end Wk
set_option Elab.async false
set_option linter.all false
set_option maxRecDepth 100000
/-! Wk33: a thing of several types as one of them; parts of tuples, tuples put behind one another; how many unlike numbers a list has. -/
namespace Wk
open PySem PySem.Spec PyProof.Rows L2
/-- a tuple of any length, wherever it stands -/
structure Ts (α : Type) where
  l : List α
  deriving DecidableEq
instance {α : Type} [PyT α] : PyT (Ts α) where
  rep := fun K F v xs => ∃ a vs, v = .ref a ∧ SqT K F a vs ∧ RepL K F vs xs.l
  mono := fun e ⟨a, vs, h1, h2, h3⟩ => ⟨a, vs, h1, sqT_mono e h2, h3.mono e⟩
instance {α : Type} [q : PyQ α] : PyQ (Ts α) where
  toD := fun xs => .tuple (xs.l.map q.toD)
  dp := fun {K H v x} h => by
    obtain ⟨a, vs, h1, h2, h3⟩ := h
    obtain ⟨d1, d2⟩ := dpAll h3
    exact ⟨by rw [h1]; exact .tup h2 d1, by simp only [PyData.canLay0]; exact d2⟩
  dep := q.dep + 1
  depth := fun xs => by
    have h := depAll xs.l
    simp only [PyData.depth]
    omega
  eq := fun x y => by
    rw [PyData.eqv, eqAll]
    exact ⟨fun h => by cases x; cases y; exact congrArg Ts.mk h, fun h => by rw [h]⟩
  nn := fun _ => ⟨by simp [PyData.eqv], by simp [PyData.eqv]⟩
instance {α : Type} [PyT α] : PyK (Ts α) where
  ty := "tuple"
  is := fun ⟨a, vs, h1, h2, _⟩ => by rw [h1]; exact ty_tup h2
  nn := fun ⟨a, vs, h1, h2, _⟩ => by rw [h1]; exact fun z => by cases z
instance {α : Type} [PyT α] [PyNL α] : PyNL (Ts α) := ⟨fun ⟨a, vs, h1, h2, h4⟩ => ⟨a, vs, h1, sqT_onl h2, h4.nl⟩⟩
instance {α : Type} [PyT α] [FP α] : FP (Ts α) := ⟨fun ⟨a, vs, h1, h2, h4⟩ => by
  obtain ⟨ps, k1, k2⟩ := h4.fp
  exact ⟨ps, k1, a, vs, h1, sqT_onl h2, k2⟩⟩
instance {α : Type} [PyT α] [PyNf α] : PyNf (Ts α) := ⟨fun hp ⟨a, vs, h1, h2, h3⟩ => ⟨a, vs, h1, SqT.nf hp h2, h3.nf hp⟩⟩
section
variable {X : Cx} {H0 : Hp} {qs : List Addr} {md ma mb : Bool} {Γ : List Sl} {a b e tg : Expr} {p p1 p2 p3 pos pos1 : Pos} {α β γ δ : Type} {mB : R Bool} {lo hi : Option Expr} {ml mh : R (Option Int)}
/-! ### len(set(xs)) -/
def setLen (ns : List Int) : Nat := (ns.foldl step_dedup []).length
end
end Wk
set_option Elab.async false
set_option linter.all false
set_option maxRecDepth 100000
/-! Wk34: dicts handed to a def; a dict of one pair; a walk over what a def tells of a list's last; tuples cut and put together; tuples sorted. -/
namespace Wk
open PySem PySem.Spec PyProof.Rows L2
/-- a dict, as its pairs -/
structure Dk (β : Type) where
  l : List (List Int × β)
instance {β : Type} [PyT β] : PyT (Dk β) where
  rep := fun K F v x => ∃ d ws, v = .ref d ∧ F d = some (.dT ws) ∧ RepD K F ws x.l
  mono := fun e ⟨d, ws, h1, h2, h3⟩ => ⟨d, ws, h1, e _ _ h2, h3.mono e⟩
end Wk
set_option Elab.async false
set_option linter.all false
set_option maxRecDepth 100000
/-! Wk35: tuples of ints sorted. -/
set_option Elab.async false
set_option linter.all false
set_option maxRecDepth 100000
/-! Wk36: texts. -/
namespace Wk
open PySem PySem.Spec PyProof.Rows L2
theorem strOk_app {x y : Str} (hx : PyData.strOk x = true) (hy : PyData.strOk y = true) : PyData.strOk (x ++ y) = true := by
  show ((x.cps ++ y.cps).all (· < 0x110000)) = true
  rw [Array.all_append]
  exact Bool.and_eq_true_iff.mpr ⟨hx, hy⟩
theorem strOk_of (s : String) : PyData.strOk (Str.ofString s) = true := by
  rw [Str.ofString_eq_toList]
  show ((s.toList.map Char.toNat).toArray.all (· < 0x110000)) = true
  rw [List.all_toArray, List.all_eq_true]
  intro n hn
  obtain ⟨c, _, rfl⟩ := List.mem_map.mp hn
  rw [decide_eq_true_iff]
  have := c.valid
  rcases this with h | h
  · exact Nat.lt_of_lt_of_le h (by decide)
  · exact h.2
theorem strOk_join {a : Str} (ha : PyData.strOk a = true) {ys : List Str} (hy : ∀ y ∈ ys, PyData.strOk y = true) : PyData.strOk (Txt.join a ys) = true := by
  have go : ∀ (l : List Str) (acc : Array Nat), (acc.all (· < 0x110000)) = true → (∀ y ∈ l, PyData.strOk y = true) → ((l.foldl (fun acc p => acc ++ a.cps ++ p.cps) acc).all (· < 0x110000)) = true := by
    intro l
    induction l with
    | nil => intro acc h _; exact h
    | cons y l ih =>
      intro acc h hl
      rw [List.foldl_cons]
      refine ih _ ?_ fun z hz => hl z (List.mem_cons_of_mem _ hz)
      rw [Array.all_append, Array.all_append]
      exact Bool.and_eq_true_iff.mpr ⟨Bool.and_eq_true_iff.mpr ⟨h, ha⟩, hl y List.mem_cons_self⟩
  show (((ys.drop 1).foldl (fun acc p => acc ++ a.cps ++ p.cps) (ys.headD Str.empty).cps).all (· < 0x110000)) = true
  refine go _ _ ?_ fun y h => hy y (List.mem_of_mem_drop h)
  cases ys with
  | nil => simp [Str.empty]
  | cons y ys => exact hy y List.mem_cons_self
def catS (x y : Str) : R Str := R.chk (decide (x.length + y.length ≤ 16777216)) (x ++ y)
def strI (i : Int) : R Str := R.chk (decide (i.natAbs.log2 < 14280)) (Str.ofString (toString i))
theorem Blk.nd {X X' : Cx} {sc : Scope} (b : Blk X X' sc) (h : nodK X.K = true) : nodK X'.K = true := by rw [b.K]; exact h
theorem Tri.nd {X X' : Cx} (b : Tri X X') (h : nodK X.K = true) : nodK X'.K = true := by rw [b.K]; exact h
theorem nd_of {K : PySem.W.Frag} (c : Fe.nod.ok K = true) : nodK K = true := c
def joinS (a : Str) (ys : List Str) : R Str := R.chk (decide ((ys.map (·.length)).sum + ys.length * a.length ≤ 16777216)) (Txt.join a ys)
section
variable {X : Cx} {H0 : Hp} {qs : List Addr} {md ma mb : Bool} {Γ : List Sl} {a b e : Expr} {p p1 p2 p3 pos : Pos}
/-- x + y of texts -/
theorem ev_catS {m1 m2 m : R Str} (da : Ev X H0 qs ma Γ a m1) (db : Ev X H0 qs mb Γ b m2) (he : m = m1.bind fun x => m2.bind fun y => catS x y := by rfl) : Ev X H0 qs md Γ (.BinOp a .Add b pos) m :=
  ev_op op_add_str (fun H x y v w Q B h1 h2 k => by
    obtain ⟨rfl, o1⟩ := h1
    obtain ⟨rfl, o2⟩ := h2
    obtain ⟨c, k0⟩ := PX.chk k
    exact ⟨x, y, rfl, rfl, by rw [sizeLine_eq]; exact of_decide_eq_true c, k0 _ (fun _ => ⟨rfl, strOk_app o1 o2⟩) H (Same.refl H)⟩) da db he
theorem pow_lo2 : 2 ^ 14280 ≤ 10 ^ 4300 := by decide +kernel
/-- str(an int) -/
theorem call_str_intL (nd : nodK X.K = true) (hc : X.calm = true) : CallR X (.type "str") (fun xs H Q => ∃ i : Int, xs = [.int i] ∧ i.natAbs.log2 < 14280 ∧ Q (.str (Str.ofString (toString i))) H) := by
  intro pins s σ H xs us Q I r h
  obtain ⟨i, rfl, hz, q⟩ := h
  obtain ⟨u, rfl, t, rfl⟩ := vals1 r
  exact PyProof.Rows.str_of_int_or (I.ok.hd hc) (nod_of I.kIn nd) (fun _ => ⟨.str _, H, I.tok _, ⟨_, rfl⟩, q⟩) fun h2 => by
    exact absurd (Nat.lt_of_lt_of_le (PyProof.Rows.lt_of_log2 hz) pow_lo2) (Nat.not_lt.mpr h2)
theorem ev_strI {m1 : R Int} {m : R Str} (nd : nodK X.K = true) (hc : X.calm = true) (g : Gn X "str") (hm : X.mg "str" = none) (d : Ev X H0 qs ma Γ a m1) (he : m = m1.bind strI := by rfl) (hs : St1 a := by intro _; rfl) : Ev X H0 qs md Γ (.Call (.Name "str" p) [a] [] pos) m :=
  ev_callTy (f := fun t : Int × Unit => strI t.1) (m1 := m1.bind fun y => .ok (y, ())) (call_str_intL nd hc) (fun H t vs Q B h k => by
    obtain ⟨v, rfl, h2⟩ := one_of h
    have e : v = .int t.1 := h2
    subst e
    obtain ⟨c, k0⟩ := PX.chk k
    exact ⟨t.1, rfl, of_decide_eq_true c, k0 _ (fun _ => ⟨rfl, strOk_of _⟩) H (Same.refl H)⟩) g hm (by decide +kernel) (by decide) (ea_cons d ea_nil (by cases m1 <;> rfl) hs) (by rw [he]; cases m1 <;> rfl) hs (fun _ => rfl)
/-- sep.join(a list of texts) -/
theorem ev_joinL {m1 m : R Str} {m2 : R (List Str)} (da : Ev X H0 qs ma Γ a m1) (db : Ev X H0 qs mb Γ b m2) (he : m = m1.bind fun x => m2.bind fun ys => joinS x ys := by rfl)
    (hbase : ∀ env, attributeBase a "join" env (eval a env) = eval a env := by intro _; rfl)
    (hfew : ∀ env, ((backTo p3 (starEach [b] env)).all (fun x => !x.1) && (backToKw p3 (keywordEach [] env)).all (fun x => x.1.isSome) && decide ([b].length + ([] : List Keyword).length + (if ([] : List Keyword).isEmpty then 0 else 1) < 30)) = true := by intro _; rfl)
    (hline : (p2.endLine == p3.line) = true := by rfl) (hs : St1 b := by intro _; rfl) : Ev X H0 qs md Γ (.Call (.Attribute a "join" p2) [b] [] p3) m := fun σ H at_ E pe Q q => by
  subst he
  refine wE_of (pe_bm PySem.F.plainAttrs_str PySem.F.slot_str_join PySem.F.type_str_join mt_join pe_w (pa_cons pe_w pa_nil (hs X.env)) (hbase X.env) (hfew X.env) hline (hs X.env) rfl) ?_
  refine da σ H at_ E pe _ ((PX.bind q).mono (fun x q2 v H1 s1 r1 => ?_) fun _ z => z)
  obtain ⟨rfl, o1⟩ := r1
  refine ⟨rfl, db σ H1 (at_.grow s1) E pe _ ((PX.bind q2).mono (fun ys q3 w H2 s2 r2 => ?_) fun _ z => z.grow s1)⟩
  obtain ⟨c, k0⟩ := PX.chk q3
  obtain ⟨l, vs, rfl, h2, h3⟩ := r2
  obtain ⟨e, o2⟩ := repS h3
  subst e
  exact ⟨x, l, ys, rfl, rfl, .inl (SqL.of (Fz.out _ _ h2)), of_decide_eq_true c, (show ∀ v H', Same H H' → rep X.K (Fz H' (av md Γ σ qs)) v (Txt.join x ys) → Q v H' from k0) _ H2 (s1.trans s2) ⟨rfl, strOk_join o1 o2⟩⟩
end
end Wk
set_option Elab.async false
set_option linter.all false
set_option maxRecDepth 100000
/-! Wk37: texts split, cut, looked into. -/
namespace Wk
open PySem PySem.Spec PyProof.Rows L2
theorem strOk_sub {x : Str} (hx : PyData.strOk x = true) {y : Str} (h : ∀ c ∈ y.cps.toList, c ∈ x.cps.toList) : PyData.strOk y = true := by
  show (y.cps.all (· < 0x110000)) = true
  rw [← Array.all_toList, List.all_eq_true]
  intro c hc
  have hx' : (x.cps.all (· < 0x110000)) = true := hx
  rw [← Array.all_toList, List.all_eq_true] at hx'
  exact hx' c (h c hc)
theorem sub_mem (x : Str) (i j : Nat) : ∀ c ∈ (Builtin.Str.strSub x i j).cps.toList, c ∈ x.cps.toList := by
  intro c hc
  unfold Builtin.Str.strSub at hc
  simp only [Array.toList_extract] at hc
  exact List.mem_of_mem_drop (List.mem_of_mem_take hc)
theorem strOk_split {a b : Str} (ha : PyData.strOk a = true) : ∀ y ∈ Txt.split a b, PyData.strOk y = true := by
  intro y hy
  unfold Txt.split at hy
  split at hy
  · rw [List.mem_singleton.mp hy]; exact ha
  · split at hy
    · rw [List.mem_singleton.mp hy]; exact ha
    · unfold Builtin.Str.partsBetween at hy
      obtain ⟨⟨i, j⟩, _, rfl⟩ := List.mem_map.mp hy
      exact strOk_sub ha (sub_mem a i j)
def splitS (a b : Str) : R (List Str) := R.chk (!(b.length == 0) && decide (a.length + 2 ≤ 16777216)) (Txt.split a b)
section
variable {X : Cx} {H0 : Hp} {qs : List Addr} {md ma mb : Bool} {Γ : List Sl} {a b e : Expr} {p p1 p2 p3 pos : Pos}
/-- x.split(sep) -/
theorem ev_splitS {m1 m2 : R Str} {m : R (List Str)} (da : Ev X H0 qs ma Γ a m1) (db : Ev X H0 qs mb Γ b m2) (he : m = m1.bind fun x => m2.bind fun y => splitS x y := by rfl)
    (hbase : ∀ env, attributeBase a "split" env (eval a env) = eval a env := by intro _; rfl)
    (hfew : ∀ env, ((backTo p3 (starEach [b] env)).all (fun x => !x.1) && (backToKw p3 (keywordEach [] env)).all (fun x => x.1.isSome) && decide ([b].length + ([] : List Keyword).length + (if ([] : List Keyword).isEmpty then 0 else 1) < 30)) = true := by intro _; rfl)
    (hline : (p2.endLine == p3.line) = true := by rfl) (hs : St1 b := by intro _; rfl) : EvO X H0 qs md Γ (.Call (.Attribute a "split" p2) [b] [] p3) m := fun σ H at_ E pe Q q => by
  subst he
  refine wE_of (pe_bm PySem.F.plainAttrs_str PySem.F.slot_str_split PySem.F.type_str_split mt_split pe_w (pa_cons pe_w pa_nil (hs X.env)) (hbase X.env) (hfew X.env) hline (hs X.env) rfl) ?_
  refine da σ H at_ E pe _ ((PX.bind q).mono (fun x q2 v H1 s1 r1 => ?_) fun _ z => z)
  obtain ⟨rfl, o1⟩ := r1
  refine ⟨rfl, db σ H1 (at_.grow s1) E pe _ ((PX.bind q2).mono (fun y q3 w H2 s2 r2 => ?_) fun _ z => z.grow s1)⟩
  obtain ⟨c, k0⟩ := PX.chk q3
  obtain ⟨rfl, o2⟩ := r2
  rw [Bool.and_eq_true] at c
  refine ⟨x, y, rfl, rfl, by simpa using c.1, by rw [sizeLine_eq]; exact of_decide_eq_true c.2, fun D hD => ?_⟩
  exact (show ∀ p vs H', Same H H' → H p = none → H' p = some (.lst vs) → RepL X.K (Fz H' (p :: av md Γ σ qs)) vs (Txt.split x y) → Q (.ref p) H' from k0) D _ _ ((s1.trans s2).trans (same_new hD)) ((s1.trans s2).free hD) upd_same (sRep _ (strOk_split o1))
/-- len of a text -/
theorem ev_lenTx {m1 : R Str} {m : R Int} (g : Gn X "len") (hm : X.mg "len" = none) (d : Ev X H0 qs ma Γ a m1) (he : m = m1.bind fun x => R.chk (decide (x.length ≤ 16777216)) (x.length : Int) := by rfl) (hs : St1 a := by intro _; rfl) : Ev X H0 qs md Γ (.Call (.Name "len" p) [a] [] pos) m :=
  ev_callB (f := fun t : Str × Unit => R.chk (decide (t.1.length ≤ 16777216)) (t.1.length : Int)) (m1 := m1.bind fun x => .ok (x, ())) call_len_str (fun H t vs Q B h k => by
    obtain ⟨v, rfl, h'⟩ := one_of h
    obtain ⟨e, o⟩ := h'
    subst e
    obtain ⟨c, k0⟩ := PX.chk k
    exact ⟨t.1, rfl, by rw [sizeLine_eq]; exact of_decide_eq_true c, k0 _ (fun _ => rfl) H (Same.refl H)⟩) g hm PySem.boot_len (by decide) (ea_cons d ea_nil (by cases m1 <;> rfl) hs) (by rw [he]; cases m1 <;> rfl) hs (fun _ => rfl)
end
end Wk
set_option Elab.async false
set_option linter.all false
set_option maxRecDepth 100000
/-! Wk38: things of several types: which one; what was told anew as one of them; a part of such a thing under another name. -/
namespace Wk
open PySem PySem.Spec PyProof.Rows L2
theorem rng_he (v : Int) : rngR 0 v = (R.ok v).bind fun n => rngR 0 n := by
  show _ = (fun n => rngR 0 n) v
  generalize rngR 0 = f
  rfl
abbrev kTys : List String := ["int", "bool", "str", "list", "tuple", "NoneType"]
class PyKs (α : Type) [PyT α] where
  ty : α → String
  is : ∀ {K : PySem.W.Frag} {H : Hp} {v : V} {x : α}, rep K H v x → TyX K H v (.type (ty x))
  ok : ∀ x, ty x ∈ kTys
instance : PyKs Int := ⟨fun _ => "int", PyK.is (α := Int), fun _ => by decide⟩
instance : PyKs Bool := ⟨fun _ => "bool", PyK.is (α := Bool), fun _ => by decide⟩
instance : PyKs Str := ⟨fun _ => "str", PyK.is (α := Str), fun _ => by decide⟩
instance : PyKs Unit := ⟨fun _ => "NoneType", fun h => by rw [show _ = V.non from h]; exact .base .non, fun _ => by decide⟩
section
variable {α β γ : Type} [PyT α] [PyT β] [PyT γ]
instance : PyKs (List α) := ⟨fun _ => "list", PyK.is (α := List α), fun _ => by decide⟩
instance : PyKs (Tu α) := ⟨fun _ => "tuple", PyK.is (α := Tu α), fun _ => by decide⟩
instance : PyKs (Tv α) := ⟨fun _ => "tuple", PyK.is (α := Tv α), fun _ => by decide⟩
instance : PyKs (T1 α) := ⟨fun _ => "tuple", PyK.is (α := T1 α), fun _ => by decide⟩
instance : PyKs (α × β) := ⟨fun _ => "tuple", PyK.is (α := α × β), fun _ => by decide⟩
instance : PyKs (T3 α β γ) := ⟨fun _ => "tuple", PyK.is (α := T3 α β γ), fun _ => by decide⟩
instance [PyKs α] [PyKs β] : PyKs (α ⊕ β) := ⟨fun x => match x with
  | .inl a => PyKs.ty a
  | .inr b => PyKs.ty b, fun {K H v x} h => by
  cases x with
  | inl a => exact PyKs.is (α := α) h
  | inr b => exact PyKs.is (α := β) h, fun x => by
  cases x with
  | inl a => exact PyKs.ok a
  | inr b => exact PyKs.ok b⟩
instance [PyKs α] : PyKs (Option α) := ⟨fun x => match x with
  | some a => PyKs.ty a
  | none => "NoneType", fun {K H v x} h => by
  cases x with
  | some a => exact PyKs.is (α := α) h
  | none => rw [show v = V.non from h]; exact .base .non, fun x => by
  cases x with
  | some a => exact PyKs.ok a
  | none => exact List.mem_cons_of_mem _ (List.mem_cons_of_mem _ (List.mem_cons_of_mem _ (List.mem_cons_of_mem _ (List.mem_cons_of_mem _ List.mem_cons_self))))⟩
end
def PyKs.isT {α : Type} [PyT α] [PyKs α] (x : α) (n : String) : Bool := (kitB (PyKs.ty x) n).getD false
/-- a thing at a value that is known -/
structure Pin (α : Type) where
  v : V
  x : α
instance {α : Type} [PyT α] : PyT (Pin α) where
  rep := fun K F v x => v = x.v ∧ rep K F v x.x
  mono := fun e ⟨h1, h2⟩ => ⟨h1, PyT.mono e h2⟩
/-- just the value -/
structure Vv where
  v : V
instance : PyF Vv where
  rep := fun _ _ v x => v = x.v
  mono := fun _ h => h
  flat := fun h => h
end Wk
set_option Elab.async false
set_option linter.all false
set_option maxRecDepth 100000
/-! Wk39: sums by cases; tuples without their first item; things of unlike types compared; a list of lists told anew, its rows left alone. -/
namespace Wk
open PySem PySem.Spec PyProof.Rows L2
/-- a tuple: its first item, the others -/
structure Th (α β : Type) where
  hd : α
  tl : List β
instance {α β : Type} [PyT α] [PyT β] : PyT (Th α β) where
  rep := fun K F v x => ∃ p w vs, v = .ref p ∧ SqT K F p (w :: vs) ∧ rep K F w x.hd ∧ RepL K F vs x.tl
  mono := fun e ⟨p, w, vs, h1, h2, h3, h4⟩ => ⟨p, w, vs, h1, sqT_mono e h2, PyT.mono e h3, h4.mono e⟩
instance {α β : Type} [q : PyD α] [u : PyD β] : PyD (Th α β) where
  toD := fun x => .tuple (q.toD x.hd :: x.tl.map u.toD)
  dp := fun {K H v x} h => by
    obtain ⟨p, w, vs, h1, h2, h3, h4⟩ := h
    obtain ⟨d1, d2⟩ := PyD.dp h3
    obtain ⟨e1, e2⟩ := dpAll h4
    exact ⟨by rw [h1]; exact .tup h2 (.cons d1 e1), by simp only [PyData.canLay0, PyData.canLayAll0, d2, e2, Bool.and_true]⟩
  dep := max q.dep u.dep + 1
  depth := fun x => by
    have h := q.depth x.hd
    have h2 := depAll (d := u) x.tl
    simp only [PyData.depth, PyData.depthAll]
    omega
/-! ### a text in a tuple of texts -/
end Wk
set_option Elab.async false
set_option linter.all false
set_option maxRecDepth 100000
/-! Wk40: texts walked, cut, looked into, read as numbers. -/
namespace PySem.W
open PySem PySem.Calls PySem.NumText PyProof.Rows
namespace KIN
theorem wp_digits {M : Model} {A : Around} {E : Value → Shared → Prop} {s : Shared} {Q : Nat → Shared → Prop} (hd : s.heap.NoDigits) (h : Q 4300 s) : wpAny M A Builtin.intMaxStrDigits Q E s := by
  obtain ⟨mc, hns, hnone⟩ := hd
  unfold Builtin.intMaxStrDigits
  refine wpAny_bind (wpAny_nsGet hns ?_)
  rw [hnone]
  exact wpAny_pure h
theorem wp_textL {M : Model} {A : Around} {E : Value → Shared → Prop} {s : Shared} {Q : Value → Shared → Prop} {v : Value} {text : List Nat} {n : Int}
    (hd : s.heap.NoDigits) (hs : ¬ (text.takeWhile (· != 0)).length ≤ 640) (hr : (int_private% "readNumeral") 4300 10 (text.takeWhile (· != 0)) = (int_private% "Numeral.value") n)
    (ha : ((text.takeWhile (· != 0)).length == text.length) = true) (h : Q (.int n s.toks) { s with toks := s.toks + 1 }) :
    wpAny M A ((int_private% "intFromText") v text 10) Q E s := by
  obtain ⟨hp, g, d, tk, os⟩ := s
  repeat (any_goals (first
    | assumption
    | (with_reducible refine wpAny_ite_false hs ?_)
    | (with_reducible refine wpAny_ite_false (decide_eq_false hs) ?_)
    | (with_reducible refine wp_digits hd ?_)
    | (with_reducible refine wpAny_ite_true (decide_eq_true ha) ?_)
    | wp_step))
  all_goals (try rw [hr])
  all_goals (try dsimp only)
  repeat (any_goals (first
    | assumption
    | (with_reducible refine wpAny_ite_true (decide_eq_true ha) ?_)
    | wp_step))
set_option maxHeartbeats 4000000 in
theorem meets_textL {x : PySem.Str} {u : Tok} {n : Int} (hl : x.length ≤ sizeLine) (hn : PySem.intText? x = some n) : Meets (Builtin.«int.__new__» ⟨[.type "int", .str x u], []⟩) (fun _ R s => s.heap.NoDigits ∧ R (.ok (.ret (.int n s.toks))) { s with toks := s.toks + 1 }) := by
  intro prog w A R s h
  obtain ⟨hd, h⟩ := h
  obtain ⟨hp, g, d, tk, os⟩ := s
  have f1 := F.conv_sub_int
  have f2 := F.madeHere_int
  have f3 := str_int
  have f4 := str_idx
  have f5 := str_trunc
  have f6 : typeOf (.str x u) = pure (.type "str") := rfl
  have hr : (int_private% "readNumeral") (numLimitOf x) 10 (numSeenOf x) = (int_private% "Numeral.value") n ∧ ((numSeenOf x).length == (numTextOf x).length) = true := by
    rcases readAny x hl with ⟨m, h1, h2, h3⟩ | ⟨h1, _⟩
    · rw [hn] at h1
      injection h1 with h1
      subst h1
      exact ⟨h3, h2⟩
    · rw [hn] at h1
      cases h1
  by_cases hs : (numSeenOf x).length ≤ 640
  · have e : numLimitOf x = 0 := if_pos hs
    rw [e] at hr
    have hk := Hid.mk (And.intro hs hr)
    clear hs hr hl hn
    repeat (any_goals (first
      | assumption
      | ((with_reducible show wpAny _ _ ((int_private% "intFromText") _ _ _) _ _ _); refine wp_text hk.out.1 hk.out.2.1 hk.out.2.2 ?_)
      | wp_step))
    all_goals first | exact h | skip
  · have e : numLimitOf x = 4300 := if_neg hs
    rw [e] at hr
    have hk := Hid.mk (And.intro hs hr)
    clear hs hr hl hn
    repeat (any_goals (first
      | assumption
      | ((with_reducible show wpAny _ _ ((int_private% "intFromText") _ _ _) _ _ _); refine wp_textL hd hk.out.1 hk.out.2.1 hk.out.2.2 ?_)
      | wp_step))
    all_goals first | exact h | skip
section
variable {prog : Program} {w : World} {A : Around} {E : Value → Shared → Prop} {s : Shared} {Q : Value → Shared → Prop} {x : PySem.Str} {t : Tok} {n : Int}
theorem call_textL (hd : s.heap.NoDigits) (hn : PySem.intText? x = some n) (hl : x.length ≤ sizeLine) (h : Q (.int n s.toks) { s with toks := s.toks + 1 }) : wpAny (model prog w) A (call (.type "int") [.str x t]) Q E s :=
  call_int_1 (meets_textL hl hn) ⟨hd, rfl, h⟩
end
end KIN
end PySem.W
namespace Wk
open PySem PySem.Spec PyProof.Rows L2
instance juTu {α : Type} [PyT α] : JU (Tu α) := ⟨.an, fun _ => true, rfl, fun _ _ => ⟨[], (fun _ z => by cases z), trivial⟩⟩
def sgn (c : Nat) : Str := ⟨#[c]⟩
def signs (x : Str) : List Str := x.cps.toList.map sgn
theorem strOk_iff {x : Str} : PyData.strOk x = true ↔ ∀ c ∈ x.cps.toList, c < 0x110000 := by
  show (x.cps.all (· < 0x110000)) = true ↔ _
  rw [← Array.all_toList, List.all_eq_true]
  exact ⟨fun h c hc => of_decide_eq_true (h c hc), fun h c hc => decide_eq_true (h c hc)⟩
theorem strOk_c {x : Str} (hx : PyData.strOk x = true) {c : Nat} (h : c ∈ x.cps.toList) : PyData.strOk (sgn c) = true :=
  strOk_iff.mpr fun d hd => by
    have e : d = c := by simpa [sgn] using hd
    rw [e]; exact strOk_iff.mp hx c h
theorem walkS {K : PySem.W.Frag} {x : Str} {F : Hp} (hx : PyData.strOk x = true) : WalkT K (Its x) (signs x) F where
  goes := fun i H' hi s => by
    unfold signs at hi
    rw [List.length_map, Array.length_toList] at hi
    exact hi
  stops := fun H' s => by
    show x.cps.size ≤ _
    unfold signs
    rw [List.length_map, Array.length_toList]
    exact Nat.le_refl _
  yields := fun i H' v H'' hi s ⟨e, c, y, z⟩ => by
    subst e z
    refine ⟨Same.refl _, sgn c, ?_, fun ps s2 _ => ⟨rfl, strOk_c hx ?_⟩⟩
    · unfold signs
      rw [List.getElem?_map, Array.getElem?_toList, y]
      rfl
    · rw [← Array.getElem?_toList] at y
      exact List.mem_of_getElem? y
def ixStr (x : Str) (i : Int) : R Str := (R.chk (decide (x.length ≤ 16777216)) x.cps.toList).bind fun l => (R.ofO (atI l i)).bind fun c => .ok (sgn c)
def cutStr (x : Str) (lo hi : Option Int) : Str := ⟨(cutL x.cps.toList lo hi).toArray⟩
def slStr (x : Str) (lo hi : Option Int) : R Str := R.chk (decide (x.length ≤ 16777216)) (cutStr x lo hi)
def oneSg (x : Str) : Option Nat := match x.cps.toList with
  | [c] => some c
  | _ => none
theorem oneSg_is {x : Str} {c : Nat} (h : oneSg x = some c) : x = ⟨#[c]⟩ := by
  obtain ⟨⟨l⟩⟩ := x
  unfold oneSg at h
  split at h
  · cases h
    rename_i e
    have e2 : l = [c] := e
    rw [e2]
  · cases h
def inStr (x z : Str) : R Bool := (R.ofO (oneSg x)).bind fun c => .ok (decide (c ∈ z.cps.toList))
def intStr (a : Str) : R Int := (R.chk (decide (a.length ≤ 16777216)) a).bind fun b => R.ofO (PySem.intText? b)
theorem cutL_memW {α : Type} {xs : List α} {lo hi : Option Int} {x : α} (h : x ∈ cutL xs lo hi) : x ∈ xs := List.mem_of_mem_drop (List.mem_of_mem_take h)
theorem atI_memW {α : Type} {xs : List α} {i : Int} {x : α} (h : atI xs i = some x) : x ∈ xs := by
  obtain ⟨j, _, h2, _⟩ := atI_get h
  exact List.mem_of_getElem? h2
section
variable {X : Cx} {H0 : Hp} {qs : List Addr} {md ma mb : Bool} {Γ : List Sl} {a b e tg : Expr} {p p1 p2 p3 pos : Pos}
theorem ei_str {m1 : R Str} {m : R (List Str)} (d : Ev X H0 qs ma Γ a m1) (he : m = m1.bind fun x => .ok (signs x) := by rfl) : EvI X H0 qs md Γ tg a m := fun σ H at_ E pe Rk q => by
  subst he
  refine wI_of (pi_str pe_w) (d σ H at_ E pe _ ((PX.bind q).mono (fun x k v H1 s1 r1 => ?_) fun _ z => z))
  obtain ⟨rfl, o⟩ := r1
  exact ⟨x, rfl, (show ∀ J H1, Same H H1 → WalkT X.K J (signs x) (Fz H1 (av md Γ σ qs)) → Rk J H1 from k) _ H1 s1 (walkS o)⟩
theorem ev_ixStr {m1 : R Str} {m2 : R Int} {m : R Str} (da : Ev X H0 qs ma Γ a m1) (db : Ev X H0 qs mb Γ b m2) (he : m = m1.bind fun x => m2.bind fun i => ixStr x i := by rfl) (hs : PlainIx b := by exact fun _ _ => rfl) : Ev X H0 qs md Γ (.Subscript a b pos) m := by
  intro σ H at_ E pe Q q
  subst he
  refine wE_of (pe_ix ix_str pe_w pe_w hs) (two da db at_ pe q fun x i v w H2 s rx ry q2 => ?_)
  obtain ⟨rfl, o⟩ := rx
  obtain ⟨c1, q3⟩ := PX.chk (PX.bind q2)
  obtain ⟨c, k1, k2⟩ := PX.ofO (PX.bind q3)
  exact ⟨x, i, c, rfl, ry, by rw [sizeLine_eq]; exact of_decide_eq_true c1, k1, (show ∀ v H', Same H H' → (v = .str (sgn c) ∧ PyData.strOk (sgn c) = true) → Q v H' from k2) _ H2 s ⟨rfl, strOk_c o (atI_memW k1)⟩⟩
theorem ev_cutStr {m1 m : R Str} {lo hi : Option Expr} {ml mh : R (Option Int)} (da : Ev X H0 qs ma Γ a m1) (dl : EvP X H0 qs Γ lo ml) (dh : EvP X H0 qs Γ hi mh) (he : m = m1.bind fun x => ml.bind fun l => mh.bind fun h => slStr x l h := by rfl) :
    Ev X H0 qs md Γ (.Subscript a (.Slice lo hi none p2) pos) m := by
  intro σ H at_ E pe Q q
  subst he
  refine wE_of (pe_slice C8.sl_txt pe_w po_w po_w) (da σ H at_ E pe _ ((PX.bind q).mono (fun x q2 v H1 s1 r1 => ?_) fun _ z => z))
  obtain ⟨rfl, o⟩ := r1
  refine dl.use (at_.grow s1) pe ((PX.bind q2).mono (fun l q3 H2 s2 => ?_) fun _ z => z.grow s1)
  refine dh.use (at_.grow (s1.trans s2)) pe ((PX.bind q3).mono (fun h q4 H3 s3 => ?_) fun _ z => z.grow (s1.trans s2))
  have s := (s1.trans s2).trans s3
  obtain ⟨c1, k⟩ := PX.chk q4
  refine ⟨x, rfl, by rw [sizeLine_eq]; exact of_decide_eq_true c1, ?_⟩
  rw [← C8.cutS_slice]
  refine (show ∀ v H', Same H H' → (v = .str (cutStr x l h) ∧ PyData.strOk (cutStr x l h) = true) → Q v H' from k) _ H3 s ⟨rfl, strOk_iff.mpr fun c hc => strOk_iff.mp o c (cutL_memW (lo := l) (hi := h) ?_)⟩
  exact hc
theorem opf_niS : OpF X rNotInS (fun x z => (inStr x z).bind fun b => .ok (!b)) := fun H x y v w Q B h1 h2 k => by
  obtain ⟨rfl, _⟩ := h1
  obtain ⟨rfl, _⟩ := h2
  obtain ⟨c, k1, k2⟩ := PX.ofO (PX.bind (PX.bind k))
  have e := oneSg_is k1
  subst e
  exact ⟨c, y, rfl, rfl, k2 _ (fun _ => rfl) H (Same.refl H)⟩
variable {m1 m2 : R Str} {mB : R Bool}
theorem et_niS (da : Ev X H0 qs ma Γ a m1) (db : Ev X H0 qs mb Γ b m2) (he : mB = m1.bind fun x => m2.bind fun y => (inStr x y).bind fun b => .ok (!b) := by rfl) (hn : NoMark .NotIn b := by rfl) : EvT X H0 qs Γ (.Compare a [.NotIn] [b] pos) mB := et_cmp op_notInS opf_niS da db he hn
/-- int(a text) -/
theorem call_int_strL (nd : nodK X.K = true) : CallR X (.type "int") (fun xs H Q => ∃ a n, xs = [.str a] ∧ PySem.intText? a = some n ∧ a.length ≤ 16777216 ∧ Q (.int n) H) := by
  intro pins s σ H xs us Q I rs h
  obtain ⟨a, n, rfl, hn, hl, h⟩ := h
  obtain ⟨u, rfl, t, rfl⟩ := vals1 rs
  exact PySem.W.KIN.call_textL (nod_of I.kIn nd) hn (by rw [sizeLine_eq]; exact hl) ⟨.int n, H, I.tok _, ⟨_, rfl⟩, h⟩
theorem ev_intStr {m : R Int} (nd : nodK X.K = true) (g : Gn X "int") (hm : X.mg "int" = none) (d : Ev X H0 qs ma Γ a m1) (he : m = m1.bind intStr := by rfl) (hs : St1 a := by intro _; rfl) : Ev X H0 qs md Γ (.Call (.Name "int" p) [a] [] pos) m :=
  ev_callTy (f := fun t : Str × Unit => intStr t.1) (m1 := m1.bind fun y => .ok (y, ())) (call_int_strL nd) (fun H t vs Q B h k => by
    obtain ⟨v, rfl, h2⟩ := one_of h
    obtain ⟨e, o⟩ : v = .str t.1 ∧ _ := h2
    subst e
    obtain ⟨c, k0⟩ := PX.chk (PX.bind k)
    obtain ⟨n, k1, k2⟩ := PX.ofO k0
    exact ⟨t.1, n, rfl, k1, of_decide_eq_true c, k2 _ (fun _ => rfl) H (Same.refl H)⟩) g hm (by decide +kernel) (by decide) (ea_cons d ea_nil (by cases m1 <;> rfl) hs) (by rw [he]; cases m1 <;> rfl) hs (fun _ => rfl)
end
end Wk
set_option Elab.async false
set_option linter.all false
set_option maxRecDepth 100000
/-! Wk41: two names given two values at once. -/
namespace Wk
open PySem PySem.Spec PyProof.Rows L2
section
variable {X : Cx} {H0 : Hp} {qs : List Addr} {rt : VK} {nx : L2.St → Hp → Prop} {O : Type} {A : O → Prop} {B : Exc → Prop} {Γ : List Sl} {rest : List Stmt} {m : R O} {e a b : Expr} {pos p p1 p2 p3 : Pos} {x y : Str} {i j : Nat} {α β S : Type}
/-! a text times an int -/
def repT (x : Str) (n : Nat) : Str := ⟨(List.replicate n x.cps.toList).flatten.toArray⟩
def repStr (x : Str) (n : Int) : R Str := R.chk (decide (0 ≤ n ∧ n ≤ 100000 ∧ x.length ≤ 160)) (repT x n.toNat)
theorem foldl_app (x : Array Nat) : ∀ (n : Nat) (acc : Array Nat), ((List.replicate n x).foldl (· ++ ·) acc) = acc ++ (List.replicate n x.toList).flatten.toArray
  | 0, acc => by simp
  | n + 1, acc => by
    rw [List.replicate_succ, List.foldl_cons, foldl_app x n, List.replicate_succ, List.flatten_cons]
    apply Array.ext'
    simp
theorem op_mulS : OpR X (binaryOp .Mult) (fun x y H Q => ∃ (z : Str) (n : Int), x = .str z ∧ y = .int n ∧ 0 ≤ n ∧ n ≤ 100000 ∧ z.length ≤ 160 ∧ Q (.str (repT z n.toNat)) H) := by
  intro pins s σ H x y v u Q I rx ry h
  obtain ⟨z, n, rfl, rfl, h0, h1, h2, q⟩ := h
  obtain ⟨t, rfl⟩ := rx
  obtain ⟨t', rfl⟩ := ry
  have hz : z.length * n.toNat ≤ 16000000 := Nat.le_trans (Nat.mul_le_mul h2 (show n.toNat ≤ 100000 by omega)) (by decide)
  refine PySem.P.mul_str (by rw [decide_eq_false (by omega), decide_eq_false (by omega)]; rfl) (fun a b c => ?_) (fun a b => by
    unfold PySem.Builtin.Str.tooLong
    exact decide_eq_false (by rw [sizeLine_eq]; omega)) ?_
  · have e : (160 : Int) ≤ (2 ^ 63 - 1 : Int) / n := (Int.le_ediv_iff_mul_le (by omega)).mpr (by omega)
    omega
  · by_cases c : n < 1
    · rw [if_pos c]
      have e : n = 0 := by omega
      subst e
      exact ⟨by decide, .str Str.empty, H, I.tok _, ⟨_, rfl⟩, q⟩
    · rw [if_neg c]
      by_cases d : (n == 1 || z.length == 0) = true
      · rw [if_pos d]
        have e : repT z n.toNat = z := by
          rw [Bool.or_eq_true, beq_iff_eq, beq_iff_eq] at d
          obtain ⟨⟨l⟩⟩ := z
          unfold repT
          rcases d with d | d
          · subst d
            simp
          · have : l = [] := List.length_eq_zero_iff.mp d
            subst this
            simp
        rw [e] at q
        exact ⟨.str z, H, I, ⟨_, rfl⟩, q⟩
      · rw [if_neg d]
        have e : (⟨(List.replicate n.toNat z.cps).foldl (· ++ ·) #[]⟩ : Str) = repT z n.toNat := by
          unfold repT
          rw [foldl_app]
          simp
        rw [e]
        refine ⟨?_, .str _, H, I.tok _, ⟨_, rfl⟩, q⟩
        unfold repT
        rw [sizeLine_eq]
        show (List.replicate n.toNat z.cps.toList).flatten.toArray.size ≤ _
        rw [List.size_toArray, List.length_flatten, List.map_replicate, List.sum_replicate_nat]
        have : z.cps.toList.length = z.length := Array.length_toList
        rw [this, Nat.mul_comm]
        omega
theorem strOk_rep {x : Str} (hx : PyData.strOk x = true) (n : Nat) : PyData.strOk (repT x n) = true := strOk_iff.mpr fun c hc => by
  have hc : c ∈ (List.replicate n x.cps.toList).flatten := by simpa [repT] using hc
  obtain ⟨l, hl, hm⟩ := List.mem_flatten.mp hc
  rw [(List.mem_replicate.mp hl).2] at hm
  exact strOk_iff.mp hx c hm
theorem ev_mulS {ma mb md : Bool} {m1 : R Str} {m2 : R Int} {m : R Str} (da : Ev X H0 qs ma Γ a m1) (db : Ev X H0 qs mb Γ b m2) (he : m = m1.bind fun x => m2.bind fun y => repStr x y := by rfl) : Ev X H0 qs md Γ (.BinOp a .Mult b pos) m :=
  ev_op op_mulS (fun H x y v w Q B h1 h2 k => by
    obtain ⟨rfl, o1⟩ := h1
    have h2 : w = .int y := h2
    subst h2
    obtain ⟨c, k0⟩ := PX.chk k
    obtain ⟨c1, c2, c3⟩ := of_decide_eq_true c
    exact ⟨x, y, rfl, rfl, c1, c2, c3, k0 _ (fun _ => ⟨rfl, strOk_rep o1 _⟩) H (Same.refl H)⟩) da db he
end
end Wk
set_option Elab.async false
set_option linter.all false
set_option maxRecDepth 100000
/-! Wk42: an exception leaves from within a list comprehension. -/
namespace Wk
open PySem PySem.Spec PyProof.Rows L2
theorem ff_base {h B B' : Heap} (k : ∀ b, B.get? b = none → B'.get? b = none) : ∀ {l : List Env}, h.FunFrames B l → h.FunFrames B' l
  | [], _ => trivial
  | _ :: _, ⟨hk, ⟨L, o, hf, hb, ho, hd⟩, hr⟩ => ⟨hk, ⟨L, o, hf, k L hb, ho, hd⟩, ff_base k hr⟩
section
variable {X : Cx} {pins pn' : List (Addr × Obj)} {σ σ' : L2.St} {H H3 : Hp} {s s3 s' : Shared} {E : XK} {W : WX} {scope : Scope} {ce : Env} {fp : List Addr}
/-- an exception that a call within the comprehension's block lets out is in the def's own air when the block has been let go -/
theorem comp_air (I3 : Inv X pins σ H3 s3) (hs : X.stack = X.env :: X.outer) (hf : X.env.frame = some X.env.locals) (cf : ce.frame = X.env.frame) (cl : ce.locals = s3.heap.objs.size)
    (I5 : Inv (X.blk s3 H3 scope ce fp) pn' σ' H s)
    (hfp : ∀ b ∈ fp, (b ∈ X.ex ∨ X.s_0.heap.objs.size ≤ b) ∧ b ≠ X.env.locals ∧ (∀ x c, X.env.cells.lookup x = some c → c ≠ b) ∧ ∀ p ∈ X.pn ++ pins, p.1 ≠ b)
    (tk : Takes X W) (hW : ∀ c d H', E c d H' → W c d σ H') {u : Value} (c : L2.CX X.prog X.w X.stack H s E u s') :
    notedBy (model X.prog X.w) X.A ce (CompFails (model X.prog X.w) X.A X.xe ce) u s' := by
  obtain ⟨a, B, H', cls, d, rfl, fl, hok, ub, na, os, ag, hE⟩ := c
  have hfr : X.A.frames = some (X.env :: X.outer) := by rw [I3.ok.frames, hs]
  -- the block's names
  obtain ⟨m0, hn0, _⟩ := I5.loc
  have hn0 : s.heap.Ns ce.locals m0 := hn0
  have HC : H ce.locals = none := I5.free
  have u1 : Un (frs X.stack) fp H3 H s3.heap s.heap := I5.base
  have lt3 : ∀ b o, s3.heap.get? b = some o → b ≠ ce.locals := fun b o e z => by
    rw [z, cl] at e
    exact absurd (Heap.lt_size e) (Nat.lt_irrefl _)
  have Cfr : ce.locals ∉ frs X.stack := fun z => by
    obtain ⟨_, o, e, _⟩ := I3.stack.mem z
    exact lt3 _ o e rfl
  obtain ⟨oC, es, ep, hoC, hdC, rC⟩ := id hn0
  have BC : B.get? ce.locals = some oC := ub.keep _ _ hoC HC Cfr
  have sC : s'.heap.get? ce.locals = some oC := fl.1 _ _ BC
  have H'C : H' ce.locals = none := ub.free _ _ hoC HC
  have Ns' : s'.heap.Ns ce.locals m0 := ⟨oC, es, ep, sC, hdC, rC⟩
  -- the ground without it
  have B0k : ∀ b o, B.get? b = some o → b ≠ ce.locals → (PySem.W.hideAll B [ce.locals]).get? b = some o := fun b o e ne => PySem.W.hideAll_get _ e (by simpa using ne)
  have B0o : ∀ b o, (PySem.W.hideAll B [ce.locals]).get? b = some o → B.get? b = some o ∧ b ≠ ce.locals := fun b o e => ⟨PySem.W.of_hideAll _ e, fun z => by
    rw [z, PySem.W.hideAll_none _ (List.mem_singleton.mpr rfl)] at e; cases e⟩
  have B0n : ∀ b, B.get? b = none → (PySem.W.hideAll B [ce.locals]).get? b = none := fun b e => by
    cases q : (PySem.W.hideAll B [ce.locals]).get? b with
    | none => rfl
    | some o => rw [(B0o b o q).1] at e; cases e
  have hok0 : HOk X.prog X.w H' (PySem.W.hideAll B [ce.locals]) := fun b o q => (hok b o q).stay (fun c u hc r => B0k c u r fun z => by
    rw [z] at hc
    rcases hc with hc | hc
    · rw [hc] at H'C; rw [H'C] at q; cases q
    · rw [H'C] at hc; cases hc) (fun _ r => r) fun _ _ r => r
  -- the state without the exception
  obtain ⟨G, g1, g2⟩ := restrict s'.heap fun b => ((PySem.W.hideAll B [ce.locals]).get? b).isSome || decide (b ∈ frs X.stack)
  have gB : ∀ b o, (PySem.W.hideAll B [ce.locals]).get? b = some o → G.get? b = some o := fun b o e => by
    rw [g1 b (by simp [e])]
    exact fl.1 b o (B0o b o e).1
  have gF : ∀ b, b ∈ frs X.stack → G.get? b = s'.heap.get? b := fun b hb => g1 b (by simp [hb])
  have og : ∀ b o, G.get? b = some o → s'.heap.get? b = some o ∧ (((PySem.W.hideAll B [ce.locals]).get? b).isSome = true ∨ b ∈ frs X.stack) := fun b o e => by
    cases q : (((PySem.W.hideAll B [ce.locals]).get? b).isSome || decide (b ∈ frs X.stack)) with
    | false => rw [g2 b q] at e; cases e
    | true =>
      rw [g1 b q] at e
      exact ⟨e, by simpa [Bool.or_eq_true] using q⟩
  have nb : ∀ b o, G.get? b = some o → b ∉ frs X.stack → (PySem.W.hideAll B [ce.locals]).get? b = some o := fun b o e hb => by
    obtain ⟨e', h⟩ := og b o e
    rcases h with h | h
    · obtain ⟨o', q⟩ := Option.isSome_iff_exists.mp h
      have z := fl.1 b o' (B0o b o' q).1
      rw [e'] at z; cases z
      exact q
    · exact absurd h hb
  have GC : ∀ b o, G.get? b = some o → b ≠ ce.locals := fun b o e z => by
    obtain ⟨_, h⟩ := og b o e
    rw [z] at h
    rcases h with h | h
    · obtain ⟨o', q⟩ := Option.isSome_iff_exists.mp h
      exact (B0o _ _ q).2 rfl
    · exact Cfr h
  have un : Un (frs X.stack) fp H3 H' s3.heap G := by
    refine ⟨fun b o e n hb hx => ?_, fun b o e n hb hx => ?_, fun b o e n hx => ?_, fun b o e hx => ?_, fun b xs e => ub.tups _ _ (u1.tups _ _ e), fun b o v e => ub.frzs _ _ _ (u1.frzs _ _ _ e), fun b ps e => ?_⟩
    · exact gB _ _ (B0k _ _ (ub.keep _ _ (u1.keep b o e n hb hx) (u1.free b o e n hx) hb) (lt3 b o e))
    · obtain ⟨sl, q⟩ := u1.slot b o e n hb hx
      obtain ⟨sl2, q2⟩ := ub.slot b _ q hb
      exact ⟨sl2, by rw [gF b hb]; exact q2⟩
    · obtain ⟨o', q⟩ := u1.there b o e hx
      exact ub.free b o' q (u1.free b o e n hx)
    · obtain ⟨o', q⟩ := u1.there b o e hx
      by_cases hb : b ∈ frs X.stack
      · obtain ⟨sl, q2⟩ := ub.slot b _ q hb
        exact ⟨_, by rw [gF b hb]; exact q2⟩
      · obtain ⟨o'', q2⟩ := ub.there b o' q hb
        exact ⟨o'', gB _ _ (B0k _ _ q2 (lt3 b o e))⟩
    · obtain ⟨m1, q1⟩ := u1.tbls b ps e
      obtain ⟨m2, q2⟩ := ub.tbls b _ q1
      exact ⟨m1 ++ m2, by rw [q2, Array.append_assoc]⟩
  have II := I3.call (ch := fp) (g' := s'.gens) (t' := s'.toks) (d' := s'.drawn) un (hok0.kept gB) ag hfp
  -- it is noted
  rw [hs] at fl
  show wpAny _ _ (noteFrame (.ref a) ce) _ _ s'
  rw [noteFrame_env _ cf]
  refine HandSPX.looks_onZ Zc.steady hfr hf fl fun h1 hh up => ?_
  have Ns1 : h1.Ns ce.locals m0 := up.ns Ns'
  refine ⟨m0, Ns1, fun h2 m2 Ns2 sb => ?_⟩
  obtain ⟨k1, k2, k3, k4⟩ := hh
  obtain ⟨o1, es1, ep1, ho1, hd1, _⟩ := Ns1
  obtain ⟨oe, vs, T, oT, ts, he, hz, hd, hv1, hnT, hTe, hT, hdT, h3⟩ := k4
  have eC : a ≠ ce.locals := fun z => by
    rw [z] at he
    have := he.symm.trans ho1
    cases this
    rw [hd1] at hd; cases hd
  have tC : T ≠ ce.locals := fun z => by
    rw [z] at hT
    have := hT.symm.trans ho1
    cases this
    rw [hd1] at hdT; cases hdT
  have hh2 : HandSPX.HeldZ (PySem.W.hideAll B [ce.locals]) (X.env :: X.outer) a (Zc cls d) X.env.locals h2 :=
    ⟨fun b o e => (sb.2 b (B0o b o e).2).trans (k1 b o (B0o b o e).1), B0n a k2, ff_base B0n (Heap.FunFrames.sameBut sb Ns2 k3),
      oe, vs, T, oT, ts, (sb.2 a eC).trans he, hz, hd, hv1, B0n T hnT, hTe, (sb.2 T tC).trans hT, hdT, h3⟩
  unfold PySem.passOn
  refine wpAny_bind (wpAny_field (show h2.get? a = some oe from (sb.2 a eC).trans he) hd hv1 ?_)
  rw [if_neg (show ¬ ((Value.ref T == Value.none) = true) from by simp), cf, hf]
  refine wpAny_bind (HandSPX.setFlight_onZ hh2 fun h' hh' up' => wpAny_throw ?_)
  refine tk _ _ ⟨a, PySem.W.hideAll B [ce.locals], _, pins, σ, H', cls, d, rfl, II, nb, fun b o e nf => ?_, by rw [hs]; exact .inr (.inr hh'), na, ?_, ag, hW _ _ _ hE⟩
  · obtain ⟨sl, q⟩ := up b o (og b o e).1 nf
    obtain ⟨sl2, q2⟩ := up' b _ ((sb.2 b (GC b o e)).trans q) nf
    exact ⟨sl2, q2⟩
  · show s'.os = s3.os
    rw [os]
    exact I5.os
end
/-- a block whose calls may let exceptions out as E tells -/
structure BlkX (X X' : Cx) (sc : Scope) (E : XK) : Prop where
  b : Blk X X' sc
  pas : ∀ σ, Pas X' σ E
def bEX (X : Cx) (sc : Scope) (E : XK) (e : Expr) : TE := fun σ H Q => ∀ X', BlkX X X' sc E → wE X' e σ H Q
section
variable {X : Cx} {pins : List (Addr × Obj)} {σ : L2.St} {H : Hp} {s : Shared} {W : WX}
theorem blk_wish {s : Shared} {H : Hp} {scope : Scope} {C : Addr} {cl : List (Str × Addr)} {fp : List Addr} (Ex : Value → Shared → Prop) : Blk X ((X.blk s H scope (compEnvC scope cl C X.env) fp).wish Ex) (relS scope X.env.scope) :=
  ⟨rfl, rfl, rfl, rfl, rfl, rfl, rfl, rfl, rfl, (blk_is (X := X) (s := s) (H := H) (scope := scope) (C := C) (cl := cl) (fp := fp)).fnc, fun σ => ⟨fun pins H s e s' _ h => by
    obtain ⟨_, _, _, _, _, _, _, _, _, _, _, _, z⟩ := h
    exact z.elim, fun z => absurd (congrArg List.length (show X.stack = _ :: X.stack from z)) (by simp)⟩⟩
theorem lc_coreX {Q : VK} {elt tg iter : Expr} {scope : Scope} {own : List (Str × Nat)} {pos pos' : Pos} {wi : TI} {use : Option (Value → Sem Unit)} {Qf : Value → Shared → Prop}
    (hc : X.calm = true) (hN : X.N.Nodup) (I : Inv X pins σ H s) (hst : X.stack = X.env :: X.outer) (hfr : X.env.frame = some X.env.locals) (tk : Takes X W) (hi : PI X tg iter wi) (ok : BlkOk X.N X.env.scope scope own) (hs : ∀ x, foldedSetIterable iter X.env x = pure x)
    (h : tLc wi (bG X (relS scope X.env.scope) tg) tYes (bEX X (relS scope X.env.scope) (WE W σ) elt) (own.map (·.2)) σ H Q)
    (hRR : ∀ D s' m H' ce, Inv X pins σ H' s' → Q (.ref D) H' → s'.heap.Ns ce.locals m → FpOk X pins H' ce.locals → compEnds (model X.prog X.w) X.A X.xe use Qf (.ref D) ce (.ok .next) s') :
    wpAny (model X.prog X.w) X.A (comprehension (.ListComp elt [⟨tg, iter, [], 0⟩] scope pos) scope X.env pos' (newList []) false (eval iter X.env) use) Qf X.xe s := by
  have hfree : ∀ y ∈ scope.names, y.2 = .free → ∃ c, X.env.cells.lookup y.1 = some c := fun y hy e => by
    rcases ok.free y hy e with k | k
    · exact I.ok.has _ (.inl k)
    · exact I.ok.has _ (.inr k)
  refine comprehension_at (use := use) rfl hs (closure_ok hfree) ok.kind (fun y hy e => by rw [ok.uniq y hy, e])
    (thn (hi.run pins s σ H _ I h) fun xv s1 hx => thn hx fun itv s2 h2 => ?_)
  obtain ⟨it, fp, tn, J, H2, e, I2, T, st2, f2, q⟩ := h2
  subst e
  refine wpAny_newObj_type (newEnv_comp ?_) (by show 0 ≤ sizeLine; decide)
  generalize hD : s2.heap.objs.size = D
  have hDn : H2 D = none := I2.hok.fresh (Nat.le_of_eq hD)
  obtain ⟨Wt, ⟨m0, w0⟩, turn⟩ := q D hDn
  generalize hs3 : ({ s2 with heap := s2.heap.push { cls := .type "list", data := .seq ([] : List Value).toArray } } : Shared) = s3
  have I3 : Inv X pins σ (upd H2 D (.lst [])) s3 := by
    rw [← hs3]
    refine I2.laid (t' := s2.toks) (fun b o e => Heap.get?_push_of_some _ e) (Nat.le_of_eq hD) ⟨Nat.zero_le _, [], 0, .nil, ?_⟩
    rw [← hD]
    exact Heap.get?_push_size _ rfl
  have h3 : s3.heap = s2.heap.push { cls := .type "list", data := .seq ([] : List Value).toArray } := by rw [← hs3]
  have f3 : ∀ b ∈ fp, FpOk X pins (upd H2 D (.lst [])) b ∧ b < s3.heap.objs.size := fun b hb => by
    have hlt : b < s2.heap.objs.size := by
      obtain ⟨o, e, _⟩ := T.obj _ _ st2 b hb
      exact Heap.lt_size e
    refine ⟨⟨?_, (f2 b hb).2⟩, by rw [h3, Heap.size_push]; exact Nat.lt_succ_of_lt hlt⟩
    rw [upd_ne (by rw [← hD]; exact Nat.ne_of_lt hlt)]
    exact (f2 b hb).1
  have st3 : tn 0 s3.heap := T.keep _ _ _ st2 fun b _ o e => by rw [h3]; exact Heap.get?_push_of_some _ e
  have I4 := block_start I3 ok hN f3
  have isB : ∀ Ex, Blk X ((X.blk s3 (upd H2 D (.lst [])) scope (compEnvC scope (cellsFrom (s3.heap.objs.size + 1) scope.names (cloFrom X.env.cells scope.names [])) s3.heap.objs.size X.env) fp).wish Ex) (relS scope X.env.scope) := fun Ex => blk_wish Ex
  show codeAny _ _ (.compStart (.ListComp elt [⟨tg, iter, [], 0⟩] scope pos) 0 (.ref it) (.ref D) (compEnvC scope (cellsFrom (s3.heap.objs.size + 1) scope.names (cloFrom X.env.cells scope.names [])) s3.heap.objs.size X.env)) (compEnds (model X.prog X.w) X.A X.xe use Qf (.ref D) (compEnvC scope (cellsFrom (s3.heap.objs.size + 1) scope.names (cloFrom X.env.cells scope.names [])) s3.heap.objs.size X.env)) _
  have nfp : ∀ b ∈ fp, (upd H2 D (.lst [])) b = none := fun b hb => (f3 b hb).1.1
  have cF : (compEnvC scope (cellsFrom (s3.heap.objs.size + 1) scope.names (cloFrom X.env.cells scope.names [])) s3.heap.objs.size X.env).frame = X.env.frame := rfl
  generalize hce : compEnvC scope (cellsFrom (s3.heap.objs.size + 1) scope.names (cloFrom X.env.cells scope.names [])) s3.heap.objs.size X.env = ce at I4 isB cF ⊢
  have cL : ce.locals = s3.heap.objs.size := by subst hce; rfl
  generalize hH3 : upd H2 D (.lst []) = H3 at I3 I4 isB w0 nfp f3
  generalize hs4 : ({ s3 with heap := pushCells (s3.heap.push { cls := .type "dict", data := .dict #[] }) scope.names } : Shared) = s4 at I4 ⊢
  have st4 : tn 0 s4.heap := T.keep _ _ _ st3 fun b _ o e => by rw [← hs4]; exact pushCells_keeps _ _ _ _ (Heap.get?_push_of_some _ e)
  have stat : ∀ {σ' : L2.St} {H' : Hp} {s' : Shared}, Inv (X.blk s3 H3 scope ce fp) [] σ' H' s' → (∀ b ∈ fp, H' b = none) → ∀ b ∈ fp, FpOk (X.blk s3 H3 scope ce fp) [] H' b := fun {σ' H' s'} I' hn b hb =>
    ⟨hn b hb, (I'.ok.exf b hb).1, I'.ok.exfs b hb, .inl hb, fun x c e => (I'.ok.exf b hb).2 x c e, fun p hp => absurd (show p ∈ ([] : List (Addr × Obj)) ++ [] from hp) (by simp)⟩
  have chk : ∀ b ∈ fp, (b ∈ X.ex ∨ X.s_0.heap.objs.size ≤ b) ∧ b ≠ X.env.locals ∧ (∀ x c, X.env.cells.lookup x = some c → c ≠ b) ∧ ∀ p ∈ X.pn ++ pins, p.1 ≠ b := fun b hb => ⟨(f3 b hb).1.2.2.2.1, (f3 b hb).1.2.1, (f3 b hb).1.2.2.2.2.1, (f3 b hb).1.2.2.2.2.2⟩
  -- what an exception owes within the block
  have bx : BlkX X ((X.blk s3 H3 scope ce fp).wish (notedBy (model X.prog X.w) X.A ce (CompFails (model X.prog X.w) X.A X.xe ce))) (relS scope X.env.scope) (WE W σ) :=
    ⟨isB _, fun σ' => ⟨fun pins' H' t e t' I' c => comp_air I3 hst hfr cF cL I'.unwish chk tk (fun _ _ _ z => z) c, fun z => absurd (congrArg List.length (show X.stack = _ :: X.stack from z)) (by simp)⟩⟩
  have loop : codeAny (model X.prog X.w) X.A (.compLoop (.ListComp elt [⟨tg, iter, [], 0⟩] scope pos) 0 (.ref it) (.ref D) ce) (compEnds (model X.prog X.w) X.A X.xe use Qf (.ref D) ce) s4 := by
    refine compLoop_any (fun n s' => ∃ i H', Inv (X.blk s3 H3 scope ce fp) [] (wipe σ (own.map (·.2))) H' s' ∧ tn i s'.heap ∧ (∀ b ∈ fp, H' b = none) ∧ Wt i n H') ?_ m0 ⟨0, H3, I4, st4, nfp, w0⟩
    rintro n s5 ⟨i, H5, I5, st5, n5, w5⟩
    rcases turn i n H5 w5 with ⟨stop, qq⟩ | ⟨go, Nx, hNx, step⟩
    · have td := T.done (X.blk s3 H3 scope ce fp) rfl rfl rfl hc i [] s5 _ H5 (fun _ _ => False) I5 (stat I5 n5) st5 stop
      refine thnF td fun r s6 ⟨hr, I6⟩ => ?_
      subst hr
      have I7 : Inv X pins σ H5 s6 := I3.call' (ch := fp) I6.os I6.base I6.hok I6.bare chk
      have nC : H5 ce.locals = none := I6.free
      obtain ⟨m, hn, _⟩ := I6.loc
      have hn : s6.heap.Ns ce.locals m := hn
      have := hRR D s6 m H5 ce I7 qq hn (by rw [cL] at nC ⊢; exact I3.fpOk (Nat.le_refl _) nC)
      cases use <;> exact this
    · have ti := T.item (X.blk s3 H3 scope ce fp) rfl rfl rfl hc i [] s5 _ H5 (fun _ _ => False) I5 (stat I5 n5) st5 go
      refine thnF ti fun r s6 ⟨u, hr, h6⟩ => ?_
      subst hr
      refine thnF h6 fun _ s7 ⟨x, H7, I7, r7, y7, st7, n7⟩ => ?_
      have I7' := I7.pinned (stat I7 n7) (T.obj _ _ st7)
      have Ew : ∀ {α : Type} {t : Sem α} {Q' : α → Shared → Prop} {z : Shared}, wpAny (model X.prog X.w) X.A t Q' (notedBy (model X.prog X.w) X.A ce (CompFails (model X.prog X.w) X.A X.xe ce)) z → wpAny (model X.prog X.w) X.A t Q' (notedBy (model X.prog X.w) X.A ce fun e s' => compEnds (model X.prog X.w) X.A X.xe use Qf (.ref D) ce (.error e) s') z := fun hz => by
        cases use <;> exact hz
      refine Ew (thn (pg_w.run _ s7 _ H7 x u _ (I7'.wish _) r7 (step x H7 y7 _ (isB _))) fun _ s8 ⟨σ8, H8, I8, hw8, q8⟩ => ?_)
      refine Ew (thn ((pts_nil (X := (X.blk s3 H3 scope ce fp).wish (notedBy (model X.prog X.w) X.A ce (CompFails (model X.prog X.w) X.A X.xe ce)))).run _ s8 σ8 H8 _ I8 q8) fun b s9 ⟨H9, I9, q9⟩ => ?_)
      have fin : ∀ {s' : Shared} {H' : Hp}, Inv (X.blk s3 H3 scope ce fp) ([] ++ pinsAt fp s7.heap) σ8 H' s' → Nx H' → ∃ m, m < n ∧ ∃ i H', Inv (X.blk s3 H3 scope ce fp) [] (wipe σ (own.map (·.2))) H' s' ∧ tn i s'.heap ∧ (∀ b ∈ fp, H' b = none) ∧ Wt i m H' := fun {s' H'} I' nx => by
        obtain ⟨m', hm, w'⟩ := hNx H' nx
        have pin' : ∀ b ∈ fp, ∀ o, s7.heap.get? b = some o → s'.heap.get? b = some o ∧ H' b = none := fun b hb o e =>
          let z := I'.pin (b, o) (List.mem_append_right _ (List.mem_append_right _ (mem_pinsAt hb e)))
          ⟨z.1, z.2.1⟩
        have hl : (wipe σ (own.map (·.2))).length = σ8.length := by rw [← hw8, wipe_length]
        refine ⟨m', hm, i + 1, H', (I'.unpinned (pins := [])).weak hl (fun j v e => ?_), T.keep _ _ _ st7 fun b hb o e => (pin' b hb o e).1, fun b hb => ?_, w'⟩
        · rw [← hw8] at e
          exact (wipe_some e).1
        · obtain ⟨o, e, _⟩ := T.obj _ _ st7 b hb
          exact (pin' b hb o e).2
      cases b with
      | false =>
        simp only [Bool.false_eq_true, if_false] at q9 ⊢
        exact fin I9.unwish q9
      | true =>
        simp only [if_true] at q9 ⊢
        refine Ew (thn (pe_w.run _ s9 σ8 H9 _ I9 (q9 _ bx)) fun z s10 ⟨yv, H10, I10, r10, acc, hD10, hz10, nx⟩ => ?_)
        exact app_ok (X := X.blk s3 H3 scope ce fp) I10.unwish hD10 hz10 r10 fun s11 I11 => fin I11 nx
  exact codeAny_compStart_list loop (T.self X.A 0 _ _ _ st4 loop)
end
/-! ### [elt for x in xs], whose elements may raise -/
def mapXGo {α β : Type} (g : α → R β) : List α → R (List β)
  | [] => .ok []
  | x :: r => (g x).bind fun y => (mapXGo g r).bind fun ys => .ok (y :: ys)
def mapXR {α β : Type} (g : α → R β) (xs : List α) : R (List β) := if xs.length ≤ 16777216 then mapXGo g xs else .stuck
section
variable {X : Cx} {H0 : Hp} {qs : List Addr} {mi : Bool} {Γ : List Sl} {it elt tg : Expr} {pos : Pos} {α β : Type}
variable {scope : Scope} {own : List (Str × Nat)} {mx : R (List α)} {Γx : α → List Sl} {is : List Nat} {N : List Str} {sc : Scope}
theorem map_coreX [PyT α] [PyT β] {g : α → R β} {m : R (List β)} (hX : XOk X N sc) (hi : EvI X H0 qs mi Γ tg it mx) (fl : mi = true ∨ ∀ {K : PySem.W.Frag} {F F' : Hp} {v : V} {x : α}, rep K F v x → rep K F' v x) (hno : ∀ p ∈ own, NoOw Γ p.2) (his : ∀ i ∈ is, i ∈ own.map (·.2))
    (hg : ∀ X', Blk X X' (relS scope sc) → ∀ x, EvG X' (wipeG Γ (own.map (·.2))) tg x (Γx x) is) (hel : ∀ X', Blk X X' (relS scope sc) → ∀ (D : Addr) (x : α), Ev X' H0 (D :: qs) true (Γx x) elt (g x))
    (he : m = mx.bind (mapXR g)) (hs : Fold it) :
    ∀ σ H, At X.K H0 qs Γ σ H → ∀ E : XK, Pas X σ E → ∀ Q : VK, PX (fun xs => ∀ p vs H', Same H H' → H p = none → H' p = some (.lst vs) → RepL X.K (Fz H' (p :: av true Γ σ qs)) vs xs → Q (.ref p) H') (XW X E H) m →
      tLc (wI X tg it) (bG X (relS scope X.env.scope) tg) tYes (bEX X (relS scope X.env.scope) E elt) (own.map (·.2)) σ H Q := by
  intro σ H at_ E pe Q q
  subst he
  have hsc : X.env.scope = sc := hX.hs
  rw [← hsc] at hg hel
  refine hi σ H at_ E pe _ ((PX.bind q).mono (fun xs q2 J H1 s1 wk D hD => ?_) fun _ z => z)
  unfold mapXR at q2
  by_cases hlen : xs.length ≤ 16777216
  case neg => rw [if_neg hlen] at q2; exact (show False from q2).elim
  rw [if_pos hlen] at q2
  have at1 := at_.grow s1
  have hD0 : H D = none := s1.free hD
  let Pv : Nat → Hp → Prop := fun i H' => Same H1 H' ∧ ∃ acc ys, H' D = some (.lst acc) ∧ RepL X.K (Fz H' (D :: av true Γ σ qs)) acc ys ∧ acc.length ≤ i ∧
    PX (fun zs => ∀ p vs H', Same H H' → H p = none → H' p = some (.lst vs) → RepL X.K (Fz H' (p :: av true Γ σ qs)) vs (ys ++ zs) → Q (.ref p) H') (XW X E H) (mapXGo g (xs.drop i))
  refine ⟨fun i m H' => m = xs.length - i ∧ i ≤ xs.length ∧ Pv i H', ⟨xs.length, by simp, Nat.zero_le _, same_new hD, [], [], upd_same, trivial, Nat.le_refl _, ?_⟩, ?_⟩
  · rw [List.drop_zero]
    exact q2.mono (fun zs k p vs H' a b c d => k p vs H' a b c d) fun _ z => z
  rintro i m H2 ⟨rfl, hi', s2, acc, ys, hacc, hrep, hal, hrest⟩
  have sF : Same (Fz H1 (av mi Γ σ qs)) H2 := fun b o z => s2 b o (Fz.out b o z)
  by_cases hlt : i < xs.length
  · refine .inr ⟨wk.goes i H2 hlt sF, Pv (i + 1), fun H' p' => ⟨xs.length - (i + 1), by omega, rfl, hlt, p'⟩, fun v H3 hy => ?_⟩
    obtain ⟨s3, x, hx, hxr⟩ := wk.yields i H2 v H3 hlt sF hy
    have hdrop : xs.drop i = x :: xs.drop (i + 1) := by
      obtain ⟨h1, h2⟩ := List.getElem?_eq_some_iff.mp hx
      rw [List.drop_eq_getElem_cons h1, h2]
    rw [hdrop] at hrest
    have hD3 : H3 D = some (.lst acc) := s3 _ _ hacc
    have at3 : At X.K H0 (D :: qs) Γ σ H3 := at1.addq (s2.trans s3) hD (Hv.lst hD3)
    have at3w := at3.wipe (own.map (·.2))
    have hown : owA (wipeG Γ (own.map (·.2))) (wipe σ (own.map (·.2))) = owA Γ σ := wipe_own fun v hv => by
      obtain ⟨p, hp, rfl⟩ := List.mem_map.mp hv
      exact hno p hp
    have hr3 : rep X.K (Fz H3 (owA (wipeG Γ (own.map (·.2))) (wipe σ (own.map (·.2))) ++ D :: qs)) v x := by
      rcases fl with fl | fl
      · subst fl
        refine hxr _ ?_ ?_
        · rw [hown]
          exact Fz.new s2 fun b hb => (List.mem_append.mp hb).elim (fun z => .inl (List.mem_append_left _ z)) fun z => (List.mem_cons.mp z).elim (fun q => .inr (by rw [q]; exact hD)) fun q => .inl (List.mem_append_right _ q)
        · rw [hown]
          intro q hq
          rcases List.mem_append.mp hq with z | z
          · exact (at1.grow s2).own_hv z
          · rcases List.mem_cons.mp z with z | z
            · rw [z]; exact Hv.lst hacc
            · exact (at1.grow s2).qd q z
      · exact fl (hxr [] (fun b o z => by rw [Fz.nil]; exact sF b o z) fun q hq => by cases hq)
    intro X' hB
    have hK : X'.K = X.K := hB.K
    refine hg X' hB x H0 (D :: qs) (wipe σ (own.map (·.2))) H3 v (by rw [hK]; exact at3w) (by rw [hK]; exact hr3) _ ?_
    intro σ4 at4 ho4 hl4 hk4
    refine ⟨?_, ?_⟩
    · refine wipe_ext (by rw [hl4, wipe_length]) fun j hj => ?_
      rw [hk4 j fun z => hj (his j z), wipe_out hj]
    rw [hK] at at4
    have how : owA (Γx x) σ4 = owA Γ σ := ho4.trans hown
    have hq3 : PX _ _ ((g x).bind fun y => (mapXGo g (xs.drop (i + 1))).bind fun ys => .ok (y :: ys)) := hrest
    show bEX X _ E elt σ4 H3 _
    intro X2 hB2
    have hK2 : X2.K = X.K := hB2.b.K
    refine hel X2 hB2.b D x σ4 H3 (by rw [hK2]; exact at4) E (hB2.pas σ4) _ ((PX.bind hq3).mono (fun y hy5 u H5 s5 hr5 => ⟨acc, s5 _ _ hD3, by rw [sizeLine_eq]; omega, ?_⟩) fun c z => ?_)
    · have k := PX.bind hy5
      rw [hK2] at hr5
      have hfz : rep X.K (Fz (upd H5 D (.lst (acc ++ [u]))) (D :: av true Γ σ qs)) u y := by
        refine PyT.mono ?_ hr5
        refine Fz.go fun b o hb hb2 => ?_
        have e1 : av true (Γx x) σ4 (D :: qs) = owA Γ σ ++ D :: qs := by rw [← how]; rfl
        rw [e1] at hb
        have nb : b ≠ D := fun z => hb (List.mem_append_right _ (by rw [z]; exact List.mem_cons_self))
        refine ⟨fun z => ?_, (upd_ne nb).trans hb2⟩
        rcases List.mem_cons.mp z with z | z
        · exact nb z
        · rcases List.mem_append.mp z with z | z
          · exact hb (List.mem_append_left _ z)
          · exact hb (List.mem_append_right _ (List.mem_cons_of_mem _ z))
      refine ⟨same_mut ((s2.trans s3).trans s5) hD, acc ++ [u], ys ++ [y], upd_same, ?_, by rw [List.length_append, List.length_singleton]; omega, k.mono (fun zs k2 p vs H' a b c d => k2 p vs H' a b c (by rw [List.append_assoc] at d; exact d)) fun _ z => z⟩
      refine (hrep.mono ?_).app (RepL.one hfz)
      exact Same.trans (Fz.mono (s3.trans s5)) (Fz.mut List.mem_cons_self)
    · have z2 : XW X E H3 c := z.grow ((s1.trans s2).trans s3)
      unfold XW at z2 ⊢
      rw [hK2]
      exact z2
  · have e : i = xs.length := by omega
    subst e
    refine .inl ⟨wk.stops H2 sF, ?_⟩
    rw [List.drop_length] at hrest
    have k : ∀ p vs H', Same H H' → H p = none → H' p = some (.lst vs) → RepL X.K (Fz H' (p :: av true Γ σ qs)) vs (ys ++ []) → Q (.ref p) H' := hrest
    exact k D acc H2 (s1.trans s2) hD0 hacc (by rw [List.append_nil]; exact hrep)
theorem ev_mapX [PyT α] [PyT β] {g : α → R β} {m : R (List β)} (hst : X.stack = X.env :: X.outer) (hfr : X.env.frame = some X.env.locals) (hX : XOk X N sc) (hi : EvI X H0 qs mi Γ tg it mx) (fl : mi = true ∨ ∀ {K : PySem.W.Frag} {F F' : Hp} {v : V} {x : α}, rep K F v x → rep K F' v x) (hb : blkC N sc scope own = true) (hno : ∀ p ∈ own, NoOw Γ p.2) (his : ∀ i ∈ is, i ∈ own.map (·.2))
    (hg : ∀ X', Blk X X' (relS scope sc) → ∀ x, EvG X' (wipeG Γ (own.map (·.2))) tg x (Γx x) is) (hel : ∀ X', Blk X X' (relS scope sc) → ∀ (D : Addr) (x : α), Ev X' H0 (D :: qs) true (Γx x) elt (g x))
    (he : m = mx.bind (mapXR g) := by rfl) (hs : Fold it := by intro _ _; rfl) : EvO X H0 qs true Γ (.ListComp elt [⟨tg, it, [], 0⟩] scope pos) m := fun σ H at_ E pe Q q => by
  refine ⟨fun pins s I => ?_⟩
  obtain ⟨W, tk, e⟩ := pe.tk hst
  subst e
  rw [eval_ListComp]
  refine lc_coreX hX.calm hX.nd I hst hfr tk pi_w (blkOk_by (by rw [hX.hN, hX.hs]; exact hb)) (hs X.env) (map_coreX hX hi fl hno his hg hel he hs σ H at_ _ pe Q q) fun D s' m H' ce I' q hn f => ⟨m, hn, fun h'' sb => ?_⟩
  obtain ⟨f0, f1, f2, f3, f4, f5⟩ := f
  exact ⟨.ref D, H', I'.turned (t' := s'.toks) (fun b o hb e => (sb.2 b hb).trans e) f0 f1 f3 f4 f5, rfl, q⟩
theorem ec_mapX [PyT α] [PyT β] {g : α → R β} {m : R (List β)} (hst : X.stack = X.env :: X.outer) (hfr : X.env.frame = some X.env.locals) (hX : XOk X N sc) (hi : EvI X H0 qs mi Γ tg it mx) (fl : mi = true ∨ ∀ {K : PySem.W.Frag} {F F' : Hp} {v : V} {x : α}, rep K F v x → rep K F' v x) (hb : blkC N sc scope own = true) (hno : ∀ p ∈ own, NoOw Γ p.2) (his : ∀ i ∈ is, i ∈ own.map (·.2))
    (hg : ∀ X', Blk X X' (relS scope sc) → ∀ x, EvG X' (wipeG Γ (own.map (·.2))) tg x (Γx x) is) (hel : ∀ X', Blk X X' (relS scope sc) → ∀ (D : Addr) (x : α), Ev X' H0 (D :: qs) true (Γx x) elt (g x))
    (he : m = mx.bind (mapXR g) := by rfl) (hs : Fold it := by intro _ _; rfl) : EvC X H0 qs Γ (.ListComp elt [⟨tg, it, [], 0⟩] scope pos) m := fun i y py spos D σ H l hl hsw hk at_ E pe q => by
  refine ⟨fun pins s I => ?_⟩
  obtain ⟨W, tk, e⟩ := pe.tk hst
  subst e
  rw [exec_Assign_Name_used _ _ _ _ (hsw _ _ hk hl)]
  refine wpAny_bind (wpAny_standAt (wpAny_bind ?_))
  show wpAny _ X.A (do let _ ← comprehension (.ListComp elt [⟨tg, it, [], 0⟩] scope pos) scope X.env (firstIterPos [⟨tg, it, [], 0⟩] pos) (newList []) false (eval it X.env) (some (assign (.Name y py) X.env))) _ _ s
  have h := map_coreX hX hi fl hno his hg hel he hs σ H at_ _ pe (fun v H1 => gName i v σ H1 D.nx) q
  refine wpAny_bind (thn (lc_coreX (Qf := fun _ s' => SP X pins D .next s') hX.calm hX.nd I hst hfr tk pi_w (blkOk_by (by rw [hX.hN, hX.hs]; exact hb)) (hs X.env) h fun L s' m H' ce I' q hn f => ?_) fun _ s' hq => wpAny_pure (wpAny_pure hq))
  show wpAny _ _ (assign (.Name y py) X.env (.ref L)) _ _ _
  refine wpAny_assign_Name (store_ok2 (v := V.ref L) I' hX.nd l.hi (.inl hl) rfl (fun s2 I2 ⟨a, sb, ha⟩ => ?_) (.inr hl))
  obtain ⟨f0, f1, f2, f3, f4, f5⟩ := f
  have haC : ce.locals ≠ a := by
    rcases ha with z | z
    · rw [z]; exact f1
    · exact fun e => f4 y a z e.symm
  refine ⟨m, hn.sameBut sb haC, fun h3 sb3 => ?_⟩
  exact ⟨_, H', I2.turned (t' := s2.toks) (fun b o hb e => (sb3.2 b hb).trans e) f0 f1 f3 f4 f5, q⟩
end
end Wk
set_option Elab.async false
set_option linter.all false
set_option maxRecDepth 100000
/-! Wk43: a try whose suite returns. -/
set_option Elab.async false
set_option linter.all false
set_option maxRecDepth 100000
/-! Wk44: texts in great letters; lists none of whose items is none; an item taken out and left. -/
namespace Wk
open PySem PySem.Spec PyProof.Rows L2
/-- the items of a list, where none is none -/
def allO {α : Type} : List (Option α) → Option (List α)
  | [] => some []
  | none :: _ => none
  | some x :: r => (allO r).map fun l => x :: l
def allS {α : Type} (l : List (Option α)) : R (List α) := R.ofO (allO l)
section
variable {X : Cx} {H0 : Hp} {qs : List Addr} {rt : VK} {nx : L2.St → Hp → Prop} {O : Type} {A : O → Prop} {B : Exc → Prop} {Γ : List Sl} {rest : List Stmt} {m : R O} {e a b : Expr} {pos p p1 p2 p3 : Pos} {x y : PySem.Str} {i ix : Nat} {α β S : Type} {md ma mb : Bool}
theorem repL_all [PyT α] {K : PySem.W.Frag} {F : Hp} : ∀ {vs : List V} {xs : List (Option α)} {ys : List α}, allO xs = some ys → RepL K F vs xs → RepL K F vs ys
  | vs, [], ys, h, r => by
    injection h with h
    subst h
    cases vs with
    | nil => exact r
    | cons v vs => exact r.elim
  | vs, none :: xs, ys, h, r => by cases h
  | vs, some x :: xs, ys, h, r => by
    have h : (allO xs).map (fun l => x :: l) = some ys := h
    obtain ⟨l, e, rfl⟩ := Option.map_eq_some_iff.mp h
    cases vs with
    | nil => exact r.elim
    | cons v vs => exact ⟨r.1, repL_all e r.2⟩
theorem Ev.allS [PyT α] {m1 : R (List (Option α))} {m' : R (List α)} (d : Ev X H0 qs md Γ e m1) (he : m' = m1.bind Wk.allS := by rfl) : Ev X H0 qs md Γ e m' := fun σ H at_ E pe Q q => by
  subst he
  refine d σ H at_ E pe Q ((PX.bind q).mono (fun x k v H' s r => ?_) fun _ z => z)
  obtain ⟨y, hy, k2⟩ := PX.ofO k
  obtain ⟨l, vs, h1, h2, h3⟩ := r
  exact k2 v H' s ⟨l, vs, h1, h2, repL_all hy h3⟩
/-- ys.pop(j), as a statement -/
theorem w_popS [PyT α] {ys : List α} {mj : R Int} {f : List α → R O} {Γ' : List α → List Sl} (fr : Fr X H0 B) (n : Nm X i y) (h : Γ[i]? = some (.ow ys)) (dj : Ev X H0 qs true Γ a mj) (k : ∀ u, W X H0 qs rt nx A B (Γ' u) rest (f u)) (hΓ : ∀ u, Γ' u = Γ.set i (.ow u) := by intro _; rfl) (ht : tmF Γ = true := by rfl)
    (he : m = mj.bind fun j => (popR ys j).bind fun u => f u.2 := by rfl)
    (hfew : ∀ env, ((backTo p3 (starEach [a] env)).all (fun x => !x.1) && (backToKw p3 (keywordEach [] env)).all (fun x => x.1.isSome) && decide ([a].length + ([] : List Keyword).length + (if ([] : List Keyword).isEmpty then 0 else 1) < 30)) = true := by intro _; rfl)
    (hline : (p2.endLine == p3.line) = true := by rfl) (hs : St1 a := by intro _; rfl) (hbase : ∀ env, attributeBase (.Name y p1) "pop" env (eval (.Name y p1) env) = eval (.Name y p1) env := by intro _; rfl)
    (hsw : ∀ env, swapsWith (.Call (.Attribute (.Name y p1) "pop" p2) [a] [] p3) none pos.line env = pure false := by intro _; rfl) : W X H0 qs rt nx A B Γ (.Expr (.Call (.Attribute (.Name y p1) "pop" p2) [a] [] p3) pos :: rest) m := fun q σ H at_ => by
  subst he
  obtain ⟨E, pe, hx⟩ := fr.use
  refine cons_of (wS_of (ps_expr (pe_bm PySem.F.plainAttrs_list PySem.F.slot_list_pop PySem.F.type_list_pop mt_popAt (pe_var n.hi n.vis n.hd n.hc) (pa_cons pe_w pa_nil (hs X.env)) (hbase X.env) (hfew X.env) hline (hs X.env) rfl) (hsw X.env)) ?_)
  obtain ⟨ll, vs, hl, hm, hv, h0, hr⟩ := at_.ow h
  refine ⟨_, hl, .inl ⟨rfl, _, SqL.of hv⟩, ?_⟩
  refine dj σ H at_ E (pe σ) _ ((PX.bind q).mono (fun j q2 v H1 s1 r1 => ?_) fun c z => hx c H at_.ex z)
  have ej : v = .int j := r1
  subst ej
  have q3 := PX.bind (PX.bind q2)
  obtain ⟨c, q4⟩ := PX.chk q3
  have c2 := of_decide_eq_true c
  obtain ⟨u, hu, q5⟩ := PX.ofO (PX.bind q4)
  obtain ⟨w, hw, rw_⟩ := (hr.mono (Fz.mono (ps := owA Γ σ ++ qs) s1)).get' hu
  have at1 := at_.grow s1
  have hv1 := s1 _ _ hv
  have le := hr.len
  refine ⟨ll, vs, j, j.toNat, w, rfl, rfl, hv1, by omega, by omega, ?_, hw, ?_⟩
  · refine (ixN_seq ?_).1
    unfold ixN
    rw [if_pos c2.1, if_pos (by rw [le]; exact c2.2.1)]
  have at2 := at1.mut h hl ((hr.mono (Fz.mono s1)).erase (n := j.toNat)) ht
  refine k (ys.eraseIdx j.toNat) q5 _ _ ?_
  rw [hΓ]
  exact at2
end
end Wk
set_option Elab.async false
set_option linter.all false
set_option maxRecDepth 100000
/-! Wk45: the last part of a tuple; two equations for simp. -/
namespace Wk
open PySem PySem.Spec PyProof.Rows L2
/-! two equations whose proofs are not by `rfl`, so that simp hands the kernel steps, not one great comparison -/
theorem bind_okP {α β : Type} (a : α) (f : α → R β) : (R.ok a).bind f = f a := id (Eq.refl (f a))
theorem ofO_someP {α : Type} (a : α) : R.ofO (some a) = .ok a := id (Eq.refl (R.ok a))
end Wk
set_option Elab.async false
set_option linter.all false
set_option maxRecDepth 100000
/-! Wk46: dicts with ints as keys. -/
namespace Wk
open PySem PySem.Spec PyProof.Rows L2
def dGetI {β : Type} (kvs : List (Int × β)) (k : Int) : Option β := (kvs.find? fun kv => decide (kv.1 = k)).map (·.2)
theorem keyI_dec (a b : Int) : decide ((Sum.inl a : Key) = Sum.inl b) = decide (a = b) := decide_eq_decide.mpr ⟨Sum.inl.inj, fun h => by rw [h]⟩
theorem RepDi.len {β : Type} [PyT β] {K : PySem.W.Frag} {F : Hp} : ∀ {ws : List (Key × V)} {kvs : List (Int × β)}, RepDi K F ws kvs → ws.length = kvs.length
  | [], [], _ => rfl
  | p :: ws, q :: kvs, h => congrArg Nat.succ (RepDi.len h.2.2)
  | [], _ :: _, h => h.elim
  | _ :: _, [], h => h.elim
theorem RepDi.get {β : Type} [PyT β] {K : PySem.W.Frag} {F : Hp} (k : Int) : ∀ {ws : List (Key × V)} {kvs : List (Int × β)}, RepDi K F ws kvs →
    (valV ws (Sum.inl k : Key) = none ∧ dGetI kvs k = none) ∨ ∃ v y, valV ws (Sum.inl k : Key) = some v ∧ dGetI kvs k = some y ∧ rep K F v y
  | [], [], _ => .inl ⟨rfl, rfl⟩
  | p :: ws, q :: kvs, h => by
    by_cases e : q.1 = k
    · refine .inr ⟨p.2, q.2, valV_pos (by rw [h.1, e]), ?_, h.2.1⟩
      unfold dGetI
      rw [List.find?_cons_of_pos (by rw [decide_eq_true_iff]; exact e)]
      rfl
    · have e2 : ¬ p.1 = (Sum.inl k : Key) := fun z => e (Sum.inl.inj (by rw [← h.1]; exact z))
      have g : dGetI (q :: kvs) k = dGetI kvs k := by
        unfold dGetI
        rw [List.find?_cons_of_neg (by rw [decide_eq_true_iff]; exact e)]
      rw [valV_neg e2, g]
      exact RepDi.get k h.2.2
  | [], _ :: _, h => h.elim
  | _ :: _, [], h => h.elim
theorem RepDi.any {β : Type} [PyT β] {K : PySem.W.Frag} {F : Hp} (k : Int) : ∀ {ws : List (Key × V)} {kvs : List (Int × β)}, RepDi K F ws kvs → (ws.any fun kv => decide (kv.1 = (Sum.inl k : Key))) = kvs.any fun kv => decide (kv.1 = k)
  | [], [], _ => rfl
  | p :: ws, q :: kvs, h => by
    rw [List.any_cons, List.any_cons, RepDi.any k h.2.2, h.1, keyI_dec]
  | [], _ :: _, h => h.elim
  | _ :: _, [], h => h.elim
end Wk
set_option Elab.async false
set_option linter.all false
set_option maxRecDepth 100000
/-! Wk47: a def that is handed what was told anew, and changes it; walks over t[1:] of such a thing, step by step. -/
namespace Wk
open PySem PySem.Spec PyProof.Rows L2
section
variable {X : Cx} {H0 : Hp} {qs ps : List Addr} {rt : VK} {nx : L2.St → Hp → Prop} {O : Type} {A : O → Prop} {B : Exc → Prop} {Γ : List Sl} {rest : List Stmt} {m : R O} {e a b : Expr} {pos p p1 p2 p3 pt : Pos} {x part : Str} {i j : Nat} {α S S2 : Type}
def R2 (K : PySem.W.Frag) (y : Str × List Int) (F : Hp) (v : V) (vs : List V) : Prop := ∃ a w p ws, v = .ref a ∧ SqT K F a [w, .ref p] ∧ rep K F w y.1 ∧ vs = [.ref p] ∧ F p = some (.lst ws) ∧ RepL K F ws y.2
end
/-- tuples of items of several types -/
instance {α β : Type} [q : PyD α] [u : PyD β] : PyD (Ts (α ⊕ β)) where
  toD := fun x => .tuple (x.l.map PyD.toD)
  dp := fun {K H v x} h => by
    obtain ⟨p, vs, h1, h2, h3⟩ := h
    obtain ⟨e1, e2⟩ := dpAll h3
    exact ⟨by rw [h1]; exact .tup h2 e1, by simp only [PyData.canLay0, e2]⟩
  dep := (inferInstance : PyD (α ⊕ β)).dep + 1
  depth := fun x => by
    have h2 := depAll (d := (inferInstance : PyD (α ⊕ β))) x.l
    simp only [PyData.depth]
    omega
/-! ### the promise, and the call at a def's end -/
end Wk
set_option Elab.async false
set_option linter.all false
set_option maxRecDepth 100000
/-! Wk48: lists of two ints, unpacked into two names. -/
namespace Wk
open PySem PySem.Spec PyProof.Rows L2
/-- a list of two ints -/
structure Lw where
  a : Int
  b : Int
instance : PyT Lw where
  rep := fun K F v x => rep K F v [x.a, x.b]
  mono := fun e h => PyT.mono (α := List Int) e h
def twoO : List (List Int) → Option (List Lw)
  | [] => some []
  | [a, b] :: r => (twoO r).map fun ys => Lw.mk a b :: ys
  | _ :: _ => none
theorem twoO_get : ∀ {xs : List (List Int)} {ys : List Lw}, twoO xs = some ys → ys.length = xs.length ∧ ∀ (i : Nat) (x : List Int), xs[i]? = some x → ∃ y, ys[i]? = some y ∧ x = [y.a, y.b]
  | [], ys, h => by
    cases h
    exact ⟨rfl, fun i x e => by simp at e⟩
  | [a, b] :: r, ys, h => by
    change (twoO r).map (fun ys => Lw.mk a b :: ys) = some ys at h
    cases q : twoO r with
    | none => rw [q] at h; cases h
    | some zs =>
      rw [q] at h
      cases h
      obtain ⟨h1, h2⟩ := twoO_get q
      refine ⟨by rw [List.length_cons, List.length_cons, h1], fun i x e => ?_⟩
      cases i with
      | zero => cases e; exact ⟨⟨a, b⟩, rfl, rfl⟩
      | succ i => exact h2 i x e
  | [] :: r, _, h => by cases h
  | [_] :: r, _, h => by cases h
  | (_ :: _ :: _ :: _) :: r, _, h => by cases h
section
variable {X : Cx} {H0 : Hp} {qs : List Addr} {md : Bool} {Γ : List Sl} {tg it : Expr} {p : Pos}
theorem ei_lw {m : R (List (List Int))} {m' : R (List Lw)} (d : EvI X H0 qs md Γ tg it m) (he : m' = m.bind fun xs => R.ofO (twoO xs) := by rfl) : EvI X H0 qs md Γ tg it m' := fun σ H at_ E pe Rk q => by
  subst he
  refine d σ H at_ E pe Rk ((PX.bind q).mono (fun xs q2 J H1 s1 wk => ?_) fun _ z => z)
  obtain ⟨ys, e, k⟩ := PX.ofO q2
  obtain ⟨h1, h2⟩ := twoO_get e
  refine k J H1 s1 ⟨fun i H' hi s => wk.goes i H' (by omega) s, fun H' s => by rw [h1]; exact wk.stops H' s, fun i H' v H'' hi s hy => ?_⟩
  obtain ⟨s2, x, e1, e2⟩ := wk.yields i H' v H'' (by omega) s hy
  obtain ⟨y, f1, f2⟩ := h2 i x e1
  exact ⟨s2, y, f1, fun ps a b => by have := e2 ps a b; rw [f2] at this; exact this⟩
theorem eg_lw {x : Lw} {e1 e2 : Expr} {kk : Nat} {Γ1 Γ2 : List Sl} {i1 i2 : List Nat} (hc : X.calm = true) (g1 : EvG X Γ e1 x.a Γ1 i1) (g2 : EvG X Γ1 e2 x.b Γ2 i2)
    (hn : ∀ env, (assignEach [e1, e2] env).length = 2 := by intro _; rfl) (hst : ∀ env, (assignEach [e1, e2] env).findIdx? (·.1) = none := by intro _; rfl)
    (h1 : ∀ env, (assignEach [e1, e2] env).map (·.2) = assign e1 env :: (assignEach [e2] env).map (·.2) := by intro _; rfl) (h2 : ∀ env, (assignEach [e2] env).map (·.2) = assign e2 env :: (assignEach [] env).map (·.2) := by intro _; rfl) :
    EvG X Γ (.Tuple [e1, e2] kk p) x Γ2 (i1 ++ i2) := fun H0 qs σ H v at_ r Q k => by
  obtain ⟨q, vs, rfl, r1, r2⟩ : ∃ q vs, v = .ref q ∧ (Fz H (owA Γ σ ++ qs)) q = some (.lst vs) ∧ RepL X.K (Fz H (owA Γ σ ++ qs)) vs [x.a, x.b] := r
  have e := repI r2
  subst e
  refine wG_of (pg_lst hc (pgs_cons pg_w (pgs_cons pg_w pgs_nil (h2 X.env)) (h1 X.env)) (hn X.env) (hst X.env)) ⟨q, [.int x.a, .int x.b], rfl, SqL.of (Fz.some_iff.mp r1).2, rfl, .int x.a, [.int x.b], rfl, ?_⟩
  refine g1 H0 qs σ H (.int x.a) at_ rfl _ fun σ1 a1 o1 l1 k1 => ⟨.int x.b, [], rfl, ?_⟩
  refine g2 H0 qs σ1 H (.int x.b) a1 rfl _ fun σ2 a2 o2 l2 k2 => ⟨rfl, ?_⟩
  exact k σ2 a2 (o2.trans o1) (l2.trans l1) fun i hi => (k2 i fun z => hi (List.mem_append_right _ z)).trans (k1 i fun z => hi (List.mem_append_left _ z))
end
end Wk
set_option Elab.async false
set_option linter.all false
set_option maxRecDepth 100000
set_option maxHeartbeats 0
namespace Wk
open PySem PySem.Spec PyProof.Rows L2
def top (i : Nat) : Stmt := PySem.Challenge.pw_owinghall_k68_texts_refused.main.body.getD i (.Pass ⟨0, 0, 0, 0⟩)
abbrev s_tie_fits : Stmt := top 14
def dd_tie_fits : He.DefD := ⟨("tie_fits", none), "tie_fits", "tie_fits", defArgs s_tie_fits, defBody s_tie_fits, defScope s_tie_fits, [], []⟩
abbrev s_reached : Stmt := top 15
def dd_reached : He.DefD := ⟨("reached", none), "reached", "reached", defArgs s_reached, defBody s_reached, defScope s_reached, [], []⟩
abbrev s_made : Stmt := top 16
def dd_made : He.DefD := ⟨("made", none), "made", "made", defArgs s_made, defBody s_made, defScope s_made, [], []⟩
abbrev s_number_of : Stmt := top 21
def dd_number_of : He.DefD := ⟨("number_of", none), "number_of", "number_of", defArgs s_number_of, defBody s_number_of, defScope s_number_of, [], []⟩
abbrev s_read_number : Stmt := top 22
def dd_read_number : He.DefD := ⟨("read_number", none), "read_number", "read_number", defArgs s_read_number, defBody s_read_number, defScope s_read_number, [], []⟩
abbrev s_numbers_behind : Stmt := top 23
def dd_numbers_behind : He.DefD := ⟨("numbers_behind", none), "numbers_behind", "numbers_behind", defArgs s_numbers_behind, defBody s_numbers_behind, defScope s_numbers_behind, [], []⟩
abbrev s_tie_in : Stmt := top 24
def dd_tie_in : He.DefD := ⟨("tie_in", none), "tie_in", "tie_in", defArgs s_tie_in, defBody s_tie_in, defScope s_tie_in, [], []⟩
abbrev s_read : Stmt := top 25
def dd_read : He.DefD := ⟨("read", none), "read", "read", defArgs s_read, defBody s_read, defScope s_read, [], []⟩
abbrev s__law_cell_at : Stmt := top 27
def dd__law_cell_at : He.DefD := ⟨("_law_cell_at", none), "_law_cell_at", "_law_cell_at", defArgs s__law_cell_at, defBody s__law_cell_at, defScope s__law_cell_at, [], []⟩
abbrev s__law_number : Stmt := top 28
def dd__law_number : He.DefD := ⟨("_law_number", none), "_law_number", "_law_number", defArgs s__law_number, defBody s__law_number, defScope s__law_number, [], []⟩
abbrev s__law_web : Stmt := top 29
def dd__law_web : He.DefD := ⟨("_law_web", none), "_law_web", "_law_web", defArgs s__law_web, defBody s__law_web, defScope s__law_web, [], []⟩
abbrev s__law_gathered : Stmt := top 30
def dd__law_gathered : He.DefD := ⟨("_law_gathered", none), "_law_gathered", "_law_gathered", defArgs s__law_gathered, defBody s__law_gathered, defScope s__law_gathered, [], []⟩
abbrev s__law_row : Stmt := top 31
def dd__law_row : He.DefD := ⟨("_law_row", none), "_law_row", "_law_row", defArgs s__law_row, defBody s__law_row, defScope s__law_row, [], []⟩
abbrev s__law_text : Stmt := top 32
def dd__law_text : He.DefD := ⟨("_law_text", none), "_law_text", "_law_text", defArgs s__law_text, defBody s__law_text, defScope s__law_text, [], []⟩
abbrev s__law_due_number : Stmt := top 33
def dd__law_due_number : He.DefD := ⟨("_law_due_number", none), "_law_due_number", "_law_due_number", defArgs s__law_due_number, defBody s__law_due_number, defScope s__law_due_number, [], []⟩
abbrev s__law_numbers_in : Stmt := top 34
def dd__law_numbers_in : He.DefD := ⟨("_law_numbers_in", none), "_law_numbers_in", "_law_numbers_in", defArgs s__law_numbers_in, defBody s__law_numbers_in, defScope s__law_numbers_in, [], []⟩
abbrev s__law_in_one_piece : Stmt := top 35
def dd__law_in_one_piece : He.DefD := ⟨("_law_in_one_piece", none), "_law_in_one_piece", "_law_in_one_piece", defArgs s__law_in_one_piece, defBody s__law_in_one_piece, defScope s__law_in_one_piece, [], []⟩
abbrev s__law_due : Stmt := top 36
def dd__law_due : He.DefD := ⟨("_law_due", none), "_law_due", "_law_due", defArgs s__law_due, defBody s__law_due, defScope s__law_due, [], []⟩
abbrev s__law_found : Stmt := top 37
def dd__law_found : He.DefD := ⟨("_law_found", none), "_law_found", "_law_found", defArgs s__law_found, defBody s__law_found, defScope s__law_found, [], []⟩
abbrev s__law_other_word : Stmt := top 38
def dd__law_other_word : He.DefD := ⟨("_law_other_word", none), "_law_other_word", "_law_other_word", defArgs s__law_other_word, defBody s__law_other_word, defScope s__law_other_word, [], []⟩
abbrev s__law_spoiled : Stmt := top 39
def dd__law_spoiled : He.DefD := ⟨("_law_spoiled", none), "_law_spoiled", "_law_spoiled", defArgs s__law_spoiled, defBody s__law_spoiled, defScope s__law_spoiled, [], []⟩
abbrev s_law : Stmt := top 40
def dd_law : He.DefD := ⟨("law", none), "law", "law", defArgs s_law, defBody s_law, defScope s_law, [], []⟩
def fn : List He.DefD := [dd_tie_fits, dd_reached, dd_made, dd_number_of, dd_read_number, dd_numbers_behind, dd_tie_in, dd_read, dd__law_cell_at, dd__law_number, dd__law_web, dd__law_gathered, dd__law_row, dd__law_text, dd__law_due_number, dd__law_numbers_in, dd__law_in_one_piece, dd__law_due, dd__law_found, dd__law_other_word, dd__law_spoiled, dd_law]
def fa : List He.Fa := [.glo "OwingError", .exc "OwingError", .glo "BadWeb", .exc "BadWeb", .glo "Parted", .exc "Parted", .glo "BadStanding", .exc "BadStanding", .glo "BadHouse", .exc "BadHouse", .glo "BadOrder", .exc "BadOrder", .glo "BadNumber", .exc "BadNumber", .glo "TooWide", .exc "TooWide", .glo "NoBridge", .exc "NoBridge", .glo "NoText", .exc "NoText", .int "MOST_HOUSES" 8, .int "MOST_TIES" 16, .glo "tie_fits", .glo "reached", .glo "made", .str "FIGURES" "0123456789", .int "MOST_FIGURES" 4000, .int "MOST_READ" 60, .glo "number_of", .glo "read_number", .glo "numbers_behind", .glo "tie_in", .glo "read", .glo "_law_cell_at", .glo "_law_number", .glo "_law_web", .glo "_law_gathered", .glo "_law_row", .glo "_law_text", .glo "_law_due_number", .glo "_law_numbers_in", .glo "_law_in_one_piece", .glo "_law_due", .glo "_law_found", .glo "_law_other_word", .glo "_law_spoiled", .glo "law", .free "len", .free "range", .free "isinstance", .free "min", .free "max", .free "tuple", .free "sorted", .free "int", .free "str", .free "ValueError", .exm "BadWeb" "OwingError" true, .exm "BadWeb" "BadWeb" true, .exm "Parted" "OwingError" true, .exm "Parted" "Parted" true, .exm "BadStanding" "OwingError" true, .exm "BadStanding" "BadStanding" true, .exm "BadHouse" "OwingError" true, .exm "BadHouse" "BadHouse" true, .exm "BadOrder" "OwingError" true, .exm "BadOrder" "BadOrder" true, .exm "BadNumber" "OwingError" true, .exm "BadNumber" "BadNumber" true, .exm "TooWide" "OwingError" true, .exm "TooWide" "TooWide" true, .exm "NoBridge" "OwingError" true, .exm "NoBridge" "NoBridge" true, .exm "NoText" "OwingError" true, .exm "NoText" "NoText" true]
def fe : List Fe := [.nod, .exc "BadWeb", .kit "BadWeb" "BadStanding" false, .kit "BadWeb" "Parted" false, .kit "BadWeb" "BadWeb" true, .kit "BadWeb" "NoText" false, .kitB "BadWeb" "ValueError" true, .kit "BadWeb" "TooWide" false, .kit "BadWeb" "NoBridge" false, .kit "BadWeb" "BadOrder" false, .kit "BadWeb" "BadNumber" false, .kit "BadWeb" "BadHouse" false, .exc "Parted", .kit "Parted" "BadStanding" false, .kit "Parted" "Parted" true, .kit "Parted" "BadWeb" false, .kit "Parted" "NoText" false, .kitB "Parted" "ValueError" true, .kit "Parted" "TooWide" false, .kit "Parted" "NoBridge" false, .kit "Parted" "BadOrder" false, .kit "Parted" "BadNumber" false, .kit "Parted" "BadHouse" false, .exc "BadStanding", .kit "BadStanding" "BadStanding" true, .kit "BadStanding" "Parted" false, .kit "BadStanding" "BadWeb" false, .kit "BadStanding" "NoText" false, .kitB "BadStanding" "ValueError" true, .kit "BadStanding" "TooWide" false, .kit "BadStanding" "NoBridge" false, .kit "BadStanding" "BadOrder" false, .kit "BadStanding" "BadNumber" false, .kit "BadStanding" "BadHouse" false, .exc "NoText", .kit "NoText" "BadStanding" false, .kit "NoText" "Parted" false, .kit "NoText" "BadWeb" false, .kit "NoText" "NoText" true, .kitB "NoText" "ValueError" true, .kit "NoText" "TooWide" false, .kit "NoText" "NoBridge" false, .kit "NoText" "BadOrder" false, .kit "NoText" "BadNumber" false, .kit "NoText" "BadHouse" false]
def m_law_cell_at (t : Scr × Int × Unit) : R Int :=
  (if (decide (t.2.1 < (t.1.l.length : Int))) = true then (((ixR t.1.l t.2.1) : R Int).bind fun z1 => .ok z1) else (.ok (0 : Int)))
def m_law_web (t : Scr × Int × Int × Unit) : R (T3 Int (List (Int × Int)) Int) :=
  (((((m_law_cell_at (t.1, (0 : Int), ())) : R _).bind fun x2 => (((powR (10 : Int) (30 : Int)) : R _).bind fun x3 => (modR x2 x3))) : R Int).bind fun y4 => (((((modR y4 t.2.1) : R _).bind fun x5 => (.ok ((1 : Int) + x5))) : R Int).bind fun y6 => (((.ok ([] : (List (Int × Int)))) : R (List (Int × Int))).bind fun y7 => (((rngR (1 : Int) y6) : R _).bind fun x61 => (R.bind (forR (fun y9 s8 => (((((((((m_law_cell_at (t.1, y9, ())) : R _).bind fun x12 => (modR x12 y9)) : R _).bind fun x13 => (.ok (x13, (y9, ())))) : R _).bind fun x14 => (.ok (x14.1, x14.2.1))) : R _).bind fun x16 => ((appR s8 x16).bind fun y15 => (.ok y15)))) x61 y7) fun s8 : (List (Int × Int)) => (((((divR y4 t.2.1) : R _).bind fun x17 => (modR x17 t.2.2.1)) : R Int).bind fun y18 => (R.bind (if (pyEq y6 (1 : Int)) = true then (((.ok (0 : Int)) : R Int).bind fun y20 => (.ok y20)) else (.ok y18)) fun s19 : Int => (((rngR 0 s19) : R _).bind fun x60 => (R.bind (forR (fun y22 s21 => (((((m_law_cell_at (t.1, y6 + y22, ())) : R _).bind fun x25 => (((powR (10 : Int) (30 : Int)) : R _).bind fun x26 => (modR x25 x26))) : R Int).bind fun y27 => (((((((((modR y27 y6) : R _).bind fun x28 => (.ok (x28 + (1 : Int)))) : R _).bind fun x30 => (((((divR y27 y6) : R _).bind fun x29 => (modR x29 (y6 - (1 : Int)))) : R _).bind fun x31 => (.ok (x30 + x31)))) : R _).bind fun x32 => (modR x32 y6)) : R Int).bind fun y33 => (((((((modR y27 y6) : R _).bind fun x34 => (.ok (x34, (y33, ())))) : R _).bind fun x35 => (.ok (x35.1, x35.2.1))) : R _).bind fun x37 => ((appR s21 x37).bind fun y36 => (.ok y36)))))) x60 s8) fun s21 : (List (Int × Int)) => (((.ok ([] : (List Int))) : R (List Int)).bind fun y38 => (((((mulR t.2.1 (20 : Int)) : R _).bind fun x39 => (divR y4 x39)) : R Int).bind fun y40 => (((rngR 0 y6) : R _).bind fun x59 => (R.bind (forR (fun y42 s41 => (((((modR s41.2 (y42 + (1 : Int))) : R _).bind fun x45 => (.ok (y42 - x45))) : R _).bind fun x48 => ((insR s41.1 x48 y42).bind fun y46 => (((divR s41.2 (y42 + (1 : Int))) : R Int).bind fun y47 => (.ok (y46, y47)))))) x59 (y38, y40)) fun s41 : ((List Int) × Int) => (((mapR (fun y49 => (((((ixR s41.1 y49.1) : R _).bind fun x55 => (((((ixR s41.1 y49.2) : R _).bind fun x54 => (.ok (x54, (())))) : R _).bind fun x56 => (.ok (x55, x56)))) : R _).bind fun x57 => (.ok (x57.1, x57.2.1)))) s21) : R (List (Int × Int))).bind fun y58 => (.ok (T3.mk y6 y58 (y6 + s19)))))))))))))))))
def m_law_number (t : Int × Unit) : R Int :=
  (((((((powR (10 : Int) (59 : Int)) : R _).bind fun x72 => (mulR (2 : Int) x72)) : R _).bind fun x73 => (modR t.1 x73)) : R Int).bind fun y74 => (((((powR (10 : Int) (59 : Int)) : R _).bind fun x75 => (.ok (decide (x75 ≤ y74)))) : R Bool).bind fun c81 => R.bind (if c81 = true then (((((((powR (10 : Int) (59 : Int)) : R _).bind fun x77 => (mulR (2 : Int) x77)) : R _).bind fun x78 => (.ok (y74 - x78))) : R Int).bind fun y79 => (.ok y79)) else (.ok y74)) fun s76 : Int => (.ok s76)))
def m_law_gathered (t : (List Int) × Int × Unit) : R (List Int) :=
  (((repR ([(0 : Int)] : (List Int)) t.2.1) : R (List Int)).bind fun y63 => (((rngR 0 (t.1.length : Int)) : R _).bind fun x86 => (R.bind (forR (fun y65 s64 => (((modR y65 t.2.1) : R Int).bind fun y68 => (((((((((((ixR s64 y68) : R _).bind fun x69 => (mulR x69 (10007 : Int))) : R _).bind fun x70 => (((ixR t.1 y65) : R _).bind fun x71 => (.ok (x70 + x71)))) : R _).bind fun x82 => (.ok (x82, (())))) : R _).bind fun x83 => (m_law_number x83)) : R _).bind fun x85 => ((setR s64 y68 x85).bind fun y84 => (.ok y84))))) x86 y63) fun s64 : (List Int) => (.ok s64))))
def m_law_row (t : PySem.Str × (List Int) × Unit) : R PySem.Str :=
  (((.ok t.1) : R PySem.Str).bind fun y88 => (R.bind (forR (fun y90 s89 => (((((catS s89 (" " : PySem.Str)) : R _).bind fun x93 => (((strI y90) : R _).bind fun x94 => (catS x93 x94))) : R PySem.Str).bind fun y95 => (.ok y95))) t.2.1 y88) fun s89 : PySem.Str => (.ok s89)))
def m_law_text (t : Int × (List (Int × Int)) × (List Int) × Unit) : R PySem.Str :=
  (((((m_law_row (("houses" : PySem.Str), ([t.1] : (List Int)), ())) : R _).bind fun x96 => (.ok (x96 :: []))) : R (List PySem.Str)).bind fun y97 => (((mapR (fun y98 => (.ok (min y98.1 y98.2, max y98.1 y98.2))) t.2.1) : R (List (Int × Int))).bind fun y103 => (R.bind (forR (fun y105 s104 => (((m_law_row (("tie" : PySem.Str), ([y105.1, y105.2] : (List Int)), ())) : R _).bind fun x109 => ((appR s104 x109).bind fun y108 => (.ok y108)))) (sortP y103) y97) fun s104 : (List PySem.Str) => (((((((((m_law_row (("has" : PySem.Str), t.2.2.1, ())) : R _).bind fun x110 => (.ok (x110 :: []))) : R _).bind fun x111 => (catR s104 x111)) : R _).bind fun x112 => (joinS ("\n" : PySem.Str) x112)) : R PySem.Str).bind fun z113 => .ok z113))))
def m_law_other_word (t : Int × Unit) : R PySem.Str :=
  (((.ok ([("houses" : PySem.Str), ("tie" : PySem.Str), ("has" : PySem.Str), ("" : PySem.Str), ("-" : PySem.Str), ("-0" : PySem.Str), ("+1" : PySem.Str), ("1_0" : PySem.Str), ("00" : PySem.Str), ("0" : PySem.Str), ("1" : PySem.Str), ("2" : PySem.Str), ("3" : PySem.Str), ("5" : PySem.Str), ("7" : PySem.Str), ("8" : PySem.Str), ("9" : PySem.Str), ("-1" : PySem.Str)] : (List PySem.Str))) : R (List PySem.Str)).bind fun y142 => (((((((repStr ("9" : PySem.Str) (60 : Int)) : R _).bind fun x150 => (((((repStr ("9" : PySem.Str) (61 : Int)) : R _).bind fun x148 => (((((((repStr ("9" : PySem.Str) (60 : Int)) : R _).bind fun x143 => (catS ("-" : PySem.Str) x143)) : R _).bind fun x146 => (((((((repStr ("9" : PySem.Str) (61 : Int)) : R _).bind fun x144 => (catS ("-" : PySem.Str) x144)) : R _).bind fun x145 => (.ok (x145 :: []))) : R _).bind fun x147 => (.ok (x146 :: x147)))) : R _).bind fun x149 => (.ok (x148 :: x149)))) : R _).bind fun x151 => (.ok (x150 :: x151)))) : R _).bind fun x152 => (catR y142 x152)) : R (List PySem.Str)).bind fun y153 => (((((modR t.1 (y153.length : Int)) : R _).bind fun x154 => (ixR y153 x154)) : R PySem.Str).bind fun z155 => .ok z155)))
def m_law_spoiled (t : PySem.Str × Int × Unit) : R PySem.Str :=
  (((((powR (10 : Int) (40 : Int)) : R _).bind fun x119 => (modR t.2.1 x119)) : R Int).bind fun y120 => (((splitS t.1 ("\n" : PySem.Str)) : R (List PySem.Str)).bind fun y121 => (((((divR y120 (8 : Int)) : R _).bind fun x122 => (modR x122 (y121.length : Int))) : R Int).bind fun y123 => (((((ixR y121 y123) : R _).bind fun x124 => (splitS x124 (" " : PySem.Str))) : R (List PySem.Str)).bind fun y125 => (((((divR y120 (136 : Int)) : R _).bind fun x126 => (modR x126 (y125.length : Int))) : R Int).bind fun y127 => (((((modR y120 (8 : Int)) : R _).bind fun x128 => (.ok (pyEq x128 (1 : Int)))) : R Bool).bind fun c204 => if c204 = true then (((((catR (cutL y121 none (some y123)) (cutL y121 (some (y123 + (1 : Int))) none)) : R _).bind fun x129 => (joinS ("\n" : PySem.Str) x129)) : R PySem.Str).bind fun z130 => .ok z130) else (((((modR y120 (8 : Int)) : R _).bind fun x131 => (.ok (pyEq x131 (2 : Int)))) : R Bool).bind fun c203 => if c203 = true then (((((catR (cutL y121 none (some (y123 + (1 : Int)))) (cutL y121 (some y123) none)) : R _).bind fun x132 => (joinS ("\n" : PySem.Str) x132)) : R PySem.Str).bind fun z133 => .ok z133) else (((((modR y120 (8 : Int)) : R _).bind fun x134 => (.ok (pyEq x134 (3 : Int)))) : R Bool).bind fun c202 => if c202 = true then ((popR y121 y123).bind fun u135 => (((((divR y120 (136 : Int)) : R _).bind fun x136 => (modR x136 ((u135.2.length : Int) + (1 : Int)))) : R _).bind fun x139 => ((insR u135.2 x139 u135.1).bind fun y137 => (((joinS ("\n" : PySem.Str) y137) : R PySem.Str).bind fun z138 => .ok z138)))) else (((((modR y120 (8 : Int)) : R _).bind fun x140 => (.ok (pyEq x140 (4 : Int)))) : R Bool).bind fun c201 => R.bind (if c201 = true then (((((((divR y120 (1360 : Int)) : R _).bind fun x156 => (.ok (x156, (())))) : R _).bind fun x157 => (m_law_other_word x157)) : R _).bind fun x159 => ((setR y125 y127 x159).bind fun y158 => (.ok y158))) else (.ok y125)) fun s141 : (List PySem.Str) => (((((modR y120 (8 : Int)) : R _).bind fun x160 => (.ok (pyEq x160 (5 : Int)))) : R Bool).bind fun c199 => R.bind (if c199 = true then (((((((divR y120 (1360 : Int)) : R _).bind fun x162 => (.ok (x162, (())))) : R _).bind fun x163 => (m_law_other_word x163)) : R _).bind fun x165 => ((insR s141 (y127 + (1 : Int)) x165).bind fun y164 => (.ok y164))) else (.ok s141)) fun s161 : (List PySem.Str) => (((((modR y120 (8 : Int)) : R _).bind fun x166 => (.ok (pyEq x166 (6 : Int)))) : R Bool).bind fun c197 => R.bind (if c197 = true then ((popR s161 y127).bind fun u169 => (fun y168 => (.ok y168)) u169.2) else (.ok s161)) fun s167 : (List PySem.Str) => (((((modR y120 (8 : Int)) : R _).bind fun x170 => (.ok (pyEq x170 (7 : Int)))) : R Bool).bind fun c195 => R.bind (if c195 = true then (((((divR y120 (136 : Int)) : R _).bind fun x174 => (((((((ixR y121 y123) : R _).bind fun x172 => (R.chk (decide (x172.length ≤ 16777216)) (x172.length : Int))) : R _).bind fun x173 => (.ok (x173 + (1 : Int)))) : R _).bind fun x175 => (modR x174 x175))) : R Int).bind fun y176 => (((((((divR y120 (1360 : Int)) : R _).bind fun x177 => (modR x177 (8 : Int))) : R _).bind fun x178 => (ixStr (" \n0-x_+." : PySem.Str) x178)) : R PySem.Str).bind fun y179 => (((((((((((ixR y121 y123) : R _).bind fun x181 => (slStr x181 none (some y176))) : R _).bind fun x182 => (catS x182 y179)) : R _).bind fun x185 => (((((ixR y121 y123) : R _).bind fun x184 => (slStr x184 (some y176) none)) : R _).bind fun x186 => (catS x185 x186))) : R _).bind fun x187 => (.ok (x187 :: []))) : R (List PySem.Str)).bind fun y188 => (.ok y188)))) else (.ok s167)) fun s171 : (List PySem.Str) => (((((((((((joinS (" " : PySem.Str) s171) : R _).bind fun x189 => (.ok (x189 :: []))) : R _).bind fun x190 => (catR (cutL y121 none (some y123)) x190)) : R _).bind fun x191 => (catR x191 (cutL y121 (some (y123 + (1 : Int))) none))) : R _).bind fun x192 => (joinS ("\n" : PySem.Str) x192)) : R PySem.Str).bind fun z193 => .ok z193)))))))))))))
def m_law_due_number (t : PySem.Str × Int × Unit) : R (Option Int) :=
  (((.ok t.1) : R PySem.Str).bind fun y222 => (((((slStr t.1 none (some (1 : Int))) : R _).bind fun x223 => (.ok (pyEq x223 ("-" : PySem.Str)))) : R Bool).bind fun c239 => R.bind (if c239 = true then (((slStr t.1 (some (1 : Int)) none) : R PySem.Str).bind fun y225 => (.ok y225)) else (.ok y222)) fun s224 : PySem.Str => (((if (pyEq s224 ("" : PySem.Str)) = true then R.ok true else (((R.chk (decide (s224.length ≤ 16777216)) (s224.length : Int)) : R _).bind fun x226 => (.ok (decide (t.2.1 < x226))))) : R Bool).bind fun c237 => if c237 = true then (.ok none) else (R.ct (forM (fun y228 s227 => ((((inStr y228 ("0123456789" : PySem.Str)).bind fun b => .ok (!b)) : R Bool).bind fun c231 => if c231 = true then (.ok (.rt none)) else (.ok (.nx ())))) (signs s224) ()) fun s227 : Unit => (((((((ixStr s224 (0 : Int)) : R _).bind fun x232 => (.ok (pyEq x232 ("0" : PySem.Str)))) : R _).bind fun x233 => (if x233 = true then (R.ok (!pyEq t.1 ("0" : PySem.Str))) else R.ok false)) : R Bool).bind fun c236 => if c236 = true then (.ok none) else (((((intStr t.1) : R _).bind fun x234 => (.ok (some x234))) : R (Option Int)).bind fun z235 => .ok z235))))))
def m_law_numbers_in (t : PySem.Str × PySem.Str × Unit) : R (Option (List Int)) :=
  (((splitS t.1 (" " : PySem.Str)) : R (List PySem.Str)).bind fun y216 => (((mapR (fun y217 => (m_law_due_number (y217, (60 : Int), ()))) (cutL y216 (some (1 : Int)) none)) : R (List (Option Int))).bind fun y240 => (((((((ixR y216 (0 : Int)) : R _).bind fun x241 => (.ok (!pyEq x241 t.2.1))) : R _).bind fun x242 => (if x242 = true then R.ok true else (R.ok ((y240).any (fun z => pyEq z (none : (Option Int))))))) : R Bool).bind fun c246 => if c246 = true then (.ok none) else (((((allS y240) : R _).bind fun x244 => (.ok (some x244))) : R (Option (List Int))).bind fun z245 => .ok z245))))
def m_law_in_one_piece (t : Int × (List (List Int)) × Unit) : R Bool :=
  (((.ok ([(0 : Int)] : (List Int))) : R (List Int)).bind fun y284 => (((rngR 0 t.1) : R _).bind fun x298 => (R.bind (forR (fun y286 s285 => (((R.ofO (twoO t.2.1)) : R _).bind fun x297 => (R.bind (forR (fun y290 s289 => (R.bind (if (!pyEq (decide (y290.a ∈ s289)) (decide (y290.b ∈ s289))) = true then (((((if (decide (y290.a ∈ s289)) = true then ((.ok y290.a) : R Int) else (.ok y290.b)) : R _).bind fun x294 => (.ok ((y290.a + y290.b) - x294))) : R _).bind fun x296 => ((appR s289 x296).bind fun y295 => (.ok y295))) else (.ok s289)) fun s293 : (List Int) => (.ok s293))) x297 s285) fun s289 : (List Int) => (.ok s289)))) x298 y284) fun s285 : (List Int) => (.ok (pyEq (s285.length : Int) t.1)))))
def m_law_due (t : PySem.Str × Unit) : R ((T1 PySem.Str) ⊕ ((Int × (Tu (Int × Int))) × (List Int))) :=
  (((splitS t.1 ("\n" : PySem.Str)) : R (List PySem.Str)).bind fun y215 => (if (decide ((y215.length : Int) < (2 : Int))) = true then (.ok (Sum.inl (T1.mk ("text" : PySem.Str)) : ((T1 PySem.Str) ⊕ ((Int × (Tu (Int × Int))) × (List Int))))) else (((((((ixR y215 (0 : Int)) : R _).bind fun x247 => (.ok (x247, (("houses" : PySem.Str), ())))) : R _).bind fun x248 => (m_law_numbers_in x248)) : R (Option (List Int))).bind fun y249 => (((mapR (fun y250 => (m_law_numbers_in (y250, ("tie" : PySem.Str), ()))) (cutL y215 (some (1 : Int)) (some (-(1 : Int))))) : R (List (Option (List Int)))).bind fun y255 => (((((((ixR y215 (-(1 : Int))) : R _).bind fun x256 => (.ok (x256, (("has" : PySem.Str), ())))) : R _).bind fun x257 => (m_law_numbers_in x257)) : R (Option (List Int))).bind fun y258 => (((if (Option.isNone y249) = true then R.ok true else (((((((R.ofO y249) : R _).bind fun x259 => (.ok (x259.length : Int))) : R _).bind fun x260 => (.ok (!pyEq x260 (1 : Int)))) : R _).bind fun x261 => (if x261 = true then R.ok true else (if (Option.isNone y258) = true then R.ok true else (if (pyEq y258 (some ([] : (List Int)) : (Option (List Int)))) = true then R.ok true else (R.ok ((y255).any (fun z => pyEq z (none : (Option (List Int))))))))))) : R Bool).bind fun c336 => if c336 = true then (.ok (Sum.inl (T1.mk ("text" : PySem.Str)) : ((T1 PySem.Str) ⊕ ((Int × (Tu (Int × Int))) × (List Int))))) else (((((((allS y255) : R _).bind fun x267 => (compR (fun y262 => (if (!pyEq (y262.length : Int) (2 : Int)) = true then (R.ok (some y262)) else R.ok none)) x267)) : R _).bind fun x268 => (.ok (!pyEq x268 ([] : (List (List Int)))))) : R Bool).bind fun c335 => if c335 = true then (.ok (Sum.inl (T1.mk ("text" : PySem.Str)) : ((T1 PySem.Str) ⊕ ((Int × (Tu (Int × Int))) × (List Int))))) else (((((((((((R.ofO y249) : R _).bind fun x269 => (ixR x269 (0 : Int))) : R _).bind fun x270 => (if decide ((1 : Int) ≤ x270) = true then (R.ok (decide (x270 ≤ (8 : Int)))) else R.ok false)) : R _).bind fun x271 => (.ok (!x271))) : R _).bind fun x274 => (if x274 = true then R.ok true else (((((allS y255) : R _).bind fun x272 => (.ok (x272.length : Int))) : R _).bind fun x273 => (.ok (decide ((16 : Int) < x273)))))) : R Bool).bind fun c334 => if c334 = true then (.ok (Sum.inl (T1.mk ("web" : PySem.Str)) : ((T1 PySem.Str) ⊕ ((Int × (Tu (Int × Int))) × (List Int))))) else (((((allS y255) : R _).bind fun x275 => (R.ofO (twoO x275))) : R _).bind fun x333 => (R.ct (forM (fun y277 s276 => (((if (pyEq y277.a y277.b) = true then R.ok true else (if (decide (min y277.a y277.b < (0 : Int))) = true then R.ok true else (((((R.ofO y249) : R _).bind fun x280 => (ixR x280 (0 : Int))) : R _).bind fun x281 => (.ok (decide (x281 ≤ max y277.a y277.b)))))) : R Bool).bind fun c282 => if c282 = true then (.ok (.rt (Sum.inl (T1.mk ("web" : PySem.Str)) : ((T1 PySem.Str) ⊕ ((Int × (Tu (Int × Int))) × (List Int)))))) else (.ok (.nx ())))) x333 ()) fun s276 : Unit => (((((((((((R.ofO y249) : R _).bind fun x283 => (ixR x283 (0 : Int))) : R _).bind fun x300 => (((((allS y255) : R _).bind fun x299 => (.ok (x299, (())))) : R _).bind fun x301 => (.ok (x300, x301)))) : R _).bind fun x302 => (m_law_in_one_piece x302)) : R _).bind fun x303 => (.ok (!x303))) : R Bool).bind fun c332 => if c332 = true then (.ok (Sum.inl (T1.mk ("parted" : PySem.Str)) : ((T1 PySem.Str) ⊕ ((Int × (Tu (Int × Int))) × (List Int))))) else (((((((R.ofO y258) : R _).bind fun x304 => (.ok (x304.length : Int))) : R _).bind fun x306 => (((((R.ofO y249) : R _).bind fun x305 => (ixR x305 (0 : Int))) : R _).bind fun x307 => (.ok (!pyEq x306 x307)))) : R Bool).bind fun c331 => if c331 = true then (.ok (Sum.inl (T1.mk ("standing" : PySem.Str)) : ((T1 PySem.Str) ⊕ ((Int × (Tu (Int × Int))) × (List Int))))) else (((((((((((((((R.ofO y249) : R _).bind fun x308 => (ixR x308 (0 : Int))) : R _).bind fun x322 => (((((((((((allS y255) : R _).bind fun x318 => (mapR (fun y309 => (((((R.ofO (minL y309)) : R _).bind fun x315 => (((((R.ofO (maxL y309)) : R _).bind fun x314 => (.ok (x314, (())))) : R _).bind fun x316 => (.ok (x315, x316)))) : R _).bind fun x317 => (.ok (x317.1, x317.2.1)))) x318)) : R _).bind fun x319 => (.ok (sortP x319))) : R _).bind fun x320 => (.ok (Tu.mk x320))) : R _).bind fun x321 => (.ok (x321, (())))) : R _).bind fun x323 => (.ok (x322, x323)))) : R _).bind fun x324 => (.ok (x324.1, x324.2.1))) : R _).bind fun x326 => (((((R.ofO y258) : R _).bind fun x325 => (.ok (x325, (())))) : R _).bind fun x327 => (.ok (x326, x327)))) : R _).bind fun x328 => (.ok (x328.1, x328.2.1))) : R _).bind fun x329 => (.ok (Sum.inr x329 : ((T1 PySem.Str) ⊕ ((Int × (Tu (Int × Int))) × (List Int)))))) : R ((T1 PySem.Str) ⊕ ((Int × (Tu (Int × Int))) × (List Int)))).bind fun z330 => .ok z330)))))))))))))
def m_number_of (t : PySem.Str × Unit) : R Int :=
  (((.ok t.1) : R PySem.Str).bind fun y352 => (((((slStr t.1 none (some (1 : Int))) : R _).bind fun x353 => (.ok (pyEq x353 ("-" : PySem.Str)))) : R Bool).bind fun c368 => R.bind (if c368 = true then (((slStr t.1 (some (1 : Int)) none) : R PySem.Str).bind fun y355 => (.ok y355)) else (.ok y352)) fun s354 : PySem.Str => (((if (pyEq s354 ("" : PySem.Str)) = true then R.ok true else (((R.chk (decide (s354.length ≤ 16777216)) (s354.length : Int)) : R _).bind fun x356 => (.ok (decide ((4000 : Int) < x356))))) : R Bool).bind fun c366 => if c366 = true then (.exc .noText) else (R.bind (forR (fun y358 s357 => ((((inStr y358 ("0123456789" : PySem.Str)).bind fun b => .ok (!b)) : R Bool).bind fun c361 => if c361 = true then (.exc .noText) else (.ok ()))) (signs s354) ()) fun s357 : Unit => (((((((ixStr s354 (0 : Int)) : R _).bind fun x362 => (.ok (pyEq x362 ("0" : PySem.Str)))) : R _).bind fun x363 => (if x363 = true then (R.ok (!pyEq t.1 ("0" : PySem.Str))) else R.ok false)) : R Bool).bind fun c365 => if c365 = true then (.exc .noText) else (((intStr t.1) : R Int).bind fun z364 => .ok z364))))))
def m_read_number (t : PySem.Str × Unit) : R Int :=
  (((m_number_of (t.1, ())) : R Int).bind fun y369 => (((((((R.chk (decide (t.1.length ≤ 16777216)) (t.1.length : Int)) : R _).bind fun x370 => (.ok (decide ((60 : Int) < x370)))) : R _).bind fun x374 => (if x374 = true then (((((ixStr t.1 (0 : Int)) : R _).bind fun x371 => (.ok (!pyEq x371 ("-" : PySem.Str)))) : R _).bind fun x373 => (if x373 = true then R.ok true else (((R.chk (decide (t.1.length ≤ 16777216)) (t.1.length : Int)) : R _).bind fun x372 => (.ok (decide ((60 : Int) + (1 : Int) < x372)))))) else R.ok false)) : R Bool).bind fun c375 => if c375 = true then (.exc .noText) else (.ok y369)))
def m_numbers_behind (t : PySem.Str × PySem.Str × Unit) : R (List Int) :=
  (((splitS t.2.1 (" " : PySem.Str)) : R (List PySem.Str)).bind fun y345 => (((((ixR y345 (0 : Int)) : R _).bind fun x346 => (.ok (!pyEq x346 t.1))) : R Bool).bind fun c377 => if c377 = true then (.exc .noText) else (((mapXR (fun y347 => (m_read_number (y347, ()))) (cutL y345 (some (1 : Int)) none)) : R (List Int)).bind fun z376 => .ok z376)))
def m_tie_in (t : PySem.Str × Unit) : R (Int × Int) :=
  (((m_numbers_behind (("tie" : PySem.Str), t.1, ())) : R (List Int)).bind fun y387 => (if (!pyEq (y387.length : Int) (2 : Int)) = true then (.exc .noText) else (((((((ixR y387 (0 : Int)) : R _).bind fun x389 => (((((ixR y387 (1 : Int)) : R _).bind fun x388 => (.ok (x388, (())))) : R _).bind fun x390 => (.ok (x389, x390)))) : R _).bind fun x391 => (.ok (x391.1, x391.2.1))) : R (Int × Int)).bind fun z392 => .ok z392)))
def m_tie_fits (t : Int × (Int × Int) × Unit) : R Bool :=
  (((if (!pyEq t.2.1.1 t.2.1.2) = true then (if (decide ((0 : Int) ≤ min t.2.1.1 t.2.1.2)) = true then (R.ok (decide (max t.2.1.1 t.2.1.2 < t.1))) else R.ok false) else R.ok false) : R Bool).bind fun z402 => .ok z402)
def m_reached (t : Int × (List (Int × Int)) × Unit) : R (List Int) :=
  (((((rngR 0 t.1) : R _).bind fun x410 => (mapR (fun y405 => (.ok (pyEq y405 (0 : Int)))) x410)) : R (List Bool)).bind fun y411 => (((.ok true) : R Bool).bind fun y412 => (R.bind (whileR (fun s413 => (.ok s413.2)) (fun s413 => (((.ok false) : R Bool).bind fun y414 => (R.bind (forR (fun y416 s415 => (((((ixR s415.1 y416.1) : R _).bind fun x419 => (((ixR s415.1 y416.2) : R _).bind fun x420 => (.ok (!pyEq x419 x420)))) : R Bool).bind fun c426 => R.bind (if c426 = true then ((setR s415.1 y416.1 true).bind fun y422 => ((setR y422 y416.2 true).bind fun y423 => (((.ok true) : R Bool).bind fun y424 => (.ok (y423, y424))))) else (.ok (s415.1, s415.2))) fun s421 : ((List Bool) × Bool) => (.ok (s421.1, s421.2)))) t.2.1 (s413.1, y414)) fun s415 : ((List Bool) × Bool) => (.ok (s415.1, s415.2))))) fuel (y411, y412)) fun s413 : ((List Bool) × Bool) => (((((rngR 0 t.1) : R _).bind fun x433 => (compR (fun y427 => (((ixR s413.1 y427) : R _).bind fun x432 => (if x432 = true then (R.ok (some y427)) else R.ok none))) x433)) : R (List Int)).bind fun z434 => .ok z434))))
def m_made (t : Int × (List (Int × Int)) × Unit) : R (Int × (Tu (Int × Int))) :=
  (((if (decide (t.1 < (1 : Int))) = true then R.ok true else (if (decide ((8 : Int) < t.1)) = true then R.ok true else (R.ok (decide ((16 : Int) < (t.2.1.length : Int)))))) : R Bool).bind fun c449 => if c449 = true then (.exc .badWeb) else (R.bind (forR (fun y399 s398 => (((((m_tie_fits (t.1, y399, ())) : R _).bind fun x403 => (.ok (!x403))) : R Bool).bind fun c404 => if c404 = true then (.exc .badWeb) else (.ok ()))) t.2.1 ()) fun s398 : Unit => (((((((m_reached (t.1, t.2.1, ())) : R _).bind fun x435 => (.ok (x435.length : Int))) : R _).bind fun x436 => (.ok (decide (x436 < t.1)))) : R Bool).bind fun c448 => if c448 = true then (.exc .parted) else (((((((((((((mapR (fun y437 => (.ok (min y437.1 y437.2, max y437.1 y437.2))) t.2.1) : R _).bind fun x442 => (.ok (sortP x442))) : R _).bind fun x443 => (.ok (Tu.mk x443))) : R _).bind fun x444 => (.ok (x444, (())))) : R _).bind fun x445 => (.ok (t.1, x445))) : R _).bind fun x446 => (.ok (x446.1, x446.2.1))) : R (Int × (Tu (Int × Int)))).bind fun z447 => .ok z447))))
def m_read (t : PySem.Str × Unit) : R ((Int × (Tu (Int × Int))) × (List Int)) :=
  (((splitS t.1 ("\n" : PySem.Str)) : R (List PySem.Str)).bind fun y344 => (if (decide ((y344.length : Int) < (2 : Int))) = true then (.exc .noText) else (((((((((ixR y344 (0 : Int)) : R _).bind fun x378 => (.ok (x378, (())))) : R _).bind fun x379 => (.ok (("houses" : PySem.Str), x379))) : R _).bind fun x380 => (m_numbers_behind x380)) : R (List Int)).bind fun y381 => (if (!pyEq (y381.length : Int) (1 : Int)) = true then (.exc .noText) else (((mapXR (fun y382 => (m_tie_in (y382, ()))) (cutL y344 (some (1 : Int)) (some (-(1 : Int))))) : R (List (Int × Int))).bind fun y393 => (((((((((ixR y344 (-(1 : Int))) : R _).bind fun x394 => (.ok (x394, (())))) : R _).bind fun x395 => (.ok (("has" : PySem.Str), x395))) : R _).bind fun x396 => (m_numbers_behind x396)) : R (List Int)).bind fun y397 => (if (pyEq y397 ([] : (List Int))) = true then (.exc .noText) else (((((((ixR y381 (0 : Int)) : R _).bind fun x450 => (.ok (x450, (y393, ())))) : R _).bind fun x451 => (m_made x451)) : R (Int × (Tu (Int × Int)))).bind fun y452 => (((((ixR y381 (0 : Int)) : R _).bind fun x453 => (.ok (!pyEq (y397.length : Int) x453))) : R Bool).bind fun c454 => if c454 = true then (.exc .badStanding) else (.ok (y452, y397)))))))))))
def m_law_found (t : PySem.Str × Unit) : R ((T1 PySem.Str) ⊕ ((Int × (Tu (Int × Int))) × (List Int))) :=
  (((.ok (none : (Option ((Int × (Tu (Int × Int))) × (List Int))))) : R (Option ((Int × (Tu (Int × Int))) × (List Int)))).bind fun y338 => (((.ok ([] : (List Bool))) : R (List Bool)).bind fun y339 => (R.bind (R.tryR (S := ((Option ((Int × (Tu (Int × Int))) × (List Int))) × (List Bool))) (((((m_read (t.1, ())) : R _).bind fun x455 => (.ok (some x455 : (Option ((Int × (Tu (Int × Int))) × (List Int)))))) : R (Option ((Int × (Tu (Int × Int))) × (List Int)))).bind fun y456 => .ok (y456, y339)) (fun cc => match cc with | .badWeb => R.sure ((((.ok ([false, true, false, false] : (List Bool))) : R (List Bool)).bind fun y462 => ((appR y462 (!true)).bind fun y463 => ((appR y463 false).bind fun y464 => (.ok (y338, y464))))) : R ((Option ((Int × (Tu (Int × Int))) × (List Int))) × (List Bool))) | .parted => R.sure ((((.ok ([false, false, true, false] : (List Bool))) : R (List Bool)).bind fun y470 => ((appR y470 (!true)).bind fun y471 => ((appR y471 false).bind fun y472 => (.ok (y338, y472))))) : R ((Option ((Int × (Tu (Int × Int))) × (List Int))) × (List Bool))) | .badStanding => R.sure ((((.ok ([false, false, false, true] : (List Bool))) : R (List Bool)).bind fun y478 => ((appR y478 (!true)).bind fun y479 => ((appR y479 false).bind fun y480 => (.ok (y338, y480))))) : R ((Option ((Int × (Tu (Int × Int))) × (List Int))) × (List Bool))) | .noText => R.sure ((((.ok ([true, false, false, false] : (List Bool))) : R (List Bool)).bind fun y486 => ((appR y486 (!true)).bind fun y487 => ((appR y487 false).bind fun y488 => (.ok (y338, y488))))) : R ((Option ((Int × (Tu (Int × Int))) × (List Int))) × (List Bool))) | _ => .stuck)) fun s340 : ((Option ((Int × (Tu (Int × Int))) × (List Int))) × (List Bool)) => (if (pyEq s340.2 ([] : (List Bool))) = true then (((((R.ofO s340.1) : R _).bind fun x489 => (.ok (Sum.inr x489 : ((T1 PySem.Str) ⊕ ((Int × (Tu (Int × Int))) × (List Int)))))) : R ((T1 PySem.Str) ⊕ ((Int × (Tu (Int × Int))) × (List Int)))).bind fun z490 => .ok z490) else (((((((compR (fun y491 => (if y491 = true then (R.ok (some y491)) else R.ok none)) s340.2) : R _).bind fun x496 => (.ok (x496.length : Int))) : R _).bind fun x497 => (.ok (!pyEq x497 (1 : Int)))) : R Bool).bind fun c503 => if c503 = true then (.ok (Sum.inl (T1.mk ("two" : PySem.Str)) : ((T1 PySem.Str) ⊕ ((Int × (Tu (Int × Int))) × (List Int))))) else (((((((((((idxR s340.2 true) : R _).bind fun x498 => (ixR ([("text" : PySem.Str), ("web" : PySem.Str), ("parted" : PySem.Str), ("standing" : PySem.Str), ("value" : PySem.Str), ("other" : PySem.Str)] : (List PySem.Str)) x498)) : R _).bind fun x499 => (.ok (x499, (())))) : R _).bind fun x500 => (.ok (T1.mk x500.1))) : R _).bind fun x501 => (.ok (Sum.inl x501 : ((T1 PySem.Str) ⊕ ((Int × (Tu (Int × Int))) × (List Int)))))) : R ((T1 PySem.Str) ⊕ ((Int × (Tu (Int × Int))) × (List Int)))).bind fun z502 => .ok z502))))))
def m_law (t : Scr × Unit) : R Bool :=
  (((m_law_web (t.1, (8 : Int), (11 : Int), ())) : R (T3 Int (List (Int × Int)) Int)).bind fun y62 => (((m_law_gathered (cutL t.1.l (some y62.c) (some (y62.c + (200 : Int))), y62.a, ())) : R (List Int)).bind fun y87 => (((m_law_text (y62.a, cutL y62.b none (some (16 : Int)), y87, ())) : R PySem.Str).bind fun y114 => (((catR ([(0 : Int)] : (List Int)) (cutL t.1.l (some y62.c) (some (y62.c + (30 : Int))))) : R _).bind fun x507 => (R.ct (forM (fun y116 s115 => (((m_law_spoiled (y114, y116, ())) : R PySem.Str).bind fun y205 => (((((((((((((divR y116 (5440 : Int)) : R _).bind fun x206 => (.ok (x206, (())))) : R _).bind fun x207 => (.ok (y205, x207))) : R _).bind fun x208 => (m_law_spoiled x208)) : R _).bind fun x209 => (.ok (x209 :: []))) : R _).bind fun x210 => (.ok (y205 :: x210))) : R _).bind fun x506 => (R.ct (forM (fun y212 s211 => (((m_law_due (y212, ())) : R ((T1 PySem.Str) ⊕ ((Int × (Tu (Int × Int))) × (List Int)))).bind fun y337 => (((((m_law_found (y212, ())) : R _).bind fun x504 => (.ok (!pyEq x504 y337))) : R Bool).bind fun c505 => if c505 = true then (.ok (.rt (.rt false))) else (.ok (.nx ()))))) x506 ()) fun s211 : Unit => (.ok (.nx ())))))) x507 ()) fun s115 : Unit => (.ok true))))))
theorem sc_law_cell_at : FnScope ["script", "k"] ["script", "k"] dd__law_cell_at.scope := ⟨rfl, rfl, rfl, by decide +kernel, rfl, by decide +kernel, by decide +kernel⟩
theorem bn_law_cell_at : BindE dd__law_cell_at ["script", "k"] := fun _ _ _ _ _ _ us hl => match us, hl with | [_, _], _ => rfl
theorem b_law_cell_at {k : Nat} (hk : 0 ≤ k) (X : Cx) (C : Cb fe fa fn X (["script", "k"] : List PySem.Str) dd__law_cell_at.scope k) (H0 : Hp) (qs : List Addr) (rt : VK) (A : Int → Prop) (B : Exc → Prop) (fr : Fr X H0 B) (hR : RtF (ρ := Int) X H0 qs rt A) (t : Scr × Int × Unit) :
    W X H0 qs rt (fun _ H => rt .non H) A B [.fr (α := Scr) t.1, .fr (α := Int) t.2.1] dd__law_cell_at.body (m_law_cell_at t) := by
  have n0 : Nm X 0 "script" := nm_mk C.hX.toXN (by decide +kernel)
  have n1 : Nm X 1 "k" := nm_mk C.hX.toXN (by decide +kernel)
  have g_len : Gn X "len" := gn_mk C.hX.toXN (by decide +kernel)
  have f_len : X.mg "len" = none := C.fc.free 47
  refine w_ifR (ma := (((ixR t.1.l t.2.1) : R Int).bind fun z1 => .ok z1)) (mc := (.ok (decide (t.2.1 < (t.1.l.length : Int))))) fr (et_lt (ma := true) (mb := true) (ev_var (md := true) n1 rfl rfl) (ev_lenS (ma := true) (md := true) g_len f_len (ev_var (md := true) n0 rfl rfl) rfl) rfl) (fun nx' => ?_) ?_ (he := by rfl)
  · skip
    exact w_ret (m1 := (ixR t.1.l t.2.1)) (g := fun z => z) fr hR (ev_ixS (ma := true) (mb := true) (md := true) (ev_var (md := true) n0 rfl rfl) (ev_var (md := true) n1 rfl rfl) rfl) (fun _ h => h) rfl
  exact w_ret (m1 := (.ok (0 : Int))) (g := fun z => z) fr hR (ev_int (md := true) rfl) (fun _ h => h) rfl
theorem gd_law_cell_at {P : Program} {w : World} {K : PySem.W.Frag} {mg : PySem.Str → Option Value} {base : Heap} (fc : Fac fe fa fn K mg) : Gd P w K mg base "_law_cell_at" (spF K (τ := Scr × Int × Unit) (ρ := Int) 2 m_law_cell_at) 2 1 :=
  gd_F 8 33 fc rfl rfl sc_law_cell_at rfl bn_law_cell_at fun X _ _ _ _ _ C H0 qs rt A B fr hR t => b_law_cell_at (by omega) X C H0 qs rt A B fr hR t
theorem sc_law_web : FnScope ["script", "most", "more", "one", "houses", "ties", "k", "many", "cell", "other", "names", "rest", "house", "pair"] ["script", "most", "more"] dd__law_web.scope := ⟨rfl, rfl, rfl, by decide +kernel, rfl, by decide +kernel, by decide +kernel⟩
theorem bn_law_web : BindE dd__law_web ["script", "most", "more"] := fun _ _ _ _ _ _ us hl => match us, hl with | [_, _, _], _ => rfl
theorem b_law_web {k : Nat} (hk : 1 ≤ k) (X : Cx) (C : Cb fe fa fn X (["script", "most", "more", "one", "houses", "ties", "k", "many", "cell", "other", "names", "rest", "house", "pair"] : List PySem.Str) dd__law_web.scope k) (H0 : Hp) (qs : List Addr) (rt : VK) (A : (T3 Int (List (Int × Int)) Int) → Prop) (B : Exc → Prop) (fr : Fr X H0 B) (hR : RtF (ρ := (T3 Int (List (Int × Int)) Int)) X H0 qs rt A) (t : Scr × Int × Int × Unit) :
    W X H0 qs rt (fun _ H => rt .non H) A B [.fr (α := Scr) t.1, .fr (α := Int) t.2.1, .fr (α := Int) t.2.2.1, .un, .un, .un, .un, .un, .un, .un, .un, .un, .un, .un] dd__law_web.body (m_law_web t) := by
  have n0 : Nm X 0 "script" := nm_mk C.hX.toXN (by decide +kernel)
  have n1 : Nm X 1 "most" := nm_mk C.hX.toXN (by decide +kernel)
  have n2 : Nm X 2 "more" := nm_mk C.hX.toXN (by decide +kernel)
  have n3 : Nm X 3 "one" := nm_mk C.hX.toXN (by decide +kernel)
  have n4 : Nm X 4 "houses" := nm_mk C.hX.toXN (by decide +kernel)
  have n5 : Nm X 5 "ties" := nm_mk C.hX.toXN (by decide +kernel)
  have n6 : Nm X 6 "k" := nm_mk C.hX.toXN (by decide +kernel)
  have n7 : Nm X 7 "many" := nm_mk C.hX.toXN (by decide +kernel)
  have n8 : Nm X 8 "cell" := nm_mk C.hX.toXN (by decide +kernel)
  have n9 : Nm X 9 "other" := nm_mk C.hX.toXN (by decide +kernel)
  have n10 : Nm X 10 "names" := nm_mk C.hX.toXN (by decide +kernel)
  have n11 : Nm X 11 "rest" := nm_mk C.hX.toXN (by decide +kernel)
  have n12 : Nm X 12 "house" := nm_mk C.hX.toXN (by decide +kernel)
  have l3 : Lc X 3 "one" := lc_mk C.hX.toXN (by decide +kernel)
  have l4 : Lc X 4 "houses" := lc_mk C.hX.toXN (by decide +kernel)
  have l5 : Lc X 5 "ties" := lc_mk C.hX.toXN (by decide +kernel)
  have l6 : Lc X 6 "k" := lc_mk C.hX.toXN (by decide +kernel)
  have l7 : Lc X 7 "many" := lc_mk C.hX.toXN (by decide +kernel)
  have l8 : Lc X 8 "cell" := lc_mk C.hX.toXN (by decide +kernel)
  have l9 : Lc X 9 "other" := lc_mk C.hX.toXN (by decide +kernel)
  have l10 : Lc X 10 "names" := lc_cell C.hX.toXN (C.fnt _) (by decide +kernel)
  have l11 : Lc X 11 "rest" := lc_mk C.hX.toXN (by decide +kernel)
  have l12 : Lc X 12 "house" := lc_mk C.hX.toXN (by decide +kernel)
  have g__law_cell_at : Gn X "_law_cell_at" := gn_mk C.hX.toXN (by decide +kernel)
  have g_range : Gn X "range" := gn_mk C.hX.toXN (by decide +kernel)
  have f_range : X.mg "range" = none := C.fc.free 48
  have d_law_cell_at : Dn X "_law_cell_at" (spF X.K (τ := Scr × Int × Unit) (ρ := Int) 2 m_law_cell_at) 2 := (gd_law_cell_at C.fc).dn C.rm (by omega)
  refine w_asg (α := Int) (Γ' := fun y4 : Int => [.fr (α := Scr) t.1, .fr (α := Int) t.2.1, .fr (α := Int) t.2.2.1, .fr (α := Int) y4, .un, .un, .un, .un, .un, .un, .un, .un, .un, .un]) fr l3 (he := by rfl) ?_ fun y4 => ?_
  · exact (ev_mod (ma := true) (mb := true) (md := true) (ev_call (md := true) d_law_cell_at g__law_cell_at (ea_cons (md := true) (ev_var (md := true) n0 rfl rfl) (ea_cons (md := true) (ev_int (md := true) rfl) (ea_nil (md := true) rfl) rfl) rfl) rfl rfl) (ev_pow (ma := true) (mb := true) (md := true) (ev_int (md := true) rfl) (ev_int (md := true) rfl) rfl) rfl)
  refine w_asg (α := Int) (Γ' := fun y6 : Int => [.fr (α := Scr) t.1, .fr (α := Int) t.2.1, .fr (α := Int) t.2.2.1, .fr (α := Int) y4, .fr (α := Int) y6, .un, .un, .un, .un, .un, .un, .un, .un, .un]) fr l4 (he := by rfl) ?_ fun y6 => ?_
  · exact (ev_add (ma := true) (mb := true) (md := true) (ev_int (md := true) rfl) (ev_mod (ma := true) (mb := true) (md := true) (ev_var (md := true) n3 rfl rfl) (ev_var (md := true) n1 rfl rfl) rfl) rfl)
  refine w_asgO (α := (Int × Int)) (Γ' := fun y7 : (List (Int × Int)) => [.fr (α := Scr) t.1, .fr (α := Int) t.2.1, .fr (α := Int) t.2.2.1, .fr (α := Int) y4, .fr (α := Int) y6, .ow (α := (Int × Int)) y7, .un, .un, .un, .un, .un, .un, .un, .un]) fr l5 (he := by rfl) ?_ fun y7 => ?_
  · exact (ev_lst (md := true) (el_nil (α := (Int × Int)) rfl))
  refine w_for (α := Int) (S := (List (Int × Int))) (mx := (rngR (1 : Int) y6)) (bd := (fun y9 s8 => (((((((((m_law_cell_at (t.1, y9, ())) : R _).bind fun x12 => (modR x12 y9)) : R _).bind fun x13 => (.ok (x13, (y9, ())))) : R _).bind fun x14 => (.ok (x14.1, x14.2.1))) : R _).bind fun x16 => ((appR s8 x16).bind fun y15 => (.ok y15))))) (s0 := y7) (Γs := fun s8 : (List (Int × Int)) => [.fr (α := Scr) t.1, .fr (α := Int) t.2.1, .fr (α := Int) t.2.2.1, .fr (α := Int) y4, .fr (α := Int) y6, .ow (α := (Int × Int)) s8, .un, .un, .un, .un, .un, .un, .un, .un]) (Γb := fun (y9 : Int) (s8 : (List (Int × Int))) => [.fr (α := Scr) t.1, .fr (α := Int) t.2.1, .fr (α := Int) t.2.2.1, .fr (α := Int) y4, .fr (α := Int) y6, .ow (α := (Int × Int)) s8, .fr (α := Int) y9, .un, .un, .un, .un, .un, .un, .un]) (is := [6]) C.hX.calm fr (he := by rfl) ?_ ?_ ?_ fun s8 => ?_
  · exact (ei_range2 (ma := true) (mb := true) g_range f_range (ev_int (md := true) rfl) (ev_var (md := true) n4 rfl rfl) rfl)
  · exact fun y9 s8 => (eg_name (α := Int) l6 rfl (fun _ => rfl))
  · intro H10 sb11 N y9 s8
    replace fr := fr.up sb11
    try replace hR := hR.up sb11
    refine w_append (α := (Int × Int)) (m1 := (((((((m_law_cell_at (t.1, y9, ())) : R _).bind fun x12 => (modR x12 y9)) : R _).bind fun x13 => (.ok (x13, (y9, ())))) : R _).bind fun x14 => (.ok (x14.1, x14.2.1)))) (Γ' := fun y15 : (List (Int × Int)) => [.fr (α := Scr) t.1, .fr (α := Int) t.2.1, .fr (α := Int) t.2.2.1, .fr (α := Int) y4, .fr (α := Int) y6, .ow (α := (Int × Int)) y15, .fr (α := Int) y9, .un, .un, .un, .un, .un, .un, .un]) fr n5 rfl ?_ (he := by rfl) fun y15 => ?_
    · exact (ev_tup (md := true) tup2 (ea_cons (md := true) (ev_mod (ma := true) (mb := true) (md := true) (ev_call (md := true) d_law_cell_at g__law_cell_at (ea_cons (md := true) (ev_var (md := true) n0 rfl rfl) (ea_cons (md := true) (ev_var (md := true) n6 rfl rfl) (ea_nil (md := true) rfl) rfl) rfl) rfl rfl) (ev_var (md := true) n6 rfl rfl) rfl) (ea_cons (md := true) (ev_var (md := true) n6 rfl rfl) (ea_nil (md := true) rfl) rfl) rfl) rfl)
    exact w_end (s := y15) [6] rfl rfl
  refine w_asg (α := Int) (Γ' := fun y18 : Int => [.fr (α := Scr) t.1, .fr (α := Int) t.2.1, .fr (α := Int) t.2.2.1, .fr (α := Int) y4, .fr (α := Int) y6, .ow (α := (Int × Int)) s8, .un, .fr (α := Int) y18, .un, .un, .un, .un, .un, .un]) fr l7 (he := by rfl) ?_ fun y18 => ?_
  · exact (ev_mod (ma := true) (mb := true) (md := true) (ev_div (ma := true) (mb := true) (md := true) (ev_var (md := true) n3 rfl rfl) (ev_var (md := true) n1 rfl rfl) rfl) (ev_var (md := true) n2 rfl rfl) rfl)
  refine w_ifJ (S := Int) (mc := (.ok (pyEq y6 (1 : Int)))) (ma := (((.ok (0 : Int)) : R Int).bind fun y20 => (.ok y20))) (mb := (.ok y18)) (Γs := fun s19 : Int => [.fr (α := Scr) t.1, .fr (α := Int) t.2.1, .fr (α := Int) t.2.2.1, .fr (α := Int) y4, .fr (α := Int) y6, .ow (α := (Int × Int)) s8, .un, .fr (α := Int) s19, .un, .un, .un, .un, .un, .un]) fr (et_eq (α := Int) (ma := true) (mb := true) C.hu (ev_var (md := true) n4 rfl rfl) (ev_int (md := true) rfl) rfl) ?_ ?_ (he := by rfl) fun s19 => ?_
  · intro N
    refine w_asg (α := Int) (Γ' := fun y20 : Int => [.fr (α := Scr) t.1, .fr (α := Int) t.2.1, .fr (α := Int) t.2.2.1, .fr (α := Int) y4, .fr (α := Int) y6, .ow (α := (Int × Int)) s8, .un, .fr (α := Int) y20, .un, .un, .un, .un, .un, .un]) fr l7 (he := by rfl) ?_ fun y20 => ?_
    · exact (ev_int (md := true) rfl)
    exact w_end (s := y20) [] rfl rfl
  · intro N
    exact w_end (s := y18) [] rfl rfl
  refine w_for (α := Int) (S := (List (Int × Int))) (mx := (rngR 0 s19)) (bd := (fun y22 s21 => (((((m_law_cell_at (t.1, y6 + y22, ())) : R _).bind fun x25 => (((powR (10 : Int) (30 : Int)) : R _).bind fun x26 => (modR x25 x26))) : R Int).bind fun y27 => (((((((((modR y27 y6) : R _).bind fun x28 => (.ok (x28 + (1 : Int)))) : R _).bind fun x30 => (((((divR y27 y6) : R _).bind fun x29 => (modR x29 (y6 - (1 : Int)))) : R _).bind fun x31 => (.ok (x30 + x31)))) : R _).bind fun x32 => (modR x32 y6)) : R Int).bind fun y33 => (((((((modR y27 y6) : R _).bind fun x34 => (.ok (x34, (y33, ())))) : R _).bind fun x35 => (.ok (x35.1, x35.2.1))) : R _).bind fun x37 => ((appR s21 x37).bind fun y36 => (.ok y36))))))) (s0 := s8) (Γs := fun s21 : (List (Int × Int)) => [.fr (α := Scr) t.1, .fr (α := Int) t.2.1, .fr (α := Int) t.2.2.1, .fr (α := Int) y4, .fr (α := Int) y6, .ow (α := (Int × Int)) s21, .un, .fr (α := Int) s19, .un, .un, .un, .un, .un, .un]) (Γb := fun (y22 : Int) (s21 : (List (Int × Int))) => [.fr (α := Scr) t.1, .fr (α := Int) t.2.1, .fr (α := Int) t.2.2.1, .fr (α := Int) y4, .fr (α := Int) y6, .ow (α := (Int × Int)) s21, .fr (α := Int) y22, .fr (α := Int) s19, .un, .un, .un, .un, .un, .un]) (is := [6]) C.hX.calm fr (he := by rfl) ?_ ?_ ?_ fun s21 => ?_
  · exact (ei_range1 (ma := true) g_range f_range (ev_var (md := true) n7 rfl rfl) rfl)
  · exact fun y22 s21 => (eg_name (α := Int) l6 rfl (fun _ => rfl))
  · intro H23 sb24 N y22 s21
    replace fr := fr.up sb24
    try replace hR := hR.up sb24
    refine w_asg (α := Int) (Γ' := fun y27 : Int => [.fr (α := Scr) t.1, .fr (α := Int) t.2.1, .fr (α := Int) t.2.2.1, .fr (α := Int) y4, .fr (α := Int) y6, .ow (α := (Int × Int)) s21, .fr (α := Int) y22, .fr (α := Int) s19, .fr (α := Int) y27, .un, .un, .un, .un, .un]) fr l8 (he := by rfl) ?_ fun y27 => ?_
    · exact (ev_mod (ma := true) (mb := true) (md := true) (ev_call (md := true) d_law_cell_at g__law_cell_at (ea_cons (md := true) (ev_var (md := true) n0 rfl rfl) (ea_cons (md := true) (ev_add (ma := true) (mb := true) (md := true) (ev_var (md := true) n4 rfl rfl) (ev_var (md := true) n6 rfl rfl) rfl) (ea_nil (md := true) rfl) rfl) rfl) rfl rfl) (ev_pow (ma := true) (mb := true) (md := true) (ev_int (md := true) rfl) (ev_int (md := true) rfl) rfl) rfl)
    refine w_asg (α := Int) (Γ' := fun y33 : Int => [.fr (α := Scr) t.1, .fr (α := Int) t.2.1, .fr (α := Int) t.2.2.1, .fr (α := Int) y4, .fr (α := Int) y6, .ow (α := (Int × Int)) s21, .fr (α := Int) y22, .fr (α := Int) s19, .fr (α := Int) y27, .fr (α := Int) y33, .un, .un, .un, .un]) fr l9 (he := by rfl) ?_ fun y33 => ?_
    · exact (ev_mod (ma := true) (mb := true) (md := true) (ev_add (ma := true) (mb := true) (md := true) (ev_add (ma := true) (mb := true) (md := true) (ev_mod (ma := true) (mb := true) (md := true) (ev_var (md := true) n8 rfl rfl) (ev_var (md := true) n4 rfl rfl) rfl) (ev_int (md := true) rfl) rfl) (ev_mod (ma := true) (mb := true) (md := true) (ev_div (ma := true) (mb := true) (md := true) (ev_var (md := true) n8 rfl rfl) (ev_var (md := true) n4 rfl rfl) rfl) (ev_sub (ma := true) (mb := true) (md := true) (ev_var (md := true) n4 rfl rfl) (ev_int (md := true) rfl) rfl) rfl) rfl) (ev_var (md := true) n4 rfl rfl) rfl)
    refine w_append (α := (Int × Int)) (m1 := (((((modR y27 y6) : R _).bind fun x34 => (.ok (x34, (y33, ())))) : R _).bind fun x35 => (.ok (x35.1, x35.2.1)))) (Γ' := fun y36 : (List (Int × Int)) => [.fr (α := Scr) t.1, .fr (α := Int) t.2.1, .fr (α := Int) t.2.2.1, .fr (α := Int) y4, .fr (α := Int) y6, .ow (α := (Int × Int)) y36, .fr (α := Int) y22, .fr (α := Int) s19, .fr (α := Int) y27, .fr (α := Int) y33, .un, .un, .un, .un]) fr n5 rfl ?_ (he := by rfl) fun y36 => ?_
    · exact (ev_tup (md := true) tup2 (ea_cons (md := true) (ev_mod (ma := true) (mb := true) (md := true) (ev_var (md := true) n8 rfl rfl) (ev_var (md := true) n4 rfl rfl) rfl) (ea_cons (md := true) (ev_var (md := true) n9 rfl rfl) (ea_nil (md := true) rfl) rfl) rfl) rfl)
    exact w_end (s := y36) [6, 8, 9] rfl rfl
  refine w_asgO (α := Int) (Γ' := fun y38 : (List Int) => [.fr (α := Scr) t.1, .fr (α := Int) t.2.1, .fr (α := Int) t.2.2.1, .fr (α := Int) y4, .fr (α := Int) y6, .ow (α := (Int × Int)) s21, .un, .fr (α := Int) s19, .un, .un, .ow (α := Int) y38, .un, .un, .un]) fr l10 (he := by rfl) ?_ fun y38 => ?_
  · exact (ev_lst (md := true) (el_nil (α := Int) rfl))
  refine w_asg (α := Int) (Γ' := fun y40 : Int => [.fr (α := Scr) t.1, .fr (α := Int) t.2.1, .fr (α := Int) t.2.2.1, .fr (α := Int) y4, .fr (α := Int) y6, .ow (α := (Int × Int)) s21, .un, .fr (α := Int) s19, .un, .un, .ow (α := Int) y38, .fr (α := Int) y40, .un, .un]) fr l11 (he := by rfl) ?_ fun y40 => ?_
  · exact (ev_div (ma := true) (mb := true) (md := true) (ev_var (md := true) n3 rfl rfl) (ev_mul (ma := true) (mb := true) (md := true) (ev_var (md := true) n1 rfl rfl) (ev_int (md := true) rfl) rfl) rfl)
  refine w_for (α := Int) (S := ((List Int) × Int)) (mx := (rngR 0 y6)) (bd := (fun y42 s41 => (((((modR s41.2 (y42 + (1 : Int))) : R _).bind fun x45 => (.ok (y42 - x45))) : R _).bind fun x48 => ((insR s41.1 x48 y42).bind fun y46 => (((divR s41.2 (y42 + (1 : Int))) : R Int).bind fun y47 => (.ok (y46, y47))))))) (s0 := (y38, y40)) (Γs := fun s41 : ((List Int) × Int) => [.fr (α := Scr) t.1, .fr (α := Int) t.2.1, .fr (α := Int) t.2.2.1, .fr (α := Int) y4, .fr (α := Int) y6, .ow (α := (Int × Int)) s21, .un, .fr (α := Int) s19, .un, .un, .ow (α := Int) s41.1, .fr (α := Int) s41.2, .un, .un]) (Γb := fun (y42 : Int) (s41 : ((List Int) × Int)) => [.fr (α := Scr) t.1, .fr (α := Int) t.2.1, .fr (α := Int) t.2.2.1, .fr (α := Int) y4, .fr (α := Int) y6, .ow (α := (Int × Int)) s21, .un, .fr (α := Int) s19, .un, .un, .ow (α := Int) s41.1, .fr (α := Int) s41.2, .fr (α := Int) y42, .un]) (is := [12]) C.hX.calm fr (he := by rfl) ?_ ?_ ?_ fun s41 => ?_
  · exact (ei_range1 (ma := true) g_range f_range (ev_var (md := true) n4 rfl rfl) rfl)
  · exact fun y42 s41 => (eg_name (α := Int) l12 rfl (fun _ => rfl))
  · intro H43 sb44 N y42 s41
    replace fr := fr.up sb44
    try replace hR := hR.up sb44
    refine w_insert (α := Int) (mj := (((modR s41.2 (y42 + (1 : Int))) : R _).bind fun x45 => (.ok (y42 - x45)))) (m1 := (.ok y42)) (Γ' := fun y46 : (List Int) => [.fr (α := Scr) t.1, .fr (α := Int) t.2.1, .fr (α := Int) t.2.2.1, .fr (α := Int) y4, .fr (α := Int) y6, .ow (α := (Int × Int)) s21, .un, .fr (α := Int) s19, .un, .un, .ow (α := Int) y46, .fr (α := Int) s41.2, .fr (α := Int) y42, .un]) fr n10 rfl ?_ ?_ (he := by rfl) fun y46 => ?_
    · exact (ev_sub (ma := true) (mb := true) (md := true) (ev_var (md := true) n12 rfl rfl) (ev_mod (ma := true) (mb := true) (md := true) (ev_var (md := true) n11 rfl rfl) (ev_add (ma := true) (mb := true) (md := true) (ev_var (md := true) n12 rfl rfl) (ev_int (md := true) rfl) rfl) rfl) rfl)
    · exact (ev_var (md := true) n12 rfl rfl)
    refine w_asg (α := Int) (Γ' := fun y47 : Int => [.fr (α := Scr) t.1, .fr (α := Int) t.2.1, .fr (α := Int) t.2.2.1, .fr (α := Int) y4, .fr (α := Int) y6, .ow (α := (Int × Int)) s21, .un, .fr (α := Int) s19, .un, .un, .ow (α := Int) y46, .fr (α := Int) y47, .fr (α := Int) y42, .un]) fr l11 (he := by rfl) ?_ fun y47 => ?_
    · exact (ev_div (ma := true) (mb := true) (md := true) (ev_var (md := true) n11 rfl rfl) (ev_add (ma := true) (mb := true) (md := true) (ev_var (md := true) n12 rfl rfl) (ev_int (md := true) rfl) rfl) rfl)
    exact w_end (s := (y46, y47)) [12] rfl rfl
  refine w_asgC (α := (Int × Int)) (Γ' := fun y58 : (List (Int × Int)) => [.fr (α := Scr) t.1, .fr (α := Int) t.2.1, .fr (α := Int) t.2.2.1, .fr (α := Int) y4, .fr (α := Int) y6, .ow (α := (Int × Int)) y58, .un, .fr (α := Int) s19, .un, .un, .ow (α := Int) s41.1, .fr (α := Int) s41.2, .un, .un]) fr l5 (by rw [C.hX.hs]; decide +kernel) C.kd (he := by rfl) ?_ fun y58 => ?_
  · exact (ec_mapT (mi := false) (α := (Int × Int)) (β := (Int × Int)) (mx := (.ok s21)) (g := (fun y49 => (((((ixR s41.1 y49.1) : R _).bind fun x55 => (((((ixR s41.1 y49.2) : R _).bind fun x54 => (.ok (x54, (())))) : R _).bind fun x56 => (.ok (x55, x56)))) : R _).bind fun x57 => (.ok (x57.1, x57.2.1))))) (own := [("pair", 13)]) (Γx := fun y49 : (Int × Int) => [.fr (α := Scr) t.1, .fr (α := Int) t.2.1, .fr (α := Int) t.2.2.1, .fr (α := Int) y4, .fr (α := Int) y6, .ow (α := (Int × Int)) s21, .un, .fr (α := Int) s19, .un, .un, .ow (α := Int) s41.1, .fr (α := Int) s41.2, .un, .fr (α := (Int × Int)) y49]) (is := [13]) C.hX (ei_list (ev_own n5 rfl rfl))  (by decide +kernel) (no1 (fun _ => rfl)) (by decide) (fun X51 b50 y49 => have h52 := b50.ok C.hX; (eg_nl (α := (Int × Int)) (eg_name (α := (Int × Int)) (lc_mk (i := 13) (x := "pair") h52.toXN (by decide +kernel)) rfl (fun _ => rfl)))) (fun X51 b50 D53 y49 => have h52 := b50.ok C.hX; (ev_tup (md := true) tup2 (ea_cons (md := true) (Ev.flat (ma := false) (ev_ixL (md := false) (mb := true) (ev_own (nm_mk (i := 10) (x := "names") h52.toXN (by decide +kernel)) rfl rfl) (ev_ixP (md := true) ix20 (ev_var (md := true) (nm_mk (i := 13) (x := "pair") h52.toXN (by decide +kernel)) rfl rfl) (ev_int (md := true) rfl) rfl) rfl)) (ea_cons (md := true) (Ev.flat (ma := false) (ev_ixL (md := false) (mb := true) (ev_own (nm_mk (i := 10) (x := "names") h52.toXN (by decide +kernel)) rfl rfl) (ev_ixP (md := true) ix21 (ev_var (md := true) (nm_mk (i := 13) (x := "pair") h52.toXN (by decide +kernel)) rfl rfl) (ev_int (md := true) rfl) rfl) rfl)) (ea_nil (md := true) rfl) rfl) rfl) rfl)) rfl)
  refine w_frz 5 rfl (Γ' := [.fr (α := Scr) t.1, .fr (α := Int) t.2.1, .fr (α := Int) t.2.2.1, .fr (α := Int) y4, .fr (α := Int) y6, .fr (α := (List (Int × Int))) y58, .un, .fr (α := Int) s19, .un, .un, .ow (α := Int) s41.1, .fr (α := Int) s41.2, .un, .un]) rfl ?_
  exact w_ret (m1 := (.ok (T3.mk y6 y58 (y6 + s19)))) (g := fun z => z) fr hR (ev_tup (md := true) tup3 (ea_cons (md := true) (ev_var (md := true) n4 rfl rfl) (ea_cons (md := true) (ev_var (md := true) n5 rfl rfl) (ea_cons (md := true) (ev_add (ma := true) (mb := true) (md := true) (ev_var (md := true) n4 rfl rfl) (ev_var (md := true) n7 rfl rfl) rfl) (ea_nil (md := true) rfl) rfl) rfl) rfl) rfl) (fun _ h => h) rfl
theorem gd_law_web {P : Program} {w : World} {K : PySem.W.Frag} {mg : PySem.Str → Option Value} {base : Heap} (fc : Fac fe fa fn K mg) : Gd P w K mg base "_law_web" (spF K (τ := Scr × Int × Int × Unit) (ρ := (T3 Int (List (Int × Int)) Int)) 3 m_law_web) 3 2 :=
  gd_F 10 35 fc rfl rfl sc_law_web rfl bn_law_web fun X _ _ _ _ _ C H0 qs rt A B fr hR t => b_law_web (by omega) X C H0 qs rt A B fr hR t
theorem sc_law_number : FnScope ["cell", "number"] ["cell"] dd__law_number.scope := ⟨rfl, rfl, rfl, by decide +kernel, rfl, by decide +kernel, by decide +kernel⟩
theorem bn_law_number : BindE dd__law_number ["cell"] := fun _ _ _ _ _ _ us hl => match us, hl with | [_], _ => rfl
theorem b_law_number {k : Nat} (hk : 0 ≤ k) (X : Cx) (C : Cb fe fa fn X (["cell", "number"] : List PySem.Str) dd__law_number.scope k) (H0 : Hp) (qs : List Addr) (rt : VK) (A : Int → Prop) (B : Exc → Prop) (fr : Fr X H0 B) (hR : RtF (ρ := Int) X H0 qs rt A) (t : Int × Unit) :
    W X H0 qs rt (fun _ H => rt .non H) A B [.fr (α := Int) t.1, .un] dd__law_number.body (m_law_number t) := by
  have n0 : Nm X 0 "cell" := nm_mk C.hX.toXN (by decide +kernel)
  have n1 : Nm X 1 "number" := nm_mk C.hX.toXN (by decide +kernel)
  have l1 : Lc X 1 "number" := lc_mk C.hX.toXN (by decide +kernel)
  refine w_asg (α := Int) (Γ' := fun y74 : Int => [.fr (α := Int) t.1, .fr (α := Int) y74]) fr l1 (he := by rfl) ?_ fun y74 => ?_
  · exact (ev_mod (ma := true) (mb := true) (md := true) (ev_var (md := true) n0 rfl rfl) (ev_mul (ma := true) (mb := true) (md := true) (ev_int (md := true) rfl) (ev_pow (ma := true) (mb := true) (md := true) (ev_int (md := true) rfl) (ev_int (md := true) rfl) rfl) rfl) rfl)
  refine w_ifJ (S := Int) (mc := (((powR (10 : Int) (59 : Int)) : R _).bind fun x75 => (.ok (decide (x75 ≤ y74))))) (ma := (((((((powR (10 : Int) (59 : Int)) : R _).bind fun x77 => (mulR (2 : Int) x77)) : R _).bind fun x78 => (.ok (y74 - x78))) : R Int).bind fun y79 => (.ok y79))) (mb := (.ok y74)) (Γs := fun s76 : Int => [.fr (α := Int) t.1, .fr (α := Int) s76]) fr (et_ge (ma := true) (mb := true) (ev_var (md := true) n1 rfl rfl) (ev_pow (ma := true) (mb := true) (md := true) (ev_int (md := true) rfl) (ev_int (md := true) rfl) rfl) rfl) ?_ ?_ (he := by rfl) fun s76 => ?_
  · intro N
    refine w_asg (α := Int) (Γ' := fun y79 : Int => [.fr (α := Int) t.1, .fr (α := Int) y79]) fr l1 (he := by rfl) ?_ fun y79 => ?_
    · exact (ev_sub (ma := true) (mb := true) (md := true) (ev_var (md := true) n1 rfl rfl) (ev_mul (ma := true) (mb := true) (md := true) (ev_int (md := true) rfl) (ev_pow (ma := true) (mb := true) (md := true) (ev_int (md := true) rfl) (ev_int (md := true) rfl) rfl) rfl) rfl)
    exact w_end (s := y79) [] rfl rfl
  · intro N
    exact w_end (s := y74) [] rfl rfl
  exact w_ret (m1 := (.ok s76)) (g := fun z => z) fr hR (ev_var (md := true) n1 rfl rfl) (fun _ h => h) rfl
theorem gd_law_number {P : Program} {w : World} {K : PySem.W.Frag} {mg : PySem.Str → Option Value} {base : Heap} (fc : Fac fe fa fn K mg) : Gd P w K mg base "_law_number" (spF K (τ := Int × Unit) (ρ := Int) 1 m_law_number) 1 1 :=
  gd_F 9 34 fc rfl rfl sc_law_number rfl bn_law_number fun X _ _ _ _ _ C H0 qs rt A B fr hR t => b_law_number (by omega) X C H0 qs rt A B fr hR t
theorem sc_law_gathered : FnScope ["cells", "houses", "numbers", "k", "at"] ["cells", "houses"] dd__law_gathered.scope := ⟨rfl, rfl, rfl, by decide +kernel, rfl, by decide +kernel, by decide +kernel⟩
theorem bn_law_gathered : BindE dd__law_gathered ["cells", "houses"] := fun _ _ _ _ _ _ us hl => match us, hl with | [_, _], _ => rfl
theorem b_law_gathered {k : Nat} (hk : 1 ≤ k) (X : Cx) (C : Cb fe fa fn X (["cells", "houses", "numbers", "k", "at"] : List PySem.Str) dd__law_gathered.scope k) (H0 : Hp) (qs : List Addr) (rt : VK) (A : (List Int) → Prop) (B : Exc → Prop) (fr : Fr X H0 B) (hR : RtO (ρ := Int) X H0 qs rt A) (t : (List Int) × Int × Unit) :
    W X H0 qs rt (fun _ H => rt .non H) A B [.fr (α := (List Int)) t.1, .fr (α := Int) t.2.1, .un, .un, .un] dd__law_gathered.body (m_law_gathered t) := by
  have n0 : Nm X 0 "cells" := nm_mk C.hX.toXN (by decide +kernel)
  have n1 : Nm X 1 "houses" := nm_mk C.hX.toXN (by decide +kernel)
  have n2 : Nm X 2 "numbers" := nm_mk C.hX.toXN (by decide +kernel)
  have n3 : Nm X 3 "k" := nm_mk C.hX.toXN (by decide +kernel)
  have n4 : Nm X 4 "at" := nm_mk C.hX.toXN (by decide +kernel)
  have l2 : Lc X 2 "numbers" := lc_mk C.hX.toXN (by decide +kernel)
  have l3 : Lc X 3 "k" := lc_mk C.hX.toXN (by decide +kernel)
  have l4 : Lc X 4 "at" := lc_mk C.hX.toXN (by decide +kernel)
  have g__law_number : Gn X "_law_number" := gn_mk C.hX.toXN (by decide +kernel)
  have g_len : Gn X "len" := gn_mk C.hX.toXN (by decide +kernel)
  have g_range : Gn X "range" := gn_mk C.hX.toXN (by decide +kernel)
  have f_len : X.mg "len" = none := C.fc.free 47
  have f_range : X.mg "range" = none := C.fc.free 48
  have d_law_number : Dn X "_law_number" (spF X.K (τ := Int × Unit) (ρ := Int) 1 m_law_number) 1 := (gd_law_number C.fc).dn C.rm (by omega)
  refine w_asgO (α := Int) (Γ' := fun y63 : (List Int) => [.fr (α := (List Int)) t.1, .fr (α := Int) t.2.1, .ow (α := Int) y63, .un, .un]) fr l2 (he := by rfl) ?_ fun y63 => ?_
  · exact (ev_rep (m1 := (.ok ([(0 : Int)] : (List Int)))) (m2 := (.ok t.2.1)) (md := true) (mb := true) (EvO.fz (ev_lst (md := true) (el_cons (md := true) (ev_int (md := true) rfl) (el_nil (α := Int) rfl) rfl))) (ev_var (md := true) n1 rfl rfl) (by first | exact rep_he _ _ | rfl))
  refine w_for (α := Int) (S := (List Int)) (mx := (rngR 0 (t.1.length : Int))) (bd := (fun y65 s64 => (((modR y65 t.2.1) : R Int).bind fun y68 => (((((((((((ixR s64 y68) : R _).bind fun x69 => (mulR x69 (10007 : Int))) : R _).bind fun x70 => (((ixR t.1 y65) : R _).bind fun x71 => (.ok (x70 + x71)))) : R _).bind fun x82 => (.ok (x82, (())))) : R _).bind fun x83 => (m_law_number x83)) : R _).bind fun x85 => ((setR s64 y68 x85).bind fun y84 => (.ok y84)))))) (s0 := y63) (Γs := fun s64 : (List Int) => [.fr (α := (List Int)) t.1, .fr (α := Int) t.2.1, .ow (α := Int) s64, .un, .un]) (Γb := fun (y65 : Int) (s64 : (List Int)) => [.fr (α := (List Int)) t.1, .fr (α := Int) t.2.1, .ow (α := Int) s64, .fr (α := Int) y65, .un]) (is := [3]) C.hX.calm fr (he := by rfl) ?_ ?_ ?_ fun s64 => ?_
  · exact (ei_range1 (m1 := .ok (t.1.length : Int)) (ma := true) g_range f_range (ev_lenL (ma := true) (md := true) g_len f_len (ev_var (md := true) n0 rfl rfl) rfl) (rng_he _))
  · exact fun y65 s64 => (eg_name (α := Int) l3 rfl (fun _ => rfl))
  · intro H66 sb67 N y65 s64
    replace fr := fr.up sb67
    try replace hR := hR.up sb67
    refine w_asg (α := Int) (Γ' := fun y68 : Int => [.fr (α := (List Int)) t.1, .fr (α := Int) t.2.1, .ow (α := Int) s64, .fr (α := Int) y65, .fr (α := Int) y68]) fr l4 (he := by rfl) ?_ fun y68 => ?_
    · exact (ev_mod (ma := true) (mb := true) (md := true) (ev_var (md := true) n3 rfl rfl) (ev_var (md := true) n1 rfl rfl) rfl)
    refine w_setix (α := Int) (m1 := (((((((((ixR s64 y68) : R _).bind fun x69 => (mulR x69 (10007 : Int))) : R _).bind fun x70 => (((ixR t.1 y65) : R _).bind fun x71 => (.ok (x70 + x71)))) : R _).bind fun x82 => (.ok (x82, (())))) : R _).bind fun x83 => (m_law_number x83))) (mj := (.ok y68)) (Γ' := fun y84 : (List Int) => [.fr (α := (List Int)) t.1, .fr (α := Int) t.2.1, .ow (α := Int) y84, .fr (α := Int) y65, .fr (α := Int) y68]) fr n2 rfl ?_ ?_ (he := by rfl) fun y84 => ?_
    · exact (ev_call (md := true) d_law_number g__law_number (ea_cons (md := true) (ev_add (ma := true) (mb := true) (md := true) (ev_mul (ma := true) (mb := true) (md := true) (Ev.flat (ma := false) (ev_ixL (md := false) (mb := true) (ev_own n2 rfl rfl) (ev_var (md := true) n4 rfl rfl) rfl)) (ev_int (md := true) rfl) rfl) (ev_ixL (md := true) (mb := true) (ev_var (md := true) n0 rfl rfl) (ev_var (md := true) n3 rfl rfl) rfl) rfl) (ea_nil (md := true) rfl) rfl) rfl rfl)
    · exact (ev_var (md := true) n4 rfl rfl)
    exact w_end (s := y84) [3, 4] rfl rfl
  exact w_retV (g := fun z => z) fr hR n2 rfl (fun _ h => h) rfl
theorem gd_law_gathered {P : Program} {w : World} {K : PySem.W.Frag} {mg : PySem.Str → Option Value} {base : Heap} (fc : Fac fe fa fn K mg) : Gd P w K mg base "_law_gathered" (spO K (τ := (List Int) × Int × Unit) (ρ := Int) 2 m_law_gathered) 2 2 :=
  gd_O 11 36 fc rfl rfl sc_law_gathered rfl bn_law_gathered fun X _ _ _ _ _ C H0 qs rt A B fr hR t => b_law_gathered (by omega) X C H0 qs rt A B fr hR t
theorem sc_law_row : FnScope ["word", "numbers", "row", "number"] ["word", "numbers"] dd__law_row.scope := ⟨rfl, rfl, rfl, by decide +kernel, rfl, by decide +kernel, by decide +kernel⟩
theorem bn_law_row : BindE dd__law_row ["word", "numbers"] := fun _ _ _ _ _ _ us hl => match us, hl with | [_, _], _ => rfl
theorem b_law_row {k : Nat} (hk : 0 ≤ k) (X : Cx) (C : Cb fe fa fn X (["word", "numbers", "row", "number"] : List PySem.Str) dd__law_row.scope k) (H0 : Hp) (qs : List Addr) (rt : VK) (A : PySem.Str → Prop) (B : Exc → Prop) (fr : Fr X H0 B) (hR : RtF (ρ := PySem.Str) X H0 qs rt A) (t : PySem.Str × (List Int) × Unit) :
    W X H0 qs rt (fun _ H => rt .non H) A B [.fr (α := PySem.Str) t.1, .fr (α := (List Int)) t.2.1, .un, .un] dd__law_row.body (m_law_row t) := by
  have n0 : Nm X 0 "word" := nm_mk C.hX.toXN (by decide +kernel)
  have n1 : Nm X 1 "numbers" := nm_mk C.hX.toXN (by decide +kernel)
  have n2 : Nm X 2 "row" := nm_mk C.hX.toXN (by decide +kernel)
  have n3 : Nm X 3 "number" := nm_mk C.hX.toXN (by decide +kernel)
  have l2 : Lc X 2 "row" := lc_mk C.hX.toXN (by decide +kernel)
  have l3 : Lc X 3 "number" := lc_mk C.hX.toXN (by decide +kernel)
  have g_str : Gn X "str" := gn_mk C.hX.toXN (by decide +kernel)
  have f_str : X.mg "str" = none := C.fc.free 55
  refine w_asg (α := PySem.Str) (Γ' := fun y88 : PySem.Str => [.fr (α := PySem.Str) t.1, .fr (α := (List Int)) t.2.1, .fr (α := PySem.Str) y88, .un]) fr l2 (he := by rfl) ?_ fun y88 => ?_
  · exact (ev_var (md := true) n0 rfl rfl)
  refine w_for (α := Int) (S := PySem.Str) (mx := (.ok t.2.1)) (bd := (fun y90 s89 => (((((catS s89 (" " : PySem.Str)) : R _).bind fun x93 => (((strI y90) : R _).bind fun x94 => (catS x93 x94))) : R PySem.Str).bind fun y95 => (.ok y95)))) (s0 := y88) (Γs := fun s89 : PySem.Str => [.fr (α := PySem.Str) t.1, .fr (α := (List Int)) t.2.1, .fr (α := PySem.Str) s89, .un]) (Γb := fun (y90 : Int) (s89 : PySem.Str) => [.fr (α := PySem.Str) t.1, .fr (α := (List Int)) t.2.1, .fr (α := PySem.Str) s89, .fr (α := Int) y90]) (is := [3]) C.hX.calm fr (he := by rfl) ?_ ?_ ?_ fun s89 => ?_
  · exact (ei_list (ev_var (md := true) n1 rfl rfl))
  · exact fun y90 s89 => (eg_name (α := Int) l3 rfl (fun _ => rfl))
  · intro H91 sb92 N y90 s89
    replace fr := fr.up sb92
    try replace hR := hR.up sb92
    refine w_asg (α := PySem.Str) (Γ' := fun y95 : PySem.Str => [.fr (α := PySem.Str) t.1, .fr (α := (List Int)) t.2.1, .fr (α := PySem.Str) y95, .fr (α := Int) y90]) fr l2 (he := by rfl) ?_ fun y95 => ?_
    · exact (ev_catS (ma := true) (mb := true) (md := true) (ev_catS (ma := true) (mb := true) (md := true) (ev_var (md := true) n2 rfl rfl) (ev_str (md := true) rfl) rfl) (ev_strI (ma := true) (md := true) (nd_of (C.fc.s.fact 0 rfl)) C.hX.calm g_str f_str (ev_var (md := true) n3 rfl rfl) rfl) rfl)
    exact w_end (s := y95) [3] rfl rfl
  exact w_ret (m1 := (.ok s89)) (g := fun z => z) fr hR (ev_var (md := true) n2 rfl rfl) (fun _ h => h) rfl
theorem gd_law_row {P : Program} {w : World} {K : PySem.W.Frag} {mg : PySem.Str → Option Value} {base : Heap} (fc : Fac fe fa fn K mg) : Gd P w K mg base "_law_row" (spF K (τ := PySem.Str × (List Int) × Unit) (ρ := PySem.Str) 2 m_law_row) 2 1 :=
  gd_F 12 37 fc rfl rfl sc_law_row rfl bn_law_row fun X _ _ _ _ _ C H0 qs rt A B fr hR t => b_law_row (by omega) X C H0 qs rt A B fr hR t
theorem sc_law_text : FnScope ["houses", "ties", "standing", "rows", "pairs", "one", "other", "tie"] ["houses", "ties", "standing"] dd__law_text.scope := ⟨rfl, rfl, rfl, by decide +kernel, rfl, by decide +kernel, by decide +kernel⟩
theorem bn_law_text : BindE dd__law_text ["houses", "ties", "standing"] := fun _ _ _ _ _ _ us hl => match us, hl with | [_, _, _], _ => rfl
theorem b_law_text {k : Nat} (hk : 1 ≤ k) (X : Cx) (C : Cb fe fa fn X (["houses", "ties", "standing", "rows", "pairs", "one", "other", "tie"] : List PySem.Str) dd__law_text.scope k) (H0 : Hp) (qs : List Addr) (rt : VK) (A : PySem.Str → Prop) (B : Exc → Prop) (fr : Fr X H0 B) (hR : RtF (ρ := PySem.Str) X H0 qs rt A) (t : Int × (List (Int × Int)) × (List Int) × Unit) :
    W X H0 qs rt (fun _ H => rt .non H) A B [.fr (α := Int) t.1, .fr (α := (List (Int × Int))) t.2.1, .fr (α := (List Int)) t.2.2.1, .un, .un, .un, .un, .un] dd__law_text.body (m_law_text t) := by
  have n0 : Nm X 0 "houses" := nm_mk C.hX.toXN (by decide +kernel)
  have n1 : Nm X 1 "ties" := nm_mk C.hX.toXN (by decide +kernel)
  have n2 : Nm X 2 "standing" := nm_mk C.hX.toXN (by decide +kernel)
  have n3 : Nm X 3 "rows" := nm_mk C.hX.toXN (by decide +kernel)
  have n4 : Nm X 4 "pairs" := nm_mk C.hX.toXN (by decide +kernel)
  have n5 : Nm X 5 "one" := nm_mk C.hX.toXN (by decide +kernel)
  have n6 : Nm X 6 "other" := nm_mk C.hX.toXN (by decide +kernel)
  have l3 : Lc X 3 "rows" := lc_mk C.hX.toXN (by decide +kernel)
  have l4 : Lc X 4 "pairs" := lc_mk C.hX.toXN (by decide +kernel)
  have l5 : Lc X 5 "one" := lc_mk C.hX.toXN (by decide +kernel)
  have l6 : Lc X 6 "other" := lc_mk C.hX.toXN (by decide +kernel)
  have g__law_row : Gn X "_law_row" := gn_mk C.hX.toXN (by decide +kernel)
  have g_sorted : Gn X "sorted" := gn_mk C.hX.toXN (by decide +kernel)
  have f_max : X.mg "max" = none := C.fc.free 51
  have f_min : X.mg "min" = none := C.fc.free 50
  have f_sorted : X.mg "sorted" = none := C.fc.free 53
  have d_law_row : Dn X "_law_row" (spF X.K (τ := PySem.Str × (List Int) × Unit) (ρ := PySem.Str) 2 m_law_row) 2 := (gd_law_row C.fc).dn C.rm (by omega)
  refine w_asgO (α := PySem.Str) (Γ' := fun y97 : (List PySem.Str) => [.fr (α := Int) t.1, .fr (α := (List (Int × Int))) t.2.1, .fr (α := (List Int)) t.2.2.1, .ow (α := PySem.Str) y97, .un, .un, .un, .un]) fr l3 (he := by rfl) ?_ fun y97 => ?_
  · exact (ev_lst (md := true) (el_cons (md := true) (ev_call (md := true) d_law_row g__law_row (ea_cons (md := true) (ev_str (md := true) rfl) (ea_cons (md := true) (EvO.fz (ev_lst (md := true) (el_cons (md := true) (ev_var (md := true) n0 rfl rfl) (el_nil (α := Int) rfl) rfl))) (ea_nil (md := true) rfl) rfl) rfl) rfl rfl) (el_nil (α := PySem.Str) rfl) rfl))
  refine w_asgCf (α := (Int × Int)) (Γ' := fun y103 : (List (Int × Int)) => [.fr (α := Int) t.1, .fr (α := (List (Int × Int))) t.2.1, .fr (α := (List Int)) t.2.2.1, .ow (α := PySem.Str) y97, .fr (α := (List (Int × Int))) y103, .un, .un, .un]) fr l4 (by rw [C.hX.hs]; decide +kernel) C.kd (he := by rfl) ?_ fun y103 => ?_
  · exact (ec_map (mi := true) (α := (Int × Int)) (β := (Int × Int)) (mx := (.ok t.2.1)) (g := (fun y98 => (.ok (min y98.1 y98.2, max y98.1 y98.2)))) (own := [("tie", 7)]) (Γx := fun y98 : (Int × Int) => [.fr (α := Int) t.1, .fr (α := (List (Int × Int))) t.2.1, .fr (α := (List Int)) t.2.2.1, .ow (α := PySem.Str) y97, .un, .un, .un, .fr (α := (Int × Int)) y98]) (is := [7]) C.hX (ei_list (ev_var (md := true) n1 rfl rfl)) (.inl rfl) (by decide +kernel) (no1 (fun _ => rfl)) (by decide) (fun X100 b99 y98 => have h101 := b99.ok C.hX; (eg_name (α := (Int × Int)) (lc_mk (i := 7) (x := "tie") h101.toXN (by decide +kernel)) rfl (fun _ => rfl))) (fun X100 b99 D102 y98 => have h101 := b99.ok C.hX; (ev_tup (md := true) tup2 (ea_cons (md := true) (ev_minP (ma := true) (md := true) h101.calm (b99.hu C.hu) (gn_mk (x := "min") h101.toXN (by decide +kernel)) (b99.none f_min) (ev_var (md := true) (nm_mk (i := 7) (x := "tie") h101.toXN (by decide +kernel)) rfl rfl) rfl) (ea_cons (md := true) (ev_maxP (ma := true) (md := true) h101.calm (b99.hu C.hu) (gn_mk (x := "max") h101.toXN (by decide +kernel)) (b99.none f_max) (ev_var (md := true) (nm_mk (i := 7) (x := "tie") h101.toXN (by decide +kernel)) rfl rfl) rfl) (ea_nil (md := true) rfl) rfl) rfl) rfl)) rfl)
  refine w_for (α := (Int × Int)) (S := (List PySem.Str)) (mx := (.ok (sortP y103))) (bd := (fun y105 s104 => (((m_law_row (("tie" : PySem.Str), ([y105.1, y105.2] : (List Int)), ())) : R _).bind fun x109 => ((appR s104 x109).bind fun y108 => (.ok y108))))) (s0 := y97) (Γs := fun s104 : (List PySem.Str) => [.fr (α := Int) t.1, .fr (α := (List (Int × Int))) t.2.1, .fr (α := (List Int)) t.2.2.1, .ow (α := PySem.Str) s104, .fr (α := (List (Int × Int))) y103, .un, .un, .un]) (Γb := fun (y105 : (Int × Int)) (s104 : (List PySem.Str)) => [.fr (α := Int) t.1, .fr (α := (List (Int × Int))) t.2.1, .fr (α := (List Int)) t.2.2.1, .ow (α := PySem.Str) s104, .fr (α := (List (Int × Int))) y103, .fr (α := Int) y105.1, .fr (α := Int) y105.2, .un]) (is := [5, 6]) C.hX.calm fr (he := by rfl) ?_ ?_ ?_ fun s104 => ?_
  · exact (ei_list (EvO.fz (ev_sortP (md := true) g_sorted f_sorted (ev_var (md := true) n4 rfl rfl) rfl)))
  · exact fun y105 s104 => (eg_two C.hX.calm (eg_name (α := Int) l5 rfl (fun _ => rfl)) (eg_name (α := Int) l6 rfl (fun _ => rfl)))
  · intro H106 sb107 N y105 s104
    replace fr := fr.up sb107
    try replace hR := hR.up sb107
    refine w_append (α := PySem.Str) (m1 := (m_law_row (("tie" : PySem.Str), ([y105.1, y105.2] : (List Int)), ()))) (Γ' := fun y108 : (List PySem.Str) => [.fr (α := Int) t.1, .fr (α := (List (Int × Int))) t.2.1, .fr (α := (List Int)) t.2.2.1, .ow (α := PySem.Str) y108, .fr (α := (List (Int × Int))) y103, .fr (α := Int) y105.1, .fr (α := Int) y105.2, .un]) fr n3 rfl ?_ (he := by rfl) fun y108 => ?_
    · exact (ev_call (md := true) d_law_row g__law_row (ea_cons (md := true) (ev_str (md := true) rfl) (ea_cons (md := true) (EvO.fz (ev_lst (md := true) (el_cons (md := true) (ev_var (md := true) n5 rfl rfl) (el_cons (md := true) (ev_var (md := true) n6 rfl rfl) (el_nil (α := Int) rfl) rfl) rfl))) (ea_nil (md := true) rfl) rfl) rfl) rfl rfl)
    exact w_end (s := y108) [5, 6] rfl rfl
  exact w_ret (m1 := (((((((m_law_row (("has" : PySem.Str), t.2.2.1, ())) : R _).bind fun x110 => (.ok (x110 :: []))) : R _).bind fun x111 => (catR s104 x111)) : R _).bind fun x112 => (joinS ("\n" : PySem.Str) x112))) (g := fun z => z) fr hR (ev_joinL (ma := true) (mb := true) (md := true) (ev_str (md := true) rfl) (EvO.fz (EvO.flat (ma := false) (ev_cat (md := false) (ev_own n3 rfl rfl) (EvO.fz (ev_lst (md := false) (el_cons (md := false) (ev_call (md := false) d_law_row g__law_row (ea_cons (md := false) (ev_str (md := false) rfl) (ea_cons (md := false) (ev_var (md := false) n2 rfl rfl) (ea_nil (md := false) rfl) rfl) rfl) rfl rfl) (el_nil (α := PySem.Str) rfl) rfl))) rfl))) rfl) (fun _ h => h) rfl
theorem gd_law_text {P : Program} {w : World} {K : PySem.W.Frag} {mg : PySem.Str → Option Value} {base : Heap} (fc : Fac fe fa fn K mg) : Gd P w K mg base "_law_text" (spF K (τ := Int × (List (Int × Int)) × (List Int) × Unit) (ρ := PySem.Str) 3 m_law_text) 3 2 :=
  gd_F 13 38 fc rfl rfl sc_law_text rfl bn_law_text fun X _ _ _ _ _ C H0 qs rt A B fr hR t => b_law_text (by omega) X C H0 qs rt A B fr hR t
theorem sc_law_other_word : FnScope ["cell", "some"] ["cell"] dd__law_other_word.scope := ⟨rfl, rfl, rfl, by decide +kernel, rfl, by decide +kernel, by decide +kernel⟩
theorem bn_law_other_word : BindE dd__law_other_word ["cell"] := fun _ _ _ _ _ _ us hl => match us, hl with | [_], _ => rfl
theorem b_law_other_word {k : Nat} (hk : 0 ≤ k) (X : Cx) (C : Cb fe fa fn X (["cell", "some"] : List PySem.Str) dd__law_other_word.scope k) (H0 : Hp) (qs : List Addr) (rt : VK) (A : PySem.Str → Prop) (B : Exc → Prop) (fr : Fr X H0 B) (hR : RtF (ρ := PySem.Str) X H0 qs rt A) (t : Int × Unit) :
    W X H0 qs rt (fun _ H => rt .non H) A B [.fr (α := Int) t.1, .un] dd__law_other_word.body (m_law_other_word t) := by
  have n0 : Nm X 0 "cell" := nm_mk C.hX.toXN (by decide +kernel)
  have n1 : Nm X 1 "some" := nm_mk C.hX.toXN (by decide +kernel)
  have l1 : Lc X 1 "some" := lc_mk C.hX.toXN (by decide +kernel)
  have g_len : Gn X "len" := gn_mk C.hX.toXN (by decide +kernel)
  have f_len : X.mg "len" = none := C.fc.free 47
  refine w_asg (α := (List PySem.Str)) (Γ' := fun y142 : (List PySem.Str) => [.fr (α := Int) t.1, .fr (α := (List PySem.Str)) y142]) fr l1 (he := by rfl) ?_ fun y142 => ?_
  · exact (EvO.fz (ev_lst (md := true) (el_cons (md := true) (ev_str (md := true) rfl) (el_cons (md := true) (ev_str (md := true) rfl) (el_cons (md := true) (ev_str (md := true) rfl) (el_cons (md := true) (ev_str (md := true) rfl) (el_cons (md := true) (ev_str (md := true) rfl) (el_cons (md := true) (ev_str (md := true) rfl) (el_cons (md := true) (ev_str (md := true) rfl) (el_cons (md := true) (ev_str (md := true) rfl) (el_cons (md := true) (ev_str (md := true) rfl) (el_cons (md := true) (ev_str (md := true) rfl) (el_cons (md := true) (ev_str (md := true) rfl) (el_cons (md := true) (ev_str (md := true) rfl) (el_cons (md := true) (ev_str (md := true) rfl) (el_cons (md := true) (ev_str (md := true) rfl) (el_cons (md := true) (ev_str (md := true) rfl) (el_cons (md := true) (ev_str (md := true) rfl) (el_cons (md := true) (ev_str (md := true) rfl) (el_cons (md := true) (ev_str (md := true) rfl) (el_nil (α := PySem.Str) rfl) rfl) rfl) rfl) rfl) rfl) rfl) rfl) rfl) rfl) rfl) rfl) rfl) rfl) rfl) rfl) rfl) rfl) rfl)))
  refine w_asg (α := (List PySem.Str)) (Γ' := fun y153 : (List PySem.Str) => [.fr (α := Int) t.1, .fr (α := (List PySem.Str)) y153]) fr l1 (he := by rfl) ?_ fun y153 => ?_
  · exact (EvO.fz (ev_cat (md := true) (ev_var (md := true) n1 rfl rfl) (EvO.fz (ev_lst (md := true) (el_cons (md := true) (ev_mulS (ma := true) (mb := true) (md := true) (ev_str (md := true) rfl) (ev_int (md := true) rfl) rfl) (el_cons (md := true) (ev_mulS (ma := true) (mb := true) (md := true) (ev_str (md := true) rfl) (ev_int (md := true) rfl) rfl) (el_cons (md := true) (ev_catS (ma := true) (mb := true) (md := true) (ev_str (md := true) rfl) (ev_mulS (ma := true) (mb := true) (md := true) (ev_str (md := true) rfl) (ev_int (md := true) rfl) rfl) rfl) (el_cons (md := true) (ev_catS (ma := true) (mb := true) (md := true) (ev_str (md := true) rfl) (ev_mulS (ma := true) (mb := true) (md := true) (ev_str (md := true) rfl) (ev_int (md := true) rfl) rfl) rfl) (el_nil (α := PySem.Str) rfl) rfl) rfl) rfl) (by simp only [bind_okP, ofO_someP]; rfl)))) rfl))
  exact w_ret (m1 := (((modR t.1 (y153.length : Int)) : R _).bind fun x154 => (ixR y153 x154))) (g := fun z => z) fr hR (ev_ixL (md := true) (mb := true) (ev_var (md := true) n1 rfl rfl) (ev_mod (ma := true) (mb := true) (md := true) (ev_var (md := true) n0 rfl rfl) (ev_lenL (m1 := .ok y153) (ma := true) (md := true) g_len f_len (ev_var (md := true) n1 rfl rfl) rfl) rfl) rfl) (fun _ h => h) rfl
theorem gd_law_other_word {P : Program} {w : World} {K : PySem.W.Frag} {mg : PySem.Str → Option Value} {base : Heap} (fc : Fac fe fa fn K mg) : Gd P w K mg base "_law_other_word" (spF K (τ := Int × Unit) (ρ := PySem.Str) 1 m_law_other_word) 1 1 :=
  gd_F 19 44 fc rfl rfl sc_law_other_word rfl bn_law_other_word fun X _ _ _ _ _ C H0 qs rt A B fr hR t => b_law_other_word (by omega) X C H0 qs rt A B fr hR t
theorem sc_law_spoiled : FnScope ["text", "cell", "rows", "at", "words", "spot", "row", "place", "sign"] ["text", "cell"] dd__law_spoiled.scope := ⟨rfl, rfl, rfl, by decide +kernel, rfl, by decide +kernel, by decide +kernel⟩
theorem bn_law_spoiled : BindE dd__law_spoiled ["text", "cell"] := fun _ _ _ _ _ _ us hl => match us, hl with | [_, _], _ => rfl
theorem b_law_spoiled {k : Nat} (hk : 1 ≤ k) (X : Cx) (C : Cb fe fa fn X (["text", "cell", "rows", "at", "words", "spot", "row", "place", "sign"] : List PySem.Str) dd__law_spoiled.scope k) (H0 : Hp) (qs : List Addr) (rt : VK) (A : PySem.Str → Prop) (B : Exc → Prop) (fr : Fr X H0 B) (hR : RtF (ρ := PySem.Str) X H0 qs rt A) (t : PySem.Str × Int × Unit) :
    W X H0 qs rt (fun _ H => rt .non H) A B [.fr (α := PySem.Str) t.1, .fr (α := Int) t.2.1, .un, .un, .un, .un, .un, .un, .un] dd__law_spoiled.body (m_law_spoiled t) := by
  have n0 : Nm X 0 "text" := nm_mk C.hX.toXN (by decide +kernel)
  have n1 : Nm X 1 "cell" := nm_mk C.hX.toXN (by decide +kernel)
  have n2 : Nm X 2 "rows" := nm_mk C.hX.toXN (by decide +kernel)
  have n3 : Nm X 3 "at" := nm_mk C.hX.toXN (by decide +kernel)
  have n4 : Nm X 4 "words" := nm_mk C.hX.toXN (by decide +kernel)
  have n5 : Nm X 5 "spot" := nm_mk C.hX.toXN (by decide +kernel)
  have n6 : Nm X 6 "row" := nm_mk C.hX.toXN (by decide +kernel)
  have n7 : Nm X 7 "place" := nm_mk C.hX.toXN (by decide +kernel)
  have n8 : Nm X 8 "sign" := nm_mk C.hX.toXN (by decide +kernel)
  have l1 : Lc X 1 "cell" := lc_mk C.hX.toXN (by decide +kernel)
  have l2 : Lc X 2 "rows" := lc_mk C.hX.toXN (by decide +kernel)
  have l3 : Lc X 3 "at" := lc_mk C.hX.toXN (by decide +kernel)
  have l4 : Lc X 4 "words" := lc_mk C.hX.toXN (by decide +kernel)
  have l5 : Lc X 5 "spot" := lc_mk C.hX.toXN (by decide +kernel)
  have l6 : Lc X 6 "row" := lc_mk C.hX.toXN (by decide +kernel)
  have l7 : Lc X 7 "place" := lc_mk C.hX.toXN (by decide +kernel)
  have l8 : Lc X 8 "sign" := lc_mk C.hX.toXN (by decide +kernel)
  have g__law_other_word : Gn X "_law_other_word" := gn_mk C.hX.toXN (by decide +kernel)
  have g_len : Gn X "len" := gn_mk C.hX.toXN (by decide +kernel)
  have f_len : X.mg "len" = none := C.fc.free 47
  have d_law_other_word : Dn X "_law_other_word" (spF X.K (τ := Int × Unit) (ρ := PySem.Str) 1 m_law_other_word) 1 := (gd_law_other_word C.fc).dn C.rm (by omega)
  refine w_asg (α := Int) (Γ' := fun y120 : Int => [.fr (α := PySem.Str) t.1, .fr (α := Int) y120, .un, .un, .un, .un, .un, .un, .un]) fr l1 (he := by rfl) ?_ fun y120 => ?_
  · exact (ev_mod (ma := true) (mb := true) (md := true) (ev_var (md := true) n1 rfl rfl) (ev_pow (ma := true) (mb := true) (md := true) (ev_int (md := true) rfl) (ev_int (md := true) rfl) rfl) rfl)
  refine w_asgO (α := PySem.Str) (Γ' := fun y121 : (List PySem.Str) => [.fr (α := PySem.Str) t.1, .fr (α := Int) y120, .ow (α := PySem.Str) y121, .un, .un, .un, .un, .un, .un]) fr l2 (he := by rfl) ?_ fun y121 => ?_
  · exact (ev_splitS (ma := true) (mb := true) (md := true) (ev_var (md := true) n0 rfl rfl) (ev_str (md := true) rfl) rfl)
  refine w_asg (α := Int) (Γ' := fun y123 : Int => [.fr (α := PySem.Str) t.1, .fr (α := Int) y120, .ow (α := PySem.Str) y121, .fr (α := Int) y123, .un, .un, .un, .un, .un]) fr l3 (he := by rfl) ?_ fun y123 => ?_
  · exact (ev_mod (ma := true) (mb := true) (md := true) (ev_div (ma := true) (mb := true) (md := true) (ev_var (md := true) n1 rfl rfl) (ev_int (md := true) rfl) rfl) (ev_lenL (m1 := .ok y121) (ma := false) (md := true) g_len f_len (ev_own n2 rfl rfl) rfl) rfl)
  refine w_asgO (α := PySem.Str) (Γ' := fun y125 : (List PySem.Str) => [.fr (α := PySem.Str) t.1, .fr (α := Int) y120, .ow (α := PySem.Str) y121, .fr (α := Int) y123, .ow (α := PySem.Str) y125, .un, .un, .un, .un]) fr l4 (he := by rfl) ?_ fun y125 => ?_
  · exact (ev_splitS (ma := true) (mb := true) (md := true) (Ev.flat (ma := false) (ev_ixL (md := false) (mb := true) (ev_own n2 rfl rfl) (ev_var (md := true) n3 rfl rfl) rfl)) (ev_str (md := true) rfl) rfl)
  refine w_asg (α := Int) (Γ' := fun y127 : Int => [.fr (α := PySem.Str) t.1, .fr (α := Int) y120, .ow (α := PySem.Str) y121, .fr (α := Int) y123, .ow (α := PySem.Str) y125, .fr (α := Int) y127, .un, .un, .un]) fr l5 (he := by rfl) ?_ fun y127 => ?_
  · exact (ev_mod (ma := true) (mb := true) (md := true) (ev_div (ma := true) (mb := true) (md := true) (ev_var (md := true) n1 rfl rfl) (ev_int (md := true) rfl) rfl) (ev_lenL (m1 := .ok y125) (ma := false) (md := true) g_len f_len (ev_own n4 rfl rfl) rfl) rfl)
  refine w_ifR (mc := (((modR y120 (8 : Int)) : R _).bind fun x128 => (.ok (pyEq x128 (1 : Int))))) fr (et_eq (α := Int) (ma := true) (mb := true) C.hu (ev_mod (ma := true) (mb := true) (md := true) (ev_var (md := true) n1 rfl rfl) (ev_int (md := true) rfl) rfl) (ev_int (md := true) rfl) rfl) (fun nx' => ?_) ?_ (he := by rfl)
  · skip
    exact w_ret (m1 := (((catR (cutL y121 none (some y123)) (cutL y121 (some (y123 + (1 : Int))) none)) : R _).bind fun x129 => (joinS ("\n" : PySem.Str) x129))) (g := fun z => z) fr hR (ev_joinL (ma := true) (mb := true) (md := true) (ev_str (md := true) rfl) (EvO.fz (ev_cat (md := true) (EvO.fz (EvO.flat (ma := false) (ev_cut (md := false) (ev_own n2 rfl rfl) ep_no (ep_of (ma := true) (ev_var (md := true) n3 rfl rfl) rfl) rfl))) (EvO.fz (EvO.flat (ma := false) (ev_cut (md := false) (ev_own n2 rfl rfl) (ep_of (ma := true) (ev_add (ma := true) (mb := true) (md := true) (ev_var (md := true) n3 rfl rfl) (ev_int (md := true) rfl) rfl) rfl) ep_no rfl))) rfl)) rfl) (fun _ h => h) rfl
  refine w_ifR (mc := (((modR y120 (8 : Int)) : R _).bind fun x131 => (.ok (pyEq x131 (2 : Int))))) fr (et_eq (α := Int) (ma := true) (mb := true) C.hu (ev_mod (ma := true) (mb := true) (md := true) (ev_var (md := true) n1 rfl rfl) (ev_int (md := true) rfl) rfl) (ev_int (md := true) rfl) rfl) (fun nx' => ?_) ?_ (he := by rfl)
  · skip
    exact w_ret (m1 := (((catR (cutL y121 none (some (y123 + (1 : Int)))) (cutL y121 (some y123) none)) : R _).bind fun x132 => (joinS ("\n" : PySem.Str) x132))) (g := fun z => z) fr hR (ev_joinL (ma := true) (mb := true) (md := true) (ev_str (md := true) rfl) (EvO.fz (ev_cat (md := true) (EvO.fz (EvO.flat (ma := false) (ev_cut (md := false) (ev_own n2 rfl rfl) ep_no (ep_of (ma := true) (ev_add (ma := true) (mb := true) (md := true) (ev_var (md := true) n3 rfl rfl) (ev_int (md := true) rfl) rfl) rfl) rfl))) (EvO.fz (EvO.flat (ma := false) (ev_cut (md := false) (ev_own n2 rfl rfl) (ep_of (ma := true) (ev_var (md := true) n3 rfl rfl) rfl) ep_no rfl))) rfl)) rfl) (fun _ h => h) rfl
  refine w_ifR (mc := (((modR y120 (8 : Int)) : R _).bind fun x134 => (.ok (pyEq x134 (3 : Int))))) fr (et_eq (α := Int) (ma := true) (mb := true) C.hu (ev_mod (ma := true) (mb := true) (md := true) (ev_var (md := true) n1 rfl rfl) (ev_int (md := true) rfl) rfl) (ev_int (md := true) rfl) rfl) (fun nx' => ?_) ?_ (he := by rfl)
  · skip
    refine w_popAsg (α := PySem.Str) (mj := (.ok y123)) (Γ' := fun u135 : PySem.Str × (List PySem.Str) => [.fr (α := PySem.Str) t.1, .fr (α := Int) y120, .ow (α := PySem.Str) u135.2, .fr (α := Int) y123, .ow (α := PySem.Str) y125, .fr (α := Int) y127, .fr (α := PySem.Str) u135.1, .un, .un]) fr l6 n2 rfl ?_ (he := by rfl) fun u135 => ?_
    · exact (ev_var (md := true) n3 rfl rfl)
    refine w_insert (α := PySem.Str) (mj := (((divR y120 (136 : Int)) : R _).bind fun x136 => (modR x136 ((u135.2.length : Int) + (1 : Int))))) (m1 := (.ok u135.1)) (Γ' := fun y137 : (List PySem.Str) => [.fr (α := PySem.Str) t.1, .fr (α := Int) y120, .ow (α := PySem.Str) y137, .fr (α := Int) y123, .ow (α := PySem.Str) y125, .fr (α := Int) y127, .fr (α := PySem.Str) u135.1, .un, .un]) fr n2 rfl ?_ ?_ (he := by rfl) fun y137 => ?_
    · exact (ev_mod (ma := true) (mb := true) (md := true) (ev_div (ma := true) (mb := true) (md := true) (ev_var (md := true) n1 rfl rfl) (ev_int (md := true) rfl) rfl) (ev_add (ma := true) (mb := true) (md := true) (ev_lenL (ma := false) (md := true) g_len f_len (ev_own n2 rfl rfl) rfl) (ev_int (md := true) rfl) rfl) rfl)
    · exact (ev_var (md := true) n6 rfl rfl)
    exact w_ret (m1 := (joinS ("\n" : PySem.Str) y137)) (g := fun z => z) fr hR (ev_joinL (ma := true) (mb := false) (md := true) (ev_str (md := true) rfl) (ev_own n2 rfl rfl) rfl) (fun _ h => h) rfl
  refine w_ifJ (S := (List PySem.Str)) (mc := (((modR y120 (8 : Int)) : R _).bind fun x140 => (.ok (pyEq x140 (4 : Int))))) (ma := (((((((divR y120 (1360 : Int)) : R _).bind fun x156 => (.ok (x156, (())))) : R _).bind fun x157 => (m_law_other_word x157)) : R _).bind fun x159 => ((setR y125 y127 x159).bind fun y158 => (.ok y158)))) (mb := (.ok y125)) (Γs := fun s141 : (List PySem.Str) => [.fr (α := PySem.Str) t.1, .fr (α := Int) y120, .ow (α := PySem.Str) y121, .fr (α := Int) y123, .ow (α := PySem.Str) s141, .fr (α := Int) y127, .un, .un, .un]) fr (et_eq (α := Int) (ma := true) (mb := true) C.hu (ev_mod (ma := true) (mb := true) (md := true) (ev_var (md := true) n1 rfl rfl) (ev_int (md := true) rfl) rfl) (ev_int (md := true) rfl) rfl) ?_ ?_ (he := by rfl) fun s141 => ?_
  · intro N
    refine w_setix (α := PySem.Str) (m1 := (((((divR y120 (1360 : Int)) : R _).bind fun x156 => (.ok (x156, (())))) : R _).bind fun x157 => (m_law_other_word x157))) (mj := (.ok y127)) (Γ' := fun y158 : (List PySem.Str) => [.fr (α := PySem.Str) t.1, .fr (α := Int) y120, .ow (α := PySem.Str) y121, .fr (α := Int) y123, .ow (α := PySem.Str) y158, .fr (α := Int) y127, .un, .un, .un]) fr n4 rfl ?_ ?_ (he := by rfl) fun y158 => ?_
    · exact (ev_call (md := true) d_law_other_word g__law_other_word (ea_cons (md := true) (ev_div (ma := true) (mb := true) (md := true) (ev_var (md := true) n1 rfl rfl) (ev_int (md := true) rfl) rfl) (ea_nil (md := true) rfl) rfl) rfl rfl)
    · exact (ev_var (md := true) n5 rfl rfl)
    exact w_end (s := y158) [] rfl rfl
  · intro N
    exact w_end (s := y125) [] rfl rfl
  refine w_ifJ (S := (List PySem.Str)) (mc := (((modR y120 (8 : Int)) : R _).bind fun x160 => (.ok (pyEq x160 (5 : Int))))) (ma := (((((((divR y120 (1360 : Int)) : R _).bind fun x162 => (.ok (x162, (())))) : R _).bind fun x163 => (m_law_other_word x163)) : R _).bind fun x165 => ((insR s141 (y127 + (1 : Int)) x165).bind fun y164 => (.ok y164)))) (mb := (.ok s141)) (Γs := fun s161 : (List PySem.Str) => [.fr (α := PySem.Str) t.1, .fr (α := Int) y120, .ow (α := PySem.Str) y121, .fr (α := Int) y123, .ow (α := PySem.Str) s161, .fr (α := Int) y127, .un, .un, .un]) fr (et_eq (α := Int) (ma := true) (mb := true) C.hu (ev_mod (ma := true) (mb := true) (md := true) (ev_var (md := true) n1 rfl rfl) (ev_int (md := true) rfl) rfl) (ev_int (md := true) rfl) rfl) ?_ ?_ (he := by rfl) fun s161 => ?_
  · intro N
    refine w_insert (α := PySem.Str) (mj := (.ok (y127 + (1 : Int)))) (m1 := (((((divR y120 (1360 : Int)) : R _).bind fun x162 => (.ok (x162, (())))) : R _).bind fun x163 => (m_law_other_word x163))) (Γ' := fun y164 : (List PySem.Str) => [.fr (α := PySem.Str) t.1, .fr (α := Int) y120, .ow (α := PySem.Str) y121, .fr (α := Int) y123, .ow (α := PySem.Str) y164, .fr (α := Int) y127, .un, .un, .un]) fr n4 rfl ?_ ?_ (he := by rfl) fun y164 => ?_
    · exact (ev_add (ma := true) (mb := true) (md := true) (ev_var (md := true) n5 rfl rfl) (ev_int (md := true) rfl) rfl)
    · exact (ev_call (md := true) d_law_other_word g__law_other_word (ea_cons (md := true) (ev_div (ma := true) (mb := true) (md := true) (ev_var (md := true) n1 rfl rfl) (ev_int (md := true) rfl) rfl) (ea_nil (md := true) rfl) rfl) rfl rfl)
    exact w_end (s := y164) [] rfl rfl
  · intro N
    exact w_end (s := s141) [] rfl rfl
  refine w_ifJ (S := (List PySem.Str)) (mc := (((modR y120 (8 : Int)) : R _).bind fun x166 => (.ok (pyEq x166 (6 : Int))))) (ma := ((popR s161 y127).bind fun u169 => (fun y168 => (.ok y168)) u169.2)) (mb := (.ok s161)) (Γs := fun s167 : (List PySem.Str) => [.fr (α := PySem.Str) t.1, .fr (α := Int) y120, .ow (α := PySem.Str) y121, .fr (α := Int) y123, .ow (α := PySem.Str) s167, .fr (α := Int) y127, .un, .un, .un]) fr (et_eq (α := Int) (ma := true) (mb := true) C.hu (ev_mod (ma := true) (mb := true) (md := true) (ev_var (md := true) n1 rfl rfl) (ev_int (md := true) rfl) rfl) (ev_int (md := true) rfl) rfl) ?_ ?_ (he := by rfl) fun s167 => ?_
  · intro N
    refine w_popS (α := PySem.Str) (mj := (.ok y127)) (Γ' := fun y168 : (List PySem.Str) => [.fr (α := PySem.Str) t.1, .fr (α := Int) y120, .ow (α := PySem.Str) y121, .fr (α := Int) y123, .ow (α := PySem.Str) y168, .fr (α := Int) y127, .un, .un, .un]) fr n4 rfl ?_ (fun y168 => ?_) (fun _ => rfl) rfl (he := by rfl)
    · exact (ev_var (md := true) n5 rfl rfl)
    exact w_end (s := y168) [] rfl rfl
  · intro N
    exact w_end (s := s161) [] rfl rfl
  refine w_ifJ (S := (List PySem.Str)) (mc := (((modR y120 (8 : Int)) : R _).bind fun x170 => (.ok (pyEq x170 (7 : Int))))) (ma := (((((divR y120 (136 : Int)) : R _).bind fun x174 => (((((((ixR y121 y123) : R _).bind fun x172 => (R.chk (decide (x172.length ≤ 16777216)) (x172.length : Int))) : R _).bind fun x173 => (.ok (x173 + (1 : Int)))) : R _).bind fun x175 => (modR x174 x175))) : R Int).bind fun y176 => (((((((divR y120 (1360 : Int)) : R _).bind fun x177 => (modR x177 (8 : Int))) : R _).bind fun x178 => (ixStr (" \n0-x_+." : PySem.Str) x178)) : R PySem.Str).bind fun y179 => (((((((((((ixR y121 y123) : R _).bind fun x181 => (slStr x181 none (some y176))) : R _).bind fun x182 => (catS x182 y179)) : R _).bind fun x185 => (((((ixR y121 y123) : R _).bind fun x184 => (slStr x184 (some y176) none)) : R _).bind fun x186 => (catS x185 x186))) : R _).bind fun x187 => (.ok (x187 :: []))) : R (List PySem.Str)).bind fun y188 => (.ok y188))))) (mb := (.ok s167)) (Γs := fun s171 : (List PySem.Str) => [.fr (α := PySem.Str) t.1, .fr (α := Int) y120, .ow (α := PySem.Str) y121, .fr (α := Int) y123, .ow (α := PySem.Str) s171, .fr (α := Int) y127, .un, .un, .un]) fr (et_eq (α := Int) (ma := true) (mb := true) C.hu (ev_mod (ma := true) (mb := true) (md := true) (ev_var (md := true) n1 rfl rfl) (ev_int (md := true) rfl) rfl) (ev_int (md := true) rfl) rfl) ?_ ?_ (he := by rfl) fun s171 => ?_
  · intro N
    refine w_asg (α := Int) (Γ' := fun y176 : Int => [.fr (α := PySem.Str) t.1, .fr (α := Int) y120, .ow (α := PySem.Str) y121, .fr (α := Int) y123, .ow (α := PySem.Str) s167, .fr (α := Int) y127, .un, .fr (α := Int) y176, .un]) fr l7 (he := by rfl) ?_ fun y176 => ?_
    · exact (ev_mod (ma := true) (mb := true) (md := true) (ev_div (ma := true) (mb := true) (md := true) (ev_var (md := true) n1 rfl rfl) (ev_int (md := true) rfl) rfl) (ev_add (ma := true) (mb := true) (md := true) (ev_lenTx (ma := true) (md := true) g_len f_len (Ev.flat (ma := false) (ev_ixL (md := false) (mb := true) (ev_own n2 rfl rfl) (ev_var (md := true) n3 rfl rfl) rfl)) rfl) (ev_int (md := true) rfl) rfl) rfl)
    refine w_asg (α := PySem.Str) (Γ' := fun y179 : PySem.Str => [.fr (α := PySem.Str) t.1, .fr (α := Int) y120, .ow (α := PySem.Str) y121, .fr (α := Int) y123, .ow (α := PySem.Str) s167, .fr (α := Int) y127, .un, .fr (α := Int) y176, .fr (α := PySem.Str) y179]) fr l8 (he := by rfl) ?_ fun y179 => ?_
    · exact (ev_ixStr (ma := true) (mb := true) (md := true) (ev_str (md := true) rfl) (ev_mod (ma := true) (mb := true) (md := true) (ev_div (ma := true) (mb := true) (md := true) (ev_var (md := true) n1 rfl rfl) (ev_int (md := true) rfl) rfl) (ev_int (md := true) rfl) rfl) rfl)
    refine w_asgO (α := PySem.Str) (Γ' := fun y188 : (List PySem.Str) => [.fr (α := PySem.Str) t.1, .fr (α := Int) y120, .ow (α := PySem.Str) y121, .fr (α := Int) y123, .ow (α := PySem.Str) y188, .fr (α := Int) y127, .un, .fr (α := Int) y176, .fr (α := PySem.Str) y179]) fr l4 (he := by rfl) ?_ fun y188 => ?_
    · exact (ev_lst (md := true) (el_cons (md := true) (ev_catS (ma := true) (mb := true) (md := true) (ev_catS (ma := true) (mb := true) (md := true) (ev_cutStr (ma := true) (md := true) (Ev.flat (ma := false) (ev_ixL (md := false) (mb := true) (ev_own n2 rfl rfl) (ev_var (md := true) n3 rfl rfl) rfl)) ep_no (ep_of (ma := true) (ev_var (md := true) n7 rfl rfl) rfl) rfl) (ev_var (md := true) n8 rfl rfl) rfl) (ev_cutStr (ma := true) (md := true) (Ev.flat (ma := false) (ev_ixL (md := false) (mb := true) (ev_own n2 rfl rfl) (ev_var (md := true) n3 rfl rfl) rfl)) (ep_of (ma := true) (ev_var (md := true) n7 rfl rfl) rfl) ep_no rfl) rfl) (el_nil (α := PySem.Str) rfl) rfl))
    exact w_end (s := y188) [7, 8] rfl rfl
  · intro N
    exact w_end (s := s167) [] rfl rfl
  exact w_ret (m1 := (((((((((joinS (" " : PySem.Str) s171) : R _).bind fun x189 => (.ok (x189 :: []))) : R _).bind fun x190 => (catR (cutL y121 none (some y123)) x190)) : R _).bind fun x191 => (catR x191 (cutL y121 (some (y123 + (1 : Int))) none))) : R _).bind fun x192 => (joinS ("\n" : PySem.Str) x192))) (g := fun z => z) fr hR (ev_joinL (ma := true) (mb := true) (md := true) (ev_str (md := true) rfl) (EvO.fz (ev_cat (md := true) (EvO.fz (ev_cat (md := true) (EvO.fz (EvO.flat (ma := false) (ev_cut (md := false) (ev_own n2 rfl rfl) ep_no (ep_of (ma := true) (ev_var (md := true) n3 rfl rfl) rfl) rfl))) (EvO.fz (ev_lst (md := true) (el_cons (md := true) (ev_joinL (ma := true) (mb := false) (md := true) (ev_str (md := true) rfl) (ev_own n4 rfl rfl) rfl) (el_nil (α := PySem.Str) rfl) rfl))) rfl)) (EvO.fz (EvO.flat (ma := false) (ev_cut (md := false) (ev_own n2 rfl rfl) (ep_of (ma := true) (ev_add (ma := true) (mb := true) (md := true) (ev_var (md := true) n3 rfl rfl) (ev_int (md := true) rfl) rfl) rfl) ep_no rfl))) rfl)) rfl) (fun _ h => h) rfl
theorem gd_law_spoiled {P : Program} {w : World} {K : PySem.W.Frag} {mg : PySem.Str → Option Value} {base : Heap} (fc : Fac fe fa fn K mg) : Gd P w K mg base "_law_spoiled" (spF K (τ := PySem.Str × Int × Unit) (ρ := PySem.Str) 2 m_law_spoiled) 2 2 :=
  gd_F 20 45 fc rfl rfl sc_law_spoiled rfl bn_law_spoiled fun X _ _ _ _ _ C H0 qs rt A B fr hR t => b_law_spoiled (by omega) X C H0 qs rt A B fr hR t
theorem sc_law_due_number : FnScope ["word", "most", "figures", "sign"] ["word", "most"] dd__law_due_number.scope := ⟨rfl, rfl, rfl, by decide +kernel, rfl, by decide +kernel, by decide +kernel⟩
theorem bn_law_due_number : BindE dd__law_due_number ["word", "most"] := fun _ _ _ _ _ _ us hl => match us, hl with | [_, _], _ => rfl
theorem b_law_due_number {k : Nat} (hk : 0 ≤ k) (X : Cx) (C : Cb fe fa fn X (["word", "most", "figures", "sign"] : List PySem.Str) dd__law_due_number.scope k) (H0 : Hp) (qs : List Addr) (rt : VK) (A : (Option Int) → Prop) (B : Exc → Prop) (fr : Fr X H0 B) (hR : RtF (ρ := (Option Int)) X H0 qs rt A) (t : PySem.Str × Int × Unit) :
    W X H0 qs rt (fun _ H => rt .non H) A B [.fr (α := PySem.Str) t.1, .fr (α := Int) t.2.1, .un, .un] dd__law_due_number.body (m_law_due_number t) := by
  have n0 : Nm X 0 "word" := nm_mk C.hX.toXN (by decide +kernel)
  have n1 : Nm X 1 "most" := nm_mk C.hX.toXN (by decide +kernel)
  have n2 : Nm X 2 "figures" := nm_mk C.hX.toXN (by decide +kernel)
  have n3 : Nm X 3 "sign" := nm_mk C.hX.toXN (by decide +kernel)
  have l2 : Lc X 2 "figures" := lc_mk C.hX.toXN (by decide +kernel)
  have l3 : Lc X 3 "sign" := lc_mk C.hX.toXN (by decide +kernel)
  have g_int : Gn X "int" := gn_mk C.hX.toXN (by decide +kernel)
  have g_len : Gn X "len" := gn_mk C.hX.toXN (by decide +kernel)
  have f_int : X.mg "int" = none := C.fc.free 54
  have f_len : X.mg "len" = none := C.fc.free 47
  refine w_asg (α := PySem.Str) (Γ' := fun y222 : PySem.Str => [.fr (α := PySem.Str) t.1, .fr (α := Int) t.2.1, .fr (α := PySem.Str) y222, .un]) fr l2 (he := by rfl) ?_ fun y222 => ?_
  · exact (ev_var (md := true) n0 rfl rfl)
  refine w_ifJ (S := PySem.Str) (mc := (((slStr t.1 none (some (1 : Int))) : R _).bind fun x223 => (.ok (pyEq x223 ("-" : PySem.Str))))) (ma := (((slStr t.1 (some (1 : Int)) none) : R PySem.Str).bind fun y225 => (.ok y225))) (mb := (.ok y222)) (Γs := fun s224 : PySem.Str => [.fr (α := PySem.Str) t.1, .fr (α := Int) t.2.1, .fr (α := PySem.Str) s224, .un]) fr (et_eq (α := PySem.Str) (ma := true) (mb := true) C.hu (ev_cutStr (ma := true) (md := true) (ev_var (md := true) n0 rfl rfl) ep_no (ep_of (ma := true) (ev_int (md := true) rfl) rfl) rfl) (ev_str (md := true) rfl) rfl) ?_ ?_ (he := by rfl) fun s224 => ?_
  · intro N
    refine w_asg (α := PySem.Str) (Γ' := fun y225 : PySem.Str => [.fr (α := PySem.Str) t.1, .fr (α := Int) t.2.1, .fr (α := PySem.Str) y225, .un]) fr l2 (he := by rfl) ?_ fun y225 => ?_
    · exact (ev_cutStr (ma := true) (md := true) (ev_var (md := true) n0 rfl rfl) (ep_of (ma := true) (ev_int (md := true) rfl) rfl) ep_no rfl)
    exact w_end (s := y225) [] rfl rfl
  · intro N
    exact w_end (s := y222) [] rfl rfl
  refine w_ifR (mc := (if (pyEq s224 ("" : PySem.Str)) = true then R.ok true else (((R.chk (decide (s224.length ≤ 16777216)) (s224.length : Int)) : R _).bind fun x226 => (.ok (decide (t.2.1 < x226)))))) fr (EvW.t (ew_or (et_eq (α := PySem.Str) (ma := true) (mb := true) C.hu (ev_var (md := true) n2 rfl rfl) (ev_str (md := true) rfl) rfl) (ew_or1 (et_gt (ma := true) (mb := true) (ev_lenTx (ma := true) (md := true) g_len f_len (ev_var (md := true) n2 rfl rfl) rfl) (ev_var (md := true) n1 rfl rfl) rfl)) rfl)) (fun nx' => ?_) ?_ (he := by rfl)
  · skip
    exact w_ret (m1 := (.ok none)) (g := fun z => z) fr hR (ev_none (md := true) rfl) (fun _ h => h) rfl
  refine w_forM (α := PySem.Str) (S := Unit) (mx := (.ok (signs s224))) (bd := (fun y228 s227 => ((((inStr y228 ("0123456789" : PySem.Str)).bind fun b => .ok (!b)) : R Bool).bind fun c231 => if c231 = true then (.ok (.rt none)) else (.ok (.nx ()))))) (s0 := ()) (Γs := fun s227 : Unit => [.fr (α := PySem.Str) t.1, .fr (α := Int) t.2.1, .fr (α := PySem.Str) s224, .un]) (Γb := fun (y228 : PySem.Str) (s227 : Unit) => [.fr (α := PySem.Str) t.1, .fr (α := Int) t.2.1, .fr (α := PySem.Str) s224, .fr (α := PySem.Str) y228]) (is := [3]) C.hX.calm fr (he := by rfl) ?_ ?_ ?_ fun s227 => ?_
  · exact (ei_str (ma := true) (ev_var (md := true) n2 rfl rfl) rfl)
  · exact fun y228 s227 => (eg_name (α := PySem.Str) l3 rfl (fun _ => rfl))
  · intro H229 sb230 N y228 s227
    replace fr := fr.up sb230
    try replace hR := hR.up sb230
    refine w_ifR (mc := ((inStr y228 ("0123456789" : PySem.Str)).bind fun b => .ok (!b))) fr (et_niS (ma := true) (mb := true) (ev_var (md := true) n3 rfl rfl) (ev_str (md := true) rfl) rfl) (fun nx' => ?_) ?_ (he := by rfl)
    · skip
      exact w_ret (m1 := (.ok none)) (g := fun z => .rt z) fr hR (ev_none (md := true) rfl) (fun _ h => h) rfl
    exact w_endM (s := ()) [3] rfl rfl
  refine w_ifR (mc := (((((ixStr s224 (0 : Int)) : R _).bind fun x232 => (.ok (pyEq x232 ("0" : PySem.Str)))) : R _).bind fun x233 => (if x233 = true then (R.ok (!pyEq t.1 ("0" : PySem.Str))) else R.ok false))) fr (EvW.t (ew_and (et_eq (α := PySem.Str) (ma := true) (mb := true) C.hu (ev_ixStr (ma := true) (mb := true) (md := true) (ev_var (md := true) n2 rfl rfl) (ev_int (md := true) rfl) rfl) (ev_str (md := true) rfl) rfl) (ew_and1 (et_ne (α := PySem.Str) (ma := true) (mb := true) C.hu (ev_var (md := true) n0 rfl rfl) (ev_str (md := true) rfl) rfl)) rfl)) (fun nx' => ?_) ?_ (he := by rfl)
  · skip
    exact w_ret (m1 := (.ok none)) (g := fun z => z) fr hR (ev_none (md := true) rfl) (fun _ h => h) rfl
  exact w_ret (m1 := (((intStr t.1) : R _).bind fun x234 => (.ok (some x234)))) (g := fun z => z) fr hR (Ev.some (m := (intStr t.1)) (ev_intStr (ma := true) (md := true) (nd_of (C.fc.s.fact 0 rfl)) g_int f_int (ev_var (md := true) n0 rfl rfl) rfl) rfl) (fun _ h => h) rfl
theorem gd_law_due_number {P : Program} {w : World} {K : PySem.W.Frag} {mg : PySem.Str → Option Value} {base : Heap} (fc : Fac fe fa fn K mg) : Gd P w K mg base "_law_due_number" (spF K (τ := PySem.Str × Int × Unit) (ρ := (Option Int)) 2 m_law_due_number) 2 1 :=
  gd_F 14 39 fc rfl rfl sc_law_due_number rfl bn_law_due_number fun X _ _ _ _ _ C H0 qs rt A B fr hR t => b_law_due_number (by omega) X C H0 qs rt A B fr hR t
theorem sc_law_numbers_in : FnScope ["row", "word", "words", "numbers", "one"] ["row", "word"] dd__law_numbers_in.scope := ⟨rfl, rfl, rfl, by decide +kernel, rfl, by decide +kernel, by decide +kernel⟩
theorem bn_law_numbers_in : BindE dd__law_numbers_in ["row", "word"] := fun _ _ _ _ _ _ us hl => match us, hl with | [_, _], _ => rfl
theorem b_law_numbers_in {k : Nat} (hk : 1 ≤ k) (X : Cx) (C : Cb fe fa fn X (["row", "word", "words", "numbers", "one"] : List PySem.Str) dd__law_numbers_in.scope k) (H0 : Hp) (qs : List Addr) (rt : VK) (A : (Option (List Int)) → Prop) (B : Exc → Prop) (fr : Fr X H0 B) (hR : RtF (ρ := (Option (List Int))) X H0 qs rt A) (t : PySem.Str × PySem.Str × Unit) :
    W X H0 qs rt (fun _ H => rt .non H) A B [.fr (α := PySem.Str) t.1, .fr (α := PySem.Str) t.2.1, .un, .un, .un] dd__law_numbers_in.body (m_law_numbers_in t) := by
  have n0 : Nm X 0 "row" := nm_mk C.hX.toXN (by decide +kernel)
  have n1 : Nm X 1 "word" := nm_mk C.hX.toXN (by decide +kernel)
  have n2 : Nm X 2 "words" := nm_mk C.hX.toXN (by decide +kernel)
  have n3 : Nm X 3 "numbers" := nm_mk C.hX.toXN (by decide +kernel)
  have l2 : Lc X 2 "words" := lc_mk C.hX.toXN (by decide +kernel)
  have l3 : Lc X 3 "numbers" := lc_mk C.hX.toXN (by decide +kernel)
  have d_law_due_number : Dn X "_law_due_number" (spF X.K (τ := PySem.Str × Int × Unit) (ρ := (Option Int)) 2 m_law_due_number) 2 := (gd_law_due_number C.fc).dn C.rm (by omega)
  refine w_asg (α := (List PySem.Str)) (Γ' := fun y216 : (List PySem.Str) => [.fr (α := PySem.Str) t.1, .fr (α := PySem.Str) t.2.1, .fr (α := (List PySem.Str)) y216, .un, .un]) fr l2 (he := by rfl) ?_ fun y216 => ?_
  · exact (EvO.fz (ev_splitS (ma := true) (mb := true) (md := true) (ev_var (md := true) n0 rfl rfl) (ev_str (md := true) rfl) rfl))
  refine w_asgC (α := (Option Int)) (Γ' := fun y240 : (List (Option Int)) => [.fr (α := PySem.Str) t.1, .fr (α := PySem.Str) t.2.1, .fr (α := (List PySem.Str)) y216, .ow (α := (Option Int)) y240, .un]) fr l3 (by rw [C.hX.hs]; decide +kernel) C.kd (he := by rfl) ?_ fun y240 => ?_
  · exact (ec_map (mi := true) (α := PySem.Str) (β := (Option Int)) (mx := (.ok (cutL y216 (some (1 : Int)) none))) (g := (fun y217 => (m_law_due_number (y217, (60 : Int), ())))) (own := [("one", 4)]) (Γx := fun y217 : PySem.Str => [.fr (α := PySem.Str) t.1, .fr (α := PySem.Str) t.2.1, .fr (α := (List PySem.Str)) y216, .un, .fr (α := PySem.Str) y217]) (is := [4]) C.hX (ei_list (EvO.fz (ev_cut (md := true) (ev_var (md := true) n2 rfl rfl) (ep_of (ma := true) (ev_int (md := true) rfl) rfl) ep_no rfl))) (.inl rfl) (by decide +kernel) (no1 (fun _ => rfl)) (by decide) (fun X219 b218 y217 => have h220 := b218.ok C.hX; (eg_name (α := PySem.Str) (lc_mk (i := 4) (x := "one") h220.toXN (by decide +kernel)) rfl (fun _ => rfl))) (fun X219 b218 D221 y217 => have h220 := b218.ok C.hX; (ev_call (md := true) (b218.dnF d_law_due_number) (gn_mk (x := "_law_due_number") h220.toXN (by decide +kernel)) (ea_cons (md := true) (ev_var (md := true) (nm_mk (i := 4) (x := "one") h220.toXN (by decide +kernel)) rfl rfl) (ea_cons (md := true) (ev_int (md := true) rfl) (ea_nil (md := true) rfl) rfl) rfl) rfl rfl)) rfl)
  refine w_ifR (mc := (((((ixR y216 (0 : Int)) : R _).bind fun x241 => (.ok (!pyEq x241 t.2.1))) : R _).bind fun x242 => (if x242 = true then R.ok true else (R.ok ((y240).any (fun z => pyEq z (none : (Option Int)))))))) fr (EvW.t (ew_or (et_ne (α := PySem.Str) (ma := true) (mb := true) C.hu (ev_ixL (md := true) (mb := true) (ev_var (md := true) n2 rfl rfl) (ev_int (md := true) rfl) rfl) (ev_var (md := true) n1 rfl rfl) rfl) (ew_or1 (et_inX (ma := true) (mb := false) C.hv (ev_none (md := true) rfl) (ev_own n3 rfl rfl) rfl)) rfl)) (fun nx' => ?_) ?_ (he := by rfl)
  · skip
    exact w_ret (m1 := (.ok none)) (g := fun z => z) fr hR (ev_none (md := true) rfl) (fun _ h => h) rfl
  refine w_frz 3 rfl (Γ' := [.fr (α := PySem.Str) t.1, .fr (α := PySem.Str) t.2.1, .fr (α := (List PySem.Str)) y216, .fr (α := (List (Option Int))) y240, .un]) rfl ?_
  exact w_ret (m1 := (((allS y240) : R _).bind fun x244 => (.ok (some x244)))) (g := fun z => z) fr hR (Ev.some (m := (allS y240)) (Ev.allS (m1 := (.ok y240)) (ev_var (md := true) n3 rfl rfl) rfl) rfl) (fun _ h => h) rfl
theorem gd_law_numbers_in {P : Program} {w : World} {K : PySem.W.Frag} {mg : PySem.Str → Option Value} {base : Heap} (fc : Fac fe fa fn K mg) : Gd P w K mg base "_law_numbers_in" (spF K (τ := PySem.Str × PySem.Str × Unit) (ρ := (Option (List Int))) 2 m_law_numbers_in) 2 2 :=
  gd_F 15 40 fc rfl rfl sc_law_numbers_in rfl bn_law_numbers_in fun X _ _ _ _ _ C H0 qs rt A B fr hR t => b_law_numbers_in (by omega) X C H0 qs rt A B fr hR t
theorem sc_law_in_one_piece : FnScope ["houses", "ties", "near", "turn", "one", "other"] ["houses", "ties"] dd__law_in_one_piece.scope := ⟨rfl, rfl, rfl, by decide +kernel, rfl, by decide +kernel, by decide +kernel⟩
theorem bn_law_in_one_piece : BindE dd__law_in_one_piece ["houses", "ties"] := fun _ _ _ _ _ _ us hl => match us, hl with | [_, _], _ => rfl
theorem b_law_in_one_piece {k : Nat} (hk : 0 ≤ k) (X : Cx) (C : Cb fe fa fn X (["houses", "ties", "near", "turn", "one", "other"] : List PySem.Str) dd__law_in_one_piece.scope k) (H0 : Hp) (qs : List Addr) (rt : VK) (A : Bool → Prop) (B : Exc → Prop) (fr : Fr X H0 B) (hR : RtF (ρ := Bool) X H0 qs rt A) (t : Int × (List (List Int)) × Unit) :
    W X H0 qs rt (fun _ H => rt .non H) A B [.fr (α := Int) t.1, .fr (α := (List (List Int))) t.2.1, .un, .un, .un, .un] dd__law_in_one_piece.body (m_law_in_one_piece t) := by
  have n0 : Nm X 0 "houses" := nm_mk C.hX.toXN (by decide +kernel)
  have n1 : Nm X 1 "ties" := nm_mk C.hX.toXN (by decide +kernel)
  have n2 : Nm X 2 "near" := nm_mk C.hX.toXN (by decide +kernel)
  have n4 : Nm X 4 "one" := nm_mk C.hX.toXN (by decide +kernel)
  have n5 : Nm X 5 "other" := nm_mk C.hX.toXN (by decide +kernel)
  have l2 : Lc X 2 "near" := lc_mk C.hX.toXN (by decide +kernel)
  have l3 : Lc X 3 "turn" := lc_mk C.hX.toXN (by decide +kernel)
  have l4 : Lc X 4 "one" := lc_mk C.hX.toXN (by decide +kernel)
  have l5 : Lc X 5 "other" := lc_mk C.hX.toXN (by decide +kernel)
  have g_len : Gn X "len" := gn_mk C.hX.toXN (by decide +kernel)
  have g_range : Gn X "range" := gn_mk C.hX.toXN (by decide +kernel)
  have f_len : X.mg "len" = none := C.fc.free 47
  have f_range : X.mg "range" = none := C.fc.free 48
  refine w_asgO (α := Int) (Γ' := fun y284 : (List Int) => [.fr (α := Int) t.1, .fr (α := (List (List Int))) t.2.1, .ow (α := Int) y284, .un, .un, .un]) fr l2 (he := by rfl) ?_ fun y284 => ?_
  · exact (ev_lst (md := true) (el_cons (md := true) (ev_int (md := true) rfl) (el_nil (α := Int) rfl) rfl))
  refine w_for (α := Int) (S := (List Int)) (mx := (rngR 0 t.1)) (bd := (fun y286 s285 => (((R.ofO (twoO t.2.1)) : R _).bind fun x297 => (R.bind (forR (fun y290 s289 => (R.bind (if (!pyEq (decide (y290.a ∈ s289)) (decide (y290.b ∈ s289))) = true then (((((if (decide (y290.a ∈ s289)) = true then ((.ok y290.a) : R Int) else (.ok y290.b)) : R _).bind fun x294 => (.ok ((y290.a + y290.b) - x294))) : R _).bind fun x296 => ((appR s289 x296).bind fun y295 => (.ok y295))) else (.ok s289)) fun s293 : (List Int) => (.ok s293))) x297 s285) fun s289 : (List Int) => (.ok s289))))) (s0 := y284) (Γs := fun s285 : (List Int) => [.fr (α := Int) t.1, .fr (α := (List (List Int))) t.2.1, .ow (α := Int) s285, .un, .un, .un]) (Γb := fun (y286 : Int) (s285 : (List Int)) => [.fr (α := Int) t.1, .fr (α := (List (List Int))) t.2.1, .ow (α := Int) s285, .fr (α := Int) y286, .un, .un]) (is := [3]) C.hX.calm fr (he := by rfl) ?_ ?_ ?_ fun s285 => ?_
  · exact (ei_range1 (ma := true) g_range f_range (ev_var (md := true) n0 rfl rfl) rfl)
  · exact fun y286 s285 => (eg_name (α := Int) l3 rfl (fun _ => rfl))
  · intro H287 sb288 N y286 s285
    replace fr := fr.up sb288
    try replace hR := hR.up sb288
    refine w_for (α := Lw) (S := (List Int)) (mx := (R.ofO (twoO t.2.1))) (bd := (fun y290 s289 => (R.bind (if (!pyEq (decide (y290.a ∈ s289)) (decide (y290.b ∈ s289))) = true then (((((if (decide (y290.a ∈ s289)) = true then ((.ok y290.a) : R Int) else (.ok y290.b)) : R _).bind fun x294 => (.ok ((y290.a + y290.b) - x294))) : R _).bind fun x296 => ((appR s289 x296).bind fun y295 => (.ok y295))) else (.ok s289)) fun s293 : (List Int) => (.ok s293)))) (s0 := s285) (Γs := fun s289 : (List Int) => [.fr (α := Int) t.1, .fr (α := (List (List Int))) t.2.1, .ow (α := Int) s289, .fr (α := Int) y286, .un, .un]) (Γb := fun (y290 : Lw) (s289 : (List Int)) => [.fr (α := Int) t.1, .fr (α := (List (List Int))) t.2.1, .ow (α := Int) s289, .fr (α := Int) y286, .fr (α := Int) y290.a, .fr (α := Int) y290.b]) (is := [4, 5]) C.hX.calm fr (he := by rfl) ?_ ?_ ?_ fun s289 => ?_
    · exact (ei_lw (m := (.ok t.2.1)) (ei_list (ev_var (md := true) n1 rfl rfl)) rfl)
    · exact fun y290 s289 => (eg_lw C.hX.calm (eg_name (α := Int) l4 rfl (fun _ => rfl)) (eg_name (α := Int) l5 rfl (fun _ => rfl)))
    · intro H291 sb292 N y290 s289
      replace fr := fr.up sb292
      try replace hR := hR.up sb292
      refine w_ifJ (S := (List Int)) (mc := (.ok (!pyEq (decide (y290.a ∈ s289)) (decide (y290.b ∈ s289))))) (ma := (((((if (decide (y290.a ∈ s289)) = true then ((.ok y290.a) : R Int) else (.ok y290.b)) : R _).bind fun x294 => (.ok ((y290.a + y290.b) - x294))) : R _).bind fun x296 => ((appR s289 x296).bind fun y295 => (.ok y295)))) (mb := (.ok s289)) (Γs := fun s293 : (List Int) => [.fr (α := Int) t.1, .fr (α := (List (List Int))) t.2.1, .ow (α := Int) s293, .fr (α := Int) y286, .fr (α := Int) y290.a, .fr (α := Int) y290.b]) fr (et_ne (α := Bool) (ma := true) (mb := true) C.hu (ev_inL (ma := true) (mb := false) (md := true) (ev_var (md := true) n4 rfl rfl) (ev_own n2 rfl rfl) rfl) (ev_inL (ma := true) (mb := false) (md := true) (ev_var (md := true) n5 rfl rfl) (ev_own n2 rfl rfl) rfl) rfl) ?_ ?_ (he := by rfl) fun s293 => ?_
      · intro N
        refine w_append (α := Int) (m1 := (((if (decide (y290.a ∈ s289)) = true then ((.ok y290.a) : R Int) else (.ok y290.b)) : R _).bind fun x294 => (.ok ((y290.a + y290.b) - x294)))) (Γ' := fun y295 : (List Int) => [.fr (α := Int) t.1, .fr (α := (List (List Int))) t.2.1, .ow (α := Int) y295, .fr (α := Int) y286, .fr (α := Int) y290.a, .fr (α := Int) y290.b]) fr n2 rfl ?_ (he := by rfl) fun y295 => ?_
        · exact (ev_sub (ma := true) (mb := true) (md := true) (ev_add (ma := true) (mb := true) (md := true) (ev_var (md := true) n4 rfl rfl) (ev_var (md := true) n5 rfl rfl) rfl) (ev_ifx (md := true) (et_inL (ma := true) (mb := false) (ev_var (md := true) n4 rfl rfl) (ev_own n2 rfl rfl) rfl) (ev_var (md := true) n4 rfl rfl) (ev_var (md := true) n5 rfl rfl) rfl) rfl)
        exact w_end (s := y295) [] rfl rfl
      · intro N
        exact w_end (s := s289) [] rfl rfl
      exact w_end (s := s293) [4, 5] rfl rfl
    exact w_end (s := s289) [3] rfl rfl
  exact w_ret (m1 := (.ok (pyEq (s285.length : Int) t.1))) (g := fun z => z) fr hR (ev_eq (α := Int) (ma := true) (mb := true) (md := true) C.hu (ev_lenL (m1 := .ok s285) (ma := false) (md := true) g_len f_len (ev_own n2 rfl rfl) rfl) (ev_var (md := true) n0 rfl rfl) rfl) (fun _ h => h) rfl
theorem gd_law_in_one_piece {P : Program} {w : World} {K : PySem.W.Frag} {mg : PySem.Str → Option Value} {base : Heap} (fc : Fac fe fa fn K mg) : Gd P w K mg base "_law_in_one_piece" (spF K (τ := Int × (List (List Int)) × Unit) (ρ := Bool) 2 m_law_in_one_piece) 2 1 :=
  gd_F 16 41 fc rfl rfl sc_law_in_one_piece rfl bn_law_in_one_piece fun X _ _ _ _ _ C H0 qs rt A B fr hR t => b_law_in_one_piece (by omega) X C H0 qs rt A B fr hR t
theorem sc_law_due : FnScope ["text", "rows", "head", "ends", "standing", "one", "other", "row", "tie"] ["text"] dd__law_due.scope := ⟨rfl, rfl, rfl, by decide +kernel, rfl, by decide +kernel, by decide +kernel⟩
theorem bn_law_due : BindE dd__law_due ["text"] := fun _ _ _ _ _ _ us hl => match us, hl with | [_], _ => rfl
theorem b_law_due {k : Nat} (hk : 2 ≤ k) (X : Cx) (C : Cb fe fa fn X (["text", "rows", "head", "ends", "standing", "one", "other", "row", "tie"] : List PySem.Str) dd__law_due.scope k) (H0 : Hp) (qs : List Addr) (rt : VK) (A : ((T1 PySem.Str) ⊕ ((Int × (Tu (Int × Int))) × (List Int))) → Prop) (B : Exc → Prop) (fr : Fr X H0 B) (hR : RtF (ρ := ((T1 PySem.Str) ⊕ ((Int × (Tu (Int × Int))) × (List Int)))) X H0 qs rt A) (t : PySem.Str × Unit) :
    W X H0 qs rt (fun _ H => rt .non H) A B [.fr (α := PySem.Str) t.1, .un, .un, .un, .un, .un, .un, .un, .un] dd__law_due.body (m_law_due t) := by
  have n0 : Nm X 0 "text" := nm_mk C.hX.toXN (by decide +kernel)
  have n1 : Nm X 1 "rows" := nm_mk C.hX.toXN (by decide +kernel)
  have n2 : Nm X 2 "head" := nm_mk C.hX.toXN (by decide +kernel)
  have n3 : Nm X 3 "ends" := nm_mk C.hX.toXN (by decide +kernel)
  have n4 : Nm X 4 "standing" := nm_mk C.hX.toXN (by decide +kernel)
  have n5 : Nm X 5 "one" := nm_mk C.hX.toXN (by decide +kernel)
  have n6 : Nm X 6 "other" := nm_mk C.hX.toXN (by decide +kernel)
  have l1 : Lc X 1 "rows" := lc_mk C.hX.toXN (by decide +kernel)
  have l2 : Lc X 2 "head" := lc_mk C.hX.toXN (by decide +kernel)
  have l3 : Lc X 3 "ends" := lc_mk C.hX.toXN (by decide +kernel)
  have l4 : Lc X 4 "standing" := lc_mk C.hX.toXN (by decide +kernel)
  have l5 : Lc X 5 "one" := lc_mk C.hX.toXN (by decide +kernel)
  have l6 : Lc X 6 "other" := lc_mk C.hX.toXN (by decide +kernel)
  have g__law_in_one_piece : Gn X "_law_in_one_piece" := gn_mk C.hX.toXN (by decide +kernel)
  have g__law_numbers_in : Gn X "_law_numbers_in" := gn_mk C.hX.toXN (by decide +kernel)
  have g_len : Gn X "len" := gn_mk C.hX.toXN (by decide +kernel)
  have g_max : Gn X "max" := gn_mk C.hX.toXN (by decide +kernel)
  have g_min : Gn X "min" := gn_mk C.hX.toXN (by decide +kernel)
  have g_sorted : Gn X "sorted" := gn_mk C.hX.toXN (by decide +kernel)
  have g_tuple : Gn X "tuple" := gn_mk C.hX.toXN (by decide +kernel)
  have f_len : X.mg "len" = none := C.fc.free 47
  have f_max : X.mg "max" = none := C.fc.free 51
  have f_min : X.mg "min" = none := C.fc.free 50
  have f_sorted : X.mg "sorted" = none := C.fc.free 53
  have f_tuple : X.mg "tuple" = none := C.fc.free 52
  have d_law_numbers_in : Dn X "_law_numbers_in" (spF X.K (τ := PySem.Str × PySem.Str × Unit) (ρ := (Option (List Int))) 2 m_law_numbers_in) 2 := (gd_law_numbers_in C.fc).dn C.rm (by omega)
  have d_law_in_one_piece : Dn X "_law_in_one_piece" (spF X.K (τ := Int × (List (List Int)) × Unit) (ρ := Bool) 2 m_law_in_one_piece) 2 := (gd_law_in_one_piece C.fc).dn C.rm (by omega)
  refine w_asg (α := (List PySem.Str)) (Γ' := fun y215 : (List PySem.Str) => [.fr (α := PySem.Str) t.1, .fr (α := (List PySem.Str)) y215, .un, .un, .un, .un, .un, .un, .un]) fr l1 (he := by rfl) ?_ fun y215 => ?_
  · exact (EvO.fz (ev_splitS (ma := true) (mb := true) (md := true) (ev_var (md := true) n0 rfl rfl) (ev_str (md := true) rfl) rfl))
  refine w_ifR (ma := (.ok (Sum.inl (T1.mk ("text" : PySem.Str)) : ((T1 PySem.Str) ⊕ ((Int × (Tu (Int × Int))) × (List Int)))))) (mc := (.ok (decide ((y215.length : Int) < (2 : Int))))) fr (et_lt (ma := true) (mb := true) (ev_lenL (m1 := .ok y215) (ma := true) (md := true) g_len f_len (ev_var (md := true) n1 rfl rfl) rfl) (ev_int (md := true) rfl) rfl) (fun nx' => ?_) ?_ (he := by rfl)
  · skip
    exact w_ret (m1 := (.ok (Sum.inl (T1.mk ("text" : PySem.Str)) : ((T1 PySem.Str) ⊕ ((Int × (Tu (Int × Int))) × (List Int)))))) (g := fun z => z) fr hR (Ev.inl (m := (.ok (T1.mk ("text" : PySem.Str)))) (ev_tup (md := true) tup1 (ea_cons (md := true) (ev_str (md := true) rfl) (ea_nil (md := true) rfl) rfl) rfl) rfl) (fun _ h => h) rfl
  refine w_asg (α := (Option (List Int))) (Γ' := fun y249 : (Option (List Int)) => [.fr (α := PySem.Str) t.1, .fr (α := (List PySem.Str)) y215, .fr (α := (Option (List Int))) y249, .un, .un, .un, .un, .un, .un]) fr l2 (he := by rfl) ?_ fun y249 => ?_
  · exact (ev_call (md := true) d_law_numbers_in g__law_numbers_in (ea_cons (md := true) (ev_ixL (md := true) (mb := true) (ev_var (md := true) n1 rfl rfl) (ev_int (md := true) rfl) rfl) (ea_cons (md := true) (ev_str (md := true) rfl) (ea_nil (md := true) rfl) rfl) rfl) rfl rfl)
  refine w_asgCf (α := (Option (List Int))) (Γ' := fun y255 : (List (Option (List Int))) => [.fr (α := PySem.Str) t.1, .fr (α := (List PySem.Str)) y215, .fr (α := (Option (List Int))) y249, .fr (α := (List (Option (List Int)))) y255, .un, .un, .un, .un, .un]) fr l3 (by rw [C.hX.hs]; decide +kernel) C.kd (he := by rfl) ?_ fun y255 => ?_
  · exact (ec_map (mi := true) (α := PySem.Str) (β := (Option (List Int))) (mx := (.ok (cutL y215 (some (1 : Int)) (some (-(1 : Int)))))) (g := (fun y250 => (m_law_numbers_in (y250, ("tie" : PySem.Str), ())))) (own := [("row", 7)]) (Γx := fun y250 : PySem.Str => [.fr (α := PySem.Str) t.1, .fr (α := (List PySem.Str)) y215, .fr (α := (Option (List Int))) y249, .un, .un, .un, .un, .fr (α := PySem.Str) y250, .un]) (is := [7]) C.hX (ei_list (EvO.fz (ev_cut (md := true) (ev_var (md := true) n1 rfl rfl) (ep_of (ma := true) (ev_int (md := true) rfl) rfl) (ep_of (ma := true) (ev_neg (ma := true) (md := true) (ev_int (md := true) rfl) rfl) rfl) rfl))) (.inl rfl) (by decide +kernel) (no1 (fun _ => rfl)) (by decide) (fun X252 b251 y250 => have h253 := b251.ok C.hX; (eg_name (α := PySem.Str) (lc_mk (i := 7) (x := "row") h253.toXN (by decide +kernel)) rfl (fun _ => rfl))) (fun X252 b251 D254 y250 => have h253 := b251.ok C.hX; (ev_call (md := true) (b251.dnF d_law_numbers_in) (gn_mk (x := "_law_numbers_in") h253.toXN (by decide +kernel)) (ea_cons (md := true) (ev_var (md := true) (nm_mk (i := 7) (x := "row") h253.toXN (by decide +kernel)) rfl rfl) (ea_cons (md := true) (ev_str (md := true) rfl) (ea_nil (md := true) rfl) rfl) rfl) rfl rfl)) rfl)
  refine w_asg (α := (Option (List Int))) (Γ' := fun y258 : (Option (List Int)) => [.fr (α := PySem.Str) t.1, .fr (α := (List PySem.Str)) y215, .fr (α := (Option (List Int))) y249, .fr (α := (List (Option (List Int)))) y255, .fr (α := (Option (List Int))) y258, .un, .un, .un, .un]) fr l4 (he := by rfl) ?_ fun y258 => ?_
  · exact (ev_call (md := true) d_law_numbers_in g__law_numbers_in (ea_cons (md := true) (ev_ixL (md := true) (mb := true) (ev_var (md := true) n1 rfl rfl) (ev_neg (ma := true) (md := true) (ev_int (md := true) rfl) rfl) rfl) (ea_cons (md := true) (ev_str (md := true) rfl) (ea_nil (md := true) rfl) rfl) rfl) rfl rfl)
  refine w_ifR (mc := (if (Option.isNone y249) = true then R.ok true else (((((((R.ofO y249) : R _).bind fun x259 => (.ok (x259.length : Int))) : R _).bind fun x260 => (.ok (!pyEq x260 (1 : Int)))) : R _).bind fun x261 => (if x261 = true then R.ok true else (if (Option.isNone y258) = true then R.ok true else (if (pyEq y258 (some ([] : (List Int)) : (Option (List Int)))) = true then R.ok true else (R.ok ((y255).any (fun z => pyEq z (none : (Option (List Int)))))))))))) fr (EvW.t (ew_or (et_isN (ma := true) (ev_var (md := true) n2 rfl rfl) rfl) (ew_or (et_ne (α := Int) (ma := true) (mb := true) C.hu (ev_lenL (ma := true) (md := true) g_len f_len (Ev.there (m := (.ok y249)) (ev_var (md := true) n2 rfl rfl) rfl) rfl) (ev_int (md := true) rfl) rfl) (ew_or (et_isN (ma := true) (ev_var (md := true) n4 rfl rfl) rfl) (ew_or (et_eq (α := (Option (List Int))) (ma := true) (mb := true) C.hu (ev_var (md := true) n4 rfl rfl) (Ev.some (m := (.ok ([] : (List Int)))) (EvO.fz (ev_lst (md := true) (el_nil (α := Int) rfl))) rfl) rfl) (ew_or1 (et_inX (ma := true) (mb := true) C.hv (ev_none (md := true) rfl) (ev_var (md := true) n3 rfl rfl) rfl)) rfl) rfl) rfl) rfl)) (fun nx' => ?_) ?_ (he := by rfl)
  · skip
    exact w_ret (m1 := (.ok (Sum.inl (T1.mk ("text" : PySem.Str)) : ((T1 PySem.Str) ⊕ ((Int × (Tu (Int × Int))) × (List Int)))))) (g := fun z => z) fr hR (Ev.inl (m := (.ok (T1.mk ("text" : PySem.Str)))) (ev_tup (md := true) tup1 (ea_cons (md := true) (ev_str (md := true) rfl) (ea_nil (md := true) rfl) rfl) rfl) rfl) (fun _ h => h) rfl
  refine w_ifR (mc := (((((allS y255) : R _).bind fun x267 => (compR (fun y262 => (if (!pyEq (y262.length : Int) (2 : Int)) = true then (R.ok (some y262)) else R.ok none)) x267)) : R _).bind fun x268 => (.ok (!pyEq x268 ([] : (List (List Int))))))) fr (et_ne (α := (List (List Int))) (ma := true) (mb := true) C.hu (EvO.fz (ev_filt (mi := true) (α := (List Int)) (β := (List Int)) (mx := (allS y255)) (t := fun y262 => (.ok (!pyEq (y262.length : Int) (2 : Int)))) (g := fun y262 => (.ok y262)) (own := [("one", 5)]) (Γx := fun y262 : (List Int) => [.fr (α := PySem.Str) t.1, .fr (α := (List PySem.Str)) y215, .fr (α := (Option (List Int))) y249, .fr (α := (List (Option (List Int)))) y255, .fr (α := (Option (List Int))) y258, .fr (α := (List Int)) y262, .un, .un, .un]) (is := [5]) C.hX (ei_list (Ev.allS (m1 := (.ok y255)) (ev_var (md := true) n3 rfl rfl) rfl)) (.inl rfl) (by decide +kernel) (no1 (fun _ => rfl)) (by decide) (fun X264 b263 y262 => have h265 := b263.ok C.hX; (eg_name (α := (List Int)) (lc_mk (i := 5) (x := "one") h265.toXN (by decide +kernel)) rfl (fun _ => rfl))) (fun X264 b263 D266 y262 => have h265 := b263.ok C.hX; (et_ne (α := Int) (ma := true) (mb := true) (b263.hu C.hu) (ev_lenL (m1 := .ok y262) (ma := true) (md := true) (gn_mk (x := "len") h265.toXN (by decide +kernel)) (b263.none f_len) (ev_var (md := true) (nm_mk (i := 5) (x := "one") h265.toXN (by decide +kernel)) rfl rfl) rfl) (ev_int (md := true) rfl) rfl)) (fun X264 b263 D266 y262 => have h265 := b263.ok C.hX; (ev_var (md := true) (nm_mk (i := 5) (x := "one") h265.toXN (by decide +kernel)) rfl rfl)) rfl)) (EvO.fz (ev_lst (md := true) (el_nil (α := (List Int)) rfl))) rfl) (fun nx' => ?_) ?_ (he := by rfl)
  · skip
    exact w_ret (m1 := (.ok (Sum.inl (T1.mk ("text" : PySem.Str)) : ((T1 PySem.Str) ⊕ ((Int × (Tu (Int × Int))) × (List Int)))))) (g := fun z => z) fr hR (Ev.inl (m := (.ok (T1.mk ("text" : PySem.Str)))) (ev_tup (md := true) tup1 (ea_cons (md := true) (ev_str (md := true) rfl) (ea_nil (md := true) rfl) rfl) rfl) rfl) (fun _ h => h) rfl
  refine w_ifR (mc := (((((((((R.ofO y249) : R _).bind fun x269 => (ixR x269 (0 : Int))) : R _).bind fun x270 => (if decide ((1 : Int) ≤ x270) = true then (R.ok (decide (x270 ≤ (8 : Int)))) else R.ok false)) : R _).bind fun x271 => (.ok (!x271))) : R _).bind fun x274 => (if x274 = true then R.ok true else (((((allS y255) : R _).bind fun x272 => (.ok (x272.length : Int))) : R _).bind fun x273 => (.ok (decide ((16 : Int) < x273))))))) fr (EvW.t (ew_or (et_not (et_chain (ma := true) (mb := true) (mc := true) o_le o_le (ev_int (md := true) rfl) (ev_ixL (md := true) (mb := true) (Ev.there (m := (.ok y249)) (ev_var (md := true) n2 rfl rfl) rfl) (ev_int (md := true) rfl) rfl) (ev_int (md := true) rfl) rfl) rfl) (ew_or1 (et_gt (ma := true) (mb := true) (ev_lenL (ma := true) (md := true) g_len f_len (Ev.allS (m1 := (.ok y255)) (ev_var (md := true) n3 rfl rfl) rfl) rfl) (ev_int (md := true) rfl) rfl)) rfl)) (fun nx' => ?_) ?_ (he := by rfl)
  · skip
    exact w_ret (m1 := (.ok (Sum.inl (T1.mk ("web" : PySem.Str)) : ((T1 PySem.Str) ⊕ ((Int × (Tu (Int × Int))) × (List Int)))))) (g := fun z => z) fr hR (Ev.inl (m := (.ok (T1.mk ("web" : PySem.Str)))) (ev_tup (md := true) tup1 (ea_cons (md := true) (ev_str (md := true) rfl) (ea_nil (md := true) rfl) rfl) rfl) rfl) (fun _ h => h) rfl
  refine w_forM (α := Lw) (S := Unit) (mx := (((allS y255) : R _).bind fun x275 => (R.ofO (twoO x275)))) (bd := (fun y277 s276 => (((if (pyEq y277.a y277.b) = true then R.ok true else (if (decide (min y277.a y277.b < (0 : Int))) = true then R.ok true else (((((R.ofO y249) : R _).bind fun x280 => (ixR x280 (0 : Int))) : R _).bind fun x281 => (.ok (decide (x281 ≤ max y277.a y277.b)))))) : R Bool).bind fun c282 => if c282 = true then (.ok (.rt (Sum.inl (T1.mk ("web" : PySem.Str)) : ((T1 PySem.Str) ⊕ ((Int × (Tu (Int × Int))) × (List Int)))))) else (.ok (.nx ()))))) (s0 := ()) (Γs := fun s276 : Unit => [.fr (α := PySem.Str) t.1, .fr (α := (List PySem.Str)) y215, .fr (α := (Option (List Int))) y249, .fr (α := (List (Option (List Int)))) y255, .fr (α := (Option (List Int))) y258, .un, .un, .un, .un]) (Γb := fun (y277 : Lw) (s276 : Unit) => [.fr (α := PySem.Str) t.1, .fr (α := (List PySem.Str)) y215, .fr (α := (Option (List Int))) y249, .fr (α := (List (Option (List Int)))) y255, .fr (α := (Option (List Int))) y258, .fr (α := Int) y277.a, .fr (α := Int) y277.b, .un, .un]) (is := [5, 6]) C.hX.calm fr (he := by rfl) ?_ ?_ ?_ fun s276 => ?_
  · exact (ei_lw (m := (allS y255)) (ei_list (Ev.allS (m1 := (.ok y255)) (ev_var (md := true) n3 rfl rfl) rfl)) rfl)
  · exact fun y277 s276 => (eg_lw C.hX.calm (eg_name (α := Int) l5 rfl (fun _ => rfl)) (eg_name (α := Int) l6 rfl (fun _ => rfl)))
  · intro H278 sb279 N y277 s276
    replace fr := fr.up sb279
    try replace hR := hR.up sb279
    refine w_ifR (mc := (if (pyEq y277.a y277.b) = true then R.ok true else (if (decide (min y277.a y277.b < (0 : Int))) = true then R.ok true else (((((R.ofO y249) : R _).bind fun x280 => (ixR x280 (0 : Int))) : R _).bind fun x281 => (.ok (decide (x281 ≤ max y277.a y277.b))))))) fr (EvW.t (ew_or (et_eq (α := Int) (ma := true) (mb := true) C.hu (ev_var (md := true) n5 rfl rfl) (ev_var (md := true) n6 rfl rfl) rfl) (ew_or (et_lt (ma := true) (mb := true) (ev_min2 (ma := true) (mb := true) (md := true) C.hX.calm g_min f_min (ev_var (md := true) n5 rfl rfl) (ev_var (md := true) n6 rfl rfl) rfl) (ev_int (md := true) rfl) rfl) (ew_or1 (et_ge (ma := true) (mb := true) (ev_max2 (ma := true) (mb := true) (md := true) C.hX.calm g_max f_max (ev_var (md := true) n5 rfl rfl) (ev_var (md := true) n6 rfl rfl) rfl) (ev_ixL (md := true) (mb := true) (Ev.there (m := (.ok y249)) (ev_var (md := true) n2 rfl rfl) rfl) (ev_int (md := true) rfl) rfl) rfl)) rfl) rfl)) (fun nx' => ?_) ?_ (he := by rfl)
    · skip
      exact w_ret (m1 := (.ok (Sum.inl (T1.mk ("web" : PySem.Str)) : ((T1 PySem.Str) ⊕ ((Int × (Tu (Int × Int))) × (List Int)))))) (g := fun z => .rt z) fr hR (Ev.inl (m := (.ok (T1.mk ("web" : PySem.Str)))) (ev_tup (md := true) tup1 (ea_cons (md := true) (ev_str (md := true) rfl) (ea_nil (md := true) rfl) rfl) rfl) rfl) (fun _ h => h) rfl
    exact w_endM (s := ()) [5, 6] rfl rfl
  refine w_ifR (mc := (((((((((R.ofO y249) : R _).bind fun x283 => (ixR x283 (0 : Int))) : R _).bind fun x300 => (((((allS y255) : R _).bind fun x299 => (.ok (x299, (())))) : R _).bind fun x301 => (.ok (x300, x301)))) : R _).bind fun x302 => (m_law_in_one_piece x302)) : R _).bind fun x303 => (.ok (!x303)))) fr (et_not (et_val (md := true) (ev_call (md := true) d_law_in_one_piece g__law_in_one_piece (ea_cons (md := true) (ev_ixL (md := true) (mb := true) (Ev.there (m := (.ok y249)) (ev_var (md := true) n2 rfl rfl) rfl) (ev_int (md := true) rfl) rfl) (ea_cons (md := true) (Ev.allS (m1 := (.ok y255)) (ev_var (md := true) n3 rfl rfl) rfl) (ea_nil (md := true) rfl) rfl) rfl) rfl rfl)) rfl) (fun nx' => ?_) ?_ (he := by rfl)
  · skip
    exact w_ret (m1 := (.ok (Sum.inl (T1.mk ("parted" : PySem.Str)) : ((T1 PySem.Str) ⊕ ((Int × (Tu (Int × Int))) × (List Int)))))) (g := fun z => z) fr hR (Ev.inl (m := (.ok (T1.mk ("parted" : PySem.Str)))) (ev_tup (md := true) tup1 (ea_cons (md := true) (ev_str (md := true) rfl) (ea_nil (md := true) rfl) rfl) rfl) rfl) (fun _ h => h) rfl
  refine w_ifR (mc := (((((R.ofO y258) : R _).bind fun x304 => (.ok (x304.length : Int))) : R _).bind fun x306 => (((((R.ofO y249) : R _).bind fun x305 => (ixR x305 (0 : Int))) : R _).bind fun x307 => (.ok (!pyEq x306 x307))))) fr (et_ne (α := Int) (ma := true) (mb := true) C.hu (ev_lenL (ma := true) (md := true) g_len f_len (Ev.there (m := (.ok y258)) (ev_var (md := true) n4 rfl rfl) rfl) rfl) (ev_ixL (md := true) (mb := true) (Ev.there (m := (.ok y249)) (ev_var (md := true) n2 rfl rfl) rfl) (ev_int (md := true) rfl) rfl) rfl) (fun nx' => ?_) ?_ (he := by rfl)
  · skip
    exact w_ret (m1 := (.ok (Sum.inl (T1.mk ("standing" : PySem.Str)) : ((T1 PySem.Str) ⊕ ((Int × (Tu (Int × Int))) × (List Int)))))) (g := fun z => z) fr hR (Ev.inl (m := (.ok (T1.mk ("standing" : PySem.Str)))) (ev_tup (md := true) tup1 (ea_cons (md := true) (ev_str (md := true) rfl) (ea_nil (md := true) rfl) rfl) rfl) rfl) (fun _ h => h) rfl
  exact w_ret (m1 := (((((((((((((R.ofO y249) : R _).bind fun x308 => (ixR x308 (0 : Int))) : R _).bind fun x322 => (((((((((((allS y255) : R _).bind fun x318 => (mapR (fun y309 => (((((R.ofO (minL y309)) : R _).bind fun x315 => (((((R.ofO (maxL y309)) : R _).bind fun x314 => (.ok (x314, (())))) : R _).bind fun x316 => (.ok (x315, x316)))) : R _).bind fun x317 => (.ok (x317.1, x317.2.1)))) x318)) : R _).bind fun x319 => (.ok (sortP x319))) : R _).bind fun x320 => (.ok (Tu.mk x320))) : R _).bind fun x321 => (.ok (x321, (())))) : R _).bind fun x323 => (.ok (x322, x323)))) : R _).bind fun x324 => (.ok (x324.1, x324.2.1))) : R _).bind fun x326 => (((((R.ofO y258) : R _).bind fun x325 => (.ok (x325, (())))) : R _).bind fun x327 => (.ok (x326, x327)))) : R _).bind fun x328 => (.ok (x328.1, x328.2.1))) : R _).bind fun x329 => (.ok (Sum.inr x329 : ((T1 PySem.Str) ⊕ ((Int × (Tu (Int × Int))) × (List Int))))))) (g := fun z => z) fr hR (Ev.inr (m := (((((((((((R.ofO y249) : R _).bind fun x308 => (ixR x308 (0 : Int))) : R _).bind fun x322 => (((((((((((allS y255) : R _).bind fun x318 => (mapR (fun y309 => (((((R.ofO (minL y309)) : R _).bind fun x315 => (((((R.ofO (maxL y309)) : R _).bind fun x314 => (.ok (x314, (())))) : R _).bind fun x316 => (.ok (x315, x316)))) : R _).bind fun x317 => (.ok (x317.1, x317.2.1)))) x318)) : R _).bind fun x319 => (.ok (sortP x319))) : R _).bind fun x320 => (.ok (Tu.mk x320))) : R _).bind fun x321 => (.ok (x321, (())))) : R _).bind fun x323 => (.ok (x322, x323)))) : R _).bind fun x324 => (.ok (x324.1, x324.2.1))) : R _).bind fun x326 => (((((R.ofO y258) : R _).bind fun x325 => (.ok (x325, (())))) : R _).bind fun x327 => (.ok (x326, x327)))) : R _).bind fun x328 => (.ok (x328.1, x328.2.1)))) (ev_tup (md := true) tup2 (ea_cons (md := true) (ev_tup (md := true) tup2 (ea_cons (md := true) (ev_ixL (md := true) (mb := true) (Ev.there (m := (.ok y249)) (ev_var (md := true) n2 rfl rfl) rfl) (ev_int (md := true) rfl) rfl) (ea_cons (md := true) (ev_tupL (md := true) g_tuple f_tuple (EvO.fz (ev_sortP (md := true) g_sorted f_sorted (EvO.fz (ev_map (mi := true) (α := (List Int)) (β := (Int × Int)) (mx := (allS y255)) (g := (fun y309 => (((((R.ofO (minL y309)) : R _).bind fun x315 => (((((R.ofO (maxL y309)) : R _).bind fun x314 => (.ok (x314, (())))) : R _).bind fun x316 => (.ok (x315, x316)))) : R _).bind fun x317 => (.ok (x317.1, x317.2.1))))) (own := [("tie", 8)]) (Γx := fun y309 : (List Int) => [.fr (α := PySem.Str) t.1, .fr (α := (List PySem.Str)) y215, .fr (α := (Option (List Int))) y249, .fr (α := (List (Option (List Int)))) y255, .fr (α := (Option (List Int))) y258, .un, .un, .un, .fr (α := (List Int)) y309]) (is := [8]) C.hX (ei_list (Ev.allS (m1 := (.ok y255)) (ev_var (md := true) n3 rfl rfl) rfl)) (.inl rfl) (by decide +kernel) (no1 (fun _ => rfl)) (by decide) (fun X311 b310 y309 => have h312 := b310.ok C.hX; (eg_name (α := (List Int)) (lc_mk (i := 8) (x := "tie") h312.toXN (by decide +kernel)) rfl (fun _ => rfl))) (fun X311 b310 D313 y309 => have h312 := b310.ok C.hX; (ev_tup (md := true) tup2 (ea_cons (md := true) (ev_minL (ma := true) (md := true) h312.calm (gn_mk (x := "min") h312.toXN (by decide +kernel)) (b310.none f_min) (ev_var (md := true) (nm_mk (i := 8) (x := "tie") h312.toXN (by decide +kernel)) rfl rfl) rfl) (ea_cons (md := true) (ev_maxL (ma := true) (md := true) h312.calm (gn_mk (x := "max") h312.toXN (by decide +kernel)) (b310.none f_max) (ev_var (md := true) (nm_mk (i := 8) (x := "tie") h312.toXN (by decide +kernel)) rfl rfl) rfl) (ea_nil (md := true) rfl) rfl) rfl) rfl)) rfl)) rfl)) rfl) (ea_nil (md := true) rfl) rfl) rfl) rfl) (ea_cons (md := true) (Ev.there (m := (.ok y258)) (ev_var (md := true) n4 rfl rfl) rfl) (ea_nil (md := true) rfl) rfl) rfl) rfl) rfl) (fun _ h => h) rfl
theorem gd_law_due {P : Program} {w : World} {K : PySem.W.Frag} {mg : PySem.Str → Option Value} {base : Heap} (fc : Fac fe fa fn K mg) : Gd P w K mg base "_law_due" (spF K (τ := PySem.Str × Unit) (ρ := ((T1 PySem.Str) ⊕ ((Int × (Tu (Int × Int))) × (List Int)))) 1 m_law_due) 1 3 :=
  gd_F 17 42 fc rfl rfl sc_law_due rfl bn_law_due fun X _ _ _ _ _ C H0 qs rt A B fr hR t => b_law_due (by omega) X C H0 qs rt A B fr hR t
theorem sc_number_of : FnScope ["word", "figures", "sign"] ["word"] dd_number_of.scope := ⟨rfl, rfl, rfl, by decide +kernel, rfl, by decide +kernel, by decide +kernel⟩
theorem bn_number_of : BindE dd_number_of ["word"] := fun _ _ _ _ _ _ us hl => match us, hl with | [_], _ => rfl
theorem b_number_of {k : Nat} (hk : 0 ≤ k) (X : Cx) (C : Cb fe fa fn X (["word", "figures", "sign"] : List PySem.Str) dd_number_of.scope k) (H0 : Hp) (qs : List Addr) (rt : VK) (A : Int → Prop) (B : Exc → Prop) (fr : Fr X H0 B) (hR : RtF (ρ := Int) X H0 qs rt A) (t : PySem.Str × Unit) :
    W X H0 qs rt (fun _ H => rt .non H) A B [.fr (α := PySem.Str) t.1, .un, .un] dd_number_of.body (m_number_of t) := by
  have n0 : Nm X 0 "word" := nm_mk C.hX.toXN (by decide +kernel)
  have n1 : Nm X 1 "figures" := nm_mk C.hX.toXN (by decide +kernel)
  have n2 : Nm X 2 "sign" := nm_mk C.hX.toXN (by decide +kernel)
  have l1 : Lc X 1 "figures" := lc_mk C.hX.toXN (by decide +kernel)
  have l2 : Lc X 2 "sign" := lc_mk C.hX.toXN (by decide +kernel)
  have g_FIGURES : Gn X "FIGURES" := gn_mk C.hX.toXN (by decide +kernel)
  have g_MOST_FIGURES : Gn X "MOST_FIGURES" := gn_mk C.hX.toXN (by decide +kernel)
  have g_NoText : Gn X "NoText" := gn_mk C.hX.toXN (by decide +kernel)
  have g_int : Gn X "int" := gn_mk C.hX.toXN (by decide +kernel)
  have g_len : Gn X "len" := gn_mk C.hX.toXN (by decide +kernel)
  have f_int : X.mg "int" = none := C.fc.free 54
  have f_len : X.mg "len" = none := C.fc.free 47
  obtain ⟨_, c_FIGURES⟩ := C.fc.str 25 (x := "FIGURES") (z := "0123456789") rfl
  obtain ⟨_, c_MOST_FIGURES⟩ := C.fc.int 26 (x := "MOST_FIGURES") (z := 4000) rfl
  have x_NoText : Xn X .noText := C.xn .noText 18 19
  refine w_asg (α := PySem.Str) (Γ' := fun y352 : PySem.Str => [.fr (α := PySem.Str) t.1, .fr (α := PySem.Str) y352, .un]) fr l1 (he := by rfl) ?_ fun y352 => ?_
  · exact (ev_var (md := true) n0 rfl rfl)
  refine w_ifJ (S := PySem.Str) (mc := (((slStr t.1 none (some (1 : Int))) : R _).bind fun x353 => (.ok (pyEq x353 ("-" : PySem.Str))))) (ma := (((slStr t.1 (some (1 : Int)) none) : R PySem.Str).bind fun y355 => (.ok y355))) (mb := (.ok y352)) (Γs := fun s354 : PySem.Str => [.fr (α := PySem.Str) t.1, .fr (α := PySem.Str) s354, .un]) fr (et_eq (α := PySem.Str) (ma := true) (mb := true) C.hu (ev_cutStr (ma := true) (md := true) (ev_var (md := true) n0 rfl rfl) ep_no (ep_of (ma := true) (ev_int (md := true) rfl) rfl) rfl) (ev_str (md := true) rfl) rfl) ?_ ?_ (he := by rfl) fun s354 => ?_
  · intro N
    refine w_asg (α := PySem.Str) (Γ' := fun y355 : PySem.Str => [.fr (α := PySem.Str) t.1, .fr (α := PySem.Str) y355, .un]) fr l1 (he := by rfl) ?_ fun y355 => ?_
    · exact (ev_cutStr (ma := true) (md := true) (ev_var (md := true) n0 rfl rfl) (ep_of (ma := true) (ev_int (md := true) rfl) rfl) ep_no rfl)
    exact w_end (s := y355) [] rfl rfl
  · intro N
    exact w_end (s := y352) [] rfl rfl
  refine w_ifR (mc := (if (pyEq s354 ("" : PySem.Str)) = true then R.ok true else (((R.chk (decide (s354.length ≤ 16777216)) (s354.length : Int)) : R _).bind fun x356 => (.ok (decide ((4000 : Int) < x356)))))) fr (EvW.t (ew_or (et_eq (α := PySem.Str) (ma := true) (mb := true) C.hu (ev_var (md := true) n1 rfl rfl) (ev_str (md := true) rfl) rfl) (ew_or1 (et_gt (ma := true) (mb := true) (ev_lenTx (ma := true) (md := true) g_len f_len (ev_var (md := true) n1 rfl rfl) rfl) (ev_gint (md := true) g_MOST_FIGURES c_MOST_FIGURES rfl) rfl)) rfl)) (fun nx' => ?_) ?_ (he := by rfl)
  · skip
    exact w_raise .noText C.hX.calm fr x_NoText g_NoText rfl
  refine w_for (α := PySem.Str) (S := Unit) (mx := (.ok (signs s354))) (bd := (fun y358 s357 => ((((inStr y358 ("0123456789" : PySem.Str)).bind fun b => .ok (!b)) : R Bool).bind fun c361 => if c361 = true then (.exc .noText) else (.ok ())))) (s0 := ()) (Γs := fun s357 : Unit => [.fr (α := PySem.Str) t.1, .fr (α := PySem.Str) s354, .un]) (Γb := fun (y358 : PySem.Str) (s357 : Unit) => [.fr (α := PySem.Str) t.1, .fr (α := PySem.Str) s354, .fr (α := PySem.Str) y358]) (is := [2]) C.hX.calm fr (he := by rfl) ?_ ?_ ?_ fun s357 => ?_
  · exact (ei_str (ma := true) (ev_var (md := true) n1 rfl rfl) rfl)
  · exact fun y358 s357 => (eg_name (α := PySem.Str) l2 rfl (fun _ => rfl))
  · intro H359 sb360 N y358 s357
    replace fr := fr.up sb360
    try replace hR := hR.up sb360
    refine w_ifR (mc := ((inStr y358 ("0123456789" : PySem.Str)).bind fun b => .ok (!b))) fr (et_niS (ma := true) (mb := true) (ev_var (md := true) n2 rfl rfl) (ev_gstr (md := true) g_FIGURES c_FIGURES rfl) rfl) (fun nx' => ?_) ?_ (he := by rfl)
    · skip
      exact w_raise .noText C.hX.calm fr x_NoText g_NoText rfl
    exact w_end (s := ()) [2] rfl rfl
  refine w_ifR (mc := (((((ixStr s354 (0 : Int)) : R _).bind fun x362 => (.ok (pyEq x362 ("0" : PySem.Str)))) : R _).bind fun x363 => (if x363 = true then (R.ok (!pyEq t.1 ("0" : PySem.Str))) else R.ok false))) fr (EvW.t (ew_and (et_eq (α := PySem.Str) (ma := true) (mb := true) C.hu (ev_ixStr (ma := true) (mb := true) (md := true) (ev_var (md := true) n1 rfl rfl) (ev_int (md := true) rfl) rfl) (ev_str (md := true) rfl) rfl) (ew_and1 (et_ne (α := PySem.Str) (ma := true) (mb := true) C.hu (ev_var (md := true) n0 rfl rfl) (ev_str (md := true) rfl) rfl)) rfl)) (fun nx' => ?_) ?_ (he := by rfl)
  · skip
    exact w_raise .noText C.hX.calm fr x_NoText g_NoText rfl
  exact w_ret (m1 := (intStr t.1)) (g := fun z => z) fr hR (ev_intStr (ma := true) (md := true) (nd_of (C.fc.s.fact 0 rfl)) g_int f_int (ev_var (md := true) n0 rfl rfl) rfl) (fun _ h => h) rfl
theorem gd_number_of {P : Program} {w : World} {K : PySem.W.Frag} {mg : PySem.Str → Option Value} {base : Heap} (fc : Fac fe fa fn K mg) : Gd P w K mg base "number_of" (spF K (τ := PySem.Str × Unit) (ρ := Int) 1 m_number_of) 1 1 :=
  gd_F 3 28 fc rfl rfl sc_number_of rfl bn_number_of fun X _ _ _ _ _ C H0 qs rt A B fr hR t => b_number_of (by omega) X C H0 qs rt A B fr hR t
theorem sc_read_number : FnScope ["word", "number"] ["word"] dd_read_number.scope := ⟨rfl, rfl, rfl, by decide +kernel, rfl, by decide +kernel, by decide +kernel⟩
theorem bn_read_number : BindE dd_read_number ["word"] := fun _ _ _ _ _ _ us hl => match us, hl with | [_], _ => rfl
theorem b_read_number {k : Nat} (hk : 1 ≤ k) (X : Cx) (C : Cb fe fa fn X (["word", "number"] : List PySem.Str) dd_read_number.scope k) (H0 : Hp) (qs : List Addr) (rt : VK) (A : Int → Prop) (B : Exc → Prop) (fr : Fr X H0 B) (hR : RtF (ρ := Int) X H0 qs rt A) (t : PySem.Str × Unit) :
    W X H0 qs rt (fun _ H => rt .non H) A B [.fr (α := PySem.Str) t.1, .un] dd_read_number.body (m_read_number t) := by
  have n0 : Nm X 0 "word" := nm_mk C.hX.toXN (by decide +kernel)
  have n1 : Nm X 1 "number" := nm_mk C.hX.toXN (by decide +kernel)
  have l1 : Lc X 1 "number" := lc_mk C.hX.toXN (by decide +kernel)
  have g_MOST_READ : Gn X "MOST_READ" := gn_mk C.hX.toXN (by decide +kernel)
  have g_NoText : Gn X "NoText" := gn_mk C.hX.toXN (by decide +kernel)
  have g_len : Gn X "len" := gn_mk C.hX.toXN (by decide +kernel)
  have g_number_of : Gn X "number_of" := gn_mk C.hX.toXN (by decide +kernel)
  have f_len : X.mg "len" = none := C.fc.free 47
  obtain ⟨_, c_MOST_READ⟩ := C.fc.int 27 (x := "MOST_READ") (z := 60) rfl
  have x_NoText : Xn X .noText := C.xn .noText 18 19
  have d_number_of : Dn X "number_of" (spF X.K (τ := PySem.Str × Unit) (ρ := Int) 1 m_number_of) 1 := (gd_number_of C.fc).dn C.rm (by omega)
  refine w_asg (α := Int) (Γ' := fun y369 : Int => [.fr (α := PySem.Str) t.1, .fr (α := Int) y369]) fr l1 (he := by rfl) ?_ fun y369 => ?_
  · exact (ev_call (md := true) d_number_of g_number_of (ea_cons (md := true) (ev_var (md := true) n0 rfl rfl) (ea_nil (md := true) rfl) rfl) rfl rfl)
  refine w_ifR (mc := (((((R.chk (decide (t.1.length ≤ 16777216)) (t.1.length : Int)) : R _).bind fun x370 => (.ok (decide ((60 : Int) < x370)))) : R _).bind fun x374 => (if x374 = true then (((((ixStr t.1 (0 : Int)) : R _).bind fun x371 => (.ok (!pyEq x371 ("-" : PySem.Str)))) : R _).bind fun x373 => (if x373 = true then R.ok true else (((R.chk (decide (t.1.length ≤ 16777216)) (t.1.length : Int)) : R _).bind fun x372 => (.ok (decide ((60 : Int) + (1 : Int) < x372)))))) else R.ok false))) fr (EvW.t (ew_and (et_gt (ma := true) (mb := true) (ev_lenTx (ma := true) (md := true) g_len f_len (ev_var (md := true) n0 rfl rfl) rfl) (ev_gint (md := true) g_MOST_READ c_MOST_READ rfl) rfl) (ew_and1 (EvW.t (ew_or (et_ne (α := PySem.Str) (ma := true) (mb := true) C.hu (ev_ixStr (ma := true) (mb := true) (md := true) (ev_var (md := true) n0 rfl rfl) (ev_int (md := true) rfl) rfl) (ev_str (md := true) rfl) rfl) (ew_or1 (et_gt (ma := true) (mb := true) (ev_lenTx (ma := true) (md := true) g_len f_len (ev_var (md := true) n0 rfl rfl) rfl) (ev_add (ma := true) (mb := true) (md := true) (ev_gint (md := true) g_MOST_READ c_MOST_READ rfl) (ev_int (md := true) rfl) rfl) rfl)) rfl))) rfl)) (fun nx' => ?_) ?_ (he := by rfl)
  · skip
    exact w_raise .noText C.hX.calm fr x_NoText g_NoText rfl
  exact w_ret (m1 := (.ok y369)) (g := fun z => z) fr hR (ev_var (md := true) n1 rfl rfl) (fun _ h => h) rfl
theorem gd_read_number {P : Program} {w : World} {K : PySem.W.Frag} {mg : PySem.Str → Option Value} {base : Heap} (fc : Fac fe fa fn K mg) : Gd P w K mg base "read_number" (spF K (τ := PySem.Str × Unit) (ρ := Int) 1 m_read_number) 1 2 :=
  gd_F 4 29 fc rfl rfl sc_read_number rfl bn_read_number fun X _ _ _ _ _ C H0 qs rt A B fr hR t => b_read_number (by omega) X C H0 qs rt A B fr hR t
theorem sc_numbers_behind : FnScope ["word", "row", "words", "one"] ["word", "row"] dd_numbers_behind.scope := ⟨rfl, rfl, rfl, by decide +kernel, rfl, by decide +kernel, by decide +kernel⟩
theorem bn_numbers_behind : BindE dd_numbers_behind ["word", "row"] := fun _ _ _ _ _ _ us hl => match us, hl with | [_, _], _ => rfl
theorem b_numbers_behind {k : Nat} (hk : 2 ≤ k) (X : Cx) (C : Cb fe fa fn X (["word", "row", "words", "one"] : List PySem.Str) dd_numbers_behind.scope k) (H0 : Hp) (qs : List Addr) (rt : VK) (A : (List Int) → Prop) (B : Exc → Prop) (fr : Fr X H0 B) (hR : RtO (ρ := Int) X H0 qs rt A) (t : PySem.Str × PySem.Str × Unit) :
    W X H0 qs rt (fun _ H => rt .non H) A B [.fr (α := PySem.Str) t.1, .fr (α := PySem.Str) t.2.1, .un, .un] dd_numbers_behind.body (m_numbers_behind t) := by
  have n0 : Nm X 0 "word" := nm_mk C.hX.toXN (by decide +kernel)
  have n1 : Nm X 1 "row" := nm_mk C.hX.toXN (by decide +kernel)
  have n2 : Nm X 2 "words" := nm_mk C.hX.toXN (by decide +kernel)
  have l2 : Lc X 2 "words" := lc_mk C.hX.toXN (by decide +kernel)
  have g_NoText : Gn X "NoText" := gn_mk C.hX.toXN (by decide +kernel)
  have x_NoText : Xn X .noText := C.xn .noText 18 19
  have d_read_number : Dn X "read_number" (spF X.K (τ := PySem.Str × Unit) (ρ := Int) 1 m_read_number) 1 := (gd_read_number C.fc).dn C.rm (by omega)
  refine w_asg (α := (List PySem.Str)) (Γ' := fun y345 : (List PySem.Str) => [.fr (α := PySem.Str) t.1, .fr (α := PySem.Str) t.2.1, .fr (α := (List PySem.Str)) y345, .un]) fr l2 (he := by rfl) ?_ fun y345 => ?_
  · exact (EvO.fz (ev_splitS (ma := true) (mb := true) (md := true) (ev_var (md := true) n1 rfl rfl) (ev_str (md := true) rfl) rfl))
  refine w_ifR (mc := (((ixR y345 (0 : Int)) : R _).bind fun x346 => (.ok (!pyEq x346 t.1)))) fr (et_ne (α := PySem.Str) (ma := true) (mb := true) C.hu (ev_ixL (md := true) (mb := true) (ev_var (md := true) n2 rfl rfl) (ev_int (md := true) rfl) rfl) (ev_var (md := true) n0 rfl rfl) rfl) (fun nx' => ?_) ?_ (he := by rfl)
  · skip
    exact w_raise .noText C.hX.calm fr x_NoText g_NoText rfl
  exact w_retO (m1 := (mapXR (fun y347 => (m_read_number (y347, ()))) (cutL y345 (some (1 : Int)) none))) (g := fun z => z) fr hR (ev_mapX (mi := true) (α := PySem.Str) (β := Int) (mx := (.ok (cutL y345 (some (1 : Int)) none))) (g := (fun y347 => (m_read_number (y347, ())))) (own := [("one", 3)]) (Γx := fun y347 : PySem.Str => [.fr (α := PySem.Str) t.1, .fr (α := PySem.Str) t.2.1, .fr (α := (List PySem.Str)) y345, .fr (α := PySem.Str) y347]) (is := [3]) C.sk C.ff C.hX (ei_list (EvO.fz (ev_cut (md := true) (ev_var (md := true) n2 rfl rfl) (ep_of (ma := true) (ev_int (md := true) rfl) rfl) ep_no rfl))) (.inl rfl) (by decide +kernel) (no1 (fun _ => rfl)) (by decide) (fun X349 b348 y347 => have h350 := b348.ok C.hX; (eg_name (α := PySem.Str) (lc_mk (i := 3) (x := "one") h350.toXN (by decide +kernel)) rfl (fun _ => rfl))) (fun X349 b348 D351 y347 => have h350 := b348.ok C.hX; (ev_call (md := true) (b348.dnF d_read_number) (gn_mk (x := "read_number") h350.toXN (by decide +kernel)) (ea_cons (md := true) (ev_var (md := true) (nm_mk (i := 3) (x := "one") h350.toXN (by decide +kernel)) rfl rfl) (ea_nil (md := true) rfl) rfl) rfl rfl)) rfl) (fun _ h => h) rfl
theorem gd_numbers_behind {P : Program} {w : World} {K : PySem.W.Frag} {mg : PySem.Str → Option Value} {base : Heap} (fc : Fac fe fa fn K mg) : Gd P w K mg base "numbers_behind" (spO K (τ := PySem.Str × PySem.Str × Unit) (ρ := Int) 2 m_numbers_behind) 2 3 :=
  gd_O 5 30 fc rfl rfl sc_numbers_behind rfl bn_numbers_behind fun X _ _ _ _ _ C H0 qs rt A B fr hR t => b_numbers_behind (by omega) X C H0 qs rt A B fr hR t
theorem sc_tie_in : FnScope ["row", "ends"] ["row"] dd_tie_in.scope := ⟨rfl, rfl, rfl, by decide +kernel, rfl, by decide +kernel, by decide +kernel⟩
theorem bn_tie_in : BindE dd_tie_in ["row"] := fun _ _ _ _ _ _ us hl => match us, hl with | [_], _ => rfl
theorem b_tie_in {k : Nat} (hk : 3 ≤ k) (X : Cx) (C : Cb fe fa fn X (["row", "ends"] : List PySem.Str) dd_tie_in.scope k) (H0 : Hp) (qs : List Addr) (rt : VK) (A : (Int × Int) → Prop) (B : Exc → Prop) (fr : Fr X H0 B) (hR : RtF (ρ := (Int × Int)) X H0 qs rt A) (t : PySem.Str × Unit) :
    W X H0 qs rt (fun _ H => rt .non H) A B [.fr (α := PySem.Str) t.1, .un] dd_tie_in.body (m_tie_in t) := by
  have n0 : Nm X 0 "row" := nm_mk C.hX.toXN (by decide +kernel)
  have n1 : Nm X 1 "ends" := nm_mk C.hX.toXN (by decide +kernel)
  have l1 : Lc X 1 "ends" := lc_mk C.hX.toXN (by decide +kernel)
  have g_NoText : Gn X "NoText" := gn_mk C.hX.toXN (by decide +kernel)
  have g_len : Gn X "len" := gn_mk C.hX.toXN (by decide +kernel)
  have g_numbers_behind : Gn X "numbers_behind" := gn_mk C.hX.toXN (by decide +kernel)
  have f_len : X.mg "len" = none := C.fc.free 47
  have x_NoText : Xn X .noText := C.xn .noText 18 19
  have d_numbers_behind : Dn X "numbers_behind" (spO X.K (τ := PySem.Str × PySem.Str × Unit) (ρ := Int) 2 m_numbers_behind) 2 := (gd_numbers_behind C.fc).dn C.rm (by omega)
  refine w_asg (α := (List Int)) (Γ' := fun y387 : (List Int) => [.fr (α := PySem.Str) t.1, .fr (α := (List Int)) y387]) fr l1 (he := by rfl) ?_ fun y387 => ?_
  · exact (EvO.fz (ev_callO (md := true) d_numbers_behind g_numbers_behind (ea_cons (md := true) (ev_str (md := true) rfl) (ea_cons (md := true) (ev_var (md := true) n0 rfl rfl) (ea_nil (md := true) rfl) rfl) rfl) rfl rfl))
  refine w_ifR (ma := (.exc .noText)) (mc := (.ok (!pyEq (y387.length : Int) (2 : Int)))) fr (et_ne (α := Int) (ma := true) (mb := true) C.hu (ev_lenL (m1 := .ok y387) (ma := true) (md := true) g_len f_len (ev_var (md := true) n1 rfl rfl) rfl) (ev_int (md := true) rfl) rfl) (fun nx' => ?_) ?_ (he := by rfl)
  · skip
    exact w_raise .noText C.hX.calm fr x_NoText g_NoText rfl
  exact w_ret (m1 := (((((ixR y387 (0 : Int)) : R _).bind fun x389 => (((((ixR y387 (1 : Int)) : R _).bind fun x388 => (.ok (x388, (())))) : R _).bind fun x390 => (.ok (x389, x390)))) : R _).bind fun x391 => (.ok (x391.1, x391.2.1)))) (g := fun z => z) fr hR (ev_tup (md := true) tup2 (ea_cons (md := true) (ev_ixL (md := true) (mb := true) (ev_var (md := true) n1 rfl rfl) (ev_int (md := true) rfl) rfl) (ea_cons (md := true) (ev_ixL (md := true) (mb := true) (ev_var (md := true) n1 rfl rfl) (ev_int (md := true) rfl) rfl) (ea_nil (md := true) rfl) rfl) rfl) rfl) (fun _ h => h) rfl
theorem gd_tie_in {P : Program} {w : World} {K : PySem.W.Frag} {mg : PySem.Str → Option Value} {base : Heap} (fc : Fac fe fa fn K mg) : Gd P w K mg base "tie_in" (spF K (τ := PySem.Str × Unit) (ρ := (Int × Int)) 1 m_tie_in) 1 4 :=
  gd_F 6 31 fc rfl rfl sc_tie_in rfl bn_tie_in fun X _ _ _ _ _ C H0 qs rt A B fr hR t => b_tie_in (by omega) X C H0 qs rt A B fr hR t
theorem sc_tie_fits : FnScope ["houses", "tie"] ["houses", "tie"] dd_tie_fits.scope := ⟨rfl, rfl, rfl, by decide +kernel, rfl, by decide +kernel, by decide +kernel⟩
theorem bn_tie_fits : BindE dd_tie_fits ["houses", "tie"] := fun _ _ _ _ _ _ us hl => match us, hl with | [_, _], _ => rfl
theorem b_tie_fits {k : Nat} (hk : 0 ≤ k) (X : Cx) (C : Cb fe fa fn X (["houses", "tie"] : List PySem.Str) dd_tie_fits.scope k) (H0 : Hp) (qs : List Addr) (rt : VK) (A : Bool → Prop) (B : Exc → Prop) (fr : Fr X H0 B) (hR : RtF (ρ := Bool) X H0 qs rt A) (t : Int × (Int × Int) × Unit) :
    W X H0 qs rt (fun _ H => rt .non H) A B [.fr (α := Int) t.1, .fr (α := (Int × Int)) t.2.1] dd_tie_fits.body (m_tie_fits t) := by
  have n0 : Nm X 0 "houses" := nm_mk C.hX.toXN (by decide +kernel)
  have n1 : Nm X 1 "tie" := nm_mk C.hX.toXN (by decide +kernel)
  have g_max : Gn X "max" := gn_mk C.hX.toXN (by decide +kernel)
  have g_min : Gn X "min" := gn_mk C.hX.toXN (by decide +kernel)
  have f_max : X.mg "max" = none := C.fc.free 51
  have f_min : X.mg "min" = none := C.fc.free 50
  exact w_ret (m1 := (if (!pyEq t.2.1.1 t.2.1.2) = true then (if (decide ((0 : Int) ≤ min t.2.1.1 t.2.1.2)) = true then (R.ok (decide (max t.2.1.1 t.2.1.2 < t.1))) else R.ok false) else R.ok false)) (g := fun z => z) fr hR (ev_and (ma := true) (mb := true) (md := true) (ev_ne (α := Int) (ma := true) (mb := true) (md := true) C.hu (ev_ixP (md := true) ix20 (ev_var (md := true) n1 rfl rfl) (ev_int (md := true) rfl) rfl) (ev_ixP (md := true) ix21 (ev_var (md := true) n1 rfl rfl) (ev_int (md := true) rfl) rfl) rfl) (ev_and (ma := true) (mb := true) (md := true) (ev_ge (ma := true) (mb := true) (md := true) (ev_minP (ma := true) (md := true) C.hX.calm C.hu g_min f_min (ev_var (md := true) n1 rfl rfl) rfl) (ev_int (md := true) rfl) rfl) (ev_one (md := true) (ev_lt (ma := true) (mb := true) (md := true) (ev_maxP (ma := true) (md := true) C.hX.calm C.hu g_max f_max (ev_var (md := true) n1 rfl rfl) rfl) (ev_var (md := true) n0 rfl rfl) rfl)) rfl) rfl) (fun _ h => h) rfl
theorem gd_tie_fits {P : Program} {w : World} {K : PySem.W.Frag} {mg : PySem.Str → Option Value} {base : Heap} (fc : Fac fe fa fn K mg) : Gd P w K mg base "tie_fits" (spF K (τ := Int × (Int × Int) × Unit) (ρ := Bool) 2 m_tie_fits) 2 1 :=
  gd_F 0 22 fc rfl rfl sc_tie_fits rfl bn_tie_fits fun X _ _ _ _ _ C H0 qs rt A B fr hR t => b_tie_fits (by omega) X C H0 qs rt A B fr hR t
theorem sc_reached : FnScope ["houses", "ties", "seen", "grew", "one", "other", "house"] ["houses", "ties"] dd_reached.scope := ⟨rfl, rfl, rfl, by decide +kernel, rfl, by decide +kernel, by decide +kernel⟩
theorem bn_reached : BindE dd_reached ["houses", "ties"] := fun _ _ _ _ _ _ us hl => match us, hl with | [_, _], _ => rfl
theorem b_reached {k : Nat} (hk : 0 ≤ k) (X : Cx) (C : Cb fe fa fn X (["houses", "ties", "seen", "grew", "one", "other", "house"] : List PySem.Str) dd_reached.scope k) (H0 : Hp) (qs : List Addr) (rt : VK) (A : (List Int) → Prop) (B : Exc → Prop) (fr : Fr X H0 B) (hR : RtO (ρ := Int) X H0 qs rt A) (t : Int × (List (Int × Int)) × Unit) :
    W X H0 qs rt (fun _ H => rt .non H) A B [.fr (α := Int) t.1, .fr (α := (List (Int × Int))) t.2.1, .un, .un, .un, .un, .un] dd_reached.body (m_reached t) := by
  have n0 : Nm X 0 "houses" := nm_mk C.hX.toXN (by decide +kernel)
  have n1 : Nm X 1 "ties" := nm_mk C.hX.toXN (by decide +kernel)
  have n2 : Nm X 2 "seen" := nm_mk C.hX.toXN (by decide +kernel)
  have n3 : Nm X 3 "grew" := nm_mk C.hX.toXN (by decide +kernel)
  have n4 : Nm X 4 "one" := nm_mk C.hX.toXN (by decide +kernel)
  have n5 : Nm X 5 "other" := nm_mk C.hX.toXN (by decide +kernel)
  have l2 : Lc X 2 "seen" := lc_cell C.hX.toXN (C.fnt _) (by decide +kernel)
  have l3 : Lc X 3 "grew" := lc_mk C.hX.toXN (by decide +kernel)
  have l4 : Lc X 4 "one" := lc_mk C.hX.toXN (by decide +kernel)
  have l5 : Lc X 5 "other" := lc_mk C.hX.toXN (by decide +kernel)
  have g_range : Gn X "range" := gn_mk C.hX.toXN (by decide +kernel)
  have f_range : X.mg "range" = none := C.fc.free 48
  refine w_asgK (α := Bool) (Γ' := fun y411 : (List Bool) => [.fr (α := Int) t.1, .fr (α := (List (Int × Int))) t.2.1, .ow (α := Bool) y411, .un, .un, .un, .un]) fr l2 (by rw [C.hX.hs]; decide +kernel) (he := by rfl) ?_ fun y411 => ?_
  · exact (ev_map (mi := true) (α := Int) (β := Bool) (mx := (rngR 0 t.1)) (g := (fun y405 => (.ok (pyEq y405 (0 : Int))))) (own := [("house", 6)]) (Γx := fun y405 : Int => [.fr (α := Int) t.1, .fr (α := (List (Int × Int))) t.2.1, .un, .un, .un, .un, .fr (α := Int) y405]) (is := [6]) C.hX (ei_range1 (ma := true) g_range f_range (ev_var (md := true) n0 rfl rfl) rfl) (.inl rfl) (by decide +kernel) (no1 (fun _ => rfl)) (by decide) (fun X407 b406 y405 => have h408 := b406.ok C.hX; (eg_name (α := Int) (lc_mk (i := 6) (x := "house") h408.toXN (by decide +kernel)) rfl (fun _ => rfl))) (fun X407 b406 D409 y405 => have h408 := b406.ok C.hX; (ev_eq (α := Int) (ma := true) (mb := true) (md := true) (b406.hu C.hu) (ev_var (md := true) (nm_mk (i := 6) (x := "house") h408.toXN (by decide +kernel)) rfl rfl) (ev_int (md := true) rfl) rfl)) rfl)
  refine w_asg (α := Bool) (Γ' := fun y412 : Bool => [.fr (α := Int) t.1, .fr (α := (List (Int × Int))) t.2.1, .ow (α := Bool) y411, .fr (α := Bool) y412, .un, .un, .un]) fr l3 (he := by rfl) ?_ fun y412 => ?_
  · exact (ev_bool (md := true) rfl)
  refine w_while (S := ((List Bool) × Bool)) (tc := (fun s413 => (.ok s413.2))) (bd := (fun s413 => (((.ok false) : R Bool).bind fun y414 => (R.bind (forR (fun y416 s415 => (((((ixR s415.1 y416.1) : R _).bind fun x419 => (((ixR s415.1 y416.2) : R _).bind fun x420 => (.ok (!pyEq x419 x420)))) : R Bool).bind fun c426 => R.bind (if c426 = true then ((setR s415.1 y416.1 true).bind fun y422 => ((setR y422 y416.2 true).bind fun y423 => (((.ok true) : R Bool).bind fun y424 => (.ok (y423, y424))))) else (.ok (s415.1, s415.2))) fun s421 : ((List Bool) × Bool) => (.ok (s421.1, s421.2)))) t.2.1 (s413.1, y414)) fun s415 : ((List Bool) × Bool) => (.ok (s415.1, s415.2)))))) (n := fuel) (s0 := (y411, y412)) (Γs := fun s413 : ((List Bool) × Bool) => [.fr (α := Int) t.1, .fr (α := (List (Int × Int))) t.2.1, .ow (α := Bool) s413.1, .fr (α := Bool) s413.2, .un, .un, .un]) C.hX.calm fr (he := by rfl) ?_ ?_ fun s413 => ?_
  · exact fun s413 => (et_val (md := true) (ev_var (md := true) n3 rfl rfl))
  · intro N s413
    refine w_asg (α := Bool) (Γ' := fun y414 : Bool => [.fr (α := Int) t.1, .fr (α := (List (Int × Int))) t.2.1, .ow (α := Bool) s413.1, .fr (α := Bool) y414, .un, .un, .un]) fr l3 (he := by rfl) ?_ fun y414 => ?_
    · exact (ev_bool (md := true) rfl)
    refine w_for (α := (Int × Int)) (S := ((List Bool) × Bool)) (mx := (.ok t.2.1)) (bd := (fun y416 s415 => (((((ixR s415.1 y416.1) : R _).bind fun x419 => (((ixR s415.1 y416.2) : R _).bind fun x420 => (.ok (!pyEq x419 x420)))) : R Bool).bind fun c426 => R.bind (if c426 = true then ((setR s415.1 y416.1 true).bind fun y422 => ((setR y422 y416.2 true).bind fun y423 => (((.ok true) : R Bool).bind fun y424 => (.ok (y423, y424))))) else (.ok (s415.1, s415.2))) fun s421 : ((List Bool) × Bool) => (.ok (s421.1, s421.2))))) (s0 := (s413.1, y414)) (Γs := fun s415 : ((List Bool) × Bool) => [.fr (α := Int) t.1, .fr (α := (List (Int × Int))) t.2.1, .ow (α := Bool) s415.1, .fr (α := Bool) s415.2, .un, .un, .un]) (Γb := fun (y416 : (Int × Int)) (s415 : ((List Bool) × Bool)) => [.fr (α := Int) t.1, .fr (α := (List (Int × Int))) t.2.1, .ow (α := Bool) s415.1, .fr (α := Bool) s415.2, .fr (α := Int) y416.1, .fr (α := Int) y416.2, .un]) (is := [4, 5]) C.hX.calm fr (he := by rfl) ?_ ?_ ?_ fun s415 => ?_
    · exact (ei_list (ev_var (md := true) n1 rfl rfl))
    · exact fun y416 s415 => (eg_two C.hX.calm (eg_name (α := Int) l4 rfl (fun _ => rfl)) (eg_name (α := Int) l5 rfl (fun _ => rfl)))
    · intro H417 sb418 N y416 s415
      replace fr := fr.up sb418
      try replace hR := hR.up sb418
      refine w_ifJ (S := ((List Bool) × Bool)) (mc := (((ixR s415.1 y416.1) : R _).bind fun x419 => (((ixR s415.1 y416.2) : R _).bind fun x420 => (.ok (!pyEq x419 x420))))) (ma := ((setR s415.1 y416.1 true).bind fun y422 => ((setR y422 y416.2 true).bind fun y423 => (((.ok true) : R Bool).bind fun y424 => (.ok (y423, y424)))))) (mb := (.ok (s415.1, s415.2))) (Γs := fun s421 : ((List Bool) × Bool) => [.fr (α := Int) t.1, .fr (α := (List (Int × Int))) t.2.1, .ow (α := Bool) s421.1, .fr (α := Bool) s421.2, .fr (α := Int) y416.1, .fr (α := Int) y416.2, .un]) fr (et_ne (α := Bool) (ma := true) (mb := true) C.hu (Ev.flat (ma := false) (ev_ixL (md := false) (mb := true) (ev_own n2 rfl rfl) (ev_var (md := true) n4 rfl rfl) rfl)) (Ev.flat (ma := false) (ev_ixL (md := false) (mb := true) (ev_own n2 rfl rfl) (ev_var (md := true) n5 rfl rfl) rfl)) rfl) ?_ ?_ (he := by rfl) fun s421 => ?_
      · intro N
        refine w_setix (α := Bool) (m1 := (.ok true)) (mj := (.ok y416.1)) (Γ' := fun y422 : (List Bool) => [.fr (α := Int) t.1, .fr (α := (List (Int × Int))) t.2.1, .ow (α := Bool) y422, .fr (α := Bool) s415.2, .fr (α := Int) y416.1, .fr (α := Int) y416.2, .un]) fr n2 rfl ?_ ?_ (he := by rfl) fun y422 => ?_
        · exact (ev_bool (md := true) rfl)
        · exact (ev_var (md := true) n4 rfl rfl)
        refine w_setix (α := Bool) (m1 := (.ok true)) (mj := (.ok y416.2)) (Γ' := fun y423 : (List Bool) => [.fr (α := Int) t.1, .fr (α := (List (Int × Int))) t.2.1, .ow (α := Bool) y423, .fr (α := Bool) s415.2, .fr (α := Int) y416.1, .fr (α := Int) y416.2, .un]) fr n2 rfl ?_ ?_ (he := by rfl) fun y423 => ?_
        · exact (ev_bool (md := true) rfl)
        · exact (ev_var (md := true) n5 rfl rfl)
        refine w_asg (α := Bool) (Γ' := fun y424 : Bool => [.fr (α := Int) t.1, .fr (α := (List (Int × Int))) t.2.1, .ow (α := Bool) y423, .fr (α := Bool) y424, .fr (α := Int) y416.1, .fr (α := Int) y416.2, .un]) fr l3 (he := by rfl) ?_ fun y424 => ?_
        · exact (ev_bool (md := true) rfl)
        exact w_end (s := (y423, y424)) [] rfl rfl
      · intro N
        exact w_end (s := (s415.1, s415.2)) [] rfl rfl
      exact w_end (s := (s421.1, s421.2)) [4, 5] rfl rfl
    exact w_end (s := (s415.1, s415.2)) [] rfl rfl
  exact w_retO (m1 := (((rngR 0 t.1) : R _).bind fun x433 => (compR (fun y427 => (((ixR s413.1 y427) : R _).bind fun x432 => (if x432 = true then (R.ok (some y427)) else R.ok none))) x433))) (g := fun z => z) fr hR (ev_filt (mi := true) (α := Int) (β := Int) (mx := (rngR 0 t.1)) (t := fun y427 => (ixR s413.1 y427)) (g := fun y427 => (.ok y427)) (own := [("house", 6)]) (Γx := fun y427 : Int => [.fr (α := Int) t.1, .fr (α := (List (Int × Int))) t.2.1, .ow (α := Bool) s413.1, .fr (α := Bool) s413.2, .un, .un, .fr (α := Int) y427]) (is := [6]) C.hX (ei_range1 (ma := true) g_range f_range (ev_var (md := true) n0 rfl rfl) rfl) (.inl rfl) (by decide +kernel) (no1 (fun _ => rfl)) (by decide) (fun X429 b428 y427 => have h430 := b428.ok C.hX; (eg_name (α := Int) (lc_mk (i := 6) (x := "house") h430.toXN (by decide +kernel)) rfl (fun _ => rfl))) (fun X429 b428 D431 y427 => have h430 := b428.ok C.hX; (et_val (md := true) (Ev.flat (ma := false) (ev_ixL (md := false) (mb := true) (ev_own (nm_mk (i := 2) (x := "seen") h430.toXN (by decide +kernel)) rfl rfl) (ev_var (md := true) (nm_mk (i := 6) (x := "house") h430.toXN (by decide +kernel)) rfl rfl) rfl)))) (fun X429 b428 D431 y427 => have h430 := b428.ok C.hX; (ev_var (md := true) (nm_mk (i := 6) (x := "house") h430.toXN (by decide +kernel)) rfl rfl)) rfl) (fun _ h => h) rfl
theorem gd_reached {P : Program} {w : World} {K : PySem.W.Frag} {mg : PySem.Str → Option Value} {base : Heap} (fc : Fac fe fa fn K mg) : Gd P w K mg base "reached" (spO K (τ := Int × (List (Int × Int)) × Unit) (ρ := Int) 2 m_reached) 2 1 :=
  gd_O 1 23 fc rfl rfl sc_reached rfl bn_reached fun X _ _ _ _ _ C H0 qs rt A B fr hR t => b_reached (by omega) X C H0 qs rt A B fr hR t
theorem sc_made : FnScope ["houses", "ties", "tie"] ["houses", "ties"] dd_made.scope := ⟨rfl, rfl, rfl, by decide +kernel, rfl, by decide +kernel, by decide +kernel⟩
theorem bn_made : BindE dd_made ["houses", "ties"] := fun _ _ _ _ _ _ us hl => match us, hl with | [_, _], _ => rfl
theorem b_made {k : Nat} (hk : 1 ≤ k) (X : Cx) (C : Cb fe fa fn X (["houses", "ties", "tie"] : List PySem.Str) dd_made.scope k) (H0 : Hp) (qs : List Addr) (rt : VK) (A : (Int × (Tu (Int × Int))) → Prop) (B : Exc → Prop) (fr : Fr X H0 B) (hR : RtF (ρ := (Int × (Tu (Int × Int)))) X H0 qs rt A) (t : Int × (List (Int × Int)) × Unit) :
    W X H0 qs rt (fun _ H => rt .non H) A B [.fr (α := Int) t.1, .fr (α := (List (Int × Int))) t.2.1, .un] dd_made.body (m_made t) := by
  have n0 : Nm X 0 "houses" := nm_mk C.hX.toXN (by decide +kernel)
  have n1 : Nm X 1 "ties" := nm_mk C.hX.toXN (by decide +kernel)
  have n2 : Nm X 2 "tie" := nm_mk C.hX.toXN (by decide +kernel)
  have l2 : Lc X 2 "tie" := lc_mk C.hX.toXN (by decide +kernel)
  have g_BadWeb : Gn X "BadWeb" := gn_mk C.hX.toXN (by decide +kernel)
  have g_MOST_HOUSES : Gn X "MOST_HOUSES" := gn_mk C.hX.toXN (by decide +kernel)
  have g_MOST_TIES : Gn X "MOST_TIES" := gn_mk C.hX.toXN (by decide +kernel)
  have g_Parted : Gn X "Parted" := gn_mk C.hX.toXN (by decide +kernel)
  have g_len : Gn X "len" := gn_mk C.hX.toXN (by decide +kernel)
  have g_reached : Gn X "reached" := gn_mk C.hX.toXN (by decide +kernel)
  have g_sorted : Gn X "sorted" := gn_mk C.hX.toXN (by decide +kernel)
  have g_tie_fits : Gn X "tie_fits" := gn_mk C.hX.toXN (by decide +kernel)
  have g_tuple : Gn X "tuple" := gn_mk C.hX.toXN (by decide +kernel)
  have f_len : X.mg "len" = none := C.fc.free 47
  have f_max : X.mg "max" = none := C.fc.free 51
  have f_min : X.mg "min" = none := C.fc.free 50
  have f_sorted : X.mg "sorted" = none := C.fc.free 53
  have f_tuple : X.mg "tuple" = none := C.fc.free 52
  obtain ⟨_, c_MOST_HOUSES⟩ := C.fc.int 20 (x := "MOST_HOUSES") (z := 8) rfl
  obtain ⟨_, c_MOST_TIES⟩ := C.fc.int 21 (x := "MOST_TIES") (z := 16) rfl
  have x_BadWeb : Xn X .badWeb := C.xn .badWeb 2 3
  have x_Parted : Xn X .parted := C.xn .parted 4 5
  have d_tie_fits : Dn X "tie_fits" (spF X.K (τ := Int × (Int × Int) × Unit) (ρ := Bool) 2 m_tie_fits) 2 := (gd_tie_fits C.fc).dn C.rm (by omega)
  have d_reached : Dn X "reached" (spO X.K (τ := Int × (List (Int × Int)) × Unit) (ρ := Int) 2 m_reached) 2 := (gd_reached C.fc).dn C.rm (by omega)
  refine w_ifR (mc := (if (decide (t.1 < (1 : Int))) = true then R.ok true else (if (decide ((8 : Int) < t.1)) = true then R.ok true else (R.ok (decide ((16 : Int) < (t.2.1.length : Int))))))) fr (EvW.t (ew_or (et_lt (ma := true) (mb := true) (ev_var (md := true) n0 rfl rfl) (ev_int (md := true) rfl) rfl) (ew_or (et_gt (ma := true) (mb := true) (ev_var (md := true) n0 rfl rfl) (ev_gint (md := true) g_MOST_HOUSES c_MOST_HOUSES rfl) rfl) (ew_or1 (et_gt (ma := true) (mb := true) (ev_lenL (ma := true) (md := true) g_len f_len (ev_var (md := true) n1 rfl rfl) rfl) (ev_gint (md := true) g_MOST_TIES c_MOST_TIES rfl) rfl)) rfl) rfl)) (fun nx' => ?_) ?_ (he := by rfl)
  · skip
    exact w_raise .badWeb C.hX.calm fr x_BadWeb g_BadWeb rfl
  refine w_for (α := (Int × Int)) (S := Unit) (mx := (.ok t.2.1)) (bd := (fun y399 s398 => (((((m_tie_fits (t.1, y399, ())) : R _).bind fun x403 => (.ok (!x403))) : R Bool).bind fun c404 => if c404 = true then (.exc .badWeb) else (.ok ())))) (s0 := ()) (Γs := fun s398 : Unit => [.fr (α := Int) t.1, .fr (α := (List (Int × Int))) t.2.1, .un]) (Γb := fun (y399 : (Int × Int)) (s398 : Unit) => [.fr (α := Int) t.1, .fr (α := (List (Int × Int))) t.2.1, .fr (α := (Int × Int)) y399]) (is := [2]) C.hX.calm fr (he := by rfl) ?_ ?_ ?_ fun s398 => ?_
  · exact (ei_list (ev_var (md := true) n1 rfl rfl))
  · exact fun y399 s398 => (eg_name (α := (Int × Int)) l2 rfl (fun _ => rfl))
  · intro H400 sb401 N y399 s398
    replace fr := fr.up sb401
    try replace hR := hR.up sb401
    refine w_ifR (mc := (((m_tie_fits (t.1, y399, ())) : R _).bind fun x403 => (.ok (!x403)))) fr (et_not (et_val (md := true) (ev_call (md := true) d_tie_fits g_tie_fits (ea_cons (md := true) (ev_var (md := true) n0 rfl rfl) (ea_cons (md := true) (ev_var (md := true) n2 rfl rfl) (ea_nil (md := true) rfl) rfl) rfl) rfl rfl)) rfl) (fun nx' => ?_) ?_ (he := by rfl)
    · skip
      exact w_raise .badWeb C.hX.calm fr x_BadWeb g_BadWeb rfl
    exact w_end (s := ()) [2] rfl rfl
  refine w_ifR (mc := (((((m_reached (t.1, t.2.1, ())) : R _).bind fun x435 => (.ok (x435.length : Int))) : R _).bind fun x436 => (.ok (decide (x436 < t.1))))) fr (et_lt (ma := true) (mb := true) (ev_lenL (ma := true) (md := true) g_len f_len (EvO.fz (ev_callO (md := true) d_reached g_reached (ea_cons (md := true) (ev_var (md := true) n0 rfl rfl) (ea_cons (md := true) (ev_var (md := true) n1 rfl rfl) (ea_nil (md := true) rfl) rfl) rfl) rfl rfl)) rfl) (ev_var (md := true) n0 rfl rfl) rfl) (fun nx' => ?_) ?_ (he := by rfl)
  · skip
    exact w_raise .parted C.hX.calm fr x_Parted g_Parted rfl
  exact w_ret (m1 := (((((((((((mapR (fun y437 => (.ok (min y437.1 y437.2, max y437.1 y437.2))) t.2.1) : R _).bind fun x442 => (.ok (sortP x442))) : R _).bind fun x443 => (.ok (Tu.mk x443))) : R _).bind fun x444 => (.ok (x444, (())))) : R _).bind fun x445 => (.ok (t.1, x445))) : R _).bind fun x446 => (.ok (x446.1, x446.2.1)))) (g := fun z => z) fr hR (ev_tup (md := true) tup2 (ea_cons (md := true) (ev_var (md := true) n0 rfl rfl) (ea_cons (md := true) (ev_tupL (md := true) g_tuple f_tuple (EvO.fz (ev_sortP (md := true) g_sorted f_sorted (EvO.fz (ev_map (mi := true) (α := (Int × Int)) (β := (Int × Int)) (mx := (.ok t.2.1)) (g := (fun y437 => (.ok (min y437.1 y437.2, max y437.1 y437.2)))) (own := [("tie", 2)]) (Γx := fun y437 : (Int × Int) => [.fr (α := Int) t.1, .fr (α := (List (Int × Int))) t.2.1, .fr (α := (Int × Int)) y437]) (is := [2]) C.hX (ei_list (ev_var (md := true) n1 rfl rfl)) (.inl rfl) (by decide +kernel) (no1 (fun _ => rfl)) (by decide) (fun X439 b438 y437 => have h440 := b438.ok C.hX; (eg_name (α := (Int × Int)) (lc_mk (i := 2) (x := "tie") h440.toXN (by decide +kernel)) rfl (fun _ => rfl))) (fun X439 b438 D441 y437 => have h440 := b438.ok C.hX; (ev_tup (md := true) tup2 (ea_cons (md := true) (ev_minP (ma := true) (md := true) h440.calm (b438.hu C.hu) (gn_mk (x := "min") h440.toXN (by decide +kernel)) (b438.none f_min) (ev_var (md := true) (nm_mk (i := 2) (x := "tie") h440.toXN (by decide +kernel)) rfl rfl) rfl) (ea_cons (md := true) (ev_maxP (ma := true) (md := true) h440.calm (b438.hu C.hu) (gn_mk (x := "max") h440.toXN (by decide +kernel)) (b438.none f_max) (ev_var (md := true) (nm_mk (i := 2) (x := "tie") h440.toXN (by decide +kernel)) rfl rfl) rfl) (ea_nil (md := true) rfl) rfl) rfl) rfl)) rfl)) rfl)) rfl) (ea_nil (md := true) rfl) rfl) rfl) rfl) (fun _ h => h) rfl
theorem gd_made {P : Program} {w : World} {K : PySem.W.Frag} {mg : PySem.Str → Option Value} {base : Heap} (fc : Fac fe fa fn K mg) : Gd P w K mg base "made" (spF K (τ := Int × (List (Int × Int)) × Unit) (ρ := (Int × (Tu (Int × Int)))) 2 m_made) 2 2 :=
  gd_F 2 24 fc rfl rfl sc_made rfl bn_made fun X _ _ _ _ _ C H0 qs rt A B fr hR t => b_made (by omega) X C H0 qs rt A B fr hR t
theorem sc_read : FnScope ["text", "rows", "houses", "ties", "standing", "web", "row"] ["text"] dd_read.scope := ⟨rfl, rfl, rfl, by decide +kernel, rfl, by decide +kernel, by decide +kernel⟩
theorem bn_read : BindE dd_read ["text"] := fun _ _ _ _ _ _ us hl => match us, hl with | [_], _ => rfl
theorem b_read {k : Nat} (hk : 4 ≤ k) (X : Cx) (C : Cb fe fa fn X (["text", "rows", "houses", "ties", "standing", "web", "row"] : List PySem.Str) dd_read.scope k) (H0 : Hp) (qs : List Addr) (rt : VK) (A : ((Int × (Tu (Int × Int))) × (List Int)) → Prop) (B : Exc → Prop) (fr : Fr X H0 B) (hR : RtF (ρ := ((Int × (Tu (Int × Int))) × (List Int))) X H0 qs rt A) (t : PySem.Str × Unit) :
    W X H0 qs rt (fun _ H => rt .non H) A B [.fr (α := PySem.Str) t.1, .un, .un, .un, .un, .un, .un] dd_read.body (m_read t) := by
  have n0 : Nm X 0 "text" := nm_mk C.hX.toXN (by decide +kernel)
  have n1 : Nm X 1 "rows" := nm_mk C.hX.toXN (by decide +kernel)
  have n2 : Nm X 2 "houses" := nm_mk C.hX.toXN (by decide +kernel)
  have n3 : Nm X 3 "ties" := nm_mk C.hX.toXN (by decide +kernel)
  have n4 : Nm X 4 "standing" := nm_mk C.hX.toXN (by decide +kernel)
  have n5 : Nm X 5 "web" := nm_mk C.hX.toXN (by decide +kernel)
  have l1 : Lc X 1 "rows" := lc_mk C.hX.toXN (by decide +kernel)
  have l2 : Lc X 2 "houses" := lc_mk C.hX.toXN (by decide +kernel)
  have l3 : Lc X 3 "ties" := lc_mk C.hX.toXN (by decide +kernel)
  have l4 : Lc X 4 "standing" := lc_mk C.hX.toXN (by decide +kernel)
  have l5 : Lc X 5 "web" := lc_mk C.hX.toXN (by decide +kernel)
  have g_BadStanding : Gn X "BadStanding" := gn_mk C.hX.toXN (by decide +kernel)
  have g_NoText : Gn X "NoText" := gn_mk C.hX.toXN (by decide +kernel)
  have g_len : Gn X "len" := gn_mk C.hX.toXN (by decide +kernel)
  have g_made : Gn X "made" := gn_mk C.hX.toXN (by decide +kernel)
  have g_numbers_behind : Gn X "numbers_behind" := gn_mk C.hX.toXN (by decide +kernel)
  have f_len : X.mg "len" = none := C.fc.free 47
  have x_BadStanding : Xn X .badStanding := C.xn .badStanding 6 7
  have x_NoText : Xn X .noText := C.xn .noText 18 19
  have d_numbers_behind : Dn X "numbers_behind" (spO X.K (τ := PySem.Str × PySem.Str × Unit) (ρ := Int) 2 m_numbers_behind) 2 := (gd_numbers_behind C.fc).dn C.rm (by omega)
  have d_tie_in : Dn X "tie_in" (spF X.K (τ := PySem.Str × Unit) (ρ := (Int × Int)) 1 m_tie_in) 1 := (gd_tie_in C.fc).dn C.rm (by omega)
  have d_made : Dn X "made" (spF X.K (τ := Int × (List (Int × Int)) × Unit) (ρ := (Int × (Tu (Int × Int)))) 2 m_made) 2 := (gd_made C.fc).dn C.rm (by omega)
  refine w_asg (α := (List PySem.Str)) (Γ' := fun y344 : (List PySem.Str) => [.fr (α := PySem.Str) t.1, .fr (α := (List PySem.Str)) y344, .un, .un, .un, .un, .un]) fr l1 (he := by rfl) ?_ fun y344 => ?_
  · exact (EvO.fz (ev_splitS (ma := true) (mb := true) (md := true) (ev_var (md := true) n0 rfl rfl) (ev_str (md := true) rfl) rfl))
  refine w_ifR (ma := (.exc .noText)) (mc := (.ok (decide ((y344.length : Int) < (2 : Int))))) fr (et_lt (ma := true) (mb := true) (ev_lenL (m1 := .ok y344) (ma := true) (md := true) g_len f_len (ev_var (md := true) n1 rfl rfl) rfl) (ev_int (md := true) rfl) rfl) (fun nx' => ?_) ?_ (he := by rfl)
  · skip
    exact w_raise .noText C.hX.calm fr x_NoText g_NoText rfl
  refine w_asg (α := (List Int)) (Γ' := fun y381 : (List Int) => [.fr (α := PySem.Str) t.1, .fr (α := (List PySem.Str)) y344, .fr (α := (List Int)) y381, .un, .un, .un, .un]) fr l2 (he := by rfl) ?_ fun y381 => ?_
  · exact (EvO.fz (ev_callO (md := true) d_numbers_behind g_numbers_behind (ea_cons (md := true) (ev_str (md := true) rfl) (ea_cons (md := true) (ev_ixL (md := true) (mb := true) (ev_var (md := true) n1 rfl rfl) (ev_int (md := true) rfl) rfl) (ea_nil (md := true) rfl) rfl) rfl) rfl rfl))
  refine w_ifR (ma := (.exc .noText)) (mc := (.ok (!pyEq (y381.length : Int) (1 : Int)))) fr (et_ne (α := Int) (ma := true) (mb := true) C.hu (ev_lenL (m1 := .ok y381) (ma := true) (md := true) g_len f_len (ev_var (md := true) n2 rfl rfl) rfl) (ev_int (md := true) rfl) rfl) (fun nx' => ?_) ?_ (he := by rfl)
  · skip
    exact w_raise .noText C.hX.calm fr x_NoText g_NoText rfl
  refine w_asgCf (α := (Int × Int)) (Γ' := fun y393 : (List (Int × Int)) => [.fr (α := PySem.Str) t.1, .fr (α := (List PySem.Str)) y344, .fr (α := (List Int)) y381, .fr (α := (List (Int × Int))) y393, .un, .un, .un]) fr l3 (by rw [C.hX.hs]; decide +kernel) C.kd (he := by rfl) ?_ fun y393 => ?_
  · exact (ec_mapX (mi := true) (α := PySem.Str) (β := (Int × Int)) (mx := (.ok (cutL y344 (some (1 : Int)) (some (-(1 : Int)))))) (g := (fun y382 => (m_tie_in (y382, ())))) (own := [("row", 6)]) (Γx := fun y382 : PySem.Str => [.fr (α := PySem.Str) t.1, .fr (α := (List PySem.Str)) y344, .fr (α := (List Int)) y381, .un, .un, .un, .fr (α := PySem.Str) y382]) (is := [6]) C.sk C.ff C.hX (ei_list (EvO.fz (ev_cut (md := true) (ev_var (md := true) n1 rfl rfl) (ep_of (ma := true) (ev_int (md := true) rfl) rfl) (ep_of (ma := true) (ev_neg (ma := true) (md := true) (ev_int (md := true) rfl) rfl) rfl) rfl))) (.inl rfl) (by decide +kernel) (no1 (fun _ => rfl)) (by decide) (fun X384 b383 y382 => have h385 := b383.ok C.hX; (eg_name (α := PySem.Str) (lc_mk (i := 6) (x := "row") h385.toXN (by decide +kernel)) rfl (fun _ => rfl))) (fun X384 b383 D386 y382 => have h385 := b383.ok C.hX; (ev_call (md := true) (b383.dnF d_tie_in) (gn_mk (x := "tie_in") h385.toXN (by decide +kernel)) (ea_cons (md := true) (ev_var (md := true) (nm_mk (i := 6) (x := "row") h385.toXN (by decide +kernel)) rfl rfl) (ea_nil (md := true) rfl) rfl) rfl rfl)) rfl)
  refine w_asg (α := (List Int)) (Γ' := fun y397 : (List Int) => [.fr (α := PySem.Str) t.1, .fr (α := (List PySem.Str)) y344, .fr (α := (List Int)) y381, .fr (α := (List (Int × Int))) y393, .fr (α := (List Int)) y397, .un, .un]) fr l4 (he := by rfl) ?_ fun y397 => ?_
  · exact (EvO.fz (ev_callO (md := true) d_numbers_behind g_numbers_behind (ea_cons (md := true) (ev_str (md := true) rfl) (ea_cons (md := true) (ev_ixL (md := true) (mb := true) (ev_var (md := true) n1 rfl rfl) (ev_neg (ma := true) (md := true) (ev_int (md := true) rfl) rfl) rfl) (ea_nil (md := true) rfl) rfl) rfl) rfl rfl))
  refine w_ifR (ma := (.exc .noText)) (mc := (.ok (pyEq y397 ([] : (List Int))))) fr (et_eq (α := (List Int)) (ma := true) (mb := true) C.hu (ev_var (md := true) n4 rfl rfl) (EvO.fz (ev_lst (md := true) (el_nil (α := Int) rfl))) rfl) (fun nx' => ?_) ?_ (he := by rfl)
  · skip
    exact w_raise .noText C.hX.calm fr x_NoText g_NoText rfl
  refine w_asg (α := (Int × (Tu (Int × Int)))) (Γ' := fun y452 : (Int × (Tu (Int × Int))) => [.fr (α := PySem.Str) t.1, .fr (α := (List PySem.Str)) y344, .fr (α := (List Int)) y381, .fr (α := (List (Int × Int))) y393, .fr (α := (List Int)) y397, .fr (α := (Int × (Tu (Int × Int)))) y452, .un]) fr l5 (he := by rfl) ?_ fun y452 => ?_
  · exact (ev_call (md := true) d_made g_made (ea_cons (md := true) (ev_ixL (md := true) (mb := true) (ev_var (md := true) n2 rfl rfl) (ev_int (md := true) rfl) rfl) (ea_cons (md := true) (ev_var (md := true) n3 rfl rfl) (ea_nil (md := true) rfl) rfl) rfl) rfl rfl)
  refine w_ifR (mc := (((ixR y381 (0 : Int)) : R _).bind fun x453 => (.ok (!pyEq (y397.length : Int) x453)))) fr (et_ne (α := Int) (ma := true) (mb := true) C.hu (ev_lenL (m1 := .ok y397) (ma := true) (md := true) g_len f_len (ev_var (md := true) n4 rfl rfl) rfl) (ev_ixL (md := true) (mb := true) (ev_var (md := true) n2 rfl rfl) (ev_int (md := true) rfl) rfl) rfl) (fun nx' => ?_) ?_ (he := by rfl)
  · skip
    exact w_raise .badStanding C.hX.calm fr x_BadStanding g_BadStanding rfl
  exact w_ret (m1 := (.ok (y452, y397))) (g := fun z => z) fr hR (ev_tup (md := true) tup2 (ea_cons (md := true) (ev_var (md := true) n5 rfl rfl) (ea_cons (md := true) (ev_var (md := true) n4 rfl rfl) (ea_nil (md := true) rfl) rfl) rfl) rfl) (fun _ h => h) rfl
theorem gd_read {P : Program} {w : World} {K : PySem.W.Frag} {mg : PySem.Str → Option Value} {base : Heap} (fc : Fac fe fa fn K mg) : Gd P w K mg base "read" (spF K (τ := PySem.Str × Unit) (ρ := ((Int × (Tu (Int × Int))) × (List Int))) 1 m_read) 1 5 :=
  gd_F 7 32 fc rfl rfl sc_read rfl bn_read fun X _ _ _ _ _ C H0 qs rt A B fr hR t => b_read (by omega) X C H0 qs rt A B fr hR t
theorem sc_law_found : FnScope ["text", "found", "kinds_of", "e", "one"] ["text"] dd__law_found.scope := ⟨rfl, rfl, rfl, by decide +kernel, rfl, by decide +kernel, by decide +kernel⟩
theorem bn_law_found : BindE dd__law_found ["text"] := fun _ _ _ _ _ _ us hl => match us, hl with | [_], _ => rfl
theorem b_law_found {k : Nat} (hk : 5 ≤ k) (X : Cx) (C : Cb fe fa fn X (["text", "found", "kinds_of", "e", "one"] : List PySem.Str) dd__law_found.scope k) (H0 : Hp) (qs : List Addr) (rt : VK) (A : ((T1 PySem.Str) ⊕ ((Int × (Tu (Int × Int))) × (List Int))) → Prop) (B : Exc → Prop) (fr : Fr X H0 B) (hR : RtF (ρ := ((T1 PySem.Str) ⊕ ((Int × (Tu (Int × Int))) × (List Int)))) X H0 qs rt A) (t : PySem.Str × Unit) :
    W X H0 qs rt (fun _ H => rt .non H) A B [.fr (α := PySem.Str) t.1, .un, .un, .un, .un] dd__law_found.body (m_law_found t) := by
  have n1 : Nm X 1 "found" := nm_mk C.hX.toXN (by decide +kernel)
  have n2 : Nm X 2 "kinds_of" := nm_mk C.hX.toXN (by decide +kernel)
  have l1 : Lc X 1 "found" := lc_mk C.hX.toXN (by decide +kernel)
  have l2 : Lc X 2 "kinds_of" := lc_mk C.hX.toXN (by decide +kernel)
  have l3 : Lc X 3 "e" := lc_mk C.hX.toXN (by decide +kernel)
  have g_OwingError : Gn X "OwingError" := gn_mk C.hX.toXN (by decide +kernel)
  have g_len : Gn X "len" := gn_mk C.hX.toXN (by decide +kernel)
  have f_ValueError : X.mg "ValueError" = none := C.fc.free 56
  have f_isinstance : X.mg "isinstance" = none := C.fc.free 49
  have f_len : X.mg "len" = none := C.fc.free 47
  have k_BadHouse : X.mg "BadHouse" = some (.ref (He.ga X.K "BadHouse")) := C.fc.glo 8
  have k_BadNumber : X.mg "BadNumber" = some (.ref (He.ga X.K "BadNumber")) := C.fc.glo 12
  have k_BadOrder : X.mg "BadOrder" = some (.ref (He.ga X.K "BadOrder")) := C.fc.glo 10
  have k_BadStanding : X.mg "BadStanding" = some (.ref (He.ga X.K "BadStanding")) := C.fc.glo 6
  have k_BadWeb : X.mg "BadWeb" = some (.ref (He.ga X.K "BadWeb")) := C.fc.glo 2
  have k_NoBridge : X.mg "NoBridge" = some (.ref (He.ga X.K "NoBridge")) := C.fc.glo 16
  have k_NoText : X.mg "NoText" = some (.ref (He.ga X.K "NoText")) := C.fc.glo 18
  have k_OwingError : X.mg "OwingError" = some (.ref (He.ga X.K "OwingError")) := C.fc.glo 0
  have k_Parted : X.mg "Parted" = some (.ref (He.ga X.K "Parted")) := C.fc.glo 4
  have k_TooWide : X.mg "TooWide" = some (.ref (He.ga X.K "TooWide")) := C.fc.glo 14
  have d_read : Dn X "read" (spF X.K (τ := PySem.Str × Unit) (ρ := ((Int × (Tu (Int × Int))) × (List Int))) 1 m_read) 1 := (gd_read C.fc).dn C.rm (by omega)
  refine w_asg (α := (Option ((Int × (Tu (Int × Int))) × (List Int)))) (Γ' := fun y338 : (Option ((Int × (Tu (Int × Int))) × (List Int))) => [.fr (α := PySem.Str) t.1, .fr (α := (Option ((Int × (Tu (Int × Int))) × (List Int)))) y338, .un, .un, .un]) fr l1 (he := by rfl) ?_ fun y338 => ?_
  · exact (ev_none (md := true) rfl)
  refine w_asgO (α := Bool) (Γ' := fun y339 : (List Bool) => [.fr (α := PySem.Str) t.1, .fr (α := (Option ((Int × (Tu (Int × Int))) × (List Int)))) y338, .ow (α := Bool) y339, .un, .un]) fr l2 (he := by rfl) ?_ fun y339 => ?_
  · exact (ev_lst (md := true) (el_nil (α := Bool) rfl))
  refine w_try (S := ((Option ((Int × (Tu (Int × Int))) × (List Int))) × (List Bool))) (mb := (((((m_read (t.1, ())) : R _).bind fun x455 => (.ok (some x455 : (Option ((Int × (Tu (Int × Int))) × (List Int)))))) : R (Option ((Int × (Tu (Int × Int))) × (List Int)))).bind fun y456 => .ok (y456, y339))) (h := (fun cc => match cc with | .badWeb => R.sure ((((.ok ([false, true, false, false] : (List Bool))) : R (List Bool)).bind fun y462 => ((appR y462 (!true)).bind fun y463 => ((appR y463 false).bind fun y464 => (.ok (y338, y464))))) : R ((Option ((Int × (Tu (Int × Int))) × (List Int))) × (List Bool))) | .parted => R.sure ((((.ok ([false, false, true, false] : (List Bool))) : R (List Bool)).bind fun y470 => ((appR y470 (!true)).bind fun y471 => ((appR y471 false).bind fun y472 => (.ok (y338, y472))))) : R ((Option ((Int × (Tu (Int × Int))) × (List Int))) × (List Bool))) | .badStanding => R.sure ((((.ok ([false, false, false, true] : (List Bool))) : R (List Bool)).bind fun y478 => ((appR y478 (!true)).bind fun y479 => ((appR y479 false).bind fun y480 => (.ok (y338, y480))))) : R ((Option ((Int × (Tu (Int × Int))) × (List Int))) × (List Bool))) | .noText => R.sure ((((.ok ([true, false, false, false] : (List Bool))) : R (List Bool)).bind fun y486 => ((appR y486 (!true)).bind fun y487 => ((appR y487 false).bind fun y488 => (.ok (y338, y488))))) : R ((Option ((Int × (Tu (Int × Int))) × (List Int))) × (List Bool))) | _ => .stuck)) (Γs := fun s340 : ((Option ((Int × (Tu (Int × Int))) × (List Int))) × (List Bool)) => [.fr (α := PySem.Str) t.1, .fr (α := (Option ((Int × (Tu (Int × Int))) × (List Int)))) s340.1, .ow (α := Bool) s340.2, .un, .un]) (f := fun s340 : ((Option ((Int × (Tu (Int × Int))) × (List Int))) × (List Bool)) => (if (pyEq s340.2 ([] : (List Bool))) = true then (((((R.ofO s340.1) : R _).bind fun x489 => (.ok (Sum.inr x489 : ((T1 PySem.Str) ⊕ ((Int × (Tu (Int × Int))) × (List Int)))))) : R ((T1 PySem.Str) ⊕ ((Int × (Tu (Int × Int))) × (List Int)))).bind fun z490 => .ok z490) else (((((((compR (fun y491 => (if y491 = true then (R.ok (some y491)) else R.ok none)) s340.2) : R _).bind fun x496 => (.ok (x496.length : Int))) : R _).bind fun x497 => (.ok (!pyEq x497 (1 : Int)))) : R Bool).bind fun c503 => if c503 = true then (.ok (Sum.inl (T1.mk ("two" : PySem.Str)) : ((T1 PySem.Str) ⊕ ((Int × (Tu (Int × Int))) × (List Int))))) else (((((((((((idxR s340.2 true) : R _).bind fun x498 => (ixR ([("text" : PySem.Str), ("web" : PySem.Str), ("parted" : PySem.Str), ("standing" : PySem.Str), ("value" : PySem.Str), ("other" : PySem.Str)] : (List PySem.Str)) x498)) : R _).bind fun x499 => (.ok (x499, (())))) : R _).bind fun x500 => (.ok (T1.mk x500.1))) : R _).bind fun x501 => (.ok (Sum.inl x501 : ((T1 PySem.Str) ⊕ ((Int × (Tu (Int × Int))) × (List Int)))))) : R ((T1 PySem.Str) ⊕ ((Int × (Tu (Int × Int))) × (List Int)))).bind fun z502 => .ok z502)))) C.hX.calm fr C.sk C.ff l3 (by rw [C.hX.hs]; decide +kernel) ⟨g_OwingError.gl, g_OwingError.hd, .inl k_OwingError⟩ ?_ ?_ (fun s340 => ?_) (by intro s; rfl) rfl
  · intro X341 u342
    have h343 := u342.hX C.hX
    exact (tb_asg (α := (Option ((Int × (Tu (Int × Int))) × (List Int)))) (g := fun y456 : (Option ((Int × (Tu (Int × Int))) × (List Int))) => (y456, y339)) (lc_mk (i := 1) (x := "found") h343.toXN (by decide +kernel)) (Ev.some (m := (m_read (t.1, ()))) (ev_call (md := true) (u342.dnF d_read) (gn_mk (x := "read") h343.toXN (by decide +kernel)) (ea_cons (md := true) (ev_var (md := true) (nm_mk (i := 0) (x := "text") h343.toXN (by decide +kernel)) rfl rfl) (ea_nil (md := true) rfl) rfl) rfl rfl) rfl) (fun _ => rfl) rfl)
  · intro cc; cases cc
    · exact .inl rfl
    · refine .inr ⟨_, rfl, He.exm_ok (x := "BadWeb") (y := "OwingError") (b := true) (C.fc.s.d.fact 57 rfl), ?_⟩
      intro X' a457 su458 H460 sb461 N
      have hs459 := su458.hX C.hX.toXN
      replace fr := su458.fr H460
      refine w_asgO (α := Bool) (Γ' := fun y462 : (List Bool) => [.fr (α := PySem.Str) t.1, .fr (α := (Option ((Int × (Tu (Int × Int))) × (List Int)))) y338, .ow (α := Bool) y462, .fr (α := ExV) (ExV.mk a457), .un]) fr (lc_mk (i := 2) (x := "kinds_of") hs459 (by decide +kernel)) (he := by rfl) ?_ fun y462 => ?_
      · exact (ev_lst (md := true) (el_cons (md := true) (ev_isE (md := true) (b := false) su458 (exc_of (x := "BadWeb") (C.fc.s.fact 1 rfl)) (gn_mk (x := "isinstance") hs459 (by decide +kernel)) f_isinstance (nm_mk (i := 3) (x := "e") hs459 (by decide +kernel)) rfl (pe_own' (gn_mk (x := "NoText") hs459 (by decide +kernel)) (su458.some k_NoText)) own_rel (kit_of' (x := "BadWeb") (y := "NoText") (C.fc.s.fact 5 rfl)) rfl) (el_cons (md := true) (ev_isE (md := true) (b := true) su458 (exc_of (x := "BadWeb") (C.fc.s.fact 1 rfl)) (gn_mk (x := "isinstance") hs459 (by decide +kernel)) f_isinstance (nm_mk (i := 3) (x := "e") hs459 (by decide +kernel)) rfl (pe_own' (gn_mk (x := "BadWeb") hs459 (by decide +kernel)) (su458.some k_BadWeb)) own_rel (kit_of' (x := "BadWeb") (y := "BadWeb") (C.fc.s.fact 4 rfl)) rfl) (el_cons (md := true) (ev_isE (md := true) (b := false) su458 (exc_of (x := "BadWeb") (C.fc.s.fact 1 rfl)) (gn_mk (x := "isinstance") hs459 (by decide +kernel)) f_isinstance (nm_mk (i := 3) (x := "e") hs459 (by decide +kernel)) rfl (pe_own' (gn_mk (x := "Parted") hs459 (by decide +kernel)) (su458.some k_Parted)) own_rel (kit_of' (x := "BadWeb") (y := "Parted") (C.fc.s.fact 3 rfl)) rfl) (el_cons (md := true) (ev_isE (md := true) (b := false) su458 (exc_of (x := "BadWeb") (C.fc.s.fact 1 rfl)) (gn_mk (x := "isinstance") hs459 (by decide +kernel)) f_isinstance (nm_mk (i := 3) (x := "e") hs459 (by decide +kernel)) rfl (pe_own' (gn_mk (x := "BadStanding") hs459 (by decide +kernel)) (su458.some k_BadStanding)) own_rel (kit_of' (x := "BadWeb") (y := "BadStanding") (C.fc.s.fact 2 rfl)) rfl) (el_nil (α := Bool) rfl) rfl) rfl) rfl) rfl))
      refine w_append (α := Bool) (m1 := (.ok (!true))) (Γ' := fun y463 : (List Bool) => [.fr (α := PySem.Str) t.1, .fr (α := (Option ((Int × (Tu (Int × Int))) × (List Int)))) y338, .ow (α := Bool) y463, .fr (α := ExV) (ExV.mk a457), .un]) fr (nm_mk (i := 2) (x := "kinds_of") hs459 (by decide +kernel)) rfl ?_ (he := by rfl) fun y463 => ?_
      · exact (ev_not (ma := true) (md := true) (ev_isE (md := true) (b := true) su458 (exc_of (x := "BadWeb") (C.fc.s.fact 1 rfl)) (gn_mk (x := "isinstance") hs459 (by decide +kernel)) f_isinstance (nm_mk (i := 3) (x := "e") hs459 (by decide +kernel)) rfl (pe_bltn (v := .ty "ValueError") (u := .type "ValueError") (gn_mk (x := "ValueError") hs459 (by decide +kernel)).gl (su458.none f_ValueError) (by decide +kernel) rfl (by decide +kernel) (gn_mk (x := "ValueError") hs459 (by decide +kernel)).hd) ty_rel (kitB_of (x := "BadWeb") (C.fc.s.fact 6 rfl)) rfl) rfl)
      refine w_append (α := Bool) (m1 := (.ok false)) (Γ' := fun y464 : (List Bool) => [.fr (α := PySem.Str) t.1, .fr (α := (Option ((Int × (Tu (Int × Int))) × (List Int)))) y338, .ow (α := Bool) y464, .fr (α := ExV) (ExV.mk a457), .un]) fr (nm_mk (i := 2) (x := "kinds_of") hs459 (by decide +kernel)) rfl ?_ (he := by rfl) fun y464 => ?_
      · exact (ev_isET (md := true) (b := false) su458 (exc_of (x := "BadWeb") (C.fc.s.fact 1 rfl)) (gn_mk (x := "isinstance") hs459 (by decide +kernel)) f_isinstance (nm_mk (i := 3) (x := "e") hs459 (by decide +kernel)) rfl (cls_cons (gn_mk (x := "BadHouse") hs459 (by decide +kernel)) (su458.some k_BadHouse) (cls_cons (gn_mk (x := "BadNumber") hs459 (by decide +kernel)) (su458.some k_BadNumber) (cls_cons (gn_mk (x := "BadOrder") hs459 (by decide +kernel)) (su458.some k_BadOrder) (cls_cons (gn_mk (x := "NoBridge") hs459 (by decide +kernel)) (su458.some k_NoBridge) (cls_cons (gn_mk (x := "TooWide") hs459 (by decide +kernel)) (su458.some k_TooWide) cls_nil))))) (kit_no (kit_of' (x := "BadWeb") (y := "BadHouse") (C.fc.s.fact 11 rfl)) (kit_no (kit_of' (x := "BadWeb") (y := "BadNumber") (C.fc.s.fact 10 rfl)) (kit_no (kit_of' (x := "BadWeb") (y := "BadOrder") (C.fc.s.fact 9 rfl)) (kit_no (kit_of' (x := "BadWeb") (y := "NoBridge") (C.fc.s.fact 8 rfl)) (kit_no (kit_of' (x := "BadWeb") (y := "TooWide") (C.fc.s.fact 7 rfl)) kit_nil))))) rfl)
      exact w_end (s := (y338, y464)) [3] rfl rfl
    · refine .inr ⟨_, rfl, He.exm_ok (x := "Parted") (y := "OwingError") (b := true) (C.fc.s.d.fact 59 rfl), ?_⟩
      intro X' a465 su466 H468 sb469 N
      have hs467 := su466.hX C.hX.toXN
      replace fr := su466.fr H468
      refine w_asgO (α := Bool) (Γ' := fun y470 : (List Bool) => [.fr (α := PySem.Str) t.1, .fr (α := (Option ((Int × (Tu (Int × Int))) × (List Int)))) y338, .ow (α := Bool) y470, .fr (α := ExV) (ExV.mk a465), .un]) fr (lc_mk (i := 2) (x := "kinds_of") hs467 (by decide +kernel)) (he := by rfl) ?_ fun y470 => ?_
      · exact (ev_lst (md := true) (el_cons (md := true) (ev_isE (md := true) (b := false) su466 (exc_of (x := "Parted") (C.fc.s.fact 12 rfl)) (gn_mk (x := "isinstance") hs467 (by decide +kernel)) f_isinstance (nm_mk (i := 3) (x := "e") hs467 (by decide +kernel)) rfl (pe_own' (gn_mk (x := "NoText") hs467 (by decide +kernel)) (su466.some k_NoText)) own_rel (kit_of' (x := "Parted") (y := "NoText") (C.fc.s.fact 16 rfl)) rfl) (el_cons (md := true) (ev_isE (md := true) (b := false) su466 (exc_of (x := "Parted") (C.fc.s.fact 12 rfl)) (gn_mk (x := "isinstance") hs467 (by decide +kernel)) f_isinstance (nm_mk (i := 3) (x := "e") hs467 (by decide +kernel)) rfl (pe_own' (gn_mk (x := "BadWeb") hs467 (by decide +kernel)) (su466.some k_BadWeb)) own_rel (kit_of' (x := "Parted") (y := "BadWeb") (C.fc.s.fact 15 rfl)) rfl) (el_cons (md := true) (ev_isE (md := true) (b := true) su466 (exc_of (x := "Parted") (C.fc.s.fact 12 rfl)) (gn_mk (x := "isinstance") hs467 (by decide +kernel)) f_isinstance (nm_mk (i := 3) (x := "e") hs467 (by decide +kernel)) rfl (pe_own' (gn_mk (x := "Parted") hs467 (by decide +kernel)) (su466.some k_Parted)) own_rel (kit_of' (x := "Parted") (y := "Parted") (C.fc.s.fact 14 rfl)) rfl) (el_cons (md := true) (ev_isE (md := true) (b := false) su466 (exc_of (x := "Parted") (C.fc.s.fact 12 rfl)) (gn_mk (x := "isinstance") hs467 (by decide +kernel)) f_isinstance (nm_mk (i := 3) (x := "e") hs467 (by decide +kernel)) rfl (pe_own' (gn_mk (x := "BadStanding") hs467 (by decide +kernel)) (su466.some k_BadStanding)) own_rel (kit_of' (x := "Parted") (y := "BadStanding") (C.fc.s.fact 13 rfl)) rfl) (el_nil (α := Bool) rfl) rfl) rfl) rfl) rfl))
      refine w_append (α := Bool) (m1 := (.ok (!true))) (Γ' := fun y471 : (List Bool) => [.fr (α := PySem.Str) t.1, .fr (α := (Option ((Int × (Tu (Int × Int))) × (List Int)))) y338, .ow (α := Bool) y471, .fr (α := ExV) (ExV.mk a465), .un]) fr (nm_mk (i := 2) (x := "kinds_of") hs467 (by decide +kernel)) rfl ?_ (he := by rfl) fun y471 => ?_
      · exact (ev_not (ma := true) (md := true) (ev_isE (md := true) (b := true) su466 (exc_of (x := "Parted") (C.fc.s.fact 12 rfl)) (gn_mk (x := "isinstance") hs467 (by decide +kernel)) f_isinstance (nm_mk (i := 3) (x := "e") hs467 (by decide +kernel)) rfl (pe_bltn (v := .ty "ValueError") (u := .type "ValueError") (gn_mk (x := "ValueError") hs467 (by decide +kernel)).gl (su466.none f_ValueError) (by decide +kernel) rfl (by decide +kernel) (gn_mk (x := "ValueError") hs467 (by decide +kernel)).hd) ty_rel (kitB_of (x := "Parted") (C.fc.s.fact 17 rfl)) rfl) rfl)
      refine w_append (α := Bool) (m1 := (.ok false)) (Γ' := fun y472 : (List Bool) => [.fr (α := PySem.Str) t.1, .fr (α := (Option ((Int × (Tu (Int × Int))) × (List Int)))) y338, .ow (α := Bool) y472, .fr (α := ExV) (ExV.mk a465), .un]) fr (nm_mk (i := 2) (x := "kinds_of") hs467 (by decide +kernel)) rfl ?_ (he := by rfl) fun y472 => ?_
      · exact (ev_isET (md := true) (b := false) su466 (exc_of (x := "Parted") (C.fc.s.fact 12 rfl)) (gn_mk (x := "isinstance") hs467 (by decide +kernel)) f_isinstance (nm_mk (i := 3) (x := "e") hs467 (by decide +kernel)) rfl (cls_cons (gn_mk (x := "BadHouse") hs467 (by decide +kernel)) (su466.some k_BadHouse) (cls_cons (gn_mk (x := "BadNumber") hs467 (by decide +kernel)) (su466.some k_BadNumber) (cls_cons (gn_mk (x := "BadOrder") hs467 (by decide +kernel)) (su466.some k_BadOrder) (cls_cons (gn_mk (x := "NoBridge") hs467 (by decide +kernel)) (su466.some k_NoBridge) (cls_cons (gn_mk (x := "TooWide") hs467 (by decide +kernel)) (su466.some k_TooWide) cls_nil))))) (kit_no (kit_of' (x := "Parted") (y := "BadHouse") (C.fc.s.fact 22 rfl)) (kit_no (kit_of' (x := "Parted") (y := "BadNumber") (C.fc.s.fact 21 rfl)) (kit_no (kit_of' (x := "Parted") (y := "BadOrder") (C.fc.s.fact 20 rfl)) (kit_no (kit_of' (x := "Parted") (y := "NoBridge") (C.fc.s.fact 19 rfl)) (kit_no (kit_of' (x := "Parted") (y := "TooWide") (C.fc.s.fact 18 rfl)) kit_nil))))) rfl)
      exact w_end (s := (y338, y472)) [3] rfl rfl
    · refine .inr ⟨_, rfl, He.exm_ok (x := "BadStanding") (y := "OwingError") (b := true) (C.fc.s.d.fact 61 rfl), ?_⟩
      intro X' a473 su474 H476 sb477 N
      have hs475 := su474.hX C.hX.toXN
      replace fr := su474.fr H476
      refine w_asgO (α := Bool) (Γ' := fun y478 : (List Bool) => [.fr (α := PySem.Str) t.1, .fr (α := (Option ((Int × (Tu (Int × Int))) × (List Int)))) y338, .ow (α := Bool) y478, .fr (α := ExV) (ExV.mk a473), .un]) fr (lc_mk (i := 2) (x := "kinds_of") hs475 (by decide +kernel)) (he := by rfl) ?_ fun y478 => ?_
      · exact (ev_lst (md := true) (el_cons (md := true) (ev_isE (md := true) (b := false) su474 (exc_of (x := "BadStanding") (C.fc.s.fact 23 rfl)) (gn_mk (x := "isinstance") hs475 (by decide +kernel)) f_isinstance (nm_mk (i := 3) (x := "e") hs475 (by decide +kernel)) rfl (pe_own' (gn_mk (x := "NoText") hs475 (by decide +kernel)) (su474.some k_NoText)) own_rel (kit_of' (x := "BadStanding") (y := "NoText") (C.fc.s.fact 27 rfl)) rfl) (el_cons (md := true) (ev_isE (md := true) (b := false) su474 (exc_of (x := "BadStanding") (C.fc.s.fact 23 rfl)) (gn_mk (x := "isinstance") hs475 (by decide +kernel)) f_isinstance (nm_mk (i := 3) (x := "e") hs475 (by decide +kernel)) rfl (pe_own' (gn_mk (x := "BadWeb") hs475 (by decide +kernel)) (su474.some k_BadWeb)) own_rel (kit_of' (x := "BadStanding") (y := "BadWeb") (C.fc.s.fact 26 rfl)) rfl) (el_cons (md := true) (ev_isE (md := true) (b := false) su474 (exc_of (x := "BadStanding") (C.fc.s.fact 23 rfl)) (gn_mk (x := "isinstance") hs475 (by decide +kernel)) f_isinstance (nm_mk (i := 3) (x := "e") hs475 (by decide +kernel)) rfl (pe_own' (gn_mk (x := "Parted") hs475 (by decide +kernel)) (su474.some k_Parted)) own_rel (kit_of' (x := "BadStanding") (y := "Parted") (C.fc.s.fact 25 rfl)) rfl) (el_cons (md := true) (ev_isE (md := true) (b := true) su474 (exc_of (x := "BadStanding") (C.fc.s.fact 23 rfl)) (gn_mk (x := "isinstance") hs475 (by decide +kernel)) f_isinstance (nm_mk (i := 3) (x := "e") hs475 (by decide +kernel)) rfl (pe_own' (gn_mk (x := "BadStanding") hs475 (by decide +kernel)) (su474.some k_BadStanding)) own_rel (kit_of' (x := "BadStanding") (y := "BadStanding") (C.fc.s.fact 24 rfl)) rfl) (el_nil (α := Bool) rfl) rfl) rfl) rfl) rfl))
      refine w_append (α := Bool) (m1 := (.ok (!true))) (Γ' := fun y479 : (List Bool) => [.fr (α := PySem.Str) t.1, .fr (α := (Option ((Int × (Tu (Int × Int))) × (List Int)))) y338, .ow (α := Bool) y479, .fr (α := ExV) (ExV.mk a473), .un]) fr (nm_mk (i := 2) (x := "kinds_of") hs475 (by decide +kernel)) rfl ?_ (he := by rfl) fun y479 => ?_
      · exact (ev_not (ma := true) (md := true) (ev_isE (md := true) (b := true) su474 (exc_of (x := "BadStanding") (C.fc.s.fact 23 rfl)) (gn_mk (x := "isinstance") hs475 (by decide +kernel)) f_isinstance (nm_mk (i := 3) (x := "e") hs475 (by decide +kernel)) rfl (pe_bltn (v := .ty "ValueError") (u := .type "ValueError") (gn_mk (x := "ValueError") hs475 (by decide +kernel)).gl (su474.none f_ValueError) (by decide +kernel) rfl (by decide +kernel) (gn_mk (x := "ValueError") hs475 (by decide +kernel)).hd) ty_rel (kitB_of (x := "BadStanding") (C.fc.s.fact 28 rfl)) rfl) rfl)
      refine w_append (α := Bool) (m1 := (.ok false)) (Γ' := fun y480 : (List Bool) => [.fr (α := PySem.Str) t.1, .fr (α := (Option ((Int × (Tu (Int × Int))) × (List Int)))) y338, .ow (α := Bool) y480, .fr (α := ExV) (ExV.mk a473), .un]) fr (nm_mk (i := 2) (x := "kinds_of") hs475 (by decide +kernel)) rfl ?_ (he := by rfl) fun y480 => ?_
      · exact (ev_isET (md := true) (b := false) su474 (exc_of (x := "BadStanding") (C.fc.s.fact 23 rfl)) (gn_mk (x := "isinstance") hs475 (by decide +kernel)) f_isinstance (nm_mk (i := 3) (x := "e") hs475 (by decide +kernel)) rfl (cls_cons (gn_mk (x := "BadHouse") hs475 (by decide +kernel)) (su474.some k_BadHouse) (cls_cons (gn_mk (x := "BadNumber") hs475 (by decide +kernel)) (su474.some k_BadNumber) (cls_cons (gn_mk (x := "BadOrder") hs475 (by decide +kernel)) (su474.some k_BadOrder) (cls_cons (gn_mk (x := "NoBridge") hs475 (by decide +kernel)) (su474.some k_NoBridge) (cls_cons (gn_mk (x := "TooWide") hs475 (by decide +kernel)) (su474.some k_TooWide) cls_nil))))) (kit_no (kit_of' (x := "BadStanding") (y := "BadHouse") (C.fc.s.fact 33 rfl)) (kit_no (kit_of' (x := "BadStanding") (y := "BadNumber") (C.fc.s.fact 32 rfl)) (kit_no (kit_of' (x := "BadStanding") (y := "BadOrder") (C.fc.s.fact 31 rfl)) (kit_no (kit_of' (x := "BadStanding") (y := "NoBridge") (C.fc.s.fact 30 rfl)) (kit_no (kit_of' (x := "BadStanding") (y := "TooWide") (C.fc.s.fact 29 rfl)) kit_nil))))) rfl)
      exact w_end (s := (y338, y480)) [3] rfl rfl
    · exact .inl rfl
    · exact .inl rfl
    · exact .inl rfl
    · exact .inl rfl
    · exact .inl rfl
    · refine .inr ⟨_, rfl, He.exm_ok (x := "NoText") (y := "OwingError") (b := true) (C.fc.s.d.fact 73 rfl), ?_⟩
      intro X' a481 su482 H484 sb485 N
      have hs483 := su482.hX C.hX.toXN
      replace fr := su482.fr H484
      refine w_asgO (α := Bool) (Γ' := fun y486 : (List Bool) => [.fr (α := PySem.Str) t.1, .fr (α := (Option ((Int × (Tu (Int × Int))) × (List Int)))) y338, .ow (α := Bool) y486, .fr (α := ExV) (ExV.mk a481), .un]) fr (lc_mk (i := 2) (x := "kinds_of") hs483 (by decide +kernel)) (he := by rfl) ?_ fun y486 => ?_
      · exact (ev_lst (md := true) (el_cons (md := true) (ev_isE (md := true) (b := true) su482 (exc_of (x := "NoText") (C.fc.s.fact 34 rfl)) (gn_mk (x := "isinstance") hs483 (by decide +kernel)) f_isinstance (nm_mk (i := 3) (x := "e") hs483 (by decide +kernel)) rfl (pe_own' (gn_mk (x := "NoText") hs483 (by decide +kernel)) (su482.some k_NoText)) own_rel (kit_of' (x := "NoText") (y := "NoText") (C.fc.s.fact 38 rfl)) rfl) (el_cons (md := true) (ev_isE (md := true) (b := false) su482 (exc_of (x := "NoText") (C.fc.s.fact 34 rfl)) (gn_mk (x := "isinstance") hs483 (by decide +kernel)) f_isinstance (nm_mk (i := 3) (x := "e") hs483 (by decide +kernel)) rfl (pe_own' (gn_mk (x := "BadWeb") hs483 (by decide +kernel)) (su482.some k_BadWeb)) own_rel (kit_of' (x := "NoText") (y := "BadWeb") (C.fc.s.fact 37 rfl)) rfl) (el_cons (md := true) (ev_isE (md := true) (b := false) su482 (exc_of (x := "NoText") (C.fc.s.fact 34 rfl)) (gn_mk (x := "isinstance") hs483 (by decide +kernel)) f_isinstance (nm_mk (i := 3) (x := "e") hs483 (by decide +kernel)) rfl (pe_own' (gn_mk (x := "Parted") hs483 (by decide +kernel)) (su482.some k_Parted)) own_rel (kit_of' (x := "NoText") (y := "Parted") (C.fc.s.fact 36 rfl)) rfl) (el_cons (md := true) (ev_isE (md := true) (b := false) su482 (exc_of (x := "NoText") (C.fc.s.fact 34 rfl)) (gn_mk (x := "isinstance") hs483 (by decide +kernel)) f_isinstance (nm_mk (i := 3) (x := "e") hs483 (by decide +kernel)) rfl (pe_own' (gn_mk (x := "BadStanding") hs483 (by decide +kernel)) (su482.some k_BadStanding)) own_rel (kit_of' (x := "NoText") (y := "BadStanding") (C.fc.s.fact 35 rfl)) rfl) (el_nil (α := Bool) rfl) rfl) rfl) rfl) rfl))
      refine w_append (α := Bool) (m1 := (.ok (!true))) (Γ' := fun y487 : (List Bool) => [.fr (α := PySem.Str) t.1, .fr (α := (Option ((Int × (Tu (Int × Int))) × (List Int)))) y338, .ow (α := Bool) y487, .fr (α := ExV) (ExV.mk a481), .un]) fr (nm_mk (i := 2) (x := "kinds_of") hs483 (by decide +kernel)) rfl ?_ (he := by rfl) fun y487 => ?_
      · exact (ev_not (ma := true) (md := true) (ev_isE (md := true) (b := true) su482 (exc_of (x := "NoText") (C.fc.s.fact 34 rfl)) (gn_mk (x := "isinstance") hs483 (by decide +kernel)) f_isinstance (nm_mk (i := 3) (x := "e") hs483 (by decide +kernel)) rfl (pe_bltn (v := .ty "ValueError") (u := .type "ValueError") (gn_mk (x := "ValueError") hs483 (by decide +kernel)).gl (su482.none f_ValueError) (by decide +kernel) rfl (by decide +kernel) (gn_mk (x := "ValueError") hs483 (by decide +kernel)).hd) ty_rel (kitB_of (x := "NoText") (C.fc.s.fact 39 rfl)) rfl) rfl)
      refine w_append (α := Bool) (m1 := (.ok false)) (Γ' := fun y488 : (List Bool) => [.fr (α := PySem.Str) t.1, .fr (α := (Option ((Int × (Tu (Int × Int))) × (List Int)))) y338, .ow (α := Bool) y488, .fr (α := ExV) (ExV.mk a481), .un]) fr (nm_mk (i := 2) (x := "kinds_of") hs483 (by decide +kernel)) rfl ?_ (he := by rfl) fun y488 => ?_
      · exact (ev_isET (md := true) (b := false) su482 (exc_of (x := "NoText") (C.fc.s.fact 34 rfl)) (gn_mk (x := "isinstance") hs483 (by decide +kernel)) f_isinstance (nm_mk (i := 3) (x := "e") hs483 (by decide +kernel)) rfl (cls_cons (gn_mk (x := "BadHouse") hs483 (by decide +kernel)) (su482.some k_BadHouse) (cls_cons (gn_mk (x := "BadNumber") hs483 (by decide +kernel)) (su482.some k_BadNumber) (cls_cons (gn_mk (x := "BadOrder") hs483 (by decide +kernel)) (su482.some k_BadOrder) (cls_cons (gn_mk (x := "NoBridge") hs483 (by decide +kernel)) (su482.some k_NoBridge) (cls_cons (gn_mk (x := "TooWide") hs483 (by decide +kernel)) (su482.some k_TooWide) cls_nil))))) (kit_no (kit_of' (x := "NoText") (y := "BadHouse") (C.fc.s.fact 44 rfl)) (kit_no (kit_of' (x := "NoText") (y := "BadNumber") (C.fc.s.fact 43 rfl)) (kit_no (kit_of' (x := "NoText") (y := "BadOrder") (C.fc.s.fact 42 rfl)) (kit_no (kit_of' (x := "NoText") (y := "NoBridge") (C.fc.s.fact 41 rfl)) (kit_no (kit_of' (x := "NoText") (y := "TooWide") (C.fc.s.fact 40 rfl)) kit_nil))))) rfl)
      exact w_end (s := (y338, y488)) [3] rfl rfl
  refine w_ifR (ma := (((((R.ofO s340.1) : R _).bind fun x489 => (.ok (Sum.inr x489 : ((T1 PySem.Str) ⊕ ((Int × (Tu (Int × Int))) × (List Int)))))) : R ((T1 PySem.Str) ⊕ ((Int × (Tu (Int × Int))) × (List Int)))).bind fun z490 => .ok z490)) (mc := (.ok (pyEq s340.2 ([] : (List Bool))))) fr (et_eq (α := (List Bool)) (ma := false) (mb := true) C.hu (ev_own n2 rfl rfl) (EvO.fz (ev_lst (md := true) (el_nil (α := Bool) rfl))) rfl) (fun nx' => ?_) ?_ (he := by rfl)
  · skip
    exact w_ret (m1 := (((R.ofO s340.1) : R _).bind fun x489 => (.ok (Sum.inr x489 : ((T1 PySem.Str) ⊕ ((Int × (Tu (Int × Int))) × (List Int))))))) (g := fun z => z) fr hR (Ev.inr (m := (R.ofO s340.1)) (Ev.there (m := (.ok s340.1)) (ev_var (md := true) n1 rfl rfl) rfl) rfl) (fun _ h => h) rfl
  refine w_ifR (mc := (((((compR (fun y491 => (if y491 = true then (R.ok (some y491)) else R.ok none)) s340.2) : R _).bind fun x496 => (.ok (x496.length : Int))) : R _).bind fun x497 => (.ok (!pyEq x497 (1 : Int))))) fr (et_ne (α := Int) (ma := true) (mb := true) C.hu (ev_lenL (ma := true) (md := true) g_len f_len (EvO.fz (ev_filt (mi := false) (α := Bool) (β := Bool) (mx := (.ok s340.2)) (t := fun y491 => (.ok y491)) (g := fun y491 => (.ok y491)) (own := [("one", 4)]) (Γx := fun y491 : Bool => [.fr (α := PySem.Str) t.1, .fr (α := (Option ((Int × (Tu (Int × Int))) × (List Int)))) s340.1, .ow (α := Bool) s340.2, .un, .fr (α := Bool) y491]) (is := [4]) C.hX (ei_list (ev_own n2 rfl rfl)) (.inr PyF.flat) (by decide +kernel) (no1 (fun _ => rfl)) (by decide) (fun X493 b492 y491 => have h494 := b492.ok C.hX; (eg_name (α := Bool) (lc_mk (i := 4) (x := "one") h494.toXN (by decide +kernel)) rfl (fun _ => rfl))) (fun X493 b492 D495 y491 => have h494 := b492.ok C.hX; (et_val (md := true) (ev_var (md := true) (nm_mk (i := 4) (x := "one") h494.toXN (by decide +kernel)) rfl rfl))) (fun X493 b492 D495 y491 => have h494 := b492.ok C.hX; (ev_var (md := true) (nm_mk (i := 4) (x := "one") h494.toXN (by decide +kernel)) rfl rfl)) rfl)) rfl) (ev_int (md := true) rfl) rfl) (fun nx' => ?_) ?_ (he := by rfl)
  · skip
    exact w_ret (m1 := (.ok (Sum.inl (T1.mk ("two" : PySem.Str)) : ((T1 PySem.Str) ⊕ ((Int × (Tu (Int × Int))) × (List Int)))))) (g := fun z => z) fr hR (Ev.inl (m := (.ok (T1.mk ("two" : PySem.Str)))) (ev_tup (md := true) tup1 (ea_cons (md := true) (ev_str (md := true) rfl) (ea_nil (md := true) rfl) rfl) rfl) rfl) (fun _ h => h) rfl
  exact w_ret (m1 := (((((((((idxR s340.2 true) : R _).bind fun x498 => (ixR ([("text" : PySem.Str), ("web" : PySem.Str), ("parted" : PySem.Str), ("standing" : PySem.Str), ("value" : PySem.Str), ("other" : PySem.Str)] : (List PySem.Str)) x498)) : R _).bind fun x499 => (.ok (x499, (())))) : R _).bind fun x500 => (.ok (T1.mk x500.1))) : R _).bind fun x501 => (.ok (Sum.inl x501 : ((T1 PySem.Str) ⊕ ((Int × (Tu (Int × Int))) × (List Int))))))) (g := fun z => z) fr hR (Ev.inl (m := (((((((idxR s340.2 true) : R _).bind fun x498 => (ixR ([("text" : PySem.Str), ("web" : PySem.Str), ("parted" : PySem.Str), ("standing" : PySem.Str), ("value" : PySem.Str), ("other" : PySem.Str)] : (List PySem.Str)) x498)) : R _).bind fun x499 => (.ok (x499, (())))) : R _).bind fun x500 => (.ok (T1.mk x500.1)))) (ev_tup (md := true) tup1 (ea_cons (md := true) (ev_ixL (md := true) (mb := true) (EvO.fz (ev_lst (md := true) (el_cons (md := true) (ev_str (md := true) rfl) (el_cons (md := true) (ev_str (md := true) rfl) (el_cons (md := true) (ev_str (md := true) rfl) (el_cons (md := true) (ev_str (md := true) rfl) (el_cons (md := true) (ev_str (md := true) rfl) (el_cons (md := true) (ev_str (md := true) rfl) (el_nil (α := PySem.Str) rfl) rfl) rfl) rfl) rfl) rfl) rfl))) (ev_indexD (ma := false) (mb := true) (md := true) C.hv (ev_own n2 rfl rfl) (ev_bool (md := true) rfl) rfl) rfl) (ea_nil (md := true) rfl) rfl) rfl) rfl) (fun _ h => h) rfl
theorem gd_law_found {P : Program} {w : World} {K : PySem.W.Frag} {mg : PySem.Str → Option Value} {base : Heap} (fc : Fac fe fa fn K mg) : Gd P w K mg base "_law_found" (spF K (τ := PySem.Str × Unit) (ρ := ((T1 PySem.Str) ⊕ ((Int × (Tu (Int × Int))) × (List Int)))) 1 m_law_found) 1 6 :=
  gd_F 18 43 fc rfl rfl sc_law_found rfl bn_law_found fun X _ _ _ _ _ C H0 qs rt A B fr hR t => b_law_found (by omega) X C H0 qs rt A B fr hR t
theorem sc_law : FnScope ["script", "houses", "ties", "start", "standing", "text", "cell", "once", "spoiled", "due"] ["script"] dd_law.scope := ⟨rfl, rfl, rfl, by decide +kernel, rfl, by decide +kernel, by decide +kernel⟩
theorem bn_law : BindE dd_law ["script"] := fun _ _ _ _ _ _ us hl => match us, hl with | [_], _ => rfl
theorem b_law {k : Nat} (hk : 6 ≤ k) (X : Cx) (C : Cb fe fa fn X (["script", "houses", "ties", "start", "standing", "text", "cell", "once", "spoiled", "due"] : List PySem.Str) dd_law.scope k) (H0 : Hp) (qs : List Addr) (rt : VK) (A : Bool → Prop) (B : Exc → Prop) (fr : Fr X H0 B) (hR : RtF (ρ := Bool) X H0 qs rt A) (t : Scr × Unit) :
    W X H0 qs rt (fun _ H => rt .non H) A B [.fr (α := Scr) t.1, .un, .un, .un, .un, .un, .un, .un, .un, .un] dd_law.body (m_law t) := by
  have n0 : Nm X 0 "script" := nm_mk C.hX.toXN (by decide +kernel)
  have n1 : Nm X 1 "houses" := nm_mk C.hX.toXN (by decide +kernel)
  have n2 : Nm X 2 "ties" := nm_mk C.hX.toXN (by decide +kernel)
  have n3 : Nm X 3 "start" := nm_mk C.hX.toXN (by decide +kernel)
  have n4 : Nm X 4 "standing" := nm_mk C.hX.toXN (by decide +kernel)
  have n5 : Nm X 5 "text" := nm_mk C.hX.toXN (by decide +kernel)
  have n6 : Nm X 6 "cell" := nm_mk C.hX.toXN (by decide +kernel)
  have n7 : Nm X 7 "once" := nm_mk C.hX.toXN (by decide +kernel)
  have n8 : Nm X 8 "spoiled" := nm_mk C.hX.toXN (by decide +kernel)
  have n9 : Nm X 9 "due" := nm_mk C.hX.toXN (by decide +kernel)
  have l1 : Lc X 1 "houses" := lc_mk C.hX.toXN (by decide +kernel)
  have l2 : Lc X 2 "ties" := lc_mk C.hX.toXN (by decide +kernel)
  have l3 : Lc X 3 "start" := lc_mk C.hX.toXN (by decide +kernel)
  have l4 : Lc X 4 "standing" := lc_mk C.hX.toXN (by decide +kernel)
  have l5 : Lc X 5 "text" := lc_mk C.hX.toXN (by decide +kernel)
  have l6 : Lc X 6 "cell" := lc_mk C.hX.toXN (by decide +kernel)
  have l7 : Lc X 7 "once" := lc_mk C.hX.toXN (by decide +kernel)
  have l8 : Lc X 8 "spoiled" := lc_mk C.hX.toXN (by decide +kernel)
  have l9 : Lc X 9 "due" := lc_mk C.hX.toXN (by decide +kernel)
  have g__law_due : Gn X "_law_due" := gn_mk C.hX.toXN (by decide +kernel)
  have g__law_found : Gn X "_law_found" := gn_mk C.hX.toXN (by decide +kernel)
  have g__law_gathered : Gn X "_law_gathered" := gn_mk C.hX.toXN (by decide +kernel)
  have g__law_spoiled : Gn X "_law_spoiled" := gn_mk C.hX.toXN (by decide +kernel)
  have g__law_text : Gn X "_law_text" := gn_mk C.hX.toXN (by decide +kernel)
  have g__law_web : Gn X "_law_web" := gn_mk C.hX.toXN (by decide +kernel)
  have d_law_web : Dn X "_law_web" (spF X.K (τ := Scr × Int × Int × Unit) (ρ := (T3 Int (List (Int × Int)) Int)) 3 m_law_web) 3 := (gd_law_web C.fc).dn C.rm (by omega)
  have d_law_gathered : Dn X "_law_gathered" (spO X.K (τ := (List Int) × Int × Unit) (ρ := Int) 2 m_law_gathered) 2 := (gd_law_gathered C.fc).dn C.rm (by omega)
  have d_law_text : Dn X "_law_text" (spF X.K (τ := Int × (List (Int × Int)) × (List Int) × Unit) (ρ := PySem.Str) 3 m_law_text) 3 := (gd_law_text C.fc).dn C.rm (by omega)
  have d_law_spoiled : Dn X "_law_spoiled" (spF X.K (τ := PySem.Str × Int × Unit) (ρ := PySem.Str) 2 m_law_spoiled) 2 := (gd_law_spoiled C.fc).dn C.rm (by omega)
  have d_law_due : Dn X "_law_due" (spF X.K (τ := PySem.Str × Unit) (ρ := ((T1 PySem.Str) ⊕ ((Int × (Tu (Int × Int))) × (List Int)))) 1 m_law_due) 1 := (gd_law_due C.fc).dn C.rm (by omega)
  have d_law_found : Dn X "_law_found" (spF X.K (τ := PySem.Str × Unit) (ρ := ((T1 PySem.Str) ⊕ ((Int × (Tu (Int × Int))) × (List Int)))) 1 m_law_found) 1 := (gd_law_found C.fc).dn C.rm (by omega)
  refine w_asgT (α := (T3 Int (List (Int × Int)) Int)) (m1 := (m_law_web (t.1, (8 : Int), (11 : Int), ()))) (Γ' := fun y62 : (T3 Int (List (Int × Int)) Int) => [.fr (α := Scr) t.1, .fr (α := Int) y62.a, .fr (α := (List (Int × Int))) y62.b, .fr (α := Int) y62.c, .un, .un, .un, .un, .un, .un]) (is := [1, 2, 3]) fr ?_ (fun y62 => ?_) (he := by rfl) fun y62 => ?_
  · exact (ev_call (md := true) d_law_web g__law_web (ea_cons (md := true) (ev_var (md := true) n0 rfl rfl) (ea_cons (md := true) (ev_int (md := true) rfl) (ea_cons (md := true) (ev_int (md := true) rfl) (ea_nil (md := true) rfl) rfl) rfl) rfl) rfl rfl)
  · exact (eg_three C.hX.calm (eg_name (α := Int) l1 rfl (fun _ => rfl)) (eg_name (α := (List (Int × Int))) l2 rfl (fun _ => rfl)) (eg_name (α := Int) l3 rfl (fun _ => rfl)))
  refine w_asg (α := (List Int)) (Γ' := fun y87 : (List Int) => [.fr (α := Scr) t.1, .fr (α := Int) y62.a, .fr (α := (List (Int × Int))) y62.b, .fr (α := Int) y62.c, .fr (α := (List Int)) y87, .un, .un, .un, .un, .un]) fr l4 (he := by rfl) ?_ fun y87 => ?_
  · exact (EvO.fz (ev_callO (md := true) d_law_gathered g__law_gathered (ea_cons (md := true) (EvO.fz (ev_cutS (ma := true) (md := true) (ev_var (md := true) n0 rfl rfl) (ep_of (ma := true) (ev_var (md := true) n3 rfl rfl) rfl) (ep_of (ma := true) (ev_add (ma := true) (mb := true) (md := true) (ev_var (md := true) n3 rfl rfl) (ev_int (md := true) rfl) rfl) rfl) rfl)) (ea_cons (md := true) (ev_var (md := true) n1 rfl rfl) (ea_nil (md := true) rfl) rfl) rfl) rfl rfl))
  refine w_asg (α := PySem.Str) (Γ' := fun y114 : PySem.Str => [.fr (α := Scr) t.1, .fr (α := Int) y62.a, .fr (α := (List (Int × Int))) y62.b, .fr (α := Int) y62.c, .fr (α := (List Int)) y87, .fr (α := PySem.Str) y114, .un, .un, .un, .un]) fr l5 (he := by rfl) ?_ fun y114 => ?_
  · exact (ev_call (md := true) d_law_text g__law_text (ea_cons (md := true) (ev_var (md := true) n1 rfl rfl) (ea_cons (md := true) (EvO.fz (ev_cut (md := true) (ev_var (md := true) n2 rfl rfl) ep_no (ep_of (ma := true) (ev_int (md := true) rfl) rfl) rfl)) (ea_cons (md := true) (ev_var (md := true) n4 rfl rfl) (ea_nil (md := true) rfl) rfl) rfl) rfl) rfl rfl)
  refine w_forM (α := Int) (S := Unit) (mx := (catR ([(0 : Int)] : (List Int)) (cutL t.1.l (some y62.c) (some (y62.c + (30 : Int)))))) (bd := (fun y116 s115 => (((m_law_spoiled (y114, y116, ())) : R PySem.Str).bind fun y205 => (((((((((((((divR y116 (5440 : Int)) : R _).bind fun x206 => (.ok (x206, (())))) : R _).bind fun x207 => (.ok (y205, x207))) : R _).bind fun x208 => (m_law_spoiled x208)) : R _).bind fun x209 => (.ok (x209 :: []))) : R _).bind fun x210 => (.ok (y205 :: x210))) : R _).bind fun x506 => (R.ct (forM (fun y212 s211 => (((m_law_due (y212, ())) : R ((T1 PySem.Str) ⊕ ((Int × (Tu (Int × Int))) × (List Int)))).bind fun y337 => (((((m_law_found (y212, ())) : R _).bind fun x504 => (.ok (!pyEq x504 y337))) : R Bool).bind fun c505 => if c505 = true then (.ok (.rt (.rt false))) else (.ok (.nx ()))))) x506 ()) fun s211 : Unit => (.ok (.nx ()))))))) (s0 := ()) (Γs := fun s115 : Unit => [.fr (α := Scr) t.1, .fr (α := Int) y62.a, .fr (α := (List (Int × Int))) y62.b, .fr (α := Int) y62.c, .fr (α := (List Int)) y87, .fr (α := PySem.Str) y114, .un, .un, .un, .un]) (Γb := fun (y116 : Int) (s115 : Unit) => [.fr (α := Scr) t.1, .fr (α := Int) y62.a, .fr (α := (List (Int × Int))) y62.b, .fr (α := Int) y62.c, .fr (α := (List Int)) y87, .fr (α := PySem.Str) y114, .fr (α := Int) y116, .un, .un, .un]) (is := [6]) C.hX.calm fr (he := by rfl) ?_ ?_ ?_ fun s115 => ?_
  · exact (ei_list (EvO.fz (ev_cat (md := true) (EvO.fz (ev_lst (md := true) (el_cons (md := true) (ev_int (md := true) rfl) (el_nil (α := Int) rfl) rfl))) (EvO.fz (ev_cutS (ma := true) (md := true) (ev_var (md := true) n0 rfl rfl) (ep_of (ma := true) (ev_var (md := true) n3 rfl rfl) rfl) (ep_of (ma := true) (ev_add (ma := true) (mb := true) (md := true) (ev_var (md := true) n3 rfl rfl) (ev_int (md := true) rfl) rfl) rfl) rfl)) rfl)))
  · exact fun y116 s115 => (eg_name (α := Int) l6 rfl (fun _ => rfl))
  · intro H117 sb118 N y116 s115
    replace fr := fr.up sb118
    try replace hR := hR.up sb118
    refine w_asg (α := PySem.Str) (Γ' := fun y205 : PySem.Str => [.fr (α := Scr) t.1, .fr (α := Int) y62.a, .fr (α := (List (Int × Int))) y62.b, .fr (α := Int) y62.c, .fr (α := (List Int)) y87, .fr (α := PySem.Str) y114, .fr (α := Int) y116, .fr (α := PySem.Str) y205, .un, .un]) fr l7 (he := by rfl) ?_ fun y205 => ?_
    · exact (ev_call (md := true) d_law_spoiled g__law_spoiled (ea_cons (md := true) (ev_var (md := true) n5 rfl rfl) (ea_cons (md := true) (ev_var (md := true) n6 rfl rfl) (ea_nil (md := true) rfl) rfl) rfl) rfl rfl)
    refine w_forM (α := PySem.Str) (S := Unit) (mx := (((((((((((divR y116 (5440 : Int)) : R _).bind fun x206 => (.ok (x206, (())))) : R _).bind fun x207 => (.ok (y205, x207))) : R _).bind fun x208 => (m_law_spoiled x208)) : R _).bind fun x209 => (.ok (x209 :: []))) : R _).bind fun x210 => (.ok (y205 :: x210)))) (bd := (fun y212 s211 => (((m_law_due (y212, ())) : R ((T1 PySem.Str) ⊕ ((Int × (Tu (Int × Int))) × (List Int)))).bind fun y337 => (((((m_law_found (y212, ())) : R _).bind fun x504 => (.ok (!pyEq x504 y337))) : R Bool).bind fun c505 => if c505 = true then (.ok (.rt (.rt false))) else (.ok (.nx ())))))) (s0 := ()) (Γs := fun s211 : Unit => [.fr (α := Scr) t.1, .fr (α := Int) y62.a, .fr (α := (List (Int × Int))) y62.b, .fr (α := Int) y62.c, .fr (α := (List Int)) y87, .fr (α := PySem.Str) y114, .fr (α := Int) y116, .fr (α := PySem.Str) y205, .un, .un]) (Γb := fun (y212 : PySem.Str) (s211 : Unit) => [.fr (α := Scr) t.1, .fr (α := Int) y62.a, .fr (α := (List (Int × Int))) y62.b, .fr (α := Int) y62.c, .fr (α := (List Int)) y87, .fr (α := PySem.Str) y114, .fr (α := Int) y116, .fr (α := PySem.Str) y205, .fr (α := PySem.Str) y212, .un]) (is := [8]) C.hX.calm fr (he := by rfl) ?_ ?_ ?_ fun s211 => ?_
    · exact (ei_list (EvO.fz (ev_lst (md := true) (el_cons (md := true) (ev_var (md := true) n7 rfl rfl) (el_cons (md := true) (ev_call (md := true) d_law_spoiled g__law_spoiled (ea_cons (md := true) (ev_var (md := true) n7 rfl rfl) (ea_cons (md := true) (ev_div (ma := true) (mb := true) (md := true) (ev_var (md := true) n6 rfl rfl) (ev_int (md := true) rfl) rfl) (ea_nil (md := true) rfl) rfl) rfl) rfl rfl) (el_nil (α := PySem.Str) rfl) rfl) rfl))))
    · exact fun y212 s211 => (eg_name (α := PySem.Str) l8 rfl (fun _ => rfl))
    · intro H213 sb214 N y212 s211
      replace fr := fr.up sb214
      try replace hR := hR.up sb214
      refine w_asg (α := ((T1 PySem.Str) ⊕ ((Int × (Tu (Int × Int))) × (List Int)))) (Γ' := fun y337 : ((T1 PySem.Str) ⊕ ((Int × (Tu (Int × Int))) × (List Int))) => [.fr (α := Scr) t.1, .fr (α := Int) y62.a, .fr (α := (List (Int × Int))) y62.b, .fr (α := Int) y62.c, .fr (α := (List Int)) y87, .fr (α := PySem.Str) y114, .fr (α := Int) y116, .fr (α := PySem.Str) y205, .fr (α := PySem.Str) y212, .fr (α := ((T1 PySem.Str) ⊕ ((Int × (Tu (Int × Int))) × (List Int)))) y337]) fr l9 (he := by rfl) ?_ fun y337 => ?_
      · exact (ev_call (md := true) d_law_due g__law_due (ea_cons (md := true) (ev_var (md := true) n8 rfl rfl) (ea_nil (md := true) rfl) rfl) rfl rfl)
      refine w_ifR (mc := (((m_law_found (y212, ())) : R _).bind fun x504 => (.ok (!pyEq x504 y337)))) fr (et_ne (α := ((T1 PySem.Str) ⊕ ((Int × (Tu (Int × Int))) × (List Int)))) (ma := true) (mb := true) C.hu (ev_call (md := true) d_law_found g__law_found (ea_cons (md := true) (ev_var (md := true) n8 rfl rfl) (ea_nil (md := true) rfl) rfl) rfl rfl) (ev_var (md := true) n9 rfl rfl) rfl) (fun nx' => ?_) ?_ (he := by rfl)
      · skip
        exact w_ret (m1 := (.ok false)) (g := fun z => .rt (.rt z)) fr hR (ev_bool (md := true) rfl) (fun _ h => h) rfl
      exact w_endM (s := ()) [8, 9] rfl rfl
    exact w_endM (s := ()) [6, 7] rfl rfl
  exact w_ret (m1 := (.ok true)) (g := fun z => z) fr hR (ev_bool (md := true) rfl) (fun _ h => h) rfl
abbrev Rw : PySem.W.OpenRow := PySem.W.OpenLaw.row PySem.Challenge.rw_owinghall_k68_texts_refused
def names : List PySem.Str := (["OwingError", "BadWeb", "Parted", "BadStanding", "BadHouse", "BadOrder", "BadNumber", "TooWide", "NoBridge", "NoText", "MOST_HOUSES", "MOST_TIES", "tie_fits", "reached", "made"] : List PySem.Str) ++ (["FIGURES", "MOST_FIGURES", "MOST_READ", "number_of", "read_number", "numbers_behind", "tie_in", "read", "_law_cell_at", "_law_number", "_law_web", "_law_gathered", "_law_row", "_law_text", "_law_due_number"] : List PySem.Str) ++ (["_law_numbers_in", "_law_in_one_piece", "_law_due", "_law_found", "_law_other_word", "_law_spoiled"] : List PySem.Str)
abbrev hk : PySem.W.Hook := hookE 5 fe fa fn
def ob (s : PySem.W.SharedT) : AlE := obsEG 5 fe fa fn (HandSHeadRun.getT s)
theorem ob_eq (s : PySem.W.SharedT) : ob s = hk.obs s.abs := obsEG_eq (HandSHeadRun.getT_eq s)
theorem run (w : World) : HandSHeadRun.RunEq Rw (PySem.W.view Rw.prog [40]) hk ob 4000 names w := by
  intro os
  kernel_rfl
end Wk
/-! Dt: determinants of tables told by a function, by the first row. -/
namespace Dt
/-- the sum over the first n -/
def su : Nat → (Nat → Int) → Int
  | 0, _ => 0
  | n + 1, f => su n f + f n
theorem su_congr {f g : Nat → Int} : ∀ {n : Nat}, (∀ i, i < n → f i = g i) → su n f = su n g
  | 0, _ => rfl
  | n + 1, h => by
    show su n f + f n = su n g + g n
    rw [su_congr fun i hi => h i (by omega), h n (by omega)]
theorem su_add (f g : Nat → Int) : ∀ n : Nat, su n (fun i => f i + g i) = su n f + su n g
  | 0 => rfl
  | n + 1 => by
    show su n (fun i => f i + g i) + (f n + g n) = su n f + f n + (su n g + g n)
    rw [su_add f g n]; omega
theorem su_mul (c : Int) (f : Nat → Int) : ∀ n : Nat, su n (fun i => c * f i) = c * su n f
  | 0 => by show (0 : Int) = c * 0; rw [Int.mul_zero]
  | n + 1 => by
    show su n (fun i => c * f i) + c * f n = c * (su n f + f n)
    rw [su_mul c f n, Int.mul_add]
theorem su_neg (f : Nat → Int) (n : Nat) : su n (fun i => - f i) = - su n f := by
  have h := su_mul (-1) f n
  rw [Int.neg_one_mul] at h
  rw [← h]
  exact su_congr fun i _ => by rw [Int.neg_one_mul]
theorem su_sub (f g : Nat → Int) (n : Nat) : su n (fun i => f i - g i) = su n f - su n g := by
  have h := su_add f (fun i => - g i) n
  rw [su_neg] at h
  rw [Int.sub_eq_add_neg, ← h]
  rfl
theorem su_zero {f : Nat → Int} {n : Nat} (h : ∀ i, i < n → f i = 0) : su n f = 0 := by
  have e : su n f = su n (fun i => 0 * f i) := su_congr fun i hi => by rw [h i hi]; rfl
  rw [e, su_mul, Int.zero_mul]
theorem su_swap (f : Nat → Nat → Int) (m : Nat) : ∀ n : Nat, su n (fun i => su m (fun j => f i j)) = su m (fun j => su n (fun i => f i j))
  | 0 => (su_zero fun i _ => rfl).symm
  | n + 1 => by
    show su n (fun i => su m (fun j => f i j)) + su m (fun j => f n j) = su m (fun j => su n (fun i => f i j) + f n j)
    rw [su_swap f m n, su_add]
theorem su_head (f : Nat → Int) : ∀ n : Nat, su (n + 1) f = f 0 + su n (fun i => f (i + 1))
  | 0 => by show (0 : Int) + f 0 = f 0 + 0; omega
  | n + 1 => by
    have h := su_head f n
    show su (n + 1) f + f (n + 1) = f 0 + (su n (fun i => f (i + 1)) + f (n + 1))
    rw [h]; omega
/-- all but one -/
def sk (c j : Nat) : Nat := if j < c then j else j + 1
theorem sk_ne (c j : Nat) : sk c j ≠ c := by unfold sk; split <;> omega
theorem sk_zero (j : Nat) : sk 0 j = j + 1 := rfl
theorem sk_lt {c j n : Nat} (h : j < n) (hc : c ≤ n) : sk c j < n + 1 := by unfold sk; split <;> omega
theorem su_skip (f : Nat → Int) : ∀ (n c : Nat), c ≤ n → su (n + 1) f = f c + su n (fun j => f (sk c j))
  | 0, c, h => by
    have e : c = 0 := by omega
    subst e
    show (0 : Int) + f 0 = f 0 + 0; omega
  | n + 1, c, h => by
    by_cases hc : c = n + 1
    · subst hc
      have e : su (n + 1) (fun j => f (sk (n + 1) j)) = su (n + 1) f := su_congr fun i hi => by unfold sk; rw [if_pos hi]
      rw [e]
      show su (n + 1) f + f (n + 1) = _; omega
    · have e := su_skip f n c (by omega)
      show su (n + 1) f + f (n + 1) = f c + (su n (fun j => f (sk c j)) + f (sk c n))
      have e2 : sk c n = n + 1 := by unfold sk; rw [if_neg (by omega)]
      rw [e, e2]; omega
/-- a sum over all unlike pairs that change their sign -/
theorem su_anti {G : Nat → Nat → Int} {n : Nat} (h : ∀ a b, a < n + 1 → b < n + 1 → a ≠ b → G a b = - G b a) : su (n + 1) (fun a => su n (fun k => G a (sk a k))) = 0 := by
  let G' : Nat → Nat → Int := fun a b => if a = b then 0 else G a b
  have e : su (n + 1) (fun a => su n (fun k => G a (sk a k))) = su (n + 1) (fun a => su (n + 1) (fun b => G' a b)) := su_congr fun a ha => by
    rw [su_skip (fun b => G' a b) n a (by omega)]
    have z : G' a a = 0 := if_pos rfl
    rw [z, Int.zero_add]
    exact su_congr fun k _ => (if_neg fun q => sk_ne a k q.symm).symm
  have e2 : su (n + 1) (fun a => su (n + 1) (fun b => G' a b)) = - su (n + 1) (fun a => su (n + 1) (fun b => G' a b)) := by
    conv => lhs; rw [su_swap]
    rw [← su_neg]
    refine su_congr fun b hb => ?_
    rw [← su_neg]
    refine su_congr fun a ha => ?_
    by_cases q : a = b
    · subst q
      show G' a a = - G' a a
      rw [show G' a a = 0 from if_pos rfl]; rfl
    · show G' a b = - G' b a
      rw [show G' a b = G a b from if_neg q, show G' b a = G b a from if_neg fun z => q z.symm]
      exact h a b ha hb q
  rw [e]; omega
/-- signs -/
def sg : Nat → Int
  | 0 => 1
  | n + 1 => - sg n
theorem sg_succ (n : Nat) : sg (n + 1) = - sg n := rfl
theorem sg_or : ∀ n : Nat, sg n = 1 ∨ sg n = -1
  | 0 => .inl rfl
  | n + 1 => by
    rw [sg_succ]
    rcases sg_or n with h | h <;> rw [h]
    · exact .inr rfl
    · exact .inl rfl
abbrev Mt := Nat → Nat → Int
/-- without a row and a column -/
def mn (M : Mt) (r c : Nat) : Mt := fun i j => M (sk r i) (sk c j)
def dt : Nat → Mt → Int
  | 0, _ => 1
  | n + 1, M => su (n + 1) (fun j => sg j * M 0 j * dt n (mn M 0 j))
theorem dt_congr : ∀ {n : Nat} {M M' : Mt}, (∀ i j, i < n → j < n → M i j = M' i j) → dt n M = dt n M'
  | 0, _, _, _ => rfl
  | n + 1, M, M', h => su_congr fun j hj => by
    rw [h 0 j (by omega) hj, dt_congr (M := mn M 0 j) (M' := mn M' 0 j) fun i k hi hk => h _ _ (sk_lt hi (by omega)) (sk_lt hk (by omega))]
/-- another row in a row's place -/
def sr (M : Mt) (r : Nat) (u : Nat → Int) : Mt := fun i j => if i = r then u j else M i j
theorem sr_at (M : Mt) (r : Nat) (u : Nat → Int) (j : Nat) : sr M r u r j = u j := if_pos rfl
theorem sr_no (M : Mt) {r i : Nat} (u : Nat → Int) (j : Nat) (h : i ≠ r) : sr M r u i j = M i j := if_neg h
theorem mn_sr0 (M : Mt) (u : Nat → Int) (j : Nat) : mn (sr M 0 u) 0 j = mn M 0 j := by
  funext i k
  exact sr_no _ _ _ (by rw [sk_zero]; omega)
theorem mn_srS (M : Mt) (r : Nat) (u : Nat → Int) (j : Nat) : mn (sr M (r + 1) u) 0 j = sr (mn M 0 j) r (fun k => u (sk j k)) := by
  funext i k
  show (if sk 0 i = r + 1 then u (sk j k) else M (sk 0 i) (sk j k)) = if i = r then u (sk j k) else M (sk 0 i) (sk j k)
  rw [sk_zero]
  by_cases h : i = r
  · rw [if_pos h, if_pos (by omega)]
  · rw [if_neg h, if_neg (by omega)]
/-- linear in each row -/
theorem dt_lin (a b : Int) : ∀ {n r : Nat} (M : Mt) (u v : Nat → Int), r < n → dt n (sr M r fun j => a * u j + b * v j) = a * dt n (sr M r u) + b * dt n (sr M r v)
  | 0, _, _, _, _, h => by omega
  | n + 1, 0, M, u, v, _ => by
    show su (n + 1) _ = a * su (n + 1) _ + b * su (n + 1) _
    rw [← su_mul, ← su_mul, ← su_add]
    refine su_congr fun j _ => ?_
    simp only [mn_sr0, sr_at]
    grind
  | n + 1, r + 1, M, u, v, h => by
    show su (n + 1) _ = a * su (n + 1) _ + b * su (n + 1) _
    rw [← su_mul, ← su_mul, ← su_add]
    refine su_congr fun j _ => ?_
    simp only [mn_srS]
    rw [dt_lin a b (mn M 0 j) (fun k => u (sk j k)) (fun k => v (sk j k)) (by omega), sr_no _ _ _ (by omega), sr_no _ _ _ (by omega), sr_no _ _ _ (by omega)]
    grind
/-- what two removed columns leave -/
def sk2 (a b l : Nat) : Nat := sk (max a b) (sk (min a b) l)
theorem sk2_comm (a b l : Nat) : sk2 a b l = sk2 b a l := by unfold sk2; rw [Nat.max_comm, Nat.min_comm]
theorem sk_sk (j k l : Nat) : sk j (sk k l) = sk2 j (sk j k) l := by
  unfold sk2 sk
  by_cases h : k < j
  · rw [if_pos h]
    have e1 : max j k = j := by omega
    have e2 : min j k = k := by omega
    rw [e1, e2]
  · rw [if_neg h]
    have e1 : max j (k + 1) = k + 1 := by omega
    have e2 : min j (k + 1) = j := by omega
    rw [e1, e2]
    repeat' split
    all_goals omega
def s2 (a b : Nat) : Int := sg a * sg (if b < a then b else b - 1)
theorem s2_sk (j k : Nat) : s2 j (sk j k) = sg j * sg k := by
  unfold s2 sk
  by_cases h : k < j
  · rw [if_pos h, if_pos h]
  · rw [if_neg h, if_neg (by omega)]; rfl
theorem s2_anti {a b : Nat} (h : a ≠ b) : s2 a b = - s2 b a := by
  unfold s2
  by_cases q : b < a
  · rw [if_pos q, if_neg (by omega)]
    obtain ⟨c, rfl⟩ : ∃ c, a = c + 1 := ⟨a - 1, by omega⟩
    rw [sg_succ, Nat.add_sub_cancel]
    grind
  · rw [if_neg q, if_pos (by omega)]
    obtain ⟨c, rfl⟩ : ∃ c, b = c + 1 := ⟨b - 1, by omega⟩
    rw [sg_succ, Nat.add_sub_cancel]
    grind
/-- by the first two rows -/
theorem dt_two (n : Nat) (M : Mt) : dt (n + 2) M = su (n + 2) (fun a => su (n + 1) (fun k => s2 a (sk a k) * M 0 a * M 1 (sk a k) * dt n (fun i l => M (i + 2) (sk2 a (sk a k) l)))) := by
  show su (n + 2) _ = _
  refine su_congr fun a _ => ?_
  show sg a * M 0 a * su (n + 1) _ = _
  rw [← su_mul]
  refine su_congr fun k _ => ?_
  rw [s2_sk]
  have e : dt n (mn (mn M 0 a) 0 k) = dt n (fun i l => M (i + 2) (sk2 a (sk a k) l)) := dt_congr fun i l _ _ => by
    show M (sk 0 (sk 0 i)) (sk a (sk k l)) = _
    rw [sk_sk a k l]; rfl
  rw [e]
  show sg a * M 0 a * (sg k * M (sk 0 0) (sk a k) * _) = _
  rw [show sk 0 0 = 1 from rfl]
  grind
/-- two neighbours change places -/
def sw (M : Mt) (r : Nat) : Mt := fun i => if i = r then M (r + 1) else if i = r + 1 then M r else M i
theorem dt_sw : ∀ {n r : Nat} (M : Mt), r + 1 < n → dt n (sw M r) = - dt n M
  | 0, _, _, h => by omega
  | 1, _, _, h => by omega
  | n + 2, 0, M, _ => by
    let G : Nat → Nat → Int := fun a b => s2 a b * (M 1 a * M 0 b + M 0 a * M 1 b) * dt n (fun i l => M (i + 2) (sk2 a b l))
    have z := su_anti (G := G) (n := n + 1) fun a b ha hb h => by
      show s2 a b * (M 1 a * M 0 b + M 0 a * M 1 b) * dt n (fun i l => M (i + 2) (sk2 a b l)) = - (s2 b a * (M 1 b * M 0 a + M 0 b * M 1 a) * dt n (fun i l => M (i + 2) (sk2 b a l)))
      rw [s2_anti h, show (fun i l => M (i + 2) (sk2 a b l)) = (fun i l => M (i + 2) (sk2 b a l)) from funext fun i => funext fun l => by rw [sk2_comm]]
      grind
    rw [dt_two, dt_two]
    have e : su (n + 2) (fun a => su (n + 1) (fun k => G a (sk a k))) = su (n + 2) (fun a => su (n + 1) (fun k => s2 a (sk a k) * sw M 0 0 a * sw M 0 1 (sk a k) * dt n (fun i l => sw M 0 (i + 2) (sk2 a (sk a k) l)))) + su (n + 2) (fun a => su (n + 1) (fun k => s2 a (sk a k) * M 0 a * M 1 (sk a k) * dt n (fun i l => M (i + 2) (sk2 a (sk a k) l)))) := by
      rw [← su_add]
      refine su_congr fun a _ => ?_
      rw [← su_add]
      refine su_congr fun k _ => ?_
      have e1 : sw M 0 0 = M 1 := rfl
      have e2 : sw M 0 1 = M 0 := rfl
      have e3 : (fun i l => sw M 0 (i + 2) (sk2 a (sk a k) l)) = (fun i l => M (i + 2) (sk2 a (sk a k) l)) := rfl
      rw [e1, e2, e3]
      show s2 a (sk a k) * (M 1 a * M 0 (sk a k) + M 0 a * M 1 (sk a k)) * _ = _
      grind
    rw [z] at e
    omega
  | n + 2, r + 1, M, h => by
    show su (n + 2) _ = - su (n + 2) _
    rw [← su_neg]
    refine su_congr fun j _ => ?_
    have e : mn (sw M (r + 1)) 0 j = sw (mn M 0 j) r := by
      funext i k
      show (if sk 0 i = r + 1 then M (r + 1 + 1) else if sk 0 i = r + 1 + 1 then M (r + 1) else M (sk 0 i)) (sk j k) = (if i = r then mn M 0 j (r + 1) else if i = r + 1 then mn M 0 j r else mn M 0 j i) k
      rw [sk_zero]
      by_cases h1 : i = r
      · rw [if_pos h1, if_pos (by omega)]; rfl
      · rw [if_neg h1, if_neg (by omega)]
        by_cases h2 : i = r + 1
        · rw [if_pos h2, if_pos (by omega)]; rfl
        · rw [if_neg h2, if_neg (by omega)]; rfl
    rw [e, dt_sw (mn M 0 j) (by omega)]
    have e2 : sw M (r + 1) 0 = M 0 := by unfold sw; rw [if_neg (by omega), if_neg (by omega)]
    rw [e2]
    grind
/-- two like rows -/
theorem dt_like : ∀ (d : Nat) {n r : Nat} (M : Mt), r + d + 1 < n → (∀ j, j < n → M r j = M (r + d + 1) j) → dt n M = 0
  | 0, n, r, M, h, e => by
    have h1 := dt_sw (r := r) M (by omega)
    have h2 : dt n (sw M r) = dt n M := dt_congr fun i j _ hj => by
      unfold sw
      by_cases q : i = r
      · rw [if_pos q, q]; exact (e j hj).symm
      · rw [if_neg q]
        by_cases q2 : i = r + 1
        · rw [if_pos q2, q2]; exact e j hj
        · rw [if_neg q2]
    omega
  | d + 1, n, r, M, h, e => by
    have h1 := dt_sw (r := r + d + 1) M (by omega)
    have h2 := dt_like d (n := n) (r := r) (sw M (r + d + 1)) (by omega) fun j hj => by
      unfold sw
      rw [if_neg (by omega), if_neg (by omega), if_pos rfl]
      exact e j hj
    omega
theorem dt_same {n r s : Nat} {M : Mt} (hr : r < n) (hs : s < n) (hn : r ≠ s) (e : ∀ j, j < n → M r j = M s j) : dt n M = 0 := by
  by_cases h : r < s
  · exact dt_like (s - r - 1) (r := r) M (by omega) fun j hj => by
      rw [show r + (s - r - 1) + 1 = s from by omega]; exact e j hj
  · exact dt_like (r - s - 1) (r := s) M (by omega) fun j hj => by
      rw [show s + (r - s - 1) + 1 = r from by omega]; exact (e j hj).symm
def tr (M : Mt) : Mt := fun i j => M j i
theorem mn_tr (M : Mt) (r c : Nat) : mn (tr M) r c = tr (mn M c r) := rfl
/-- by the first column; the table turned over its diagonal -/
theorem dt_col0_tr : ∀ n : Nat, (∀ M : Mt, dt (n + 1) M = su (n + 1) (fun i => sg i * M i 0 * dt n (mn M i 0))) ∧ ∀ M : Mt, dt n (tr M) = dt n M
  | 0 => ⟨fun M => rfl, fun M => rfl⟩
  | n + 1 => by
    obtain ⟨ih1, ih2⟩ := dt_col0_tr n
    have t : ∀ M : Mt, dt (n + 1) (tr M) = dt (n + 1) M := fun M => by
      rw [ih1 M]
      show su (n + 1) _ = _
      refine su_congr fun j _ => ?_
      rw [mn_tr, ih2]; rfl
    refine ⟨fun M => ?_, t⟩
    show su (n + 2) _ = _
    rw [su_head _ (n + 1), su_head _ (n + 1)]
    refine congrArg _ ?_
    have e1 : ∀ j, dt (n + 1) (mn M 0 (j + 1)) = su (n + 1) (fun i => sg i * M (i + 1) 0 * dt n (fun a b => M (sk 0 (sk i a)) (sk (j + 1) (sk 0 b)))) := fun j => by
      rw [ih1]; rfl
    have e2 : ∀ i, dt (n + 1) (mn M (i + 1) 0) = su (n + 1) (fun j => sg j * M 0 (j + 1) * dt n (fun a b => M (sk (i + 1) (sk 0 a)) (sk 0 (sk j b)))) := fun i => by
      show su (n + 1) _ = _
      rfl
    have l : su (n + 1) (fun j => sg (j + 1) * M 0 (j + 1) * dt (n + 1) (mn M 0 (j + 1))) = su (n + 1) (fun j => su (n + 1) (fun i => sg (j + 1) * M 0 (j + 1) * (sg i * M (i + 1) 0 * dt n (fun a b => M (sk 0 (sk i a)) (sk (j + 1) (sk 0 b)))))) := su_congr fun j _ => by
      rw [e1, ← su_mul]
    have r : su (n + 1) (fun i => sg (i + 1) * M (i + 1) 0 * dt (n + 1) (mn M (i + 1) 0)) = su (n + 1) (fun i => su (n + 1) (fun j => sg (i + 1) * M (i + 1) 0 * (sg j * M 0 (j + 1) * dt n (fun a b => M (sk (i + 1) (sk 0 a)) (sk 0 (sk j b)))))) := su_congr fun i _ => by
      rw [e2, ← su_mul]
    rw [l, r, su_swap]
    refine su_congr fun i _ => su_congr fun j _ => ?_
    have e3 : (fun a b => M (sk 0 (sk i a)) (sk (j + 1) (sk 0 b))) = (fun a b => M (sk (i + 1) (sk 0 a)) (sk 0 (sk j b))) := by
      funext a b
      have q1 : sk 0 (sk i a) = sk (i + 1) (sk 0 a) := by simp only [sk_zero]; unfold sk; split <;> split <;> omega
      have q2 : sk (j + 1) (sk 0 b) = sk 0 (sk j b) := by simp only [sk_zero]; unfold sk; split <;> split <;> omega
      rw [q1, q2]
    rw [e3, sg_succ, sg_succ]
    grind
theorem dt_col0 (n : Nat) (M : Mt) : dt (n + 1) M = su (n + 1) (fun i => sg i * M i 0 * dt n (mn M i 0)) := (dt_col0_tr n).1 M
/-- noughts below the first place -/
theorem dt_head {n : Nat} {M : Mt} (h : ∀ i, i < n → M (i + 1) 0 = 0) : dt (n + 1) M = M 0 0 * dt n (mn M 0 0) := by
  rw [dt_col0, su_head, su_zero fun i hi => by rw [h i hi, Int.mul_zero, Int.zero_mul]]
  show (1 : Int) * M 0 0 * _ + 0 = _
  rw [Int.one_mul, Int.add_zero]
/-- all rows but the first lessened by the first -/
theorem dt_chio (n : Nat) (M : Mt) : M 0 0 ^ n * dt (n + 1) M = M 0 0 * dt n (fun i j => M 0 0 * M (i + 1) (j + 1) - M (i + 1) 0 * M 0 (j + 1)) := by
  let Q : Nat → Mt := fun k i j => if 1 ≤ i ∧ i ≤ k then M 0 0 * M i j - M i 0 * M 0 j else M i j
  have st : ∀ k, k ≤ n → dt (n + 1) (Q k) = M 0 0 ^ k * dt (n + 1) M := by
    intro k
    induction k with
    | zero =>
      intro _
      rw [Int.pow_zero, Int.one_mul]
      exact dt_congr fun i j _ _ => if_neg (by omega)
    | succ k ih =>
      intro hk
      have e : Q (k + 1) = sr (Q k) (k + 1) (fun j => M 0 0 * M (k + 1) j + (- M (k + 1) 0) * M 0 j) := by
        funext i j
        by_cases q : i = k + 1
        · rw [q, sr_at]
          show (if 1 ≤ k + 1 ∧ k + 1 ≤ k + 1 then _ else _) = _
          rw [if_pos (by omega)]; grind
        · rw [sr_no _ _ _ q]
          show (if _ then _ else _) = if _ then _ else _
          by_cases q2 : 1 ≤ i ∧ i ≤ k
          · rw [if_pos q2, if_pos (by omega)]
          · rw [if_neg q2, if_neg (by omega)]
      have e2 : Q k = sr (Q k) (k + 1) (M (k + 1)) := by
        funext i j
        by_cases q : i = k + 1
        · rw [q, sr_at]; exact if_neg (by omega)
        · rw [sr_no _ _ _ q]
      rw [e, dt_lin _ _ (Q k) (M (k + 1)) (M 0) (by omega), ← e2, ih (by omega), dt_same (r := 0) (s := k + 1) (M := sr (Q k) (k + 1) (M 0)) (by omega) (by omega) (by omega) fun j _ => by
        rw [sr_at, sr_no _ _ _ (by omega)]; exact if_neg (by omega)]
      rw [Int.pow_succ]
      grind
  rw [← st n (Nat.le_refl n), dt_head fun i hi => by
    show (if 1 ≤ i + 1 ∧ i + 1 ≤ n then _ else _) = _
    rw [if_pos (by omega)]; grind]
  have q0 : Q n 0 0 = M 0 0 := if_neg (by omega)
  rw [q0]
  congr 1
  refine dt_congr fun i j hi _ => ?_
  show (if 1 ≤ sk 0 i ∧ sk 0 i ≤ n then _ else _) = _
  rw [sk_zero, if_pos (by omega)]; rfl
/-- how great -/
theorem su_abs {f : Nat → Int} {B : Nat} : ∀ {n : Nat}, (∀ i, i < n → (f i).natAbs ≤ B) → (su n f).natAbs ≤ n * B
  | 0, _ => by show (0 : Int).natAbs ≤ 0 * B; rw [Nat.zero_mul]; exact Nat.le_refl 0
  | n + 1, h => by
    have h1 := su_abs (n := n) fun i hi => h i (by omega)
    have h2 := h n (by omega)
    have h3 := Int.natAbs_add_le (su n f) (f n)
    show (su n f + f n).natAbs ≤ (n + 1) * B
    rw [Nat.add_mul, Nat.one_mul]; omega
theorem dt_abs {B : Nat} : ∀ {n : Nat} {M : Mt}, (∀ i j, i < n → j < n → (M i j).natAbs ≤ B) → (dt n M).natAbs ≤ (n * B) ^ n
  | 0, _, _ => by show (1 : Int).natAbs ≤ (0 * B) ^ 0; rw [Nat.pow_zero]; exact Nat.le_refl 1
  | n + 1, M, h => by
    have st : ∀ j, j < n + 1 → (sg j * M 0 j * dt n (mn M 0 j)).natAbs ≤ B * (n * B) ^ n := fun j hj => by
      rw [Int.natAbs_mul, Int.natAbs_mul]
      have h1 : (sg j).natAbs = 1 := by rcases sg_or j with q | q <;> rw [q] <;> rfl
      rw [h1, Nat.one_mul]
      exact Nat.mul_le_mul (h 0 j (by omega) hj) (dt_abs fun i k hi hk => h _ _ (sk_lt hi (by omega)) (sk_lt hk (by omega)))
    have := su_abs st
    refine Nat.le_trans this ?_
    rw [Nat.pow_succ]
    have e : (n + 1) * (B * (n * B) ^ n) = (n * B) ^ n * ((n + 1) * B) := by
      rw [← Nat.mul_assoc, Nat.mul_comm]
    rw [e]
    exact Nat.mul_le_mul_right _ (Nat.pow_le_pow_left (Nat.mul_le_mul_right _ (by omega)) n)
end Dt
/-! Dt2: elimination without fractions; tables whose determinant is above nought. -/
namespace Dt
/-- the first k places, then these -/
def ex (k : Nat) (ρ : Nat → Nat) (i : Nat) : Nat := if i < k then i else ρ (i - k)
/-- what stands in the table behind k steps: the determinants of parts -/
def Bi (n k : Nat) (A b : Mt) (p : Int) : Prop := ∀ (m : Nat) (ρ κ : Nat → Nat), (∀ i, i < m + 1 → k ≤ ρ i ∧ ρ i < n) → (∀ j, j < m + 1 → k ≤ κ j ∧ κ j < n) →
  dt (m + 1) (fun i j => b (ρ i) (κ j)) = p ^ m * dt (k + m + 1) (fun i j => A (ex k ρ i) (ex k κ j))
theorem Bi.start (n : Nat) (A : Mt) : Bi n 0 A A 1 := fun m ρ κ _ _ => by
  rw [Int.one_pow, Int.one_mul, Nat.zero_add]
  exact dt_congr fun i j _ _ => by unfold ex; rw [if_neg (by omega), if_neg (by omega)]; rfl
theorem Bi.one {n k : Nat} {A b : Mt} {p : Int} (h : Bi n k A b p) {i j : Nat} (hi : k ≤ i) (hin : i < n) (hj : k ≤ j) (hjn : j < n) : b i j = dt (k + 1) (fun a c => A (ex k (fun _ => i) a) (ex k (fun _ => j) c)) := by
  have e := h 0 (fun _ => i) (fun _ => j) (fun _ _ => ⟨hi, hin⟩) (fun _ _ => ⟨hj, hjn⟩)
  rw [Int.pow_zero, Int.one_mul] at e
  rw [← e]
  show _ = (0 : Int) + 1 * b i j * 1
  omega
def cs (k : Nat) (ρ : Nat → Nat) (i : Nat) : Nat := if i = 0 then k else ρ (i - 1)
theorem Bi.abs {n k B : Nat} {A b : Mt} {p : Int} (h : Bi n k A b p) (hA : ∀ i j, i < n → j < n → (A i j).natAbs ≤ B) {i j : Nat} (hi : k ≤ i) (hin : i < n) (hj : k ≤ j) (hjn : j < n) : (b i j).natAbs ≤ ((k + 1) * B) ^ (k + 1) := by
  rw [h.one hi hin hj hjn]
  exact dt_abs fun a c ha hc => hA _ _ (by unfold ex; split <;> omega) (by unfold ex; split <;> omega)
/-! ### above nought -/
/-- what a row has over -/
def ov (n : Nat) (M : Mt) (i : Nat) : Int := su n (fun j => M i j)
structure Pd (n : Nat) (M : Mt) : Prop where
  off : ∀ i j, i < n → j < n → i ≠ j → M i j ≤ 0
  row : ∀ i, i < n → 0 ≤ ov n M i
  out : ∀ S : Nat → Prop, (∃ i, i < n ∧ S i) → ∃ i, i < n ∧ S i ∧ (0 < ov n M i ∨ ∃ j, j < n ∧ ¬ S j ∧ M i j < 0)
theorem su_le {f g : Nat → Int} : ∀ {n : Nat}, (∀ i, i < n → f i ≤ g i) → su n f ≤ su n g
  | 0, _ => Int.le_refl 0
  | n + 1, h => by
    have h1 := su_le (n := n) fun i hi => h i (by omega)
    have h2 := h n (by omega)
    show su n f + f n ≤ su n g + g n
    omega
theorem su_lt {f g : Nat → Int} {n k : Nat} (hk : k < n) (h : ∀ i, i < n → f i ≤ g i) (hs : f k < g k) : su n f < su n g := by
  induction n with
  | zero => omega
  | succ n ih =>
    show su n f + f n < su n g + g n
    have h2 := h n (by omega)
    by_cases q : k = n
    · subst q
      have h1 : su k f ≤ su k g := su_le fun i hi => h i (by omega)
      omega
    · have := ih (by omega) (fun i hi => h i (by omega))
      omega
theorem Pd.diag {n : Nat} {M : Mt} (h : Pd n M) {k : Nat} (hk : k < n) : 0 < M k k := by
  obtain ⟨i, hi, hs, q⟩ := h.out (fun i => i = k) ⟨k, hk, rfl⟩
  subst hs
  obtain ⟨m, rfl⟩ : ∃ m, n = m + 1 := ⟨n - 1, by omega⟩
  have e := su_skip (fun j => M i j) m i (by omega)
  have hr := h.row i hi
  unfold ov at hr q
  rw [e] at hr q
  have l : ∀ j, j < m → M i (sk i j) ≤ 0 := fun j hj => h.off _ _ hi (sk_lt hj (by omega)) fun z => sk_ne i j z.symm
  have l2 : su m (fun j => M i (sk i j)) ≤ 0 := by
    have := su_le (g := fun _ => 0) l
    rw [su_zero (f := fun _ => 0) fun _ _ => rfl] at this
    exact this
  rcases q with q | ⟨j, hj, hn, q⟩
  · omega
  · obtain ⟨a, ha, e2⟩ : ∃ a, a < m ∧ sk i a = j := by
      by_cases z : j < i
      · exact ⟨j, by omega, if_pos z⟩
      · exact ⟨j - 1, by omega, by unfold sk; rw [if_neg (by omega)]; omega⟩
    have l3 : su m (fun j => M i (sk i j)) < 0 := by
      have := su_lt (f := fun j => M i (sk i j)) (g := fun _ => 0) ha l (by rw [e2]; exact q)
      rw [su_zero (f := fun _ => 0) fun _ _ => rfl] at this
      exact this
    omega
def ch (M : Mt) : Mt := fun i j => M 0 0 * M (i + 1) (j + 1) - M (i + 1) 0 * M 0 (j + 1)
theorem ov_ch (n : Nat) (M : Mt) (i : Nat) : ov n (ch M) i = M 0 0 * ov (n + 1) M (i + 1) - M (i + 1) 0 * ov (n + 1) M 0 := by
  unfold ov ch
  rw [su_sub (fun j => M 0 0 * M (i + 1) (j + 1)) (fun j => M (i + 1) 0 * M 0 (j + 1)), su_mul, su_mul, su_head, su_head]
  grind
theorem Pd.ch {n : Nat} {M : Mt} (h : Pd (n + 1) M) : Pd n (ch M) := by
  have d := h.diag (k := 0) (by omega)
  have o := fun i (hi : i < n) => h.off (i + 1) 0 (by omega) (by omega) (by omega)
  have o2 := fun i (hi : i < n) => h.off 0 (i + 1) (by omega) (by omega) (by omega)
  have nn : ∀ {a b : Int}, a ≤ 0 → b ≤ 0 → 0 ≤ a * b := fun ha hb => Int.mul_nonneg_of_nonpos_of_nonpos ha hb
  have np : ∀ {a b : Int}, a ≤ 0 → 0 ≤ b → a * b ≤ 0 := fun ha hb => Int.mul_nonpos_of_nonpos_of_nonneg ha hb
  have pn : ∀ {a b : Int}, 0 ≤ a → b ≤ 0 → a * b ≤ 0 := fun ha hb => Int.mul_nonpos_of_nonneg_of_nonpos ha hb
  have r0 := h.row 0 (by omega)
  refine ⟨fun i j hi hj hn => ?_, fun i hi => ?_, fun S ⟨k, hk, sk⟩ => ?_⟩
  · have h1 := h.off (i + 1) (j + 1) (by omega) (by omega) (by omega)
    have h2 := pn (Int.le_of_lt d) h1
    have h3 := nn (o i hi) (o2 j hj)
    show M 0 0 * M (i + 1) (j + 1) - M (i + 1) 0 * M 0 (j + 1) ≤ 0
    omega
  · rw [ov_ch]
    have h1 := h.row (i + 1) (by omega)
    have h2 := Int.mul_nonneg (Int.le_of_lt d) h1
    have h3 := np (o i hi) r0
    omega
  · have fin : ∀ i, i < n → S i → (0 < ov (n + 1) M (i + 1) ∨ (∃ j, j < n ∧ ¬ S j ∧ M (i + 1) (j + 1) < 0)) → ∃ i, i < n ∧ S i ∧ (0 < ov n (Dt.ch M) i ∨ ∃ j, j < n ∧ ¬ S j ∧ Dt.ch M i j < 0) := fun i hi hs q => by
      refine ⟨i, hi, hs, ?_⟩
      rcases q with q | ⟨j, hj, hn, q⟩
      · left
        rw [ov_ch]
        have h2 := Int.mul_pos d q
        have h3 := np (o i hi) r0
        omega
      · right
        refine ⟨j, hj, hn, ?_⟩
        have h2 := Int.mul_neg_of_pos_of_neg d q
        have h3 := nn (o i hi) (o2 j hj)
        show M 0 0 * M (i + 1) (j + 1) - M (i + 1) 0 * M 0 (j + 1) < 0
        omega
    obtain ⟨i, hi, hs, q⟩ := h.out (fun i => 1 ≤ i ∧ S (i - 1)) ⟨k + 1, by omega, by omega, by simpa using sk⟩
    obtain ⟨a, rfl⟩ : ∃ a, i = a + 1 := ⟨i - 1, by omega⟩
    have sa : S a := by simpa using hs.2
    rcases q with q | ⟨j, hj, hn, q⟩
    · exact fin a (by omega) sa (.inl q)
    · cases j with
      | succ j => exact fin a (by omega) sa (.inr ⟨j, by omega, fun z => hn ⟨by omega, by simpa using z⟩, q⟩)
      | zero =>
        -- by the first place
        obtain ⟨i', hi', hs', q'⟩ := h.out (fun i => i = 0 ∨ (1 ≤ i ∧ S (i - 1))) ⟨0, by omega, .inl rfl⟩
        rcases hs' with rfl | hs'
        · refine ⟨a, by omega, sa, ?_⟩
          rcases q' with q' | ⟨j', hj', hn', q'⟩
          · left
            rw [ov_ch]
            have h1 := h.row (a + 1) (by omega)
            have h2 := Int.mul_nonneg (Int.le_of_lt d) h1
            have h3 := Int.mul_neg_of_neg_of_pos q q'
            omega
          · right
            obtain ⟨c, rfl⟩ : ∃ c, j' = c + 1 := ⟨j' - 1, by have : j' ≠ 0 := fun z => hn' (.inl z); omega⟩
            have hc : ¬ S c := fun z => hn' (.inr ⟨by omega, by simpa using z⟩)
            refine ⟨c, by omega, hc, ?_⟩
            have hac : a ≠ c := fun z => hc (z ▸ sa)
            have h1 := h.off (a + 1) (c + 1) (by omega) (by omega) (by omega)
            have h2 := pn (Int.le_of_lt d) h1
            have h3 := Int.mul_pos_of_neg_of_neg q q'
            show M 0 0 * M (a + 1) (c + 1) - M (a + 1) 0 * M 0 (c + 1) < 0
            omega
        · obtain ⟨b, rfl⟩ : ∃ b, i' = b + 1 := ⟨i' - 1, by omega⟩
          have sb : S b := by simpa using hs'.2
          rcases q' with q' | ⟨j', hj', hn', q'⟩
          · exact fin b (by omega) sb (.inl q')
          · obtain ⟨c, rfl⟩ : ∃ c, j' = c + 1 := ⟨j' - 1, by have : j' ≠ 0 := fun z => hn' (.inl z); omega⟩
            exact fin b (by omega) sb (.inr ⟨c, by omega, fun z => hn' (.inr ⟨by omega, by simpa using z⟩), q'⟩)
theorem Pd.pos : ∀ {n : Nat} {M : Mt}, Pd n M → 0 < dt n M
  | 0, _, _ => by show (0 : Int) < 1; decide
  | n + 1, M, h => by
    have d := h.diag (k := 0) (by omega)
    have c := dt_chio n M
    have ih := h.ch.pos
    have p : 0 < M 0 0 ^ n := Int.pow_pos d
    have q : 0 < M 0 0 * dt n (Dt.ch M) := Int.mul_pos d ih
    rw [show (fun i j => M 0 0 * M (i + 1) (j + 1) - M (i + 1) 0 * M 0 (j + 1)) = Dt.ch M from rfl] at c
    rw [← c] at q
    exact Int.pos_of_mul_pos_right q p
end Dt
/-! Ch: houses on a web; lendings, the reduced table, its adjoint, the floor. -/
namespace Ch
open Dt
/-- the table of all houses but one -/
def rd (n : Nat) (w : Nat → Nat → Int) (h : Nat) : Mt := fun i j => if i = j then su n (fun k => w (sk h i) k) else - w (sk h i) (sk h j)
/-! ### the adjoint -/
/-! ### the floor -/
end Ch
/-! Ch2: orders; plain standings, one for each kind; cleared or held, never both. -/
namespace Ch
open Dt
/-- ties to those that an order has ahead -/
def ah (n : Nat) (w : Nat → Nat → Int) (pos : Nat → Nat) (x : Nat) : Int := su n (fun j => if pos j < pos x then w x j else 0)
end Ch
namespace Wk
open PySem PySem.Spec PyProof.Rows L2
/-! ### P0: what comes out, step by step -/
/-- what comes out keeps this (not unfolded when read) -/
structure Wp {α : Type} (A : α → Prop) (B : Exc → Prop) (m : R α) : Prop where
  px : PX A B m
section
variable {α β S O : Type} {A : α → Prop} {A' : β → Prop} {B B2 : Exc → Prop}
theorem Wp.mono {A2 : α → Prop} {m : R α} (h : Wp A B m) (h1 : ∀ a, A a → A2 a) (h2 : ∀ c, B c → B2 c) : Wp A2 B2 m := ⟨h.px.mono h1 h2⟩
theorem Wp.imp {A2 : α → Prop} {m : R α} (h : Wp A B m) (h1 : ∀ a, A a → A2 a) : Wp A2 B m := ⟨h.px.mono h1 fun _ z => z⟩
theorem Wp.any {m : R α} (h : Wp A (fun _ => False) m) : Wp A B m := ⟨h.px.mono (fun _ z => z) fun _ z => z.elim⟩
theorem px_ok {a : α} (h : A a) : Wp A B (.ok a) := ⟨h⟩
theorem px_exc {c : Exc} (h : B c) : Wp A B (.exc c) := ⟨h⟩
theorem px_eq {m : R α} {a : α} (e : m = .ok a) (h : A a) : Wp A B m := by rw [e]; exact ⟨h⟩
theorem px_bind {m : R α} {f : α → R β} (h : Wp (fun a => Wp A' B (f a)) B m) : Wp A' B (m.bind f) := by
  cases m with
  | ok a => exact ⟨h.px.px⟩
  | exc c => exact ⟨h.px⟩
  | stuck => exact ⟨h.px⟩
theorem px_ite {c : Bool} {a b : R α} (h1 : c = true → Wp A B a) (h2 : c = false → Wp A B b) : Wp A B (if c = true then a else b) := by
  cases c with
  | true => exact ⟨(h1 rfl).px⟩
  | false => exact ⟨(h2 rfl).px⟩
theorem px_get {m : R α} (h : Wp A (fun _ => False) m) : ∃ a, m = .ok a ∧ A a := by
  have h := h.px
  cases m with
  | ok a => exact ⟨a, rfl, h⟩
  | exc c => exact (show False from h).elim
  | stuck => exact (show False from h).elim
theorem px_is {m : R α} {a : α} (h : Wp (fun x => x = a) (fun _ => False) m) : m = .ok a := by
  obtain ⟨x, e, q⟩ := px_get h
  rw [e, q]
theorem px_isx {m : R α} {c : Exc} (h : Wp (fun _ => False) (fun x => x = c) m) : m = .exc c := by
  have h := h.px
  cases m with
  | ok a => exact (show False from h).elim
  | exc d => rw [show d = c from h]
  | stuck => exact (show False from h).elim
/-- what a loop's turn leaves -/
def CtP (A : O → Prop) (I : S → Prop) : Ct S O → Prop
  | .nx s => I s
  | .rt o => A o
theorem px_nx {A : O → Prop} {I : S → Prop} {s : S} (h : I s) : Wp (CtP A I) B (.ok (.nx s) : R (Ct S O)) := ⟨h⟩
theorem px_rt {A : O → Prop} {I : S → Prop} {o : O} (h : A o) : Wp (CtP A I) B (.ok (.rt o) : R (Ct S O)) := ⟨h⟩
theorem px_ct {m : R (Ct S O)} {f : S → R O} {A : O → Prop} (h : Wp (CtP A fun s => Wp A B (f s)) B m) : Wp A B (R.ct m f) := by
  have h := h.px
  cases m with
  | ok c => cases c with
    | nx s => exact ⟨(show Wp A B (f s) from h).px⟩
    | rt o => exact ⟨h⟩
  | exc c => exact ⟨h⟩
  | stuck => exact ⟨h⟩
/-- a loop with an invariant over what was walked -/
theorem px_for {b : α → S → R S} {A : S → Prop} (I : List α → S → Prop) {xs : List α} {s : S} (h0 : I [] s) (hs : ∀ ys x zs, xs = ys ++ x :: zs → ∀ s, I ys s → Wp (I (ys ++ [x])) B (b x s)) (he : ∀ s, I xs s → A s) : Wp A B (forR b xs s) := by
  have go : ∀ (zs ys : List α) (s : S), xs = ys ++ zs → I ys s → Wp A B (forR b zs s) := by
    intro zs
    induction zs with
    | nil =>
      intro ys s e i
      rw [List.append_nil] at e
      subst e
      exact ⟨he s i⟩
    | cons x zs ih =>
      intro ys s e i
      exact ⟨(px_bind ((hs ys x zs e s i).imp fun s' i' => ih (ys ++ [x]) s' (by rw [e, List.append_assoc]; rfl) i')).px⟩
  exact go xs [] s rfl h0
/-- .. that may tell -/
theorem px_forM {b : α → S → R (Ct S O)} {A : O → Prop} {I' : S → Prop} (I : List α → S → Prop) {xs : List α} {s : S} (h0 : I [] s) (hs : ∀ ys x zs, xs = ys ++ x :: zs → ∀ s, I ys s → Wp (CtP A (I (ys ++ [x]))) B (b x s)) (he : ∀ s, I xs s → I' s) : Wp (CtP A I') B (forM b xs s) := by
  have go : ∀ (zs ys : List α) (s : S), xs = ys ++ zs → I ys s → Wp (CtP A I') B (forM b zs s) := by
    intro zs
    induction zs with
    | nil =>
      intro ys s e i
      rw [List.append_nil] at e
      subst e
      exact ⟨he s i⟩
    | cons x zs ih =>
      intro ys s e i
      have h := (hs ys x zs e s i).px
      show Wp (CtP A I') B ((b x s).bind (Ct.by (fun s' => forM b zs s') fun o => .ok (.rt o)))
      refine px_bind ⟨h.mono (fun c i' => ?_) fun _ z => z⟩
      cases c with
      | nx s' => exact ih (ys ++ [x]) s' (by rw [e, List.append_assoc]; rfl) i'
      | rt o => exact ⟨i'⟩
  exact go xs [] s rfl h0
/-- over a range -/
theorem rangeL_cons {lo hi : Int} (h : lo < hi) : rangeL lo hi = lo :: rangeL (lo + 1) hi := by
  unfold rangeL
  obtain ⟨n, hn⟩ : ∃ n : Nat, (hi - lo).toNat = n + 1 := ⟨(hi - lo).toNat - 1, by omega⟩
  rw [hn, show (hi - (lo + 1)).toNat = n from by omega, List.range_succ_eq_map, List.map_cons, List.map_map]
  refine congr (congrArg _ (by show lo + ((0 : Nat) : Int) = lo; omega)) (List.map_congr_left fun i _ => ?_)
  show lo + ((i + 1 : Nat) : Int) = lo + 1 + (i : Int)
  omega
theorem rangeL_nil {lo hi : Int} (h : hi ≤ lo) : rangeL lo hi = [] := by
  unfold rangeL
  rw [show (hi - lo).toNat = 0 from by omega]
  rfl
theorem px_rng {b : Int → S → R S} {A : S → Prop} (I : Int → S → Prop) {lo hi : Int} {s : S} (hle : lo ≤ hi) (h0 : I lo s) (hs : ∀ k, lo ≤ k → k < hi → ∀ s, I k s → Wp (I (k + 1)) B (b k s)) (he : ∀ s, I hi s → A s) : Wp A B (forR b (rangeL lo hi) s) := by
  have go : ∀ (n : Nat) (k : Int) (s : S), (hi - k).toNat = n → lo ≤ k → k ≤ hi → I k s → Wp A B (forR b (rangeL k hi) s) := by
    intro n
    induction n with
    | zero =>
      intro k s hn h1 h2 i
      have e : k = hi := by omega
      subst e
      rw [rangeL_nil (Int.le_refl _)]
      exact ⟨he s i⟩
    | succ n ih =>
      intro k s hn h1 h2 i
      rw [rangeL_cons (by omega)]
      exact ⟨(px_bind ((hs k h1 (by omega) s i).imp fun s' i' => ih (k + 1) s' (by omega) (by omega) (by omega) i')).px⟩
  exact go _ lo s rfl (Int.le_refl _) hle h0
/-- a while by a measure -/
theorem px_while {c : S → R Bool} {b : S → R S} {A : S → Prop} (I : S → Prop) (μ : S → Nat) {n : Nat} {s : S} (h0 : I s) (hm : μ s < n) (hs : ∀ s, I s → Wp (fun t => (t = true → Wp (fun s' => I s' ∧ μ s' < μ s) B (b s)) ∧ (t = false → A s)) B (c s)) : Wp A B (whileR c b n s) := by
  induction n generalizing s with
  | zero => omega
  | succ n ih =>
    have := px_bind (f := fun t => if t = true then (b s).bind fun s' => whileR c b n s' else .ok s) (A' := A) ((hs s h0).imp fun t q => px_ite (fun e => px_bind ((q.1 e).imp fun s' ⟨i, l⟩ => ih i (by omega))) fun e => px_ok (q.2 e))
    exact ⟨this.px⟩
theorem px_map {g : α → R β} {h : α → β} {A : List β → Prop} {xs : List α} (hl : xs.length ≤ 16777216) (hg : ∀ x ∈ xs, g x = .ok (h x)) (q : A (xs.map h)) : Wp A B (mapR g xs) := px_eq (mapR_ok hg hl) q
end
section
variable {B : Exc → Prop} {A : Int → Prop} {x y : Int}
theorem px_mul (h : bits x + bits y ≤ 134217728) (q : A (x * y)) : Wp A B (mulR x y) := px_eq (chk_ok (decide_eq_true h)) q
theorem px_div (h : y ≠ 0) (h2 : y.natAbs.log2 < 9000) (q : A (x.fdiv y)) : Wp A B (divR x y) := px_eq (divR_ok h h2) q
theorem px_mod (h : y ≠ 0) (q : A (x.fmod y)) : Wp A B (modR x y) := px_eq (modR_ok h) q
theorem px_pow (h : 0 ≤ y) (h2 : (bits x : Int) * y ≤ 134217728) (q : A (x ^ y.toNat)) : Wp A B (powR x y) := px_eq (chk_ok (decide_eq_true ⟨h, h2⟩)) q
theorem px_rg {A : List Int → Prop} (h1 : -1000000000000000000 ≤ x) (h2 : x ≤ 1000000000000000000) (h3 : -1000000000000000000 ≤ y) (h4 : y ≤ 1000000000000000000) (q : A (rangeL x y)) : Wp A B (rngR x y) := px_eq (rngR_ok h1 h2 h3 h4) q
theorem px_app {α : Type} {A : List α → Prop} {xs : List α} {v : α} (h : xs.length < 16777216) (q : A (xs ++ [v])) : Wp A B (appR xs v) := px_eq (appR_ok h) q
theorem px_cat {α : Type} {A : List α → Prop} {xs ys : List α} (h : xs.length + ys.length ≤ 16777216) (q : A (xs ++ ys)) : Wp A B (catR xs ys) := px_eq (catR_ok h) q
end
theorem bits_iff {x : Int} {m : Nat} : bits x ≤ m ↔ x.natAbs < 2 ^ m := PySem.intBits_le_iff
theorem bits_mono {x : Int} {m n : Nat} (hx : bits x ≤ m) (h : m ≤ n) : bits x ≤ n := Nat.le_trans hx h
theorem bits_nat {x : Int} (k : Nat) {M : Nat} (h0 : 0 ≤ x) (h : x ≤ (M : Int)) (hk : M < 2 ^ k) : bits x ≤ k := by
  rw [bits_iff]
  omega
/-- how many bits a number has that lies within a power -/
theorem bits_le {x : Int} {m : Nat} (h : x.natAbs < 2 ^ m) : bits x ≤ m := bits_of h
theorem log2_lt {y : Int} {m : Nat} (h : y.natAbs < 2 ^ m) (hm : m ≤ 9000) (hy : y ≠ 0) : y.natAbs.log2 < 9000 :=
  Nat.lt_of_lt_of_le ((Nat.log2_lt (by omega)).mpr h) hm
/-- the i-th of a list, whatever stands there -/
def gt {α : Type} (l : List α) (i : Int) (d : α) : α := l.getD i.toNat d
theorem ixR_gt {α : Type} {l : List α} {i : Int} (d : α) (h0 : 0 ≤ i) (h1 : i < l.length) : ixR l i = .ok (gt l i d) := by
  refine ixR_int h0 ?_
  unfold gt
  rw [List.getD_eq_getElem?_getD, List.getElem?_eq_getElem (by omega)]
  rfl
theorem ixN_int {n : Nat} {i : Int} (h0 : 0 ≤ i) (h1 : i < n) : ixN n i = some i.toNat := by
  unfold ixN
  rw [if_pos h0, if_pos h1]
theorem setR_gt {α : Type} {l : List α} {i : Int} (h0 : 0 ≤ i) (h1 : i < l.length) (v : α) : setR l i v = .ok (l.set i.toNat v) := by
  unfold setR
  rw [ixN_int h0 h1]
  rfl
theorem px_ixn {α : Type} {B : Exc → Prop} {A : α → Prop} {l : List α} {k : Int} (h0 : 0 ≤ k) (h1 : k < l.length) (h : ∀ x ∈ l, A x) : Wp A B (ixR l k) := by
  obtain ⟨j, rfl⟩ := Int.eq_ofNat_of_zero_le h0
  have hj : j < l.length := by omega
  exact px_eq (ixR_nat (List.getElem?_eq_getElem hj)) (h _ (List.getElem_mem hj))
theorem pyEq_false {α : Type} [PyQ α] {x y : α} (h : x ≠ y) : pyEq x y = false := by
  cases q : pyEq x y with
  | true => exact absurd ((pyEq_q x y).mp q) h
  | false => rfl
/-! ### webs: cells, ties, made -/
def Fit (n : Int) (t : Int × Int) : Prop := t.1 ≠ t.2 ∧ 0 ≤ t.1 ∧ 0 ≤ t.2 ∧ t.1 < n ∧ t.2 < n
/-- all houses hang together -/
def Con (n : Int) (ties : List (Int × Int)) : Prop := ∀ P : Int → Prop, P 0 → (∀ t ∈ ties, P t.1 ↔ P t.2) → ∀ h, 0 ≤ h → h < n → P h
theorem setR_int {α : Type} {xs : List α} {j : Int} {y : α} (h0 : 0 ≤ j) (h : j < xs.length) : setR xs j y = .ok (xs.set j.toNat y) := by
  unfold setR ixN
  rw [if_pos h0, if_pos h] <;> rfl
theorem cell_ok {ns : List Int} {M : Nat} (hb : ∀ z ∈ ns, bits z ≤ M) {i : Int} (h0 : 0 ≤ i) : ∃ v, m_law_cell_at (⟨ns⟩, i, ()) = .ok v ∧ bits v ≤ M := by
  unfold m_law_cell_at
  dsimp only
  by_cases h : i < ns.length
  · have hl : i.toNat < ns.length := by omega
    refine ⟨ns[i.toNat], ?_, hb _ (List.getElem_mem hl)⟩
    rw [decide_eq_true h, ite_t, ixR_int h0 (List.getElem?_eq_getElem hl)] <;> rfl
  · refine ⟨0, ?_, Nat.zero_le _⟩
    rw [decide_eq_false h, ite_f]
/-! the reached houses -/
abbrev fls (xs : List Bool) : Nat := xs.count false
theorem set_fls {xs : List Bool} {i : Nat} (h : i < xs.length) : fls (xs.set i true) = fls xs - (if xs[i] = false then 1 else 0) := by
  unfold fls
  rw [List.count_set h]
  simp
theorem fls_pos {xs : List Bool} {i : Nat} (h : i < xs.length) (e : xs[i] = false) : 0 < fls xs := List.count_pos_iff.mpr (by rw [← e]; exact List.getElem_mem h)
theorem set_fls_le {xs : List Bool} {i : Nat} : fls (xs.set i true) ≤ fls xs := by
  by_cases h : i < xs.length
  · rw [set_fls h]; omega
  · rw [List.set_eq_of_length_le (by omega)]
    exact Nat.le_refl _
/-- one turn over the ties -/
theorem rangeL_eq (n : Nat) : rangeL 0 (n : Int) = (List.range n).map fun i : Nat => (i : Int) := rangeL_nat n
abbrev mm (t : Int × Int) : Int × Int := (min t.1 t.2, max t.1 t.2)
/-! the ties of a script -/
theorem rangeL_perm_mem {n : Nat} {l : List Int} (h : l.Perm (rangeL 0 (n : Int))) {i : Int} : i ∈ l ↔ 0 ≤ i ∧ i < n := by
  rw [h.mem_iff]
  refine ⟨fun q => mem_rangeL q, fun ⟨h1, h2⟩ => ?_⟩
  unfold rangeL
  exact List.mem_map.mpr ⟨i.toNat, List.mem_range.mpr (by omega), by omega⟩
theorem rangeL_nodup (lo hi : Int) : (rangeL lo hi).Nodup := by
  unfold rangeL
  refine List.Pairwise.map _ (R := (· ≠ ·)) (fun a b h e => h (by omega)) (List.nodup_range (n := (hi - lo).toNat))
abbrev oi (order : List Int) (i : Int) : Int := order.getD i.toNat 0
theorem oi_mem {n : Nat} {order : List Int} (hp : order.Perm (rangeL 0 (n : Int))) {i : Int} (h0 : 0 ≤ i) (h : i < n) : 0 ≤ oi order i ∧ oi order i < n := by
  have hn : order.length = n := by rw [hp.length_eq, rangeL_len]; omega
  have a : i.toNat < order.length := by omega
  refine (rangeL_perm_mem hp).mp ?_
  show order.getD _ _ ∈ order
  rw [List.getD_eq_getElem?_getD, List.getElem?_eq_getElem a]
  exact List.getElem_mem a
theorem oi_inj {n : Nat} {order : List Int} (hp : order.Perm (rangeL 0 (n : Int))) {i j : Int} (h0 : 0 ≤ i) (h : i < n) (k0 : 0 ≤ j) (k : j < n) (e : oi order i = oi order j) : i = j := by
  have hn : order.length = n := by rw [hp.length_eq, rangeL_len]; omega
  have a : i.toNat < order.length := by omega
  have b : j.toNat < order.length := by omega
  have nd : order.Nodup := hp.nodup_iff.mpr (rangeL_nodup _ _)
  have e2 : order[i.toNat] = order[j.toNat] := by
    have e3 : order.getD i.toNat 0 = order.getD j.toNat 0 := e
    rw [List.getD_eq_getElem?_getD, List.getD_eq_getElem?_getD, List.getElem?_eq_getElem a, List.getElem?_eq_getElem b] at e3
    exact e3
  have pw := List.pairwise_iff_getElem.mp nd
  by_cases c1 : i.toNat < j.toNat
  · exact absurd e2 (pw _ _ a b c1)
  · by_cases c2 : j.toNat < i.toNat
    · exact absurd e2.symm (pw _ _ b a c2)
    · omega
theorem oi_surj {n : Nat} {order : List Int} (hp : order.Perm (rangeL 0 (n : Int))) {h : Int} (h0 : 0 ≤ h) (h1 : h < n) : ∃ i : Int, 0 ≤ i ∧ i < n ∧ oi order i = h := by
  have hn : order.length = n := by rw [hp.length_eq, rangeL_len]; omega
  obtain ⟨k, hk, e⟩ := List.mem_iff_getElem.mp ((rangeL_perm_mem hp).mpr ⟨h0, h1⟩)
  refine ⟨k, by omega, by omega, ?_⟩
  show order.getD _ _ = _
  rw [List.getD_eq_getElem?_getD, Int.toNat_natCast, List.getElem?_eq_getElem hk]
  exact e
/-- each but the first is tied to one ahead of it -/
def Base (n : Int) (ties : List (Int × Int)) : Prop := ∀ k : Int, 1 ≤ k → k < n → ∃ t ∈ ties, t.2 = k ∧ 0 ≤ t.1 ∧ t.1 < k
theorem base_all {n : Int} {ties : List (Int × Int)} (hb : Base n ties) (Q : Int → Prop) (hq : ∀ t ∈ ties, Q t.1 ↔ Q t.2) : ∀ m : Nat, (m : Int) < n → (Q m ↔ Q 0) := by
  intro m
  induction m using Nat.strongRecOn with
  | ind m ih =>
    intro hm
    by_cases h : m = 0
    · subst h; exact Iff.rfl
    · obtain ⟨t, ht, e, t0, t1⟩ := hb m (by omega) hm
      have q := hq t ht
      rw [e] at q
      have e1 : ((t.1.toNat : Nat) : Int) = t.1 := by omega
      have := ih t.1.toNat (by omega) (by omega)
      rw [e1] at this
      exact q.symm.trans this
theorem renamed_con {n : Nat} {ties : List (Int × Int)} {order : List Int} (h1 : 1 ≤ n) (hp : order.Perm (rangeL 0 (n : Int))) (hb : Base n ties) : Con n (ties.map fun t => (oi order t.1, oi order t.2)) := by
  intro P p0 hP h h0 hh
  have A := base_all hb (fun i => P (oi order i)) fun t ht => hP _ (List.mem_map.mpr ⟨t, ht, rfl⟩)
  obtain ⟨i, i0, i1, e⟩ := oi_surj hp (show (0 : Int) ≤ 0 by omega) (show (0 : Int) < n by omega)
  obtain ⟨j, j0, j1, e2⟩ := oi_surj hp h0 hh
  have a1 := A i.toNat (by omega)
  have a2 := A j.toNat (by omega)
  rw [show ((i.toNat : Nat) : Int) = i by omega, e] at a1
  rw [show ((j.toNat : Nat) : Int) = j by omega, e2] at a2
  exact a2.mpr (a1.mp p0)
theorem renamed_fit {n : Nat} {ties : List (Int × Int)} {order : List Int} (hp : order.Perm (rangeL 0 (n : Int))) (hf : ∀ t ∈ ties, Fit n t) : ∀ t ∈ ties.map (fun t => (oi order t.1, oi order t.2)), Fit n t := by
  intro t ht
  obtain ⟨u, hu, rfl⟩ := List.mem_map.mp ht
  obtain ⟨f1, f2, f3, f4, f5⟩ := hf u hu
  have a := oi_mem hp f2 f4
  have b := oi_mem hp f3 f5
  exact ⟨fun e => f1 (oi_inj hp f2 f4 f3 f5 e), a.1, b.1, a.2, b.2⟩
theorem script_cut {ns : List Int} (a : Int) (b : Int) (ha : 0 ≤ a) (hab : a ≤ b) : (cutL ns (some a) (some b)).length ≤ (b - a).toNat ∧ ∀ x ∈ cutL ns (some a) (some b), x ∈ ns := by
  refine ⟨?_, fun x hx => List.mem_of_mem_drop (List.mem_of_mem_take hx)⟩
  have e1 : HT.sIx ns.length 0 (some a) = min a.toNat ns.length := by
    show (if a < 0 then _ else _) = _
    rw [if_neg (by omega)]
  have e2 : HT.sIx ns.length ns.length (some b) = min b.toNat ns.length := by
    show (if b < 0 then _ else _) = _
    rw [if_neg (by omega)]
  unfold cutL
  rw [List.length_take, List.length_drop, e1, e2]
  omega
/-! ### lists of a number for each house -/
/-! ### P1: tables, determinants -/
theorem gt_mem {α : Type} {l : List α} {i : Int} (d : α) (h0 : 0 ≤ i) (h1 : i < l.length) : gt l i d ∈ l := by
  unfold gt
  rw [List.getD_eq_getElem?_getD, List.getElem?_eq_getElem (by omega)]
  exact List.getElem_mem _
/-! ### P2: the web as a graph; tie_rows, lent, queue -/
open Dt (su)
def w1 (i j : Nat) (t : Int × Int) : Int := (if t.1 = (i : Int) ∧ t.2 = (j : Int) then 1 else 0) + if t.1 = (j : Int) ∧ t.2 = (i : Int) then 1 else 0
/-- how many ties -/
def wt (T : List (Int × Int)) (i j : Nat) : Int := (T.map (w1 i j)).sum
theorem rl_len (n : Nat) : (rangeL 0 (n : Int)).length = n := by rw [rangeL_len]; omega
/-! ### P3: lent, queue, outside -/
open Dt (su)
/-- ties to those in a list -/
def nr (T : List (Int × Int)) (r : List Int) (x : Int) : Int := (r.map fun y => wt T y.toNat x.toNat).sum
/-- the queue of a house -/
structure Qd (n : Nat) (T : List (Int × Int)) (D : List Int) (h : Int) (r : List Int) : Prop where
  nd : r.Nodup
  rg : ∀ x ∈ r, 0 ≤ x ∧ x < n
  hd : r[0]? = some h
  st : ∀ (k : Nat) (x : Int), 0 < k → r[k]? = some x → gt D x 0 < nr T (r.take k) x ∧ ∀ y, 0 ≤ y → y < x → y ∉ r.take k → nr T (r.take k) y ≤ gt D y 0
  fin : ∀ x : Int, 0 ≤ x → x < n → x ∉ r → nr T r x ≤ gt D x 0
theorem nodup_le0 : ∀ {n : Nat} {r : List Int}, r.Nodup → (∀ x ∈ r, 0 ≤ x ∧ x < n) → r.length ≤ n
  | 0, r, _, inn => by
    cases r with
    | nil => exact Nat.le_refl _
    | cons x r =>
      have := inn x List.mem_cons_self
      omega
  | n + 1, r, nd, inn => by
    by_cases h : (n : Int) ∈ r
    · have := nodup_le0 (n := n) (r := r.erase (n : Int)) (nd.erase _) fun x hx => by
        obtain ⟨a, b⟩ := (List.Nodup.mem_erase_iff nd).mp hx
        have := inn x b
        omega
      rw [List.length_erase_of_mem h] at this
      omega
    · have := nodup_le0 (n := n) (r := r) nd fun x hx => by
        have := inn x hx
        have ne : x ≠ n := fun z => h (z ▸ hx)
        omega
      omega
theorem nodup_le {n : Nat} {r : List Int} (nd : r.Nodup) (rg : ∀ x ∈ r, (0 : Int) ≤ x ∧ x < (n : Int)) : r.length ≤ n := nodup_le0 nd rg
theorem compGo_filt {α : Type} {g : α → R (Option α)} {p : α → Bool} : ∀ {xs : List α}, (∀ x ∈ xs, g x = if p x = true then .ok (some x) else .ok none) → compGo g xs = .ok (xs.filter p)
  | [], _ => rfl
  | x :: xs, hg => by
    have e1 := hg x List.mem_cons_self
    have e2 := compGo_filt (xs := xs) fun y hy => hg y (List.mem_cons_of_mem _ hy)
    unfold compGo
    rw [e1, e2, List.filter_cons]
    cases p x <;> rfl
theorem px_filt {α : Type} {B : Exc → Prop} {g : α → R (Option α)} (p : α → Bool) {A : List α → Prop} {xs : List α} (hl : xs.length ≤ 16777216) (hg : ∀ x ∈ xs, g x = if p x = true then .ok (some x) else .ok none) (q : A (xs.filter p)) : Wp A B (compR g xs) := by
  unfold compR
  rw [if_pos hl]
  exact px_eq (compGo_filt hg) q
/-! ### P4: the table of all houses but one, the adjoint, the plain form -/
open Dt (su sk mn sg)
theorem mem_rangeL' {lo hi i : Int} (h0 : lo ≤ i) (h1 : i < hi) : i ∈ rangeL lo hi := by
  unfold rangeL
  exact List.mem_map.mpr ⟨(i - lo).toNat, List.mem_range.mpr (by omega), by show lo + (((i - lo).toNat : Nat) : Int) = i; omega⟩
/-! ### P5: the plain form -/
open Dt (su sk mn sg)
theorem gt_some {α : Type} {l : List α} {k : Nat} {x d : α} (h : l[k]? = some x) : gt l (k : Int) d = x := by
  unfold gt
  rw [Int.toNat_natCast, List.getD_eq_getElem?_getD, h]; rfl
/-! ### P6: the plain form, further -/
open Dt (su sk mn sg)
/-! ### P7: orders, papers, clears, holds -/
open Dt (su sk mn sg)
/-- the place in an order -/
def po (r : List Int) (x : Nat) : Nat := r.idxOf (x : Int)
theorem idx_take {r : List Int} (nd : r.Nodup) {x y : Int} {k : Nat} (hk : r[k]? = some x) : y ∈ r.take k ↔ y ∈ r ∧ r.idxOf y < r.idxOf x := by
  obtain ⟨hl, e⟩ := List.getElem?_eq_some_iff.mp hk
  have ix : r.idxOf x = k := by
    rw [← e]
    exact nd.idxOf_getElem k hl
  rw [ix]
  constructor
  · intro h
    obtain ⟨j, hj, e2⟩ := List.getElem_of_mem h
    rw [List.length_take] at hj
    rw [List.getElem_take] at e2
    have iy : r.idxOf y = j := by
      rw [← e2]
      exact nd.idxOf_getElem j (by omega)
    exact ⟨List.mem_of_mem_take h, by omega⟩
  · rintro ⟨h1, h2⟩
    have hy := List.idxOf_lt_length_of_mem h1
    have e2 : r[r.idxOf y] = y := List.getElem_idxOf hy
    rw [List.mem_iff_getElem]
    exact ⟨r.idxOf y, by rw [List.length_take]; omega, by rw [List.getElem_take]; exact e2⟩
theorem nd_take {r : List Int} (nd : r.Nodup) {k : Nat} (hk : k < r.length) : r[k] ∉ r.take k := fun z => absurd ((idx_take nd (List.getElem?_eq_getElem hk)).mp z).2 (Nat.lt_irrefl _)
theorem Qd.uniq {n : Nat} {T : List (Int × Int)} {D r r' : List Int} {h : Int} (q : Qd n T D h r) (q' : Qd n T D h r') : r = r' := by
  have step : ∀ {r r' : List Int}, Qd n T D h r → Qd n T D h r' → ∀ k, r.take k = r'.take k → k < r.length → r[k]? = r'[k]? := by
    intro r r' q q' k e hk
    have gk : r[k]? = some r[k] := List.getElem?_eq_getElem hk
    by_cases k0 : k = 0
    · subst k0; rw [q.hd, q'.hd]
    · have a := q.st k _ (by omega) gk
      have nm : r[k] ∉ r.take k := nd_take q.nd hk
      have rg := q.rg _ (List.getElem_mem hk)
      by_cases hk' : k < r'.length
      · have gk' : r'[k]? = some r'[k] := List.getElem?_eq_getElem hk'
        have b := q'.st k _ (by omega) gk'
        have nm' : r'[k] ∉ r'.take k := nd_take q'.nd hk'
        have rg' := q'.rg _ (List.getElem_mem hk')
        rw [gk, gk']
        congr 1
        rcases Int.lt_trichotomy r[k] r'[k] with z | z | z
        · have := b.2 r[k] rg.1 z (by rw [← e]; exact nm)
          rw [← e] at this
          omega
        · exact z
        · have := a.2 r'[k] rg'.1 z (by rw [e]; exact nm')
          rw [e] at this
          omega
      · exfalso
        have t : r'.take k = r' := List.take_of_length_le (by omega)
        rw [t] at e
        have := q'.fin r[k] rg.1 rg.2 (by rw [← e]; exact nm)
        rw [← e] at this
        omega
  have all : ∀ k, r.take k = r'.take k := by
    intro k
    induction k with
    | zero => rw [List.take_zero, List.take_zero]
    | succ k ih =>
      rw [List.take_add_one, List.take_add_one, ih]
      congr 1
      by_cases h1 : k < r.length
      · rw [step q q' k ih h1]
      · by_cases h2 : k < r'.length
        · rw [step q' q k ih.symm h2]
        · rw [List.getElem?_eq_none (by omega), List.getElem?_eq_none (by omega)]
  have := all (r.length + r'.length)
  rw [List.take_of_length_le (by omega), List.take_of_length_le (by omega)] at this
  exact this
/-- an order of all houses -/
structure Od (n : Nat) (r : List Int) : Prop where
  nd : r.Nodup
  rg : ∀ x ∈ r, 0 ≤ x ∧ x < (n : Int)
  al : ∀ x : Int, 0 ≤ x → x < n → x ∈ r
section
variable {n : Nat} {T : List (Int × Int)}
theorem od_get {r : List Int} (o : Od n r) {x : Nat} (hx : x < n) : r[po r x]? = some (x : Int) := by
  have h := o.al (x : Int) (by omega) (by omega)
  have hl := List.idxOf_lt_length_of_mem h
  unfold po
  rw [List.getElem?_eq_getElem hl, List.getElem_idxOf hl]
end
theorem cut_take {α : Type} (xs : List α) {k : Nat} : cutL xs none (some (k : Int)) = xs.take k := by
  have e : HT.sIx xs.length xs.length (some (k : Int)) = min k xs.length := by
    show (if (k : Int) < 0 then ((k : Int) + (xs.length : Int)).toNat else min (k : Int).toNat xs.length) = _
    rw [if_neg (by omega), Int.toNat_natCast]
  unfold cutL
  rw [e]
  show (xs.drop 0).take (min k xs.length - 0) = _
  rw [List.drop_zero, Nat.sub_zero]
  by_cases h : k ≤ xs.length
  · rw [Nat.min_eq_left h]
  · rw [Nat.min_eq_right (by omega), List.take_of_length_le (Nat.le_refl _), List.take_of_length_le (by omega)]
/-! ### P8: the ties ahead add up to all ties -/
open Dt (su sk)
theorem Od.inj {n : Nat} {r : List Int} (o : Od n r) {i j : Nat} (hi : i < n) (hj : j < n) (e : po r i = po r j) : i = j := by
  have a := od_get o hi
  have b := od_get o hj
  rw [e, b] at a
  have := Option.some.inj a
  omega
/-! ### webs made -/
theorem reach_turn {n : Nat} {ties : List (Int × Int)} (hf : ∀ t ∈ ties, Fit n t) (s0 : List Bool) (hl : s0.length = n) (h0 : s0[0]? = some true)
    {bd : (Int × Int) → List Bool × Bool → R (List Bool × Bool)}
    (hbd : ∀ t s, bd t s = ((ixR s.1 t.1).bind fun x => (ixR s.1 t.2).bind fun y => .ok (!pyEq x y)).bind fun c => R.bind (if c = true then ((setR s.1 t.1 true).bind fun y104 => ((setR y104 t.2 true).bind fun y105 => .ok (y105, true))) else (.ok (s.1, s.2))) fun s' : List Bool × Bool => (.ok (s'.1, s'.2))) :
    ∃ s, forR bd ties (s0, false) = .ok s ∧ s.1.length = n ∧ s.1[0]? = some true ∧ (s.2 = true → fls s.1 < fls s0) ∧ (s.2 = false → s.1 = s0 ∧ ∀ t ∈ ties, s0[t.1.toNat]? = s0[t.2.toNat]?) := by
  have := forR_inv (b := bd) (fun (ys : List (Int × Int)) (s : List Bool × Bool) => s.1.length = n ∧ s.1[0]? = some true ∧ fls s.1 ≤ fls s0 ∧ (s.2 = true → fls s.1 < fls s0) ∧ (s.2 = false → s.1 = s0 ∧ ∀ t ∈ ys, s0[t.1.toNat]? = s0[t.2.toNat]?)) (xs := ties) (ys := []) (s := (s0, false))
    ⟨hl, h0, Nat.le_refl _, (fun z => by cases z), fun _ => ⟨rfl, fun t ht => by cases ht⟩⟩ (fun t zs s ⟨r, hr⟩ ⟨i1, i2, i3, i4, i5⟩ => by
      have ht : t ∈ ties := by rw [hr]; exact List.mem_append_right _ List.mem_cons_self
      obtain ⟨f1, f2, f3, f4, f5⟩ := hf t ht
      have a1 : t.1.toNat < s.1.length := by omega
      have a2 : t.2.toNat < s.1.length := by omega
      rw [hbd, ixR_int f2 (List.getElem?_eq_getElem a1), bind_ok, ixR_int f3 (List.getElem?_eq_getElem a2), bind_ok, bind_ok, pyEq_dec]
      by_cases e : s.1[t.1.toNat] = s.1[t.2.toNat]
      · rw [decide_eq_true e, Bool.not_true, ite_f, bind_ok]
        refine ⟨_, rfl, i1, i2, i3, i4, fun z => ?_⟩
        obtain ⟨j1, j2⟩ := i5 z
        refine ⟨j1, fun u hu => ?_⟩
        rcases List.mem_append.mp hu with hu | hu
        · exact j2 u hu
        · rw [List.mem_singleton.mp hu, ← j1, List.getElem?_eq_getElem a1, List.getElem?_eq_getElem a2, e]
      · have b2 : t.2 < (s.1.set t.1.toNat true).length := by rw [List.length_set]; omega
        rw [decide_eq_false e, Bool.not_false, ite_t, setR_int f2 (by omega), bind_ok, setR_int f3 b2, bind_ok, bind_ok]
        have lt : fls ((s.1.set t.1.toNat true).set t.2.toNat true) < fls s.1 := by
          cases e1 : s.1[t.1.toNat] with
          | false =>
            have := fls_pos a1 e1
            have k1 := set_fls a1
            rw [if_pos e1] at k1
            have k2 := set_fls_le (xs := s.1.set t.1.toNat true) (i := t.2.toNat)
            omega
          | true =>
            have e2 : s.1[t.2.toNat] = false := by
              cases e2 : s.1[t.2.toNat] with
              | false => rfl
              | true => exact absurd (e1.trans e2.symm) e
            have ne : t.1.toNat ≠ t.2.toNat := fun z => by omega
            have a3 : t.2.toNat < (s.1.set t.1.toNat true).length := by rw [List.length_set]; exact a2
            have e3 : (s.1.set t.1.toNat true)[t.2.toNat] = false := by rw [List.getElem_set_ne ne]; exact e2
            have k1 := set_fls a3
            rw [if_pos e3] at k1
            have k0 := fls_pos a3 e3
            have k2 := set_fls_le (xs := s.1) (i := t.1.toNat)
            omega
        refine ⟨_, rfl, by rw [List.length_set, List.length_set]; exact i1, ?_, Nat.le_trans (Nat.le_of_lt lt) i3, fun _ => Nat.lt_of_lt_of_le lt i3, fun z => by cases z⟩
        have z1 : ∀ (xs : List Bool) (i : Nat), xs[0]? = some true → (xs.set i true)[0]? = some true := fun xs i h => by
          rw [List.getElem?_set]
          split
          · split
            · rfl
            · rename_i h1 h2
              subst h1
              rw [List.getElem?_eq_none (by omega)] at h
              cases h
          · exact h
        exact z1 _ _ (z1 _ _ i2))
  obtain ⟨s, e, i1, i2, i3, i4, i5⟩ := this
  exact ⟨s, e, i1, i2, i4, fun z => by simpa using i5 z⟩
theorem mm_fit {n : Int} {t : Int × Int} (h : Fit n t) : Fit n (mm t) := by
  obtain ⟨f1, f2, f3, f4, f5⟩ := h
  unfold mm Fit
  dsimp only
  omega
theorem ins_perm {s : List Int} {k p : Int} (k0 : 0 ≤ k) (hs : s.Perm (rangeL 0 k)) : (s.take p.toNat ++ [k] ++ s.drop p.toNat).Perm (rangeL 0 (k + 1)) := by
  have e : rangeL 0 (k + 1) = rangeL 0 k ++ [k] := by
    unfold rangeL
    rw [show (k + 1 - 0).toNat = (k - 0).toNat + 1 from by omega, List.range_succ, List.map_append, List.map_singleton]
    congr 2
    omega
  rw [e]
  refine List.Perm.trans ?_ (hs.append_right [k])
  refine List.Perm.trans ?_ (List.Perm.append_right [k] (List.Perm.of_eq (List.take_append_drop p.toNat s)))
  rw [List.append_assoc, List.append_assoc]
  exact (List.perm_append_comm).append_left _
/-! ### the webs of the laws about cuts, coins and fewest -/
/-! ### P9: bounds of orders, the middle, room -/
open Dt (su sk)
/-- the bound of an order -/
def bd (n : Nat) (T : List (Int × Int)) (pos : Nat → Nat) (x : Nat) : Int := Ch.ah n (wt T) pos x - 1
/-- the middle -/
def md (n : Nat) (T : List (Int × Int)) (x : Nat) : Int := su n (wt T x) - 2
/-! ### the laws about ranks -/
theorem px_modP {B : Exc → Prop} {A : Int → Prop} {x y : Int} (hy : 0 < y) (q : ∀ v, 0 ≤ v → v < y → A v) : Wp A B (modR x y) :=
  px_mod (by omega) (q _ (fmod_bounds x hy).1 (fmod_bounds x hy).2)
theorem cellB {ns : List Int} (hb : ∀ z ∈ ns, bits z ≤ 1048576) {X : Exc → Prop} {A : Int → Prop} {i : Int} (h : 0 ≤ i) (q : ∀ v, bits v ≤ 1048576 → A v) : Wp A X (m_law_cell_at (⟨ns⟩, i, ())) := by
  obtain ⟨v, e, b⟩ := cell_ok hb h
  exact px_eq e (q v b)
/-! ### a web by a script, of at most so many houses -/
theorem webm_ok {ns : List Int} (hb : ∀ z ∈ ns, bits z ≤ 1048576) {X : Exc → Prop} {A : T3 Int (List (Int × Int)) Int → Prop} {most more : Int} (m1 : 1 ≤ most) (m8 : most ≤ 8) (r1 : 1 ≤ more) (r14 : more ≤ 14)
    (q : ∀ (n q : Nat) (ties : List (Int × Int)), 1 ≤ n → (n : Int) ≤ most → (q : Int) < more → (n = 1 → q = 0) → ties.length = n - 1 + q → (∀ t ∈ ties, Fit n t) → Con n ties → A (T3.mk (n : Int) ties ((n : Int) + (q : Int)))) : Wp A X (m_law_web (⟨ns⟩, most, more, ())) := by
  unfold m_law_web
  dsimp only
  have p30 : (0 : Int) < 10 ^ (30 : Int).toNat := by decide +kernel
  refine px_bind <| px_bind <| cellB hb (by decide) fun c0 _ => px_bind <| px_pow (by decide) (by decide +kernel) <| px_modP p30 fun one o0 o1 => px_bind <| px_bind <| px_modP (by omega) fun v v0 v1 => px_ok ?_
  obtain ⟨n, hn⟩ := Int.eq_ofNat_of_zero_le (show 0 ≤ 1 + v by omega)
  rw [hn]
  have n1 : 1 ≤ n := by omega
  have n8 : n ≤ 8 := by omega
  refine px_bind <| px_ok <| px_bind <| px_rg (by omega) (by omega) (by omega) (by omega) <| px_bind ?_
  refine px_rng (fun k (s : List (Int × Int)) => (s.length : Int) = k - 1 ∧ (∀ t ∈ s, Fit n t) ∧ Base k s) (by omega) ⟨rfl, (fun t ht => by cases ht), fun k k1 k2 => by omega⟩ (fun k k0 k1 s hs => ?_) fun s hs => ?_
  · obtain ⟨s1, s2, s3⟩ := hs
    refine px_bind <| px_bind <| px_bind <| px_bind <| cellB hb (by omega) fun c _ => px_modP (by omega) fun x x0 x1 => px_ok <| px_ok <| px_bind <| px_app (by omega) <| px_ok ⟨?_, fun t ht => ?_, fun j j1 j2 => ?_⟩
    · rw [List.length_append, List.length_singleton]; omega
    · rcases List.mem_append.mp ht with z | z
      · exact s2 t z
      · rw [List.mem_singleton.mp z]
        exact ⟨by show x ≠ k; omega, x0, by show 0 ≤ k; omega, by show x < n; omega, by show k < n; omega⟩
    · by_cases e : j < k
      · obtain ⟨t, ht, h⟩ := s3 j j1 e
        exact ⟨t, List.mem_append_left _ ht, h⟩
      · exact ⟨(x, k), List.mem_append_right _ (List.mem_singleton.mpr rfl), by show k = j; omega, x0, by show x < j; omega⟩
  obtain ⟨s1, s2, s3⟩ := hs
  refine px_bind <| px_bind <| px_div (by omega) (Nat.lt_of_le_of_lt (Nat.log2_le_self _) (by omega)) <| px_modP (by omega) fun w w0 w1 => px_bind ?_
  refine Wp.imp (A := fun z : Int => 0 ≤ z ∧ z < more ∧ (n = 1 → z = 0)) (px_ite (fun c => px_bind <| px_ok <| px_ok ⟨by decide, by omega, fun _ => rfl⟩) fun c => px_ok ⟨w0, w1, fun e => ?_⟩) fun z hz => ?_
  · rw [e] at c
    cases c
  obtain ⟨q', rfl⟩ := Int.eq_ofNat_of_zero_le hz.1
  refine px_bind <| px_rg (by omega) (by omega) (by omega) (by omega) <| px_bind ?_
  refine px_rng (fun k (s' : List (Int × Int)) => (s'.length : Int) = (n : Int) - 1 + k ∧ (∀ t ∈ s', Fit n t) ∧ Base n s') (by omega) ⟨by omega, s2, s3⟩ (fun k k0 k1 s' hs => ?_) fun s' hs => ?_
  · obtain ⟨t1, t2, t3⟩ := hs
    have n2 : 2 ≤ n := Nat.lt_of_le_of_ne n1 fun e => by have := hz.2.2 e.symm; omega
    refine px_bind <| px_bind <| cellB hb (by omega) fun c _ => px_bind <| px_pow (by decide) (by decide +kernel) <| px_modP p30 fun d d0 d1 => ?_
    have ga := fmod_bounds d (show (0 : Int) < n by omega)
    refine px_bind <| px_bind <| px_bind <| px_bind <| px_mod (by omega) <| px_ok <| px_bind <| px_bind <| px_div (by omega) (Nat.lt_of_le_of_lt (Nat.log2_le_self _) (by omega)) <| px_modP (by omega) fun b b0 b1 => px_ok ?_
    refine px_mod (by omega) ?_
    have g := fmod_bounds (d.fmod n + 1 + b) (show (0 : Int) < n by omega)
    have ne : (d.fmod n + 1 + b).fmod n ≠ d.fmod n := fun e => by
      have e2 := Int.mul_fdiv_add_fmod (d.fmod n + 1 + b) n
      rw [e] at e2
      have e3 : (n : Int) * (d.fmod n + 1 + b).fdiv n = 1 + b := by omega
      have e4 : (d.fmod n + 1 + b).fdiv n = 0 ∨ 1 ≤ (d.fmod n + 1 + b).fdiv n ∨ (d.fmod n + 1 + b).fdiv n ≤ -1 := by omega
      rcases e4 with z | z | z
      · rw [z] at e3; omega
      · have : (n : Int) * 1 ≤ n * (d.fmod n + 1 + b).fdiv n := Int.mul_le_mul_of_nonneg_left z (by omega)
        omega
      · have : (n : Int) * (d.fmod n + 1 + b).fdiv n ≤ n * (-1) := Int.mul_le_mul_of_nonneg_left z (by omega)
        omega
    generalize (d.fmod n + 1 + b).fmod n = y at g ne
    refine px_bind <| px_bind <| px_bind <| px_mod (by omega) <| px_ok <| px_ok <| px_bind <| px_app (by omega) <| px_ok ⟨?_, fun t ht => ?_, fun j j1 j2 => ?_⟩
    · rw [List.length_append, List.length_singleton]; omega
    · rcases List.mem_append.mp ht with z | z
      · exact t2 t z
      · rw [List.mem_singleton.mp z]
        exact ⟨fun e => ne e.symm, ga.1, g.1, ga.2, g.2⟩
    · obtain ⟨t, ht, h⟩ := t3 j j1 j2
      exact ⟨t, List.mem_append_left _ ht, h⟩
  obtain ⟨t1, t2, t3⟩ := hs
  refine px_bind <| px_ok <| px_bind <| px_bind <| px_mul ?_ <| px_div (by omega) (Nat.lt_of_le_of_lt (Nat.log2_le_self _) (by omega)) ?_
  · have := bits_nat (x := most) 4 (M := 8) (by omega) (by omega) (by decide)
    have : bits (20 : Int) ≤ 5 := by decide +kernel
    omega
  refine px_bind <| px_rg (by omega) (by omega) (by omega) (by omega) <| px_bind ?_
  refine px_rng (fun k (s : List Int × Int) => s.1.Perm (rangeL 0 k)) (by omega) (List.Perm.of_eq rfl) (fun k k0 k1 s hs => ?_) fun s hs => ?_
  · have sl := hs.length_eq
    rw [rangeL_len] at sl
    have g := fmod_bounds s.2 (show (0 : Int) < k + 1 by omega)
    refine px_bind <| px_bind <| px_mod (by omega) <| px_ok <| px_bind <| px_eq (insR_ok (by omega) (by omega) (by omega)) <| px_bind <| px_div (by omega) (Nat.lt_of_le_of_lt (Nat.log2_le_self _) (by omega)) <| px_ok ?_
    exact ins_perm k0 hs
  · have sl := hs.length_eq
    rw [rangeL_len] at sl
    refine px_bind <| px_map (h := fun t => (oi s.1 t.1, oi s.1 t.2)) (by omega) (fun t ht => ?_) <| px_ok ?_
    · obtain ⟨_, f1, f2, f3, f4⟩ := t2 t ht
      refine px_is ?_
      exact px_bind <| px_bind <| px_eq (ixR_gt (l := s.1) 0 f1 (by omega)) <| px_bind <| px_bind <| px_eq (ixR_gt (l := s.1) 0 f2 (by omega)) <| px_ok <| px_ok <| px_ok rfl
    · refine q n q' _ n1 (by omega) hz.2.1 (fun e => by have := hz.2.2 e; omega) (by rw [List.length_map]; omega) (renamed_fit hs t2) (renamed_con n1 hs t3)
/-! ### webs, standings, bounds as many laws reckon them -/
open Dt (su sk)
theorem flat_one0 (x : Int) (k : Nat) : (List.replicate k [x]).flatten = List.replicate k x := by
  induction k with
  | zero => rfl
  | succ k ih => rw [List.replicate_succ, List.flatten_cons, ih, List.replicate_succ]; rfl
/-! ### rows of words -/
def num (i : Int) : Str := Str.ofString (toString i)
def rowS (w : Str) (ns : List Int) : Str := Txt.join (Str.ofString " ") (w :: ns.map num)
theorem join_snoc (a w y : Str) (l : List Str) : Txt.join a (w :: (l ++ [y])) = Txt.join a (w :: l) ++ a ++ y := by
  show (⟨((l ++ [y]).foldl (fun acc p => acc ++ a.cps ++ p.cps) w.cps)⟩ : Str) = _
  rw [List.foldl_append]
  rfl
theorem len_app (x y : Str) : (x ++ y).length = x.length + y.length := by
  show (x.cps ++ y.cps).size = _
  rw [Array.size_append]; rfl
theorem num_len {i : Int} {k : Nat} (hk : 0 < k) (h : i.natAbs < 10 ^ k) : (num i).length ≤ k + 1 := by
  unfold num
  by_cases h0 : 0 ≤ i
  · exact Nat.le_succ_of_le (PyProof.Rows.toString_length_le h0 hk (by
      have h2 := Int.ofNat_lt.mpr h
      rw [Int.natCast_pow] at h2
      have h3 : ((10 : Nat) : Int) = 10 := rfl
      rw [h3] at h2
      omega))
  · obtain ⟨n, rfl⟩ : ∃ n : Nat, i = Int.negSucc n := by
      cases i with
      | ofNat n => exact (h0 (Int.natCast_nonneg n)).elim
      | negSucc n => exact ⟨n, rfl⟩
    have e : toString (Int.negSucc n) = "-" ++ toString (((n + 1 : Nat) : Int)) := rfl
    have h1 := PyProof.Rows.toString_length_le (v := ((n + 1 : Nat) : Int)) (by omega) hk (by
      have h4 : (Int.negSucc n).natAbs = n + 1 := rfl
      rw [h4] at h
      have h2 := Int.ofNat_lt.mpr h
      rw [Int.natCast_pow] at h2
      exact h2)
    rw [e, PyProof.Rows.ofString_length, String.toList_append, List.length_append]
    rw [PyProof.Rows.ofString_length] at h1
    have : "-".toList.length = 1 := by decide +kernel
    omega
theorem num_200 {i : Int} (h : bits i ≤ 200) : (num i).length ≤ 62 := num_len (k := 61) (by decide) (Nat.lt_trans (bits_iff.mp h) (by decide +kernel))
theorem strI_ok {i : Int} (h : bits i ≤ 200) : strI i = .ok (num i) := by
  refine chk_ok (decide_eq_true ?_)
  have h1 := bits_iff.mp h
  by_cases z : i.natAbs = 0
  · rw [z]; decide
  · exact Nat.lt_of_lt_of_le ((Nat.log2_lt z).mpr h1) (by decide)
theorem join_len (a w : Str) (ha : a.length = 1) (l : List Str) (h : ∀ y ∈ l, y.length ≤ 1000) : (Txt.join a (w :: l)).length ≤ w.length + 1001 * l.length := by
  have go : ∀ (l : List Str) (acc : Array Nat), (∀ y ∈ l, y.length ≤ 1000) → (l.foldl (fun acc p => acc ++ a.cps ++ p.cps) acc).size ≤ acc.size + 1001 * l.length := by
    intro l
    induction l with
    | nil => intro acc _; exact Nat.le_add_right _ _
    | cons y l ih =>
      intro acc hl
      rw [List.foldl_cons, List.length_cons]
      have h1 := ih (acc ++ a.cps ++ y.cps) fun z hz => hl z (List.mem_cons_of_mem _ hz)
      rw [Array.size_append, Array.size_append] at h1
      have h2 : y.cps.size ≤ 1000 := hl y List.mem_cons_self
      have h3 : a.cps.size = 1 := ha
      omega
  exact go l w.cps h
theorem sum_len : ∀ (l : List Str) {b : Nat}, (∀ y ∈ l, y.length ≤ b) → (l.map (·.length)).sum ≤ b * l.length
  | [], _, _ => Nat.zero_le _
  | y :: l, b, h => by
    rw [List.map_cons, List.sum_cons, List.length_cons, Nat.mul_add]
    have := h y List.mem_cons_self
    have := sum_len l fun z hz => h z (List.mem_cons_of_mem _ hz)
    omega
theorem law_row_ok {w : Str} {ns : List Int} (hw : w.length ≤ 100) (hl : ns.length ≤ 1000) (hb : ∀ x ∈ ns, bits x ≤ 200) : m_law_row (w, ns, ()) = .ok (rowS w ns) := by
  refine px_is ?_
  unfold m_law_row
  dsimp only
  have h2 : (Str.ofString " ").length = 1 := by decide +kernel
  refine px_bind <| px_ok <| px_bind <| px_for (fun ys s => s = rowS w ys) rfl (fun ys x zs e s hs => ?_) fun s hs => px_ok hs
  subst hs
  have hx : x ∈ ns := by rw [e]; exact List.mem_append_right _ List.mem_cons_self
  have hyl : ys.length ≤ 1000 := by
    have := congrArg List.length e
    rw [List.length_append] at this
    omega
  have hj := join_len (Str.ofString " ") w h2 (ys.map num) fun y hy => by
    obtain ⟨z, hz, rfl⟩ := List.mem_map.mp hy
    have := num_200 (hb z (by rw [e]; exact List.mem_append_left _ hz))
    omega
  rw [List.length_map] at hj
  have hn := num_200 (hb x hx)
  have hr : (rowS w ys).length ≤ w.length + 1001 * ys.length := hj
  refine px_bind <| px_bind <| px_eq (chk_ok (decide_eq_true ?_)) <| px_bind <| px_eq (strI_ok (hb x hx)) <| px_eq (chk_ok (decide_eq_true ?_)) <| px_ok ?_
  · rw [h2]; omega
  · rw [len_app, h2]; omega
  · show _ = rowS w (ys ++ [x])
    unfold rowS
    rw [List.map_append, List.map_singleton, join_snoc]
/-- the text of a web and a standing -/
def txtS (n : Int) (T : List (Int × Int)) (D : List Int) : Str := Txt.join (Str.ofString "\n") ([rowS (Str.ofString "houses") [n]] ++ T.map (fun t => rowS (Str.ofString "tie") [t.1, t.2]) ++ [rowS (Str.ofString "has") D])
/-! ### k66: shown -/
theorem row_len {w : Str} {ns : List Int} (hw : w.length ≤ 100) (hl : ns.length ≤ 8) (hb : ∀ x ∈ ns, bits x ≤ 200) : (rowS w ns).length ≤ 10000 := by
  have h2 : (Str.ofString " ").length = 1 := by decide +kernel
  have := join_len (Str.ofString " ") w h2 (ns.map num) fun y hy => by
    obtain ⟨z, hz, rfl⟩ := List.mem_map.mp hy
    have := num_200 (hb z hz)
    omega
  rw [List.length_map] at this
  exact Nat.le_trans this (by omega)
theorem join_ok {rows : List Str} (h : ∀ r ∈ rows, r.length ≤ 10000) (hl : rows.length ≤ 100) : joinS (Str.ofString "\n") rows = .ok (Txt.join (Str.ofString "\n") rows) := by
  refine chk_ok (decide_eq_true ?_)
  have := sum_len rows h
  have h2 : (Str.ofString "\n").length = 1 := by decide +kernel
  rw [h2]
  omega
section
variable {n : Nat} {T : List (Int × Int)} {D : List Int}
theorem few_bits {x : Int} (h0 : 0 ≤ x) (h : x ≤ 8) : bits x ≤ 200 := bits_mono (bits_nat 4 (M := 8) h0 (by omega) (by decide)) (by decide)
theorem rows_len (n8 : n ≤ 8) (tl : T.length ≤ 17) (hf : ∀ t ∈ T, Fit n t) (dl : D.length ≤ 8) (db : ∀ x ∈ D, bits x ≤ 200) : ∀ r ∈ [rowS (Str.ofString "houses") [(n : Int)]] ++ T.map (fun t => rowS (Str.ofString "tie") [t.1, t.2]) ++ [rowS (Str.ofString "has") D], r.length ≤ 10000 := fun r hr => by
  have w1 : (Str.ofString "houses").length ≤ 100 := by decide +kernel
  have w2 : (Str.ofString "tie").length ≤ 100 := by decide +kernel
  have w3 : (Str.ofString "has").length ≤ 100 := by decide +kernel
  rcases List.mem_append.mp hr with hr | hr
  · rcases List.mem_append.mp hr with hr | hr
    · rw [List.mem_singleton.mp hr]
      exact row_len w1 (by show 1 ≤ 8; decide) fun x hx => by rw [List.mem_singleton.mp hx]; exact few_bits (by omega) (by omega)
    · obtain ⟨t, ht, rfl⟩ := List.mem_map.mp hr
      obtain ⟨_, f1, f2, f3, f4⟩ := hf t ht
      refine row_len w2 (by show 2 ≤ 8; decide) fun x hx => ?_
      simp only [List.mem_cons, List.not_mem_nil, or_false] at hx
      rcases hx with rfl | rfl
      · exact few_bits f1 (by omega)
      · exact few_bits f2 (by omega)
  · rw [List.mem_singleton.mp hr]
    exact row_len w3 dl db
theorem tie_bits (n8 : n ≤ 8) {t : Int × Int} (hf : Fit n t) : ∀ x ∈ [t.1, t.2], bits x ≤ 200 := fun x hx => by
  obtain ⟨_, f1, f2, f3, f4⟩ := hf
  simp only [List.mem_cons, List.not_mem_nil, or_false] at hx
  rcases hx with rfl | rfl
  · exact few_bits f1 (by omega)
  · exact few_bits f2 (by omega)
theorem law_text_ok {ties : List (Int × Int)} (n8 : n ≤ 8) (tl : ties.length ≤ 17) (hf : ∀ t ∈ sortP (ties.map mm), Fit n t) (dl : D.length = n) (db : ∀ x ∈ D, bits x ≤ 200) : m_law_text ((n : Int), ties, D, ()) = .ok (txtS n (sortP (ties.map mm)) D) := by
  have w1 : (Str.ofString "houses").length ≤ 100 := by decide +kernel
  have w2 : (Str.ofString "tie").length ≤ 100 := by decide +kernel
  have w3 : (Str.ofString "has").length ≤ 100 := by decide +kernel
  have sl : (sortP (ties.map mm)).length = ties.length := by rw [(sortP_perm _).length_eq, List.length_map]
  refine px_is ?_
  unfold m_law_text
  dsimp only
  refine px_bind <| px_bind <| px_eq (law_row_ok w1 (by show 1 ≤ 1000; decide) fun x hx => by rw [List.mem_singleton.mp hx]; exact few_bits (by omega) (by omega)) <| px_ok <| px_bind <| px_map (h := mm) (by omega) (fun _ _ => rfl) <| px_bind ?_
  generalize sortP (ties.map mm) = T at hf sl
  refine px_for (fun ys s => s = [rowS (Str.ofString "houses") [(n : Int)]] ++ ys.map (fun t => rowS (Str.ofString "tie") [t.1, t.2])) rfl (fun ys t zs e s hs => ?_) fun s hs => ?_
  · have ht : t ∈ T := by rw [e]; exact List.mem_append_right _ List.mem_cons_self
    have hy := congrArg List.length e
    rw [List.length_append, List.length_cons] at hy
    refine px_bind <| px_eq (law_row_ok w2 (by show 2 ≤ 1000; decide) (tie_bits n8 (hf t ht))) <| px_bind <| px_app (by rw [hs, List.length_append, List.length_map, List.length_singleton]; omega) <| px_ok ?_
    rw [hs, List.map_append, List.append_assoc]; rfl
  · refine px_bind <| px_bind <| px_bind <| px_bind <| px_eq (law_row_ok w3 (by omega) db) <| px_ok <| px_cat (by rw [hs, List.length_append, List.length_map, List.length_singleton, List.length_singleton]; omega) ?_
    rw [hs]
    exact px_eq (join_ok (rows_len n8 (by omega) hf (by omega) db) (by rw [List.length_append, List.length_append, List.length_map, List.length_singleton, List.length_singleton]; omega)) <| px_ok rfl
end
/-! ### numbers as texts, read -/
def figs : List Nat → List Nat
  | 45 :: r => r
  | l => l
def isD (c : Nat) : Bool := decide (48 ≤ c ∧ c ≤ 57)
def okNum (most : Nat) (l : List Nat) : Bool := !(figs l).isEmpty && (decide ((figs l).length ≤ most) && ((figs l).all isD && !((figs l).head? == some 48 && !(l == [48]))))
def valNum (l : List Nat) : Int := match l with
  | 45 :: r => -((NumText.digitsVal r : Nat) : Int)
  | l => ((NumText.digitsVal l : Nat) : Int)
theorem figs_cons {c : Nat} {r : List Nat} (h : c ≠ 45) : figs (c :: r) = c :: r := by
  unfold figs
  split
  · rename_i e; cases e; exact absurd rfl h
  · rfl
theorem valNum_cons {c : Nat} {r : List Nat} (h : c ≠ 45) : valNum (c :: r) = ((NumText.digitsVal (c :: r) : Nat) : Int) := by
  unfold valNum
  split
  · rename_i e; cases e; exact absurd rfl h
  · rfl
theorem txt_eq {x y : Str} : pyEq x y = decide (TL.tl x = TL.tl y) := by
  rw [Bool.eq_iff_iff, pyEq_q, decide_eq_true_iff]
  exact ⟨fun h => by rw [h], TL.ext_tl⟩
theorem tl_dash : TL.tl ("-" : Str) = [45] := by decide +kernel
theorem tl_zero : TL.tl ("0" : Str) = [48] := by decide +kernel
theorem tl_none : TL.tl ("" : Str) = [] := by decide +kernel
theorem tl_figs : TL.tl ("0123456789" : Str) = [48, 49, 50, 51, 52, 53, 54, 55, 56, 57] := by decide +kernel
theorem tl_sgn (c : Nat) : TL.tl (sgn c) = [c] := rfl
theorem in_figs (c : Nat) : inStr (sgn c) ("0123456789" : Str) = .ok (isD c) := by
  show (R.ofO (some c)).bind (fun c => .ok (decide (c ∈ TL.tl ("0123456789" : Str)))) = _
  rw [tl_figs]
  show R.ok _ = R.ok _
  congr 1
  unfold isD
  rw [decide_eq_decide]
  simp only [List.mem_cons, List.not_mem_nil, or_false]
  omega
theorem cut_first (l : List Nat) : cutL l none (some (1 : Int)) = l.take 1 := by
  unfold cutL
  have a1 : HT.sIx l.length 0 none = 0 := rfl
  have a2 : HT.sIx l.length l.length (some (1 : Int)) = min 1 l.length := by
    show (if (1 : Int) < 0 then ((1 : Int) + (l.length : Int)).toNat else min (1 : Int).toNat l.length) = _
    rw [if_neg (by decide)]; rfl
  rw [a1, a2, List.drop_zero]
  cases l with
  | nil => rfl
  | cons c r => rw [show min 1 (c :: r).length = 1 by rw [List.length_cons]; omega]
theorem cut_rest {α : Type} (l : List α) : cutL l (some (1 : Int)) none = l.tail := by
  unfold cutL
  have a1 : HT.sIx l.length l.length none = l.length := rfl
  have a2 : HT.sIx l.length 0 (some (1 : Int)) = min 1 l.length := by
    show (if (1 : Int) < 0 then ((1 : Int) + (l.length : Int)).toNat else min (1 : Int).toNat l.length) = _
    rw [if_neg (by decide)]; rfl
  rw [a1, a2]
  cases l with
  | nil => rfl
  | cons c r =>
    rw [show min 1 (c :: r).length = 1 by rw [List.length_cons]; omega]
    show r.take _ = r
    exact List.take_of_length_le (by rw [List.length_cons]; omega)
theorem tl_cut (x : Str) (lo hi : Option Int) : TL.tl (cutStr x lo hi) = cutL (TL.tl x) lo hi := rfl
theorem sl_ok {x : Str} (h : x.length ≤ 16777216) (lo hi : Option Int) : slStr x lo hi = .ok (cutStr x lo hi) := chk_ok (decide_eq_true h)
theorem lenS_ok {x : Str} (h : x.length ≤ 16777216) : (R.chk (decide (x.length ≤ 16777216)) (x.length : Int)) = .ok (x.length : Int) := chk_ok (decide_eq_true h)
theorem ix0_ok {x : Str} (h : x.length ≤ 16777216) {c : Nat} {r : List Nat} (e : TL.tl x = c :: r) : ixStr x (0 : Int) = .ok (sgn c) := by
  unfold ixStr
  rw [chk_ok (decide_eq_true h)]
  show (ixR (TL.tl x) 0).bind _ = _
  rw [e, ixR_gt (l := c :: r) (i := 0) 0 (by decide) (by rw [List.length_cons]; omega)]
  rfl
theorem for_figs {X : Exc → Prop} {A : Unit → Prop} : ∀ {l : List Nat}, (l.all isD = true → A ()) → (l.all isD = false → X .noText) → Wp A X (forR (fun y _ => (((((inStr y ("0123456789" : PySem.Str)).bind fun b => .ok (!b)) : R Bool).bind fun c218 => if c218 = true then (.exc .noText) else (.ok ())))) (l.map sgn) ())
  | [], h, _ => px_ok (h rfl)
  | c :: r, h1, h2 => by
    refine px_bind (f := fun s' => forR _ (r.map sgn) s') ?_
    refine px_bind <| px_bind <| px_eq (in_figs c) <| px_ok ?_
    cases hc : isD c
    · refine px_ite (fun _ => px_exc (h2 (by rw [List.all_cons, hc]; rfl))) fun z => by cases z
    · refine px_ite (fun z => by cases z) fun _ => px_ok ?_
      exact for_figs (l := r) (fun z => h1 (by rw [List.all_cons, hc, z]; rfl)) fun z => h2 (by rw [List.all_cons, hc, z]; rfl)
theorem all_dig {l : List Nat} (h : l.all isD = true) : NumText.AllDigits l := fun c hc => of_decide_eq_true (List.all_eq_true.mp h c hc)
theorem int_ok {x : Str} (hx : x.length ≤ 4300) (h0 : figs (TL.tl x) ≠ []) (h : (figs (TL.tl x)).all isD = true) : intStr x = .ok (valNum (TL.tl x)) := by
  unfold intStr
  rw [chk_ok (decide_eq_true (by omega))]
  show R.ofO (PySem.intText? x) = _
  have e : PySem.intText? x = some (valNum (TL.tl x)) := by
    cases hl : TL.tl x with
    | nil => rw [hl] at h0; exact absurd rfl h0
    | cons c r =>
      by_cases q : c = 45
      · subst q
        rw [hl] at h h0
        exact PySem.intText_neg hl (all_dig h) h0 hx
      · rw [hl] at h h0
        rw [figs_cons q] at h
        rw [valNum_cons q, ← hl]
        exact PySem.intText_digits (by show NumText.AllDigits (TL.tl x); rw [hl]; exact all_dig h) (by show TL.tl x ≠ []; rw [hl]; exact List.cons_ne_nil _ _) hx
  rw [e]
  rfl
theorem head_dec (l : List Nat) (c : Nat) : (l.head? == some c) = decide (l.head? = some c) := by
  rw [Bool.eq_iff_iff, beq_iff_eq, decide_eq_true_iff]
theorem number_of_ok {x : Str} (hx : x.length ≤ 16777216) {X : Exc → Prop} {A : Int → Prop} (h1 : okNum 4000 (TL.tl x) = true → A (valNum (TL.tl x))) (h2 : okNum 4000 (TL.tl x) = false → X .noText) : Wp A X (m_number_of (x, ())) := by
  have xl : (TL.tl x).length = x.length := (TL.len_tl x).symm
  unfold m_number_of
  dsimp only
  refine px_bind <| px_ok <| px_bind <| px_bind <| px_eq (sl_ok hx _ _) <| px_ok <| px_bind <| Wp.imp (A := fun y : Str => TL.tl y = figs (TL.tl x)) (px_ite (fun c => ?_) fun c => ?_) fun y hy => ?_
  · rw [txt_eq, tl_cut, tl_dash, cut_first, decide_eq_true_iff] at c
    refine px_bind <| px_eq (sl_ok hx _ _) <| px_ok ?_
    rw [tl_cut, cut_rest]
    cases hl : TL.tl x with
    | nil => rw [hl] at c; cases c
    | cons d r =>
      rw [hl] at c
      have : d = 45 := by simpa using c
      subst this
      rfl
  · rw [txt_eq, tl_cut, tl_dash, cut_first, decide_eq_false_iff_not] at c
    refine px_ok ?_
    cases hl : TL.tl x with
    | nil => rfl
    | cons d r =>
      rw [hl] at c
      exact (figs_cons fun e => c (by rw [e]; rfl)).symm
  have fl : (figs (TL.tl x)).length ≤ x.length ∧ x.length ≤ (figs (TL.tl x)).length + 1 := by
    cases hl : TL.tl x with
    | nil => rw [hl] at xl; exact ⟨by show 0 ≤ _; omega, by rw [← xl]; exact Nat.zero_le _⟩
    | cons d r =>
      rw [hl, List.length_cons] at xl
      by_cases q : d = 45
      · subst q
        show r.length ≤ _ ∧ _ ≤ r.length + 1
        omega
      · rw [figs_cons q, List.length_cons]; omega
  have yl : y.length = (figs (TL.tl x)).length := by rw [TL.len_tl, hy]
  have ynil : pyEq y ("" : Str) = (figs (TL.tl x)).isEmpty := by
    rw [txt_eq, hy, tl_none]
    cases figs (TL.tl x) <;> rfl
  refine px_bind <| Wp.imp (A := fun b : Bool => b = ((figs (TL.tl x)).isEmpty || decide (4000 < (figs (TL.tl x)).length))) ?_ fun b hb => ?_
  · rw [ynil]
    refine px_ite (fun c => px_ok (by rw [c]; rfl)) fun c => ?_
    refine px_bind <| px_eq (lenS_ok (by omega)) <| px_ok ?_
    rw [c, Bool.false_or, decide_eq_decide, yl]
    omega
  subst hb
  refine px_ite (fun c => px_exc (h2 ?_)) fun c => ?_
  · unfold okNum
    rw [Bool.or_eq_true, decide_eq_true_iff] at c
    rcases c with c | c
    · rw [c]; rfl
    · rw [decide_eq_false (by omega), Bool.false_and, Bool.and_false]
  rw [Bool.or_eq_false_iff, decide_eq_false_iff_not] at c
  have ok1 : okNum 4000 (TL.tl x) = ((figs (TL.tl x)).all isD && !((figs (TL.tl x)).head? == some 48 && !(TL.tl x == [48]))) := by
    unfold okNum
    rw [c.1, decide_eq_true (by omega : (figs (TL.tl x)).length ≤ 4000), Bool.true_and]; rfl
  refine px_bind ?_
  unfold signs
  have hy' : y.cps.toList = figs (TL.tl x) := hy
  rw [hy']
  refine for_figs (fun ha => ?_) fun ha => h2 (by rw [ok1, ha]; rfl)
  rw [ha, Bool.true_and] at ok1
  have hne : figs (TL.tl x) ≠ [] := fun e => by rw [e] at c; cases c.1
  obtain ⟨d, r, hf⟩ : ∃ d r, figs (TL.tl x) = d :: r := by
    cases hh : figs (TL.tl x) with
    | nil => exact absurd hh hne
    | cons d r => exact ⟨d, r, rfl⟩
  have e1 : pyEq (sgn d) ("0" : Str) = ((figs (TL.tl x)).head? == some 48) := by
    rw [txt_eq, tl_sgn, tl_zero, hf, head_dec, decide_eq_decide, List.head?_cons]
    simp
  have e2 : pyEq x ("0" : Str) = (TL.tl x == [48]) := by
    rw [txt_eq, tl_zero, Bool.eq_iff_iff, decide_eq_true_iff, beq_iff_eq]
  refine px_bind <| px_bind <| px_bind <| px_eq (ix0_ok (by omega) (hy.trans hf)) <| px_ok ?_
  rw [e1, e2]
  refine Wp.imp (A := fun b : Bool => b = ((figs (TL.tl x)).head? == some 48 && !(TL.tl x == [48]))) (px_ite (fun z => px_ok (by rw [z]; rfl)) fun z => px_ok (by rw [z]; rfl)) fun b hb => ?_
  rw [← hb] at ok1
  refine px_ite (fun z => px_exc (h2 (by rw [ok1, z]; rfl))) fun z => ?_
  exact px_bind <| px_eq (int_ok (by omega) hne ha) <| px_ok (h1 (by rw [ok1, z]; rfl))
/-! a number's own text -/
theorem okNum_le {a b : Nat} {l : List Nat} (h : a ≤ b) (o : okNum a l = true) : okNum b l = true := by
  unfold okNum at o ⊢
  rw [Bool.and_eq_true, Bool.and_eq_true, decide_eq_true_iff] at o
  rw [o.1, o.2.2, decide_eq_true (by omega)]; rfl
theorem okNum_len {most : Nat} {l : List Nat} (o : okNum most l = true) : (figs l).length ≤ most ∧ figs l ≠ [] := by
  unfold okNum at o
  rw [Bool.and_eq_true, Bool.and_eq_true, decide_eq_true_iff] at o
  refine ⟨o.2.1, fun e => ?_⟩
  rw [e] at o; cases o.1
/-- read_number, where the word writes one of at most sixty figures -/
theorem read_number_ok {x : Str} (hx : x.length ≤ 16777216) {X : Exc → Prop} {A : Int → Prop} (o : okNum 60 (TL.tl x) = true) (h1 : A (valNum (TL.tl x))) : Wp A X (m_read_number (x, ())) := by
  obtain ⟨ol, on⟩ := okNum_len o
  have xl : (TL.tl x).length = x.length := (TL.len_tl x).symm
  unfold m_read_number
  dsimp only
  refine px_bind <| number_of_ok hx (fun _ => ?_) fun z => by rw [okNum_le (by decide) o] at z; cases z
  refine px_bind <| Wp.imp (A := fun b : Bool => b = false) (px_bind <| px_bind <| px_eq (lenS_ok hx) <| px_ok <| px_ite (fun c => ?_) fun _ => px_ok rfl) fun b hb => ?_
  · have c := of_decide_eq_true c
    cases hl : TL.tl x with
    | nil => rw [hl] at on; exact absurd rfl on
    | cons d r =>
      by_cases q : d = 45
      · subst q
        rw [hl] at ol xl
        have : r.length ≤ 60 := ol
        rw [List.length_cons] at xl
        refine px_bind <| px_bind <| px_eq (ix0_ok hx hl) <| px_ok ?_
        rw [txt_eq, tl_sgn, tl_dash]
        exact px_ite (fun z => by cases z) fun _ => px_bind <| px_eq (lenS_ok hx) <| px_ok (decide_eq_false (by omega))
      · rw [hl, figs_cons q] at ol
        rw [hl] at xl
        omega
  · rw [hb]
    exact px_ite (fun z => by cases z) fun _ => px_ok h1
/-! rows of words read -/
theorem tl_blank : TL.tl ("\x20" : Str) = [32] := by decide +kernel
theorem tl_line : TL.tl ("\n" : Str) = [10] := by decide +kernel
/-- the text of a web and a standing, rows in this order -/
def txtR (n : Int) (ts : List (Int × Int)) (D : List Int) : Str := Txt.join (Str.ofString "\n") ([rowS (Str.ofString "houses") [n]] ++ ts.map (fun t => rowS (Str.ofString "tie") [t.1, t.2]) ++ [rowS (Str.ofString "has") D])
theorem cut_mid {α : Type} (a : α) (l : List α) (b : α) : cutL (a :: (l ++ [b])) (some (1 : Int)) (some (-(1 : Int))) = l := by
  unfold cutL
  have a1 : HT.sIx (a :: (l ++ [b])).length 0 (some (1 : Int)) = 1 := by
    show (if (1 : Int) < 0 then ((1 : Int) + ((a :: (l ++ [b])).length : Int)).toNat else min (1 : Int).toNat (a :: (l ++ [b])).length) = _
    rw [if_neg (by decide), List.length_cons]; show min 1 _ = _; omega
  have a2 : HT.sIx (a :: (l ++ [b])).length (a :: (l ++ [b])).length (some (-(1 : Int))) = l.length + 1 := by
    show (if (-1 : Int) < 0 then ((-1 : Int) + ((a :: (l ++ [b])).length : Int)).toNat else min (-1 : Int).toNat (a :: (l ++ [b])).length) = _
    rw [if_pos (by decide), List.length_cons, List.length_append, List.length_singleton]; omega
  rw [a1, a2]
  show (l ++ [b]).take (l.length + 1 - 1) = l
  rw [Nat.add_sub_cancel, List.take_append_of_le_length (Nat.le_refl _), List.take_of_length_le (Nat.le_refl _)]
theorem last_ix {α : Type} (a : α) (l : List α) (b : α) : ixR (a :: (l ++ [b])) (-(1 : Int)) = .ok b := by
  have h : (a :: (l ++ [b])).length = l.length + 2 := by rw [List.length_cons, List.length_append, List.length_singleton]
  have hn : ixN (a :: (l ++ [b])).length (-(1 : Int)) = some (l.length + 1) := by
    unfold ixN
    rw [if_neg (by decide), if_pos (by rw [h]; omega), h]
    congr 1
    omega
  unfold ixR atI
  rw [hn]
  show R.ofO ((l ++ [b])[l.length]?) = _
  rw [List.getElem?_append_right (Nat.le_refl _), Nat.sub_self]
  rfl
section
variable {n : Nat} {D : List Int}
theorem txt_len {ts : List (Int × Int)} (n8 : n ≤ 8) (tl : ts.length ≤ 17) (hf : ∀ t ∈ ts, Fit n t) (dl : D.length ≤ 8) (db : ∀ x ∈ D, bits x ≤ 200) : (txtR (n : Int) ts D).length ≤ 1000000 := by
  have h := rows_len n8 tl hf dl db
  have go : ∀ (l : List Str) (acc : Array Nat), (∀ y ∈ l, y.length ≤ 10000) → (l.foldl (fun acc p => acc ++ (Str.ofString "\n").cps ++ p.cps) acc).size ≤ acc.size + 10001 * l.length := by
    intro l
    induction l with
    | nil => intro acc _; exact Nat.le_add_right _ _
    | cons y l ih =>
      intro acc hl
      rw [List.foldl_cons, List.length_cons]
      have h1 := ih (acc ++ (Str.ofString "\n").cps ++ y.cps) fun z hz => hl z (List.mem_cons_of_mem _ hz)
      rw [Array.size_append, Array.size_append] at h1
      have h2 : y.cps.size ≤ 10000 := hl y List.mem_cons_self
      have h3 : (Str.ofString "\n").cps.size = 1 := by decide +kernel
      omega
  have e : (txtR (n : Int) ts D).length = ((ts.map (fun t => rowS (Str.ofString "tie") [t.1, t.2]) ++ [rowS (Str.ofString "has") D]).foldl (fun acc p => acc ++ (Str.ofString "\n").cps ++ p.cps) (rowS (Str.ofString "houses") [(n : Int)]).cps).size := rfl
  rw [e]
  refine Nat.le_trans (go _ _ fun y hy => h y ?_) ?_
  · rw [List.append_assoc]; exact List.mem_append_right _ hy
  · have h0 : (rowS (Str.ofString "houses") [(n : Int)]).cps.size ≤ 10000 := h _ (by rw [List.append_assoc]; exact List.mem_append_left _ List.mem_cons_self)
    rw [List.length_append, List.length_map, List.length_singleton]
    omega
end
/-! ### k67: there and back -/
abbrev P59 : Int := (10 : Int) ^ (59 : Int).toNat
theorem p59_pos : (0 : Int) < P59 := by decide +kernel
theorem number59 (x : Int) : Wp (fun r => r.natAbs ≤ P59.natAbs) (fun _ => False) (m_law_number (x, ())) := by
  unfold m_law_number
  dsimp only
  have p59 : bits P59 ≤ 197 := by decide +kernel
  have b2 : bits (2 : Int) ≤ 2 := by decide +kernel
  have pp := p59_pos
  refine px_bind <| px_bind <| px_bind <| px_pow (by decide) (by decide +kernel) <| px_mul (by show bits (2 : Int) + bits P59 ≤ _; omega) <| px_modP (by show (0 : Int) < 2 * P59; omega) fun v v0 v1 => ?_
  have v1 : v < 2 * P59 := v1
  refine px_bind <| px_bind <| px_pow (by decide) (by decide +kernel) <| px_ok <| px_bind <| Wp.imp (A := fun r : Int => r.natAbs ≤ P59.natAbs) (px_ite (fun c => ?_) fun c => ?_) fun r hr => px_ok hr
  · have c : P59 ≤ v := of_decide_eq_true c
    refine px_bind <| px_bind <| px_bind <| px_pow (by decide) (by decide +kernel) <| px_mul (by show bits (2 : Int) + bits P59 ≤ _; omega) <| px_ok <| px_ok ?_
    show (v - 2 * P59).natAbs ≤ P59.natAbs
    omega
  · have c : ¬ P59 ≤ v := of_decide_eq_false c
    exact px_ok (by omega)
theorem n59_bits {x : Int} (h : x.natAbs ≤ P59.natAbs) : bits x ≤ 200 := bits_le (Nat.lt_of_le_of_lt h (by decide +kernel))
theorem gathered59 {cells : List Int} (cl : cells.length ≤ 1000) (hb : ∀ z ∈ cells, bits z ≤ 1048576) {n : Nat} (h1 : 1 ≤ n) (h8 : n ≤ 8) : Wp (fun l => l.length = n ∧ ∀ x ∈ l, x.natAbs ≤ P59.natAbs) (fun _ => False) (m_law_gathered (cells, (n : Int), ())) := by
  unfold m_law_gathered
  dsimp only
  refine px_bind (px_eq (repR_ok (by omega) (by omega) (by simp; omega)) (px_bind (px_rg (by omega) (by omega) (by omega) (by omega) (px_bind ?_))))
  refine px_rng (fun _ (s : List Int) => s.length = n ∧ ∀ x ∈ s, x.natAbs ≤ P59.natAbs) (by omega) ?_ (fun k k0 k1 s hs => ?_) (fun s hs => px_ok hs)
  · rw [flat_one0]
    refine ⟨by simp, fun x hx => ?_⟩
    rw [(List.mem_replicate.mp hx).2]; exact Nat.zero_le _
  · obtain ⟨s1, s2⟩ := hs
    have g := fmod_bounds k (show (0 : Int) < n by omega)
    have b1 := n59_bits (s2 _ (gt_mem (l := s) (i := k.fmod n) 0 g.1 (by omega)))
    refine px_bind (px_mod (by omega) ?_)
    (repeat (first | with_reducible refine px_bind ?_ | with_reducible refine px_ok ?_ | with_reducible refine px_mod (by decide) ?_ | with_reducible refine px_div (by decide) (by decide +kernel) ?_ | with_reducible refine px_pow (by decide) (by decide +kernel) ?_))
    refine px_eq (ixR_gt 0 g.1 (by omega)) ?_
    refine px_mul (by have := (show bits (10007 : Int) ≤ 14 by decide +kernel); omega) ?_
    (repeat (first | with_reducible refine px_bind ?_ | with_reducible refine px_ok ?_ | with_reducible refine px_mod (by decide) ?_ | with_reducible refine px_div (by decide) (by decide +kernel) ?_ | with_reducible refine px_pow (by decide) (by decide +kernel) ?_))
    refine px_eq (ixR_gt 0 k0 (by omega)) ?_
    (repeat (first | with_reducible refine px_bind ?_ | with_reducible refine px_ok ?_ | with_reducible refine px_mod (by decide) ?_ | with_reducible refine px_div (by decide) (by decide +kernel) ?_ | with_reducible refine px_pow (by decide) (by decide +kernel) ?_))
    refine (number59 _).imp fun r hr => ?_
    refine px_bind (px_eq (setR_gt g.1 (by omega) _) (px_ok ⟨by rw [List.length_set]; exact s1, fun x hx => ?_⟩))
    rcases List.mem_or_eq_of_mem_set hx with q | q
    · exact s2 x q
    · rw [q]; exact hr
/-! ties turned, moved about -/
/-! ### houses that are come to; heads; in one piece or not -/
/-- a house to which one comes from house 0 -/
def Rch (ties : List (Int × Int)) (h : Int) : Prop := ∀ P : Int → Prop, P 0 → (∀ t ∈ ties, P t.1 ↔ P t.2) → P h
theorem Rch.tie {ties : List (Int × Int)} {t : Int × Int} (ht : t ∈ ties) : Rch ties t.1 ↔ Rch ties t.2 :=
  ⟨fun h P p0 c => (c t ht).mp (h P p0 c), fun h P p0 c => (c t ht).mpr (h P p0 c)⟩
theorem con_rch {n : Int} {ties : List (Int × Int)} : Con n ties ↔ ∀ h, 0 ≤ h → h < n → Rch ties h :=
  ⟨fun c h h0 h1 P p0 hP => c P p0 hP h h0 h1, fun c P p0 hP h h0 h1 => c h h0 h1 P p0 hP⟩
theorem set_true {xs : List Bool} {i k : Nat} (h : (xs.set i true)[k]? = some true) : k = i ∨ xs[k]? = some true := by
  by_cases e : i = k
  · exact .inl e.symm
  · rw [List.getElem?_set_ne e] at h; exact .inr h
theorem reach_sound {n : Nat} {ties : List (Int × Int)} (hf : ∀ t ∈ ties, Fit n t) (s0 : List Bool) (hl : s0.length = n) (hs : ∀ i : Nat, s0[i]? = some true → Rch ties i)
    {bd : (Int × Int) → List Bool × Bool → R (List Bool × Bool)}
    (hbd : ∀ t s, bd t s = ((ixR s.1 t.1).bind fun x => (ixR s.1 t.2).bind fun y => .ok (!pyEq x y)).bind fun c => R.bind (if c = true then ((setR s.1 t.1 true).bind fun y104 => ((setR y104 t.2 true).bind fun y105 => .ok (y105, true))) else (.ok (s.1, s.2))) fun s' : List Bool × Bool => (.ok (s'.1, s'.2))) :
    ∃ s, forR bd ties (s0, false) = .ok s ∧ ∀ i : Nat, s.1[i]? = some true → Rch ties i := by
  refine px_get (px_for (fun _ (s : List Bool × Bool) => s.1.length = n ∧ ∀ i : Nat, s.1[i]? = some true → Rch ties i) ⟨hl, hs⟩ (fun ys t zs e s ⟨i1, i2⟩ => ?_) fun s i => i.2)
  have ht : t ∈ ties := by rw [e]; exact List.mem_append_right _ List.mem_cons_self
  obtain ⟨f1, f2, f3, f4, f5⟩ := hf t ht
  have a1 : t.1.toNat < s.1.length := by omega
  have a2 : t.2.toNat < s.1.length := by omega
  rw [hbd]
  refine px_bind <| px_bind <| px_eq (ixR_int f2 (List.getElem?_eq_getElem a1)) <| px_bind <| px_eq (ixR_int f3 (List.getElem?_eq_getElem a2)) <| px_ok <| px_bind ?_
  rw [pyEq_dec]
  by_cases q : s.1[t.1.toNat] = s.1[t.2.toNat]
  · rw [decide_eq_true q]
    exact px_ite (fun c => by cases c) fun _ => px_ok <| px_ok ⟨i1, i2⟩
  · rw [decide_eq_false q]
    refine px_ite (fun _ => px_bind <| px_eq (setR_gt f2 (by omega) _) <| px_bind <| px_eq (setR_gt f3 (by rw [List.length_set]; omega) _) <| px_ok <| px_ok ⟨by rw [List.length_set, List.length_set]; exact i1, fun k hk => ?_⟩) fun c => by cases c
    have both : Rch ties t.1 ∧ Rch ties t.2 := by
      cases q1 : s.1[t.1.toNat] with
      | true =>
        have r := i2 t.1.toNat (by rw [List.getElem?_eq_getElem a1, q1])
        rw [Int.toNat_of_nonneg f2] at r
        exact ⟨r, (Rch.tie ht).mp r⟩
      | false =>
        have q2 : s.1[t.2.toNat] = true := by
          cases q2 : s.1[t.2.toNat] with
          | true => rfl
          | false => exact absurd (q1.trans q2.symm) q
        have r := i2 t.2.toNat (by rw [List.getElem?_eq_getElem a2, q2])
        rw [Int.toNat_of_nonneg f3] at r
        exact ⟨(Rch.tie ht).mpr r, r⟩
    rcases set_true hk with z | hk
    · rw [z, Int.toNat_of_nonneg f3]; exact both.2
    · rcases set_true hk with z | hk
      · rw [z, Int.toNat_of_nonneg f2]; exact both.1
      · exact i2 k hk
/-- as many houses are come to as there are, just where the web is in one piece -/
theorem reached_iff {n : Nat} {ties : List (Int × Int)} (h1 : 1 ≤ n) (h8 : n ≤ 8) (hf : ∀ t ∈ ties, Fit n t) : ∃ L, m_reached ((n : Int), ties, ()) = .ok L ∧ L.length ≤ n ∧ (L.length = n ↔ Con n ties) := by
  refine px_get ?_
  unfold m_reached
  dsimp only
  refine px_bind <| px_bind <| px_rg (by omega) (by omega) (by omega) (by omega) <| px_map (h := fun i => pyEq i 0) (by rw [rangeL_len]; omega) (fun _ _ => rfl) <| px_bind <| px_ok <| px_bind ?_
  refine px_while (fun s : List Bool × Bool => s.1.length = n ∧ s.1[0]? = some true ∧ (∀ i : Nat, s.1[i]? = some true → Rch ties i) ∧ (s.2 = false → ∀ t ∈ ties, s.1[t.1.toNat]? = s.1[t.2.toNat]?)) (fun s => 2 * fls s.1 + if s.2 = true then 1 else 0) ?_ ?_ fun s ⟨i1, i2, i3, i4⟩ => px_ok ⟨fun hs => px_bind <| px_ok <| px_bind ?_, fun hs => px_bind ?_⟩
  · refine ⟨by rw [List.length_map, rangeL_len]; omega, ?_, fun i hi => ?_, fun z => by cases z⟩
    · show ((rangeL 0 (n : Int)).map (fun i => pyEq i 0))[0]? = some true
      rw [rangeL_eq, List.getElem?_map, List.getElem?_map, List.getElem?_range (by omega)]
      show some (pyEq (0 : Int) 0) = some true
      rw [pyEq_refl]
    · have hi : ((rangeL 0 (n : Int)).map (fun i => pyEq i 0))[i]? = some true := hi
      rw [List.getElem?_map] at hi
      obtain ⟨x, hx, e⟩ := Option.map_eq_some_iff.mp hi
      have e0 : x = 0 := (pyEq_q _ _).mp e
      have : i < n := by
        have := (List.getElem?_eq_some_iff.mp hx).1
        rw [rangeL_len] at this
        omega
      rw [rangeL_get (by omega)] at hx
      have : (i : Int) = 0 := by have := Option.some.inj hx; omega
      rw [this]
      exact fun P p0 _ => p0
  · refine Nat.lt_of_lt_of_le (m := 1000000) ?_ (show 1000000 ≤ fuel by decide)
    show 2 * fls ((rangeL 0 (n : Int)).map (fun i => pyEq i 0)) + (if true = true then 1 else 0) < 1000000
    have : fls ((rangeL 0 (n : Int)).map (fun i => pyEq i 0)) ≤ ((rangeL 0 (n : Int)).map (fun i => pyEq i 0)).length := List.count_le_length
    rw [List.length_map, rangeL_len] at this
    rw [if_pos rfl]
    omega
  · obtain ⟨s', e, j1, j2, j3, j4⟩ := reach_turn hf s.1 i1 i2 (fun t s => rfl)
    obtain ⟨s2, e2, k1⟩ := reach_sound hf s.1 i1 i3 (fun t s => rfl)
    have es : s2 = s' := R.ok.inj (e2.symm.trans e)
    subst es
    refine px_eq e2 <| px_ok ⟨⟨j1, j2, k1, fun z => ?_⟩, ?_⟩
    · obtain ⟨k1, k2⟩ := j4 z
      rw [k1]; exact k2
    · rw [hs, if_pos rfl]
      cases q : s2.2 with
      | true =>
        have := j3 q
        show 2 * fls s2.1 + (if true = true then 1 else 0) < _
        rw [if_pos rfl]; omega
      | false =>
        obtain ⟨k1, _⟩ := j4 q
        show 2 * fls s2.1 + (if false = true then 1 else 0) < _
        rw [k1, if_neg (by decide)]; omega
  · refine px_bind <| px_rg (by omega) (by omega) (by omega) (by omega) <| px_filt (fun h => decide (s.1[h.toNat]? = some true)) (by rw [rangeL_len]; omega) (fun h hh => ?_) <| px_ok ⟨?_, ?_⟩
    · obtain ⟨g1, g2⟩ := mem_rangeL hh
      have a : h.toNat < s.1.length := by omega
      rw [ixR_int g1 (List.getElem?_eq_getElem a), List.getElem?_eq_getElem a]
      cases s.1[h.toNat] <;> rfl
    · have := List.length_filter_le (fun h : Int => decide (s.1[h.toNat]? = some true)) (rangeL 0 (n : Int))
      rw [rangeL_len] at this
      omega
    · have cl := i4 hs
      constructor
      · intro el
        refine con_rch.mpr fun h h0 h1 => ?_
        have e : (rangeL 0 (n : Int)).filter (fun h => decide (s.1[h.toNat]? = some true)) = rangeL 0 (n : Int) := List.Sublist.eq_of_length List.filter_sublist (by rw [el, rangeL_len]; omega)
        have m : h ∈ (rangeL 0 (n : Int)).filter (fun h => decide (s.1[h.toNat]? = some true)) := by rw [e]; exact mem_rangeL' h0 h1
        have r := i3 h.toNat (of_decide_eq_true (List.mem_filter.mp m).2)
        rw [Int.toNat_of_nonneg h0] at r
        exact r
      · intro c
        have al : ∀ h : Int, 0 ≤ h → h < n → s.1[h.toNat]? = some true := c (fun h => s.1[h.toNat]? = some true) i2 fun t ht => by rw [cl t ht]
        rw [List.filter_eq_self.mpr fun h hh => decide_eq_true (al h (mem_rangeL hh).1 (mem_rangeL hh).2), rangeL_len]
        omega
/-! heads -/
theorem dedup_any (l : List Int) (x : Int) : (l.any fun y => y == x) = decide (x ∈ l) := by
  rw [Bool.eq_iff_iff, List.any_eq_true, decide_eq_true_iff]
  exact ⟨fun ⟨y, hy, e⟩ => by rw [← beq_iff_eq.mp e]; exact hy, fun h => ⟨x, h, beq_self_eq_true x⟩⟩
theorem dedup_mem : ∀ (l acc : List Int) (x : Int), x ∈ l.foldl step_dedup acc ↔ x ∈ acc ∨ x ∈ l
  | [], acc, x => by simp
  | y :: l, acc, x => by
    rw [List.foldl_cons, dedup_mem l, List.mem_cons]
    unfold step_dedup
    rw [dedup_any]
    by_cases h : y ∈ acc
    · rw [if_pos (decide_eq_true h)]
      exact ⟨fun z => z.imp id .inr, fun z => z.elim .inl fun z => z.elim (fun e => .inl (by rw [e]; exact h)) .inr⟩
    · rw [if_neg (by rw [decide_eq_false h]; decide), List.mem_append, List.mem_singleton]
      exact ⟨fun z => z.elim (fun z => z.elim .inl fun e => .inr (.inl e)) fun z => .inr (.inr z), fun z => z.elim (fun z => .inl (.inl z)) fun z => z.elim (fun e => .inl (.inr e)) .inr⟩
theorem dedup_nd : ∀ (l acc : List Int), acc.Nodup → (l.foldl step_dedup acc).Nodup
  | [], acc, h => h
  | y :: l, acc, h => by
    rw [List.foldl_cons]
    refine dedup_nd l _ ?_
    unfold step_dedup
    rw [dedup_any]
    by_cases c : y ∈ acc
    · rw [if_pos (decide_eq_true c)]; exact h
    · rw [if_neg (by rw [decide_eq_false c]; decide)]
      exact List.nodup_append.mpr ⟨h, List.nodup_cons.mpr ⟨List.not_mem_nil, List.nodup_nil⟩, fun a ha b hb e => c (by rw [List.mem_singleton.mp hb] at e; rw [← e]; exact ha)⟩
theorem setLen_one {l : List Int} : setLen l = 1 ↔ ∃ a, a ∈ l ∧ ∀ x ∈ l, x = a := by
  unfold setLen
  have m := dedup_mem l []
  have nd := dedup_nd l [] List.nodup_nil
  generalize l.foldl step_dedup [] = d at m nd
  constructor
  · intro h
    obtain ⟨a, rfl⟩ := List.length_eq_one_iff.mp h
    exact ⟨a, ((m a).mp List.mem_cons_self).elim (fun z => by cases z) id, fun x hx => List.mem_singleton.mp ((m x).mpr (.inr hx))⟩
  · rintro ⟨a, ha, hx⟩
    cases d with
    | nil => exact absurd ((m a).mpr (.inr ha)) List.not_mem_nil
    | cons b d =>
      cases d with
      | nil => rfl
      | cons c d =>
        have e1 : b = a := hx b (((m b).mp List.mem_cons_self).elim (fun z => by cases z) id)
        have e2 : c = a := hx c (((m c).mp (List.mem_cons_of_mem _ List.mem_cons_self)).elim (fun z => by cases z) id)
        exact absurd (by rw [e1, e2]; exact List.mem_cons_self) (List.nodup_cons.mp nd).1
/-- two houses between which one comes by ties -/
def Joined (ties : List (Int × Int)) (x y : Int) : Prop := ∀ P : Int → Prop, (∀ t ∈ ties, P t.1 ↔ P t.2) → (P x ↔ P y)
/-- heads behind some of the ties -/
structure Hds (n : Nat) (ties ys : List (Int × Int)) (s : List Int) : Prop where
  len : s.length = n
  cl : ∀ t ∈ ys, gt s t.1 0 = gt s t.2 0
  so : ∀ x y : Int, 0 ≤ x → x < n → 0 ≤ y → y < n → gt s x 0 = gt s y 0 → Joined ties x y
theorem Hds.one {n : Nat} {ties : List (Int × Int)} {s : List Int} (h1 : 1 ≤ n) (hf : ∀ t ∈ ties, Fit n t) (H : Hds n ties ties s) : setLen s = 1 ↔ Con n ties := by
  have sl := H.len
  rw [setLen_one]
  constructor
  · rintro ⟨a, _, ha⟩ P p0 hP h h0 h1'
    have e : ∀ x : Int, 0 ≤ x → x < n → gt s x 0 = a := fun x x0 x1 => ha _ (gt_mem 0 x0 (by omega))
    exact (H.so 0 h (by omega) (by omega) h0 h1' ((e 0 (by omega) (by omega)).trans (e h h0 h1').symm) P hP).mp p0
  · intro c
    refine ⟨gt s 0 0, gt_mem 0 (by omega) (by omega), fun x hx => ?_⟩
    obtain ⟨k, hk, e⟩ := List.getElem_of_mem hx
    have := c (fun h => gt s h 0 = gt s 0 0) rfl (fun t ht => by rw [H.cl t ht]) (k : Int) (by omega) (by omega)
    rw [← this, ← e]
    exact (gt_some (List.getElem?_eq_getElem hk)).symm
/-! ### webs made or refused -/
def GoodW (h : Int) (ties : List (Int × Int)) : Prop := 1 ≤ h ∧ h ≤ 8 ∧ ties.length ≤ 16 ∧ ∀ t ∈ ties, Fit h t
theorem tie_fits_dec (n : Int) (t : Int × Int) : Wp (fun b : Bool => b = true ↔ Fit n t) (fun _ => False) (m_tie_fits (n, t, ())) := by
  unfold m_tie_fits
  dsimp only
  refine px_bind ?_
  rw [pyEq_dec]
  by_cases q : t.1 = t.2
  · rw [decide_eq_true q]
    exact px_ite (fun c => by cases c) fun _ => px_ok <| px_ok ⟨fun c => (by cases c), fun f => absurd q f.1⟩
  · rw [decide_eq_false q]
    refine px_ite (fun _ => px_ite (fun c => px_ok <| px_ok ?_) fun c => px_ok <| px_ok ?_) fun c => by cases c
    · have c := of_decide_eq_true c
      rw [decide_eq_true_iff]
      exact ⟨fun d => ⟨q, by omega, by omega, by omega, by omega⟩, fun f => by obtain ⟨_, f2, f3, f4, f5⟩ := f; omega⟩
    · have c := of_decide_eq_false c
      exact ⟨fun d => (by cases d), fun f => by obtain ⟨_, f2, f3, f4, f5⟩ := f; omega⟩
theorem made_gen (h : Int) (ties : List (Int × Int)) : Wp (fun w => GoodW h ties ∧ Con h ties ∧ w = (h, ⟨sortP (ties.map mm)⟩)) (fun c => (c = .badWeb ∧ ¬ GoodW h ties) ∨ (c = .parted ∧ GoodW h ties ∧ ¬ Con h ties)) (m_made (h, ties, ())) := by
  have start : Wp (fun b : Bool => b = false ↔ 1 ≤ h ∧ h ≤ 8 ∧ ties.length ≤ 16) (fun _ => False) (if (decide (h < (1 : Int))) = true then R.ok true else (if (decide ((8 : Int) < h)) = true then R.ok true else (R.ok (decide ((16 : Int) < (ties.length : Int)))))) := by
    refine px_ite (fun c => px_ok ?_) fun c => px_ite (fun d => px_ok ?_) fun d => px_ok ?_
    · have c := of_decide_eq_true c
      exact ⟨fun z => (by cases z), fun z => by omega⟩
    · have d := of_decide_eq_true d
      exact ⟨fun z => (by cases z), fun z => by omega⟩
    · have c := of_decide_eq_false c
      have d := of_decide_eq_false d
      rw [decide_eq_false_iff_not]
      omega
  unfold m_made
  dsimp only
  refine px_bind (start.mono (fun b hb => ?_) fun _ z => z.elim)
  refine px_ite (fun c => px_exc (.inl ⟨rfl, fun g => ?_⟩)) fun c => ?_
  · rw [hb.mpr ⟨g.1, g.2.1, g.2.2.1⟩] at c; cases c
  · obtain ⟨g1, g2, g3⟩ := hb.mp c
    refine px_bind <| px_for (fun ys _ => ∀ t ∈ ys, Fit h t) (fun t ht => by cases ht) (fun ys t zs e s hs => ?_) fun s hf => ?_
    · refine px_bind <| px_bind <| (tie_fits_dec h t).mono (fun b hb => px_ok ?_) fun _ z => z.elim
      cases b with
      | true =>
        refine px_ite (fun c => by cases c) fun _ => px_ok fun u hu => ?_
        rcases List.mem_append.mp hu with hu | hu
        · exact hs u hu
        · rw [List.mem_singleton.mp hu]; exact hb.mp rfl
      | false =>
        refine px_ite (fun _ => px_exc (.inl ⟨rfl, fun g => ?_⟩)) fun c => by cases c
        have := hb.mpr (g.2.2.2 t (by rw [e]; exact List.mem_append_right _ List.mem_cons_self))
        cases this
    · obtain ⟨n, rfl⟩ := Int.eq_ofNat_of_zero_le (show 0 ≤ h by omega)
      obtain ⟨L, eL, l1, l2⟩ := reached_iff (n := n) (by omega) (by omega) hf
      refine px_bind <| px_bind <| px_bind <| px_eq eL <| px_ok <| px_ok ?_
      by_cases c : Con n ties
      · rw [decide_eq_false (by have := l2.mpr c; omega)]
        refine px_ite (fun c => by cases c) fun _ => px_bind <| px_bind <| px_bind <| px_bind <| px_bind <| px_bind <| px_map (h := mm) (by omega) (fun _ _ => rfl) <| px_ok <| px_ok <| px_ok <| px_ok <| px_ok <| px_ok ⟨⟨g1, g2, g3, hf⟩, c, rfl⟩
      · rw [decide_eq_true (by
          have : L.length ≠ n := fun z => c (l2.mp z)
          omega)]
        exact px_ite (fun _ => px_exc (.inr ⟨rfl, ⟨g1, g2, g3, hf⟩, c⟩)) fun c => by cases c
/-! ### the law's own reading of a number -/
theorem forM_figs {O : Type} {o : O} {X : Exc → Prop} {A : O → Prop} {I : Unit → Prop} : ∀ {l : List Nat}, (l.all isD = true → I ()) → (l.all isD = false → A o) → Wp (CtP A I) X (forM (fun y (_ : Unit) => (((((inStr y ("0123456789" : PySem.Str)).bind fun b => .ok (!b)) : R Bool).bind fun c102 => if c102 = true then (.ok (.rt o)) else (.ok (.nx ())))) : Str → Unit → R (Ct Unit O)) (l.map sgn) ())
  | [], h, _ => px_nx (h rfl)
  | c :: r, h1, h2 => by
    have ih := fun a b => forM_figs (O := O) (o := o) (X := X) (A := A) (I := I) (l := r) a b
    show Wp _ _ (R.bind _ _)
    refine px_bind <| px_bind <| px_bind <| px_eq (in_figs c) <| px_ok ?_
    cases hc : isD c
    · refine px_ite (fun _ => px_ok ?_) fun z => by cases z
      exact px_rt (h2 (by rw [List.all_cons, hc]; rfl))
    · refine px_ite (fun z => by cases z) fun _ => px_ok ?_
      exact ih (fun z => h1 (by rw [List.all_cons, hc, z]; rfl)) fun z => h2 (by rw [List.all_cons, hc, z]; rfl)
theorem due_ok {x : Str} (hx : x.length ≤ 16777216) {most : Nat} (hm : most ≤ 4000) {X : Exc → Prop} : Wp (fun r => r = if okNum most (TL.tl x) = true then some (valNum (TL.tl x)) else none) X (m_law_due_number (x, (most : Int), ())) := by
  have xl : (TL.tl x).length = x.length := (TL.len_tl x).symm
  unfold m_law_due_number
  dsimp only
  refine px_bind <| px_ok <| px_bind <| px_bind <| px_eq (sl_ok hx _ _) <| px_ok <| px_bind <| Wp.imp (A := fun y : Str => TL.tl y = figs (TL.tl x)) (px_ite (fun c => ?_) fun c => ?_) fun y hy => ?_
  · rw [txt_eq, tl_cut, tl_dash, cut_first, decide_eq_true_iff] at c
    refine px_bind <| px_eq (sl_ok hx _ _) <| px_ok ?_
    rw [tl_cut, cut_rest]
    cases hl : TL.tl x with
    | nil => rw [hl] at c; cases c
    | cons d r =>
      rw [hl] at c
      have : d = 45 := by simpa using c
      subst this
      rfl
  · rw [txt_eq, tl_cut, tl_dash, cut_first, decide_eq_false_iff_not] at c
    refine px_ok ?_
    cases hl : TL.tl x with
    | nil => rfl
    | cons d r =>
      rw [hl] at c
      exact (figs_cons fun e => c (by rw [e]; rfl)).symm
  have fl : (figs (TL.tl x)).length ≤ x.length ∧ x.length ≤ (figs (TL.tl x)).length + 1 := by
    cases hl : TL.tl x with
    | nil => rw [hl] at xl; exact ⟨by show 0 ≤ _; omega, by rw [← xl]; exact Nat.zero_le _⟩
    | cons d r =>
      rw [hl, List.length_cons] at xl
      by_cases q : d = 45
      · subst q
        show r.length ≤ _ ∧ _ ≤ r.length + 1
        omega
      · rw [figs_cons q, List.length_cons]; omega
  have yl : y.length = (figs (TL.tl x)).length := by rw [TL.len_tl, hy]
  have ynil : pyEq y ("" : Str) = (figs (TL.tl x)).isEmpty := by
    rw [txt_eq, hy, tl_none]
    cases figs (TL.tl x) <;> rfl
  refine px_bind <| Wp.imp (A := fun b : Bool => b = ((figs (TL.tl x)).isEmpty || decide (most < (figs (TL.tl x)).length))) ?_ fun b hb => ?_
  · rw [ynil]
    refine px_ite (fun c => px_ok (by rw [c]; rfl)) fun c => ?_
    refine px_bind <| px_eq (lenS_ok (by omega)) <| px_ok ?_
    rw [c, Bool.false_or, decide_eq_decide, yl]
    omega
  subst hb
  refine px_ite (fun c => px_ok ?_) fun c => ?_
  · rw [if_neg]
    intro o
    obtain ⟨o1, o2⟩ := okNum_len o
    rw [Bool.or_eq_true, decide_eq_true_iff] at c
    rcases c with c | c
    · exact o2 (List.isEmpty_iff.mp c)
    · omega
  rw [Bool.or_eq_false_iff, decide_eq_false_iff_not] at c
  have ok1 : okNum most (TL.tl x) = ((figs (TL.tl x)).all isD && !((figs (TL.tl x)).head? == some 48 && !(TL.tl x == [48]))) := by
    unfold okNum
    rw [c.1, decide_eq_true (by omega : (figs (TL.tl x)).length ≤ most), Bool.true_and]; rfl
  refine px_ct ?_
  unfold signs
  have hy' : y.cps.toList = figs (TL.tl x) := hy
  rw [hy']
  refine forM_figs (fun ha => ?_) fun ha => by rw [ok1, ha]; rfl
  rw [ha, Bool.true_and] at ok1
  have hne : figs (TL.tl x) ≠ [] := fun e => by rw [e] at c; cases c.1
  obtain ⟨d, r, hf⟩ : ∃ d r, figs (TL.tl x) = d :: r := by
    cases hh : figs (TL.tl x) with
    | nil => exact absurd hh hne
    | cons d r => exact ⟨d, r, rfl⟩
  have e1 : pyEq (sgn d) ("0" : Str) = ((figs (TL.tl x)).head? == some 48) := by
    rw [txt_eq, tl_sgn, tl_zero, hf, head_dec, decide_eq_decide, List.head?_cons]
    simp
  have e2 : pyEq x ("0" : Str) = (TL.tl x == [48]) := by
    rw [txt_eq, tl_zero, Bool.eq_iff_iff, decide_eq_true_iff, beq_iff_eq]
  refine px_bind <| px_bind <| px_bind <| px_eq (ix0_ok (by omega) (hy.trans hf)) <| px_ok ?_
  rw [e1, e2]
  refine Wp.imp (A := fun b : Bool => b = ((figs (TL.tl x)).head? == some 48 && !(TL.tl x == [48]))) (px_ite (fun z => px_ok (by rw [z]; rfl)) fun z => px_ok (by rw [z]; rfl)) fun b hb => ?_
  rw [← hb] at ok1
  refine px_ite (fun z => px_ok (by rw [ok1, z]; rfl)) fun z => ?_
  refine px_bind <| px_bind <| px_eq (int_ok (by omega) hne ha) <| px_ok <| px_ok ?_
  rw [ok1, z]; rfl
/-! ### k68: texts refused -/
theorem od_full68 {n : Nat} {r : List Int} (nd : r.Nodup) (rg : ∀ x ∈ r, 0 ≤ x ∧ x < (n : Int)) (hl : r.length = n) : Od n r := by
  refine ⟨nd, rg, fun x x0 x1 => Classical.byContradiction fun z => ?_⟩
  have := nodup_le (n := n) (r := x :: r) (List.nodup_cons.mpr ⟨z, nd⟩) fun y hy => by
    rcases List.mem_cons.mp hy with e | e
    · rw [e]; exact ⟨x0, x1⟩
    · exact rg y e
  rw [List.length_cons] at this
  omega
theorem subLen68 {α : Type} [DecidableEq α] : ∀ {l r : List α}, r.Nodup → l.Nodup → (∀ x ∈ l, x ∈ r) → l.length ≤ r.length
  | [], _, _, _, _ => Nat.zero_le _
  | a :: l, r, nd, nd2, hs => by
    obtain ⟨n1, n2⟩ := List.nodup_cons.mp nd2
    have ha := hs a List.mem_cons_self
    have := subLen68 (l := l) (r := r.erase a) (nd.erase a) n2 fun x hx => (List.Nodup.mem_erase_iff nd).mpr ⟨fun e => n1 (e ▸ hx), hs x (List.mem_cons_of_mem _ hx)⟩
    rw [List.length_erase_of_mem ha] at this
    have pos : 0 < r.length := List.length_pos_of_mem ha
    rw [List.length_cons]
    omega
theorem twoO_map : ∀ ts : List (Int × Int), twoO (ts.map fun t => [t.1, t.2]) = some (ts.map fun t => Lw.mk t.1 t.2)
  | [] => rfl
  | t :: r => by
    show (twoO (r.map fun t => [t.1, t.2])).map _ = _
    rw [twoO_map r]; rfl
/-- houses come to so far -/
structure Nea (n : Nat) (ts : List (Int × Int)) (s : List Int) : Prop where
  nd : s.Nodup
  z : (0 : Int) ∈ s
  rg : ∀ x ∈ s, 0 ≤ x ∧ x < (n : Int)
  rc : ∀ x ∈ s, Rch ts x
def Clo (ts : List (Int × Int)) (s : List Int) : Prop := ∀ t ∈ ts, t.1 ∈ s ↔ t.2 ∈ s
theorem piece_ok {n : Nat} {ts : List (Int × Int)} (n1 : 1 ≤ n) (n8 : n ≤ 8) (tl : ts.length ≤ 16) (hf : ∀ t ∈ ts, Fit n t) : Wp (fun b : Bool => b = true ↔ Con n ts) (fun _ => False) (m_law_in_one_piece ((n : Int), ts.map (fun t => [t.1, t.2]), ())) := by
  unfold m_law_in_one_piece
  dsimp only
  rw [twoO_map]
  refine px_bind <| px_ok <| px_bind <| px_rg (by omega) (by omega) (by omega) (by omega) <| px_bind ?_
  refine px_rng (fun k (s : List Int) => Nea n ts s ∧ (Clo ts s ∨ k + 1 ≤ s.length)) (by omega) ⟨⟨List.nodup_cons.mpr ⟨List.not_mem_nil, List.nodup_nil⟩, List.mem_cons_self, fun x hx => by rw [List.mem_singleton.mp hx]; omega, fun x hx => by rw [List.mem_singleton.mp hx]; exact fun P p0 _ => p0⟩, .inr (by show (0 : Int) + 1 ≤ ((1 : Nat) : Int); omega)⟩ (fun k k0 k1 s hs => ?_) fun s hs => px_ok ?_
  · obtain ⟨N, hc⟩ := hs
    refine px_bind <| px_eq (a := ts.map fun t => Lw.mk t.1 t.2) rfl <| px_bind ?_
    refine px_for (fun ys (s' : List Int) => Nea n ts s' ∧ (∃ e, s' = s ++ e) ∧ (s'.length = s.length → ∀ y ∈ ys, y.a ∈ s ↔ y.b ∈ s) ∧ (Clo ts s → s' = s)) ⟨N, ⟨[], by rw [List.append_nil]⟩, (fun _ y hy => by cases hy), fun _ => rfl⟩ (fun ys y zs e s' hs' => ?_) fun s' hs' => px_ok ?_
    · obtain ⟨N', ⟨ex, es⟩, hq, hcl⟩ := hs'
      have hy : y ∈ ts.map fun t => Lw.mk t.1 t.2 := by rw [e]; exact List.mem_append_right _ List.mem_cons_self
      obtain ⟨t, ht, rfl⟩ := List.mem_map.mp hy
      obtain ⟨f1, f2, f3, f4, f5⟩ := hf t ht
      have rt := Rch.tie ht
      have ll := nodup_le N'.nd N'.rg
      have add : ∀ v : Int, v ∉ s' → (v = t.1 ∧ t.2 ∈ s' ∨ v = t.2 ∧ t.1 ∈ s') → Nea n ts (s' ++ [v]) := fun v nv hv => by
        have vr : Rch ts v ∧ 0 ≤ v ∧ v < n := by
          rcases hv with ⟨rfl, h⟩ | ⟨rfl, h⟩
          · exact ⟨rt.mpr (N'.rc _ h), f2, f4⟩
          · exact ⟨rt.mp (N'.rc _ h), f3, f5⟩
        refine ⟨List.nodup_append.mpr ⟨N'.nd, List.nodup_cons.mpr ⟨List.not_mem_nil, List.nodup_nil⟩, fun a ha b hb ab => nv (by rw [← List.mem_singleton.mp hb, ← ab]; exact ha)⟩, List.mem_append_left _ N'.z, fun x hx => ?_, fun x hx => ?_⟩
        · rcases List.mem_append.mp hx with h | h
          · exact N'.rg x h
          · rw [List.mem_singleton.mp h]; exact vr.2
        · rcases List.mem_append.mp hx with h | h
          · exact N'.rc x h
          · rw [List.mem_singleton.mp h]; exact vr.1
      have grown : ∀ v : Int, Nea n ts (s' ++ [v]) → ((t.1 ∈ s' ↔ t.2 ∈ s') → False) → Nea n ts (s' ++ [v]) ∧ (∃ e, s' ++ [v] = s ++ e) ∧ ((s' ++ [v]).length = s.length → ∀ y ∈ ys ++ [(Lw.mk t.1 t.2)], y.a ∈ s ↔ y.b ∈ s) ∧ (Clo ts s → s' ++ [v] = s) := fun v hN no => by
        refine ⟨hN, ⟨ex ++ [v], by rw [es, List.append_assoc]⟩, fun z => ?_, fun c => ?_⟩
        · rw [es, List.length_append, List.length_append, List.length_singleton] at z
          omega
        · exact (no (by rw [hcl c]; exact c t ht)).elim
      refine px_bind ?_
      dsimp only
      by_cases c1 : t.1 ∈ s'
      · by_cases c2 : t.2 ∈ s'
        · rw [decide_eq_true c1, decide_eq_true c2, pyEq_refl]
          refine px_ite (fun z => by cases z) fun _ => px_ok <| px_ok ⟨N', ⟨ex, es⟩, fun z y hy => ?_, hcl⟩
          rcases List.mem_append.mp hy with h | h
          · exact hq z y h
          · rw [List.mem_singleton.mp h]
            have : s' = s := by
              have e0 : ex = [] := List.eq_nil_of_length_eq_zero (by rw [es, List.length_append] at z; omega)
              rw [es, e0, List.append_nil]
            rw [← this]
            exact ⟨fun _ => c2, fun _ => c1⟩
        · rw [decide_eq_true c1, decide_eq_false c2, pyEq_false (show (true : Bool) ≠ false by decide)]
          refine px_ite (fun _ => px_bind <| px_bind <| px_ite (fun _ => px_ok <| px_ok <| px_bind <| px_app (by omega) <| px_ok <| px_ok ?_) fun z => by cases z) fun z => by cases z
          rw [show t.1 + t.2 - t.1 = t.2 by omega]
          exact grown _ (add _ c2 (.inr ⟨rfl, c1⟩)) fun i => c2 (i.mp c1)
      · by_cases c2 : t.2 ∈ s'
        · rw [decide_eq_false c1, decide_eq_true c2, pyEq_false (show (false : Bool) ≠ true by decide)]
          refine px_ite (fun _ => px_bind <| px_bind <| px_ite (fun z => by cases z) fun _ => px_ok <| px_ok <| px_bind <| px_app (by omega) <| px_ok <| px_ok ?_) fun z => by cases z
          rw [show t.1 + t.2 - t.2 = t.1 by omega]
          exact grown _ (add _ c1 (.inl ⟨rfl, c2⟩)) fun i => c1 (i.mpr c2)
        · rw [decide_eq_false c1, decide_eq_false c2, pyEq_refl]
          refine px_ite (fun z => by cases z) fun _ => px_ok <| px_ok ⟨N', ⟨ex, es⟩, fun z y hy => ?_, hcl⟩
          rcases List.mem_append.mp hy with h | h
          · exact hq z y h
          · rw [List.mem_singleton.mp h]
            have : s' = s := by
              have e0 : ex = [] := List.eq_nil_of_length_eq_zero (by rw [es, List.length_append] at z; omega)
              rw [es, e0, List.append_nil]
            rw [← this]
            exact ⟨fun z => absurd z c1, fun z => absurd z c2⟩
    · obtain ⟨N', ⟨ex, es⟩, hq, hcl⟩ := hs'
      refine ⟨N', ?_⟩
      by_cases c : s'.length = s.length
      · refine .inl fun t ht => ?_
        have e0 : ex = [] := List.eq_nil_of_length_eq_zero (by rw [es, List.length_append] at c; omega)
        rw [es, e0, List.append_nil]
        exact hq c ⟨t.1, t.2⟩ (List.mem_map.mpr ⟨t, ht, rfl⟩)
      · rcases hc with h | h
        · exact absurd (by rw [hcl h]) c
        · refine .inr ?_
          have : s.length < s'.length := by
            have : s.length ≤ s'.length := by rw [es, List.length_append]; omega
            omega
          omega
  · obtain ⟨N, hc⟩ := hs
    have ll := nodup_le N.nd N.rg
    have cl : Clo ts s := hc.elim id fun z => by omega
    rw [pyEq_dec, decide_eq_true_iff]
    refine ⟨fun h => con_rch.mpr fun x x0 x1 => ?_, fun c => ?_⟩
    · exact N.rc x ((od_full68 N.nd N.rg (by omega)).al x x0 x1)
    · have : (rangeL 0 (n : Int)).length ≤ s.length := subLen68 N.nd (rangeL_nodup 0 (n : Int)) fun x hx => c (fun x => x ∈ s) N.z cl x (mem_rangeL hx).1 (mem_rangeL hx).2
      rw [rl_len] at this
      omega
/-! ### texts cut at one sign -/
theorem pre_one (c x : Nat) (r : List Nat) : TL.pre [c] (x :: r) = decide (x = c) := by
  show ((x :: r).take 1 == [c]) = _
  rw [show (x :: r).take 1 = [x] from rfl]
  by_cases h : x = c
  · rw [h, decide_eq_true rfl]; exact beq_self_eq_true _
  · rw [decide_eq_false h]
    exact beq_eq_false_iff_ne.mpr fun z => h (List.cons.inj z).1
/-- signs of texts, and one more for each -/
def wl (rows : List Str) : Nat := (rows.map fun r => r.length + 1).sum
def wlL (rows : List (List Nat)) : Nat := (rows.map fun r => r.length + 1).sum
theorem spl_wl (c : Nat) : ∀ (l acc : List Nat), wlL (TL.spl [c] 0 acc l) = acc.length + l.length + 1
  | [], acc => by rw [TL.spl_nil]; show acc.length + 1 + 0 = acc.length + 0 + 1; omega
  | x :: r, acc => by
    by_cases h : x = c
    · rw [TL.spl_hit (by rw [pre_one, decide_eq_true h])]
      have := spl_wl c r []
      show acc.length + 1 + wlL (TL.spl [c] 0 [] r) = _
      rw [this, List.length_cons, List.length_nil]; omega
    · rw [TL.spl_miss (by rw [pre_one, decide_eq_false h]), spl_wl c r, List.length_append, List.length_singleton, List.length_cons]; omega
theorem wl_tl (rows : List Str) : wl rows = wlL (rows.map TL.tl) := by
  unfold wl wlL
  rw [List.map_map]
  exact congrArg List.sum (List.map_congr_left fun r _ => by show r.length + 1 = (TL.tl r).length + 1; rw [TL.len_tl])
theorem wl_cons (r : Str) (rows : List Str) : wl (r :: rows) = r.length + 1 + wl rows := rfl
theorem wl_app (a b : List Str) : wl (a ++ b) = wl a + wl b := by
  unfold wl
  rw [List.map_append, List.sum_append]
theorem wl_mem {rows : List Str} {r : Str} (h : r ∈ rows) : r.length + 1 ≤ wl rows := by
  induction rows with
  | nil => cases h
  | cons x t ih =>
    rw [wl_cons]
    rcases List.mem_cons.mp h with e | h
    · rw [e]; omega
    · have := ih h; omega
theorem wl_len : ∀ rows : List Str, rows.length ≤ wl rows
  | [] => Nat.zero_le _
  | r :: t => by rw [wl_cons, List.length_cons]; have := wl_len t; omega
theorem split_any {x sep : Str} {c : Nat} (e : TL.tl sep = [c]) (hk : sep.cps.all (· < 256) = true) (hx : x.length + 2 ≤ 16777216) : ∃ rows, splitS x sep = .ok rows ∧ wl rows = x.length + 1 ∧ rows ≠ [] := by
  have sl : sep.length = 1 := by rw [TL.len_tl, e]; rfl
  have h1 : wl (Txt.split x sep) = x.length + 1 := by
    rw [wl_tl, TL.split_spl x sep (by rw [e]; exact List.cons_ne_nil _ _) (TL.kind_ok hk), e, spl_wl, ← TL.len_tl]
    show 0 + x.length + 1 = _
    omega
  refine ⟨Txt.split x sep, chk_ok ?_, h1, fun z => by rw [z] at h1; cases h1⟩
  rw [sl, decide_eq_true hx]; rfl
theorem split_line {x : Str} (hx : x.length + 2 ≤ 16777216) : ∃ rows, splitS x ("\n" : Str) = .ok rows ∧ wl rows = x.length + 1 ∧ rows ≠ [] := split_any tl_line (by decide +kernel) hx
theorem split_blank {x : Str} (hx : x.length + 2 ≤ 16777216) : ∃ rows, splitS x (" " : Str) = .ok rows ∧ wl rows = x.length + 1 ∧ rows ≠ [] := split_any tl_blank (by decide +kernel) hx
theorem joinL_wl (c : Nat) : ∀ {ps : List (List Nat)}, ps ≠ [] → (TL.joinL [c] ps).length + 1 = wlL ps
  | [], h => absurd rfl h
  | [p], _ => rfl
  | p :: q :: r, _ => by
    have := joinL_wl c (ps := q :: r) (List.cons_ne_nil _ _)
    show (p ++ ([c] ++ TL.joinL [c] (q :: r))).length + 1 = p.length + 1 + wlL (q :: r)
    rw [List.length_append, List.length_append, List.length_singleton]
    omega
theorem join_any {rows : List Str} {sep : Str} {c : Nat} (e : TL.tl sep = [c]) (hw : wl rows ≤ 16777216) : ∃ y, joinS sep rows = .ok y ∧ y.length ≤ wl rows := by
  have sl : sep.length = 1 := by rw [TL.len_tl, e]; rfl
  refine ⟨Txt.join sep rows, chk_ok (decide_eq_true ?_), ?_⟩
  · have : ∀ l : List Str, (l.map (·.length)).sum + l.length * 1 = wl l := fun l => by
      induction l with
      | nil => rfl
      | cons x t ih => rw [wl_cons, List.map_cons, List.sum_cons, List.length_cons]; omega
    rw [sl, this]; exact hw
  · by_cases h : rows = []
    · rw [h, TL.len_tl, TL.join_eq, TL.tl_join]; exact Nat.zero_le _
    · rw [TL.len_tl, TL.join_eq, TL.tl_join, e, wl_tl]
      have := joinL_wl c (ps := rows.map TL.tl) fun z => h (List.map_eq_nil_iff.mp z)
      omega
/-! ### a row's numbers -/
theorem read_number_bad {x : Str} (hx : x.length ≤ 16777216) (o : okNum 60 (TL.tl x) = false) : m_read_number (x, ()) = .exc .noText := by
  have xl : (TL.tl x).length = x.length := (TL.len_tl x).symm
  refine px_isx ?_
  unfold m_read_number
  dsimp only
  refine px_bind <| number_of_ok hx (fun o4 => ?_) fun _ => rfl
  have big : 60 < (figs (TL.tl x)).length := by
    refine Nat.lt_of_not_le fun le => ?_
    unfold okNum at o o4
    rw [Bool.and_eq_true, Bool.and_eq_true] at o4
    rw [o4.1, decide_eq_true le, o4.2.2] at o
    cases o
  refine px_bind <| Wp.imp (A := fun b : Bool => b = true) (px_bind <| px_bind <| px_eq (lenS_ok hx) <| px_ok <| px_ite (fun c => ?_) fun c => ?_) fun b hb => ?_
  · cases hl : TL.tl x with
    | nil => rw [hl] at big; exact absurd big (by decide)
    | cons d r =>
      by_cases q : d = 45
      · subst q
        rw [hl] at big xl
        have : 60 < r.length := big
        rw [List.length_cons] at xl
        refine px_bind <| px_bind <| px_eq (ix0_ok hx hl) <| px_ok ?_
        rw [txt_eq, tl_sgn, tl_dash]
        exact px_ite (fun z => by cases z) fun _ => px_bind <| px_eq (lenS_ok hx) <| px_ok (decide_eq_true (by omega))
      · refine px_bind <| px_bind <| px_eq (ix0_ok hx hl) <| px_ok ?_
        rw [txt_eq, tl_sgn, tl_dash, decide_eq_false (by simpa using q)]
        exact px_ite (fun _ => px_ok rfl) fun z => by cases z
  · have c := of_decide_eq_false c
    have : (figs (TL.tl x)).length ≤ (TL.tl x).length := by
      cases hl : TL.tl x with
      | nil => exact Nat.le_refl _
      | cons d r =>
        by_cases q : d = 45
        · subst q; show r.length ≤ (45 :: r).length; rw [List.length_cons]; omega
        · rw [figs_cons q]; exact Nat.le_refl _
    omega
  · rw [hb]
    exact px_ite (fun _ => px_exc rfl) fun z => by cases z
def okW (y : Str) : Bool := okNum 60 (TL.tl y)
def vaW (y : Str) : Int := valNum (TL.tl y)
/-- the numbers behind a word -/
def numsW (w : Str) : List Str → Option (List Int)
  | [] => none
  | v :: r => if v = w ∧ r.all okW = true then some (r.map vaW) else none
theorem mapX_nums : ∀ {l : List Str}, (∀ y ∈ l, y.length ≤ 16777216) → mapXGo (fun y : Str => m_read_number (y, ())) l = if l.all okW = true then .ok (l.map vaW) else .exc .noText
  | [], _ => rfl
  | x :: r, h => by
    show (m_read_number (x, ())).bind _ = _
    have hx := h x List.mem_cons_self
    rw [List.all_cons]
    cases c : okW x with
    | false => rw [read_number_bad hx c, Bool.false_and, if_neg (by decide)]; rfl
    | true =>
      rw [px_is (read_number_ok (X := fun _ => False) (A := fun v => v = vaW x) hx c rfl)]
      show (mapXGo _ r).bind _ = _
      rw [mapX_nums fun y hy => h y (List.mem_cons_of_mem _ hy), Bool.true_and]
      split <;> rfl
theorem allS_some {α : Type} (l : List α) : allS (l.map some) = .ok l := by
  have : allO (l.map some) = some l := by
    induction l with
    | nil => rfl
    | cons x r ih =>
      show (allO (r.map some)).map (fun l => x :: l) = _
      rw [ih]; rfl
  unfold allS
  rw [this]; rfl
theorem any_none (l : List Int) : ((l.map some).any fun z => pyEq z (none : Option Int)) = false := by
  rw [List.any_eq_false]
  intro z hz
  obtain ⟨x, _, rfl⟩ := List.mem_map.mp hz
  exact fun h => by cases h
theorem any_some {l : List (Option Int)} (h : none ∈ l) : (l.any fun z => pyEq z (none : Option Int)) = true := List.any_eq_true.mpr ⟨none, h, (by decide +kernel : pyEq (none : Option Int) (none : Option Int) = true)⟩
theorem behind_any {w r : Str} {ws : List Str} (es : splitS r (" " : Str) = .ok ws) (hw : wl ws ≤ 16777216) (ne : ws ≠ []) : m_numbers_behind (w, r, ()) = match numsW w ws with
    | some l => .ok l
    | none => .exc .noText := by
  cases ws with
  | nil => exact absurd rfl ne
  | cons v rest =>
    have hl : ∀ y ∈ rest, y.length ≤ 16777216 := fun y hy => by have := wl_mem (List.mem_cons_of_mem v hy); omega
    have hn := wl_len (v :: rest)
    rw [List.length_cons] at hn
    unfold m_numbers_behind numsW
    dsimp only
    rw [es, bind_ok, show ixR (v :: rest) (0 : Int) = .ok v from ixR_nat (i := 0) rfl, bind_ok, cut_rest]
    by_cases c : v = w
    · rw [c, pyEq_refl]
      show (mapXR _ rest).bind _ = _
      unfold mapXR
      rw [if_pos (by omega), mapX_nums hl]
      by_cases a : rest.all okW = true
      · rw [if_pos a, if_pos ⟨rfl, a⟩]; rfl
      · rw [if_neg a, if_neg fun z => a z.2]; rfl
    · rw [pyEq_false c, if_neg fun z => c z.1]; rfl
theorem in_any {w r : Str} {ws : List Str} (es : splitS r (" " : Str) = .ok ws) (hw : wl ws ≤ 16777216) (ne : ws ≠ []) : m_law_numbers_in (r, w, ()) = .ok (numsW w ws) := by
  cases ws with
  | nil => exact absurd rfl ne
  | cons v rest =>
    have hl : ∀ y ∈ rest, y.length ≤ 16777216 := fun y hy => by have := wl_mem (List.mem_cons_of_mem v hy); omega
    have hn := wl_len (v :: rest)
    rw [List.length_cons] at hn
    refine px_is ?_
    unfold m_law_numbers_in numsW
    dsimp only
    refine px_bind <| px_eq es <| px_bind ?_
    rw [cut_rest]
    refine px_map (h := fun y => if okW y = true then some (vaW y) else none) (by show rest.length ≤ _; omega) (fun y hy => px_is (due_ok (x := y) (hl y hy) (most := 60) (by decide))) ?_
    refine px_bind <| px_bind <| px_bind <| px_eq (ixR_nat (xs := v :: rest) (i := 0) (x := v) rfl) <| px_ok ?_
    by_cases c : v = w
    · rw [c, pyEq_refl]
      refine px_ite (fun z => by cases z) fun _ => px_ok ?_
      show Wp _ _ (if ((rest.map _).any _) = true then _ else _)
      by_cases a : rest.all okW = true
      · have e : rest.map (fun y => if okW y = true then some (vaW y) else none) = (rest.map vaW).map some := by
          rw [List.map_map]
          exact List.map_congr_left fun y hy => by
            show (if okW y = true then some (vaW y) else none) = some (vaW y)
            rw [if_pos (List.all_eq_true.mp a y hy)]
        rw [e, any_none, if_pos ⟨rfl, a⟩]
        refine px_ite (fun z => by cases z) fun _ => px_bind <| px_bind ?_
        rw [show ((w :: rest).tail.map fun y => if okW y = true then some (vaW y) else none) = (rest.map vaW).map some from e]
        exact px_eq (allS_some _) <| px_ok <| px_ok rfl
      · rw [any_some (l := rest.map fun y => if okW y = true then some (vaW y) else none) (by
          rw [List.all_eq_true] at a
          obtain ⟨y, hy⟩ := Classical.not_forall.mp a
          obtain ⟨hy, ny⟩ := Classical.not_imp.mp hy
          exact List.mem_map.mpr ⟨y, hy, if_neg ny⟩), if_neg fun z => a z.2]
        exact px_ite (fun _ => px_ok rfl) fun z => by cases z
    · rw [pyEq_false c, if_neg fun z => c z.1]
      exact px_ite (fun _ => px_ok <| px_ite (fun _ => px_ok rfl) fun z => by cases z) fun z => by cases z
/-- the numbers of a row: as its words tell -/
def rowN (w r : Str) : Option (List Int) := match splitS r (" " : Str) with
  | .ok ws => numsW w ws
  | _ => none
theorem rowN_both {w r : Str} (hr : r.length + 2 ≤ 16777216) : m_law_numbers_in (r, w, ()) = .ok (rowN w r) ∧ m_numbers_behind (w, r, ()) = match rowN w r with
    | some l => .ok l
    | none => .exc .noText := by
  obtain ⟨ws, es, hw, ne⟩ := split_blank hr
  have e : rowN w r = numsW w ws := by unfold rowN; rw [es]
  rw [e]
  exact ⟨in_any es (by omega) ne, behind_any es (by omega) ne⟩
/-- the ends of a tie's row -/
def tieN (r : Str) : Option (Int × Int) := match rowN ("tie" : Str) r with
  | some [a, b] => some (a, b)
  | _ => none
theorem tie_any {r : Str} (hr : r.length + 2 ≤ 16777216) : m_tie_in (r, ()) = match tieN r with
    | some t => .ok t
    | none => .exc .noText := by
  have e := (rowN_both (w := ("tie" : Str)) hr).2
  unfold m_tie_in tieN
  dsimp only
  rw [e]
  cases h : rowN ("tie" : Str) r with
  | none => rfl
  | some l =>
    match l with
    | [] => rfl
    | [a] => rfl
    | [a, b] => rfl
    | a :: b :: c :: r =>
      have h2 : pyEq (((a :: b :: c :: r).length : Nat) : Int) (2 : Int) = false := pyEq_false (by rw [List.length_cons, List.length_cons, List.length_cons]; omega)
      dsimp only
      rw [bind_ok, h2]
      rfl
/-- all ties of some rows -/
def tiesN : List Str → Option (List (Int × Int))
  | [] => some []
  | r :: t => match tieN r with
    | some p => (tiesN t).map fun l => p :: l
    | none => none
theorem ties_any : ∀ {l : List Str}, (∀ r ∈ l, r.length + 2 ≤ 16777216) → mapXGo (fun y : Str => m_tie_in (y, ())) l = match tiesN l with
    | some ts => .ok ts
    | none => .exc .noText
  | [], _ => rfl
  | r :: t, h => by
    show (m_tie_in (r, ())).bind _ = _
    rw [tie_any (h r List.mem_cons_self)]
    unfold tiesN
    cases tieN r with
    | none => rfl
    | some p =>
      show (mapXGo _ t).bind _ = _
      rw [ties_any fun y hy => h y (List.mem_cons_of_mem _ hy)]
      cases tiesN t <;> rfl
/-! ### what the law's own looks tell -/
abbrev Dw := (T1 PySem.Str) ⊕ ((Int × (Tu (Int × Int))) × (List Int))
theorem found_ok {x : Str} {v : (Int × (Tu (Int × Int))) × (List Int)} (e : m_read (x, ()) = .ok v) : m_law_found (x, ()) = .ok (.inr v) := by
  unfold m_law_found
  dsimp only
  rw [e]
  rfl
theorem found_text {x : Str} (e : m_read (x, ()) = .exc .noText) : m_law_found (x, ()) = .ok (.inl ⟨"text"⟩) := by
  unfold m_law_found
  dsimp only
  rw [e]
  rfl
theorem found_web {x : Str} (e : m_read (x, ()) = .exc .badWeb) : m_law_found (x, ()) = .ok (.inl ⟨"web"⟩) := by
  unfold m_law_found
  dsimp only
  rw [e]
  rfl
theorem found_parted {x : Str} (e : m_read (x, ()) = .exc .parted) : m_law_found (x, ()) = .ok (.inl ⟨"parted"⟩) := by
  unfold m_law_found
  dsimp only
  rw [e]
  rfl
theorem found_standing {x : Str} (e : m_read (x, ()) = .exc .badStanding) : m_law_found (x, ()) = .ok (.inl ⟨"standing"⟩) := by
  unfold m_law_found
  dsimp only
  rw [e]
  rfl
abbrev rT (r : Str) : Option (List Int) := rowN ("tie" : Str) r
theorem ties_cases : ∀ mid : List Str, (∃ ts, tiesN mid = some ts ∧ mid.map rT = (ts.map fun t => [t.1, t.2]).map some) ∨ (tiesN mid = none ∧ (none ∈ mid.map rT ∨ ∃ L : List (List Int), mid.map rT = L.map some ∧ ∃ l ∈ L, l.length ≠ 2))
  | [] => .inl ⟨[], rfl, rfl⟩
  | r :: t => by
    have ih := ties_cases t
    unfold tiesN
    cases h : rowN ("tie" : Str) r with
    | none =>
      refine .inr ⟨?_, .inl (by rw [List.map_cons, show rT r = none from h]; exact List.mem_cons_self)⟩
      unfold tieN
      rw [h]
    | some l =>
      by_cases c : ∃ a b, l = [a, b]
      · obtain ⟨a, b, rfl⟩ := c
        have e : tieN r = some (a, b) := by unfold tieN; rw [h]
        rw [e]
        dsimp only
        rcases ih with ⟨ts, e1, e2⟩ | ⟨e1, h2 | ⟨L, e2, x, hx, hl⟩⟩
        · exact .inl ⟨(a, b) :: ts, by rw [e1]; rfl, by rw [List.map_cons, show rT r = some [a, b] from h, e2]; rfl⟩
        · exact .inr ⟨by rw [e1]; rfl, .inl (by rw [List.map_cons]; exact List.mem_cons_of_mem _ h2)⟩
        · exact .inr ⟨by rw [e1]; rfl, .inr ⟨[a, b] :: L, by rw [List.map_cons, show rT r = some [a, b] from h, e2]; rfl, x, List.mem_cons_of_mem _ hx, hl⟩⟩
      · have e : tieN r = none := by
          unfold tieN
          rw [h]
          match l, c with
          | [], _ => rfl
          | [_], _ => rfl
          | [a, b], c => exact absurd ⟨a, b, rfl⟩ c
          | _ :: _ :: _ :: _, _ => rfl
        have ll : l.length ≠ 2 := fun z => by
          match l, z with
          | [a, b], _ => exact c ⟨a, b, rfl⟩
        rw [e]
        dsimp only
        refine .inr ⟨rfl, ?_⟩
        rcases ih with ⟨ts, e1, e2⟩ | ⟨e1, h2 | ⟨L, e2, x, hx, hl⟩⟩
        · exact .inr ⟨l :: ts.map (fun t => [t.1, t.2]), by rw [List.map_cons, show rT r = some l from h, e2]; rfl, l, List.mem_cons_self, ll⟩
        · exact .inl (by rw [List.map_cons]; exact List.mem_cons_of_mem _ h2)
        · exact .inr ⟨l :: L, by rw [List.map_cons, show rT r = some l from h, e2]; rfl, l, List.mem_cons_self, ll⟩
/-- what read tells of some rows -/
def readN (r0 : Str) (mid : List Str) (last : Str) : R ((Int × (Tu (Int × Int))) × (List Int)) := match rowN ("houses" : Str) r0, tiesN mid, rowN ("has" : Str) last with
  | some [h], some ts, some (y :: t) => (m_made (h, ts, ())).bind fun w => if ((y :: t).length : Int) = h then .ok (w, y :: t) else .exc .badStanding
  | _, _, _ => .exc .noText
theorem read_any {x r0 last : Str} {mid : List Str} (es : splitS x ("\n" : Str) = .ok (r0 :: (mid ++ [last]))) (hw : wl (r0 :: (mid ++ [last])) ≤ 16777215) : m_read (x, ()) = readN r0 mid last := by
  have hm : ∀ r ∈ r0 :: (mid ++ [last]), r.length + 2 ≤ 16777216 := fun r hr => by have := wl_mem hr; omega
  have h0 := (rowN_both (w := ("houses" : Str)) (hm r0 List.mem_cons_self)).2
  have hl := (rowN_both (w := ("has" : Str)) (hm last (List.mem_cons_of_mem _ (List.mem_append_right _ List.mem_cons_self)))).2
  have ht : mapXR (fun y : Str => m_tie_in (y, ())) mid = match tiesN mid with
      | some ts => .ok ts
      | none => .exc .noText := by
    unfold mapXR
    have := wl_len (r0 :: (mid ++ [last]))
    rw [List.length_cons, List.length_append] at this
    rw [if_pos (by omega)]
    exact ties_any fun r hr => hm r (List.mem_cons_of_mem _ (List.mem_append_left _ hr))
  have ln : decide (((r0 :: (mid ++ [last])).length : Int) < (2 : Int)) = false := decide_eq_false (by rw [List.length_cons, List.length_append, List.length_singleton]; omega)
  unfold m_read readN
  dsimp only
  rw [es, bind_ok, ln, if_neg (by decide), show ixR (r0 :: (mid ++ [last])) (0 : Int) = .ok r0 from ixR_nat (i := 0) rfl, bind_ok, bind_ok, bind_ok, h0, cut_mid, last_ix, ht]
  cases rowN ("houses" : Str) r0 with
  | none => rfl
  | some l =>
    match l with
    | [] => rfl
    | a :: b :: r =>
      have e : pyEq (((a :: b :: r).length : Nat) : Int) (1 : Int) = false := pyEq_false (by rw [List.length_cons, List.length_cons]; omega)
      dsimp only
      rw [bind_ok, e]
      rfl
    | [h] =>
      cases tiesN mid with
      | none => rfl
      | some ts =>
        dsimp only
        rw [bind_ok, show pyEq ((([h] : List Int).length : Nat) : Int) (1 : Int) = true from pyEq_refl _]
        show (if (!true) = true then _ else _) = _
        rw [if_neg (by decide), bind_ok, bind_ok, bind_ok, bind_ok, hl]
        cases rowN ("has" : Str) last with
        | none => rfl
        | some st =>
          cases st with
          | nil => rfl
          | cons y t =>
            dsimp only
            rw [bind_ok, pyEq_false (List.cons_ne_nil y t), if_neg (by decide), show ixR [h] (0 : Int) = .ok h from ixR_nat (i := 0) rfl, bind_ok, bind_ok]
            cases m_made (h, ts, ()) with
            | ok w =>
              rw [bind_ok, bind_ok, bind_ok, bind_ok]
              by_cases c : ((y :: t).length : Int) = h
              · rw [if_pos c, c, pyEq_refl]; rfl
              · rw [if_neg c, pyEq_false c]; rfl
            | exc c => rfl
            | stuck => rfl
/-! ### k68: what is due is what is found -/
theorem any_someL {l : List (Option (List Int))} (h : none ∈ l) : (l.any fun z => pyEq z (none : Option (List Int))) = true := List.any_eq_true.mpr ⟨none, h, (by decide +kernel : pyEq (none : Option (List Int)) (none : Option (List Int)) = true)⟩
theorem made_cases (h : Int) (ts : List (Int × Int)) : (GoodW h ts ∧ Con h ts ∧ m_made (h, ts, ()) = .ok (h, ⟨sortP (ts.map mm)⟩)) ∨ (¬ GoodW h ts ∧ m_made (h, ts, ()) = .exc .badWeb) ∨ (GoodW h ts ∧ ¬ Con h ts ∧ m_made (h, ts, ()) = .exc .parted) := by
  have g := (made_gen h ts).px
  cases e : m_made (h, ts, ()) with
  | ok w =>
    rw [e] at g
    obtain ⟨g1, g2, g3⟩ := g
    exact .inl ⟨g1, g2, by rw [g3]⟩
  | exc c =>
    rw [e] at g
    rcases g with ⟨rfl, g⟩ | ⟨rfl, g1, g2⟩
    · exact .inr (.inl ⟨g, rfl⟩)
    · exact .inr (.inr ⟨g1, g2, rfl⟩)
  | stuck => rw [e] at g; exact (show False from g).elim
theorem due_end {x r0 last : Str} {mid : List Str} {h : Int} {ts : List (Int × Int)} {y : Int} {t : List Int} (hH : rowN ("houses" : Str) r0 = some [h]) (hT : tiesN mid = some ts) (hS : rowN ("has" : Str) last = some (y :: t)) (er : m_read (x, ()) = readN r0 mid last) :
    (¬ GoodW h ts → m_law_found (x, ()) = .ok (.inl ⟨"web"⟩)) ∧ (GoodW h ts → ¬ Con h ts → m_law_found (x, ()) = .ok (.inl ⟨"parted"⟩)) ∧ (GoodW h ts → Con h ts → ((y :: t).length : Int) ≠ h → m_law_found (x, ()) = .ok (.inl ⟨"standing"⟩)) ∧ (GoodW h ts → Con h ts → ((y :: t).length : Int) = h → m_law_found (x, ()) = .ok (.inr ((h, ⟨sortP (ts.map mm)⟩), y :: t))) := by
  have e : readN r0 mid last = (m_made (h, ts, ())).bind fun w => if ((y :: t).length : Int) = h then .ok (w, y :: t) else .exc .badStanding := by
    unfold readN
    rw [hH, hT, hS]
  rw [e] at er
  rcases made_cases h ts with ⟨g, c, m⟩ | ⟨g, m⟩ | ⟨g, c, m⟩
  · rw [m, bind_ok] at er
    refine ⟨fun z => absurd g z, fun _ z => absurd c z, fun _ _ z => ?_, fun _ _ z => ?_⟩
    · rw [if_neg z] at er; exact found_standing er
    · rw [if_pos z] at er; exact found_ok er
  · rw [m] at er
    exact ⟨fun _ => found_web er, fun z => absurd z g, fun z => absurd z g, fun z => absurd z g⟩
  · rw [m] at er
    exact ⟨fun z => absurd g z, fun _ _ => found_parted er, fun _ z => absurd z c, fun _ z => absurd z c⟩
theorem due_any {x r0 last : Str} {mid : List Str} (es : splitS x ("\n" : Str) = .ok (r0 :: (mid ++ [last]))) (hw : wl (r0 :: (mid ++ [last])) ≤ 16777215) : Wp (fun v : Dw => m_law_found (x, ()) = .ok v) (fun _ => False) (m_law_due (x, ())) := by
  have er := read_any es hw
  have hm : ∀ r ∈ r0 :: (mid ++ [last]), r.length + 2 ≤ 16777216 := fun r hr => by have := wl_mem hr; omega
  have h0 := (rowN_both (w := ("houses" : Str)) (hm r0 List.mem_cons_self)).1
  have hl := (rowN_both (w := ("has" : Str)) (hm last (List.mem_cons_of_mem _ (List.mem_append_right _ List.mem_cons_self)))).1
  have ht : ∀ r ∈ mid, m_law_numbers_in (r, ("tie" : Str), ()) = .ok (rT r) := fun r hr => (rowN_both (w := ("tie" : Str)) (hm r (List.mem_cons_of_mem _ (List.mem_append_left _ hr)))).1
  have ml : mid.length ≤ 16777216 := by
    have := wl_len (r0 :: (mid ++ [last]))
    rw [List.length_cons, List.length_append] at this
    omega
  have ln : decide (((r0 :: (mid ++ [last])).length : Int) < (2 : Int)) = false := decide_eq_false (by rw [List.length_cons, List.length_append, List.length_singleton]; omega)
  have ft : readN r0 mid last = .exc .noText → m_law_found (x, ()) = .ok (.inl ⟨"text"⟩) := fun e => found_text (er.trans e)
  have n1 : rowN ("houses" : Str) r0 = none → readN r0 mid last = .exc .noText := fun e => by unfold readN; rw [e]
  have n1' : ∀ l, rowN ("houses" : Str) r0 = some l → l.length ≠ 1 → readN r0 mid last = .exc .noText := fun l e ne => by
    unfold readN; rw [e]
    match l, ne with
    | [], _ => rfl
    | [a], ne => exact absurd rfl ne
    | _ :: _ :: _, _ => rfl
  have n2 : tiesN mid = none → readN r0 mid last = .exc .noText := fun e => by
    unfold readN; rw [e]
    cases rowN ("houses" : Str) r0 with
    | none => rfl
    | some l =>
      match l with
      | [] => rfl
      | [a] => rfl
      | _ :: _ :: _ => rfl
  have n3 : rowN ("has" : Str) last = none ∨ rowN ("has" : Str) last = some [] → readN r0 mid last = .exc .noText := fun e => by
    unfold readN
    cases rowN ("houses" : Str) r0 with
    | none => rfl
    | some l =>
      match l with
      | [] => rfl
      | _ :: _ :: _ => rfl
      | [a] =>
        cases tiesN mid with
        | none => rfl
        | some ts => rcases e with e | e <;> rw [e]
  unfold m_law_due
  dsimp only
  refine px_bind <| px_eq es ?_
  rw [ln]
  refine px_ite (fun z => by cases z) fun _ => ?_
  refine px_bind <| px_bind <| px_bind <| px_eq (show ixR (r0 :: (mid ++ [last])) (0 : Int) = .ok r0 from ixR_nat (i := 0) rfl) <| px_ok <| px_eq h0 <| px_bind ?_
  rw [cut_mid]
  refine px_map (h := rT) ml ht <| px_bind <| px_bind <| px_bind <| px_eq (last_ix r0 mid last) <| px_ok <| px_eq hl <| px_bind ?_
  refine Wp.mono (A := fun b : Bool => (b = true → readN r0 mid last = .exc .noText) ∧ (b = false → (∃ h, rowN ("houses" : Str) r0 = some [h]) ∧ (∃ y t, rowN ("has" : Str) last = some (y :: t)) ∧ none ∉ mid.map rT)) (B := fun _ => False) ?_ (fun b hb => ?_) fun _ z => z
  · cases eH : rowN ("houses" : Str) r0 with
    | none => exact px_ite (fun _ => px_ok ⟨fun _ => n1 eH, fun z => by cases z⟩) fun z => by cases z
    | some l =>
      refine px_ite (fun z => by cases z) fun _ => px_bind <| px_bind <| px_bind <| px_ok <| px_ok <| px_ok ?_
      by_cases c : l.length = 1
      · rw [c, show pyEq (((1 : Nat) : Int)) (1 : Int) = true from pyEq_refl _]
        refine px_ite (fun z => by cases z) fun _ => ?_
        obtain ⟨h, rfl⟩ := List.length_eq_one_iff.mp c
        cases eS : rowN ("has" : Str) last with
        | none => exact px_ite (fun _ => px_ok ⟨fun _ => n3 (.inl eS), fun z => by cases z⟩) fun z => by cases z
        | some s =>
          refine px_ite (fun z => by cases z) fun _ => ?_
          cases s with
          | nil => exact px_ite (fun _ => px_ok ⟨fun _ => n3 (.inr eS), fun z => by cases z⟩) fun z => by rw [show pyEq (some [] : Option (List Int)) (some []) = true from pyEq_refl ([] : List Int)] at z; cases z
          | cons y t =>
            rw [show pyEq (some (y :: t) : Option (List Int)) (some []) = false from pyEq_false (List.cons_ne_nil y t)]
            refine px_ite (fun z => by cases z) fun _ => px_ok ?_
            by_cases c2 : none ∈ mid.map rT
            · refine ⟨fun _ => n2 ?_, fun z => ?_⟩
              · rcases ties_cases mid with ⟨ts, e1, e2⟩ | ⟨e1, _⟩
                · rw [e2] at c2
                  obtain ⟨q, _, z⟩ := List.mem_map.mp c2
                  cases z
                · exact e1
              · rw [any_someL c2] at z; cases z
            · refine ⟨fun z => ?_, fun _ => ⟨⟨h, rfl⟩, ⟨y, t, rfl⟩, c2⟩⟩
              obtain ⟨q, hq, hz⟩ := List.any_eq_true.mp z
              cases q with
              | none => exact absurd hq c2
              | some q => cases hz
      · rw [pyEq_false (show ((l.length : Nat) : Int) ≠ (1 : Int) by omega)]
        exact px_ite (fun _ => px_ok ⟨fun _ => n1' l eH c, fun z => by cases z⟩) fun z => by cases z
  · refine px_ite (fun z => px_ok (ft (hb.1 z))) fun z => ?_
    obtain ⟨⟨h, eH⟩, ⟨y, t, eS⟩, nn⟩ := hb.2 z
    rw [eH, eS]
    rcases ties_cases mid with ⟨ts, e1, e2⟩ | ⟨e1, h2 | ⟨L, e2, l, hl2, ln2⟩⟩
    · have tl : ts.length = mid.length := by
        have := congrArg List.length e2
        rw [List.length_map, List.length_map, List.length_map] at this
        exact this.symm
      have all := allS_some (ts.map fun t => [t.1, t.2])
      rw [e2]
      obtain ⟨f1, f2, f3, f4⟩ := due_end eH e1 eS er
      refine px_bind <| px_bind <| px_bind <| px_eq all <| px_filt (fun y : List Int => !pyEq (y.length : Int) (2 : Int)) (by rw [List.length_map]; omega) (fun _ _ => rfl) <| px_ok ?_
      rw [show (ts.map fun t => [t.1, t.2]).filter (fun y : List Int => !pyEq (y.length : Int) (2 : Int)) = [] from List.filter_eq_nil_iff.mpr fun y hy => by
        obtain ⟨t, _, rfl⟩ := List.mem_map.mp hy
        rw [show pyEq ((([t.1, t.2] : List Int).length : Nat) : Int) (2 : Int) = true from pyEq_refl _]
        decide, pyEq_refl]
      refine px_ite (fun z => by cases z) fun _ => px_bind ?_
      refine Wp.mono (A := fun b : Bool => b = false ↔ 1 ≤ h ∧ h ≤ 8 ∧ ts.length ≤ 16) (B := fun _ => False) ?_ (fun b hb => ?_) fun _ z => z
      · refine px_bind <| px_bind <| px_bind <| px_bind <| px_ok <| px_eq (show ixR [h] (0 : Int) = .ok h from ixR_nat (i := 0) rfl) ?_
        have tail : Wp (fun b : Bool => b = false ↔ ts.length ≤ 16) (fun _ => False) ((((((allS ((ts.map fun t => [t.1, t.2]).map some)) : R _).bind fun x272 => (.ok (x272.length : Int))) : R _).bind fun x273 => (.ok (decide ((16 : Int) < x273))))) := by
          refine px_bind <| px_bind <| px_eq all <| px_ok <| px_ok ?_
          rw [decide_eq_false_iff_not, List.length_map]
          omega
        by_cases c1 : 1 ≤ h
        · by_cases c2 : h ≤ 8
          · rw [decide_eq_true c1, decide_eq_true c2]
            refine px_ite (fun _ => px_ok <| px_ok <| px_ite (fun z => by cases z) fun _ => tail.imp fun b hb => ?_) fun z => by cases z
            rw [hb]; exact ⟨fun z => ⟨c1, c2, z⟩, fun z => z.2.2⟩
          · rw [decide_eq_true c1, decide_eq_false c2]
            exact px_ite (fun _ => px_ok <| px_ok <| px_ite (fun _ => px_ok ⟨fun z => (by cases z), fun z => absurd z.2.1 c2⟩) fun z => by cases z) fun z => by cases z
        · rw [decide_eq_false c1]
          exact px_ite (fun z => by cases z) fun _ => px_ok <| px_ok <| px_ite (fun _ => px_ok ⟨fun z => (by cases z), fun z => absurd z.1 c1⟩) fun z => by cases z
      · refine px_ite (fun c => px_ok (f1 fun g => ?_)) fun c => ?_
        · rw [hb.mpr ⟨g.1, g.2.1, g.2.2.1⟩] at c; cases c
        · obtain ⟨g1, g2, g3⟩ := hb.mp c
          refine px_bind <| px_bind <| px_eq all ?_
          rw [twoO_map]
          refine px_ok <| px_ct <| px_forM (fun ys _ => ∀ y ∈ ys, Fit h (y.a, y.b)) (fun y hy => by cases hy) (fun ys y zs e s hs => ?_) fun s hs => ?_
          · have bl : Wp (fun b : Bool => b = false ↔ Fit h (y.a, y.b)) (fun _ => False) ((if (pyEq y.a y.b) = true then R.ok true else (if (decide (min y.a y.b < (0 : Int))) = true then R.ok true else (((((R.ofO (some [h])) : R _).bind fun x280 => (ixR x280 (0 : Int))) : R _).bind fun x281 => (.ok (decide (x281 ≤ max y.a y.b)))))) : R Bool) := by
              by_cases q : y.a = y.b
              · rw [show pyEq y.a y.b = true from by rw [q]; exact pyEq_refl _]
                exact px_ite (fun _ => px_ok ⟨fun z => (by cases z), fun f => absurd q f.1⟩) fun z => by cases z
              · rw [pyEq_false q]
                refine px_ite (fun z => by cases z) fun _ => px_ite (fun c => px_ok ⟨fun z => (by cases z), fun f => ?_⟩) fun c => px_bind <| px_bind <| px_ok <| px_eq (show ixR [h] (0 : Int) = .ok h from ixR_nat (i := 0) rfl) <| px_ok ?_
                · have c := of_decide_eq_true c
                  obtain ⟨_, f2, f3, f4, f5⟩ := f
                  dsimp only at f2 f3 f4 f5
                  omega
                · have c := of_decide_eq_false c
                  rw [decide_eq_false_iff_not]
                  refine ⟨fun d => ⟨q, ?_, ?_, ?_, ?_⟩, fun f => ?_⟩
                  · show 0 ≤ y.a; omega
                  · show 0 ≤ y.b; omega
                  · show y.a < h; omega
                  · show y.b < h; omega
                  · obtain ⟨_, f2, f3, f4, f5⟩ := f
                    dsimp only at f2 f3 f4 f5
                    omega
            refine px_bind <| bl.imp fun b hb => px_ite (fun c => px_rt (f1 fun g => ?_)) fun c => px_nx fun u hu => ?_
            · have hy : y ∈ ts.map fun t => Lw.mk t.1 t.2 := by rw [e]; exact List.mem_append_right _ List.mem_cons_self
              obtain ⟨t, ht, rfl⟩ := List.mem_map.mp hy
              rw [hb.mpr (g.2.2.2 t ht)] at c; cases c
            · rcases List.mem_append.mp hu with hu | hu
              · exact hs u hu
              · rw [List.mem_singleton.mp hu]; exact hb.mp c
          · have hf : ∀ t ∈ ts, Fit h t := fun t ht => hs ⟨t.1, t.2⟩ (List.mem_map.mpr ⟨t, ht, rfl⟩)
            have g : GoodW h ts := ⟨g1, g2, g3, hf⟩
            obtain ⟨n, rfl⟩ := Int.eq_ofNat_of_zero_le (show 0 ≤ h by omega)
            refine px_bind <| px_bind <| px_bind <| px_bind <| px_bind <| px_ok <| px_eq (show ixR [(n : Int)] (0 : Int) = .ok (n : Int) from ixR_nat (i := 0) rfl) <| px_bind <| px_bind <| px_eq all <| px_ok <| px_ok <| (piece_ok (n := n) (by omega) (by omega) g3 hf).imp fun b hb => px_ok ?_
            cases b with
            | false => exact px_ite (fun _ => px_ok (f2 g fun z => by cases (hb.mpr z))) fun z => by cases z
            | true =>
              have c := hb.mp rfl
              refine px_ite (fun z => by cases z) fun _ => px_bind <| px_bind <| px_bind <| px_ok <| px_ok <| px_bind <| px_bind <| px_ok <| px_eq (show ixR [(n : Int)] (0 : Int) = .ok (n : Int) from ixR_nat (i := 0) rfl) <| px_ok ?_
              by_cases c2 : ((y :: t).length : Int) = n
              · rw [c2, pyEq_refl]
                refine px_ite (fun z => by cases z) fun _ => ?_
                have m2 : mapR (fun y309 : List Int => (((((R.ofO (minL y309)) : R _).bind fun x315 => (((((R.ofO (maxL y309)) : R _).bind fun x314 => (.ok (x314, (())))) : R _).bind fun x316 => (.ok (x315, x316)))) : R _).bind fun x317 => (.ok (x317.1, x317.2.1)))) (ts.map fun t => [t.1, t.2]) = .ok (ts.map mm) := by
                  refine px_is <| px_map (h := fun y : List Int => mm (y.headD 0, y.tail.headD 0)) (by rw [List.length_map]; omega) (fun y hy => by
                    obtain ⟨t, _, rfl⟩ := List.mem_map.mp hy
                    rfl) ?_
                  rw [List.map_map]
                  exact List.map_congr_left fun t _ => rfl
                refine px_bind <| px_bind <| px_bind <| px_bind <| px_bind <| px_bind <| px_bind <| px_ok <| px_eq (show ixR [(n : Int)] (0 : Int) = .ok (n : Int) from ixR_nat (i := 0) rfl) <| px_bind <| px_bind <| px_bind <| px_bind <| px_bind <| px_eq all <| px_eq m2 <| px_ok <| px_ok <| px_ok <| px_ok <| px_ok <| px_bind <| px_bind <| px_ok <| px_ok <| px_ok <| px_ok <| px_ok <| px_ok (f4 g c c2)
              · rw [pyEq_false c2]
                exact px_ite (fun _ => px_ok (f3 g c c2)) fun z => by cases z
    · exact absurd h2 nn
    · rw [e2]
      have ll : L.length ≤ 16777216 := by
        have := congrArg List.length e2
        rw [List.length_map, List.length_map] at this
        omega
      refine px_bind <| px_bind <| px_bind <| px_eq (allS_some L) <| px_filt (fun y : List Int => !pyEq (y.length : Int) (2 : Int)) ll (fun _ _ => rfl) <| px_ok ?_
      rw [pyEq_false (show L.filter (fun y : List Int => !pyEq (y.length : Int) (2 : Int)) ≠ [] from fun z => by
        have := List.filter_eq_nil_iff.mp z l hl2
        rw [pyEq_false (show ((l.length : Nat) : Int) ≠ (2 : Int) by omega)] at this
        exact this rfl)]
      exact px_ite (fun _ => px_ok (ft (n2 e1))) fun z => by cases z
/-- a text of any kind is told as it is due -/
theorem due_found {x : Str} (hx : x.length + 2 ≤ 16777216) : Wp (fun v : Dw => m_law_found (x, ()) = .ok v) (fun _ => False) (m_law_due (x, ())) := by
  obtain ⟨rows, es, hw, ne⟩ := split_line hx
  match rows, ne with
  | [], ne => exact absurd rfl ne
  | [r], _ =>
    have er : m_read (x, ()) = .exc .noText := by
      unfold m_read
      dsimp only
      rw [es]
      rfl
    have ef := found_text er
    unfold m_law_due
    dsimp only
    exact px_bind <| px_eq es <| px_ite (fun _ => px_ok ef) fun z => by cases z
  | r0 :: a :: b, _ =>
    have e : a :: b = (a :: b).dropLast ++ [(a :: b).getLast (List.cons_ne_nil _ _)] := (List.dropLast_concat_getLast (List.cons_ne_nil _ _)).symm
    rw [e] at es hw
    exact due_any es (by omega)
/-! ### k65: numbers read -/
theorem cat_ok {x y : Str} (h : x.length + y.length ≤ 16777216) : catS x y = .ok (x ++ y) := chk_ok (decide_eq_true h)
theorem px_catS {X : Exc → Prop} {A : Str → Prop} {x y : Str} {a b : Nat} (hx : x.length ≤ a) (hy : y.length ≤ b) (h : a + b ≤ 16777216) (q : ∀ z : Str, z.length ≤ a + b → A z) : Wp A X (catS x y) := px_eq (cat_ok (by omega)) (q _ (by rw [len_app]; omega))
theorem rep_len (x : Str) (n : Nat) : (repT x n).length = n * x.length := by
  show (List.replicate n x.cps.toList).flatten.toArray.size = _
  rw [List.size_toArray, List.length_flatten, List.map_replicate, List.sum_replicate_nat]
  have : x.cps.toList.length = x.length := Array.length_toList
  rw [this]
theorem px_rep {X : Exc → Prop} {A : Str → Prop} {x : Str} {n : Int} {a b : Nat} (hx : x.length ≤ a) (h0 : 0 ≤ n) (hn : n ≤ b) (ha : a ≤ 160) (hb : b ≤ 100000) (q : ∀ z : Str, z.length ≤ b * a → A z) : Wp A X (repStr x n) :=
  px_eq (chk_ok (decide_eq_true ⟨h0, by omega, by omega⟩)) (q _ (by rw [rep_len]; exact Nat.mul_le_mul (by omega) hx))
theorem cut_lenS (x : Str) (lo hi : Option Int) : (cutStr x lo hi).length ≤ x.length := by
  have e : x.length = x.cps.toList.length := (Array.length_toList).symm
  show (cutL x.cps.toList lo hi).toArray.size ≤ _
  rw [List.size_toArray, e]
  exact cutL_len _ _ _
/-! ### k68: texts spoiled -/
theorem cut_from68 {α : Type} (l : List α) (k : Nat) : cutL l (some (k : Int)) none = l.drop k := by
  unfold cutL
  have a1 : HT.sIx l.length l.length none = l.length := rfl
  have a2 : HT.sIx l.length 0 (some (k : Int)) = min k l.length := by
    show (if (k : Int) < 0 then ((k : Int) + (l.length : Int)).toNat else min (k : Int).toNat l.length) = _
    rw [if_neg (by omega), Int.toNat_natCast]
  rw [a1, a2]
  by_cases h : k ≤ l.length
  · rw [Nat.min_eq_left h, List.take_of_length_le (by rw [List.length_drop]; omega)]
  · rw [Nat.min_eq_right (by omega), List.drop_of_length_le (Nat.le_refl _), List.drop_of_length_le (by omega), List.take_nil]
theorem wl_td (l : List Str) (k : Nat) : wl (l.take k) + wl (l.drop k) = wl l := by rw [← wl_app, List.take_append_drop]
theorem wl_drop1 (l : List Str) {k : Nat} (h : k < l.length) : wl (l.drop k) = l[k].length + 1 + wl (l.drop (k + 1)) := by rw [List.drop_eq_getElem_cons h, wl_cons]
theorem wl_setle (l : List Str) {k : Nat} (v : Str) (h : k < l.length) : wl (l.set k v) ≤ wl l + v.length + 1 := by
  have h1 := wl_td l k
  have h2 := wl_drop1 l h
  rw [List.set_eq_take_append_cons_drop, if_pos h, wl_app, wl_cons]
  omega
theorem px_pop68 {X : Exc → Prop} {A : Str × List Str → Prop} {l : List Str} {k : Nat} (h : k < l.length) (h2 : l.length ≤ 16777216) (q : ∀ u : Str × List Str, wl u.2 + (u.1.length + 1) = wl l → u.2.length + 1 = l.length → A u) : Wp A X (popR l (k : Int)) := by
  refine px_eq (a := (l[k], l.eraseIdx k)) ?_ (q _ ?_ ?_)
  · unfold popR
    rw [chk_ok (decide_eq_true ⟨by omega, by omega, h2⟩), Int.toNat_natCast, List.getElem?_eq_getElem h]
    rfl
  · have h1 := wl_td l k
    have h3 := wl_drop1 l h
    dsimp only
    rw [List.eraseIdx_eq_take_drop_succ, wl_app]
    omega
  · dsimp only
    rw [List.length_eraseIdx, if_pos h]
    omega
theorem px_ins68 {X : Exc → Prop} {A : List Str → Prop} {l : List Str} {k : Int} {v : Str} (h0 : 0 ≤ k) (h1 : k ≤ 16777216) (h2 : l.length < 16777216) (q : ∀ u : List Str, wl u = wl l + (v.length + 1) → u.length = l.length + 1 → A u) : Wp A X (insR l k v) := by
  refine px_eq (insR_ok h2 h0 (by omega)) (q _ ?_ ?_)
  · have := wl_td l k.toNat
    rw [wl_app, wl_app, wl_cons]
    have : wl ([] : List Str) = 0 := rfl
    omega
  · rw [List.length_append, List.length_append, List.length_take, List.length_drop, List.length_singleton]
    omega
theorem px_join68 {X : Exc → Prop} {A : Str → Prop} {rows : List Str} {sep : Str} {c : Nat} (e : TL.tl sep = [c]) (hw : wl rows ≤ 16777216) (q : ∀ y : Str, y.length ≤ wl rows → A y) : Wp A X (joinS sep rows) := by
  obtain ⟨y, ey, hy⟩ := join_any e hw
  exact px_eq ey (q y hy)
theorem other_word_ok {c : Int} : Wp (fun w : Str => w.length ≤ 62) (fun _ => False) (m_law_other_word (c, ())) := by
  unfold m_law_other_word
  dsimp only
  refine px_bind <| px_ok <| px_bind <| px_bind <| px_bind <| px_rep (a := 1) (b := 60) (by decide +kernel) (by decide) (by decide) (by decide) (by decide) fun w1 l1 => px_bind <| px_bind <| px_rep (a := 1) (b := 61) (by decide +kernel) (by decide) (by decide) (by decide) (by decide) fun w2 l2 => px_bind <| px_bind <| px_bind <| px_rep (a := 1) (b := 60) (by decide +kernel) (by decide) (by decide) (by decide) (by decide) fun w3 l3 => px_catS (a := 1) (b := 60) (by decide +kernel) l3 (by decide) fun w4 l4 => px_bind <| px_bind <| px_bind <| px_rep (a := 1) (b := 61) (by decide +kernel) (by decide) (by decide) (by decide) (by decide) fun w5 l5 => px_catS (a := 1) (b := 61) (by decide +kernel) l5 (by decide) fun w6 l6 => px_ok <| px_ok <| px_ok <| px_ok <| px_cat (by show 18 + 4 ≤ _; decide) <| px_bind <| px_bind <| px_modP (by show (0 : Int) < ((18 + 4 : Nat) : Int); decide) fun j j0 j1 => px_ixn j0 j1 fun x hx => px_ok ?_
  rcases List.mem_append.mp hx with h | h
  · exact (by decide +kernel : ∀ x ∈ [("houses" : PySem.Str), ("tie" : PySem.Str), ("has" : PySem.Str), ("" : PySem.Str), ("-" : PySem.Str), ("-0" : PySem.Str), ("+1" : PySem.Str), ("1_0" : PySem.Str), ("00" : PySem.Str), ("0" : PySem.Str), ("1" : PySem.Str), ("2" : PySem.Str), ("3" : PySem.Str), ("5" : PySem.Str), ("7" : PySem.Str), ("8" : PySem.Str), ("9" : PySem.Str), ("-1" : PySem.Str)], PySem.Str.length x ≤ 62) x h
  · rcases List.mem_cons.mp h with rfl | h
    · omega
    · rcases List.mem_cons.mp h with rfl | h
      · omega
      · rcases List.mem_cons.mp h with rfl | h
        · omega
        · rw [List.mem_singleton.mp h]; omega
theorem sign_ok {i : Int} (i0 : 0 ≤ i) (i1 : i < 8) : Wp (fun z : Str => z.length ≤ 1) (fun _ => False) (ixStr (" \n0-x_+." : Str) i) := by
  have hl : (" \n0-x_+." : Str).cps.toList.length = 8 := by decide +kernel
  unfold ixStr
  rw [chk_ok (decide_eq_true (show (" \n0-x_+." : Str).length ≤ 16777216 by decide +kernel))]
  show Wp _ _ ((ixR (" \n0-x_+." : Str).cps.toList i).bind _)
  rw [ixR_gt 0 i0 (by rw [hl]; exact i1)]
  exact px_ok (show (1 : Nat) ≤ 1 by decide)
theorem spoiled_ok {x : Str} {c : Int} (hx : x.length ≤ 8000000) : Wp (fun y : Str => y.length ≤ 2 * x.length + 200) (fun _ => False) (m_law_spoiled (x, c, ())) := by
  obtain ⟨rows, es, hw, ne⟩ := split_line (x := x) (by omega)
  have rl := wl_len rows
  have r1 : 0 < rows.length := List.length_pos_iff.mpr ne
  unfold m_law_spoiled
  dsimp only
  refine px_bind <| px_bind <| px_pow (by decide) (by decide +kernel) <| px_modP (by decide +kernel) fun cell c0 c1 => px_bind <| px_eq es <| px_bind <| px_bind <| px_div (by decide) (by decide +kernel) <| px_modP (by omega) fun at_ a0 a1 => ?_
  obtain ⟨a, rfl⟩ := Int.eq_ofNat_of_zero_le a0
  have al : a < rows.length := by omega
  have ix : ixR rows (a : Int) = .ok rows[a] := ixR_nat (List.getElem?_eq_getElem al)
  have rw1 := wl_mem (List.getElem_mem al)
  have dr := wl_drop1 rows al
  have td := wl_td rows a
  have td1 := wl_td rows (a + 1)
  obtain ⟨words, ew, hw2, ne2⟩ := split_blank (x := rows[a]) (by omega)
  have wn := wl_len words
  have w1 : 0 < words.length := List.length_pos_iff.mpr ne2
  refine px_bind <| px_bind <| px_eq ix <| px_eq ew <| px_bind <| px_bind <| px_div (by decide) (by decide +kernel) <| px_modP (by omega) fun sp s0 s1 => ?_
  obtain ⟨s, rfl⟩ := Int.eq_ofNat_of_zero_le s0
  have sl : s < words.length := by omega
  rw [show (a : Int) + (1 : Int) = ((a + 1 : Nat) : Int) by omega, cut_take rows (k := a), cut_take rows (k := a + 1), cut_from68 rows a, cut_from68 rows (a + 1)]
  have tl1 : (rows.take a).length ≤ rows.length := by rw [List.length_take]; omega
  have tl2 : (rows.take (a + 1)).length ≤ rows.length := by rw [List.length_take]; omega
  have dl1 : (rows.drop a).length ≤ rows.length := by rw [List.length_drop]; omega
  have dl2 : (rows.drop (a + 1)).length ≤ rows.length := by rw [List.length_drop]; omega
  have step : ∀ {A : List Str → Prop} {t : Bool} {m : R (List Str)} {l : List Str} {b b' : Nat}, (t = true → Wp (fun u : List Str => wl u ≤ b' ∧ words.length ≤ u.length) (fun _ => False) m) → wl l ≤ b → b ≤ b' → words.length ≤ l.length → (∀ u : List Str, wl u ≤ b' → words.length ≤ u.length → A u) → Wp A (fun _ => False) (if t = true then m else .ok l) := fun hm hs hb hl q => px_ite (fun ht => (hm ht).imp fun u hu => q u hu.1 hu.2) fun _ => px_ok (q _ (by omega) hl)
  refine px_bind <| px_bind <| px_mod (by decide) <| px_ok <| px_ite (fun _ => ?_) fun _ => ?_
  · refine px_bind <| px_bind <| px_cat (by omega) <| px_join68 tl_line (by rw [wl_app]; omega) fun y hy => px_ok ?_
    rw [wl_app] at hy
    omega
  refine px_bind <| px_bind <| px_mod (by decide) <| px_ok <| px_ite (fun _ => ?_) fun _ => ?_
  · refine px_bind <| px_bind <| px_cat (by omega) <| px_join68 tl_line (by rw [wl_app]; omega) fun y hy => px_ok ?_
    rw [wl_app] at hy
    omega
  refine px_bind <| px_bind <| px_mod (by decide) <| px_ok <| px_ite (fun _ => ?_) fun _ => ?_
  · refine px_bind <| px_pop68 al (by omega) fun u hu ul => px_bind <| px_bind <| px_div (by decide) (by decide +kernel) <| px_modP (by omega) fun j j0 j1 => px_bind <| px_ins68 j0 (by omega) (by omega) fun v hv vl => px_bind <| px_join68 tl_line (by omega) fun y hy => px_ok (by omega)
  refine px_bind <| px_bind <| px_mod (by decide) <| px_ok <| px_bind <| step (b := wl words) (b' := wl words + 63) (fun _ => ?_) (Nat.le_refl _) (by omega) (Nat.le_refl _) fun u1 b1 n1 => ?_
  · refine px_bind <| px_bind <| px_bind <| px_div (by decide) (by decide +kernel) <| px_ok <| other_word_ok.imp fun w hw' => px_bind <| px_eq (setR_gt (by omega) (by omega) _) <| px_ok ⟨?_, by rw [List.length_set]; exact Nat.le_refl _⟩
    rw [Int.toNat_natCast]
    have := wl_setle words w sl
    omega
  have nu1 := wl_len u1
  refine px_bind <| px_bind <| px_mod (by decide) <| px_ok <| px_bind <| step (b := wl words + 63) (b' := wl words + 126) (fun _ => ?_) b1 (by omega) n1 fun u2 b2 n2 => ?_
  · exact px_bind <| px_bind <| px_bind <| px_div (by decide) (by decide +kernel) <| px_ok <| other_word_ok.imp fun w hw' => px_bind <| px_ins68 (by omega) (by omega) (by omega) fun v hv vl => px_ok ⟨by omega, by omega⟩
  have nu2 := wl_len u2
  refine px_bind <| px_bind <| px_mod (by decide) <| px_ok <| px_bind ?_
  refine Wp.imp (A := fun u : List Str => wl u ≤ wl words + 126) (px_ite (fun _ => px_bind <| px_pop68 (k := s) (by omega) (by omega) fun v hv vl => px_ok (by omega)) fun _ => px_ok b2) fun u3 b3 => ?_
  refine px_bind <| px_bind <| px_mod (by decide) <| px_ok <| px_bind ?_
  refine Wp.imp (A := fun u : List Str => wl u ≤ wl words + 126) (px_ite (fun _ => ?_) fun _ => px_ok b3) fun u4 b4 => ?_
  · refine px_bind <| px_bind <| px_div (by decide) (by decide +kernel) <| px_bind <| px_bind <| px_bind <| px_eq ix <| px_eq (lenS_ok (by omega)) <| px_ok <| px_modP (by omega) fun p p0 p1 => ?_
    refine px_bind <| px_bind <| px_bind <| px_div (by decide) (by decide +kernel) <| px_modP (by decide) fun i i0 i1 => (sign_ok i0 i1).imp fun sg sg1 => ?_
    refine px_bind <| px_bind <| px_bind <| px_bind <| px_bind <| px_eq ix <| px_eq (sl_ok (by omega) _ _) <| px_eq (cat_ok (x := cutStr rows[a] none (some p)) (y := sg) (by have := cut_lenS rows[a] none (some p); omega)) <| px_bind <| px_bind <| px_eq ix <| px_eq (sl_ok (by omega) _ _) <| px_eq (cat_ok (x := cutStr rows[a] none (some p) ++ sg) (y := cutStr rows[a] (some p) none) (by have := cut_lenS rows[a] none (some p); have := cut_lenS rows[a] (some p) none; rw [len_app]; omega)) <| px_ok <| px_ok ?_
    have e1 : (cutStr rows[a] none (some p)).length + (cutStr rows[a] (some p) none).length = rows[a].length := by
      obtain ⟨k, rfl⟩ := Int.eq_ofNat_of_zero_le p0
      have e : ∀ l : List Nat, (cutL l none (some (k : Int))).length + (cutL l (some (k : Int)) none).length = l.length := fun l => by
        rw [cut_take, cut_from68, List.length_take, List.length_drop]
        omega
      rw [TL.len_tl, TL.len_tl, TL.len_tl, tl_cut, tl_cut, e]
    show wl [_] ≤ _
    rw [wl_cons, len_app, len_app, show wl ([] : List Str) = 0 from rfl]
    omega
  · refine px_bind <| px_bind <| px_bind <| px_bind <| px_bind <| px_join68 tl_blank (by omega) fun j hj => px_ok <| px_cat (by rw [List.length_singleton]; omega) <| px_cat (by rw [List.length_append, List.length_singleton]; omega) ?_
    have e : wl (rows.take a ++ [j] ++ rows.drop (a + 1)) = wl (rows.take a) + (j.length + 1) + wl (rows.drop (a + 1)) := by
      rw [wl_app, wl_app, wl_cons, show wl ([] : List Str) = 0 from rfl]
    exact px_join68 tl_line (by omega) fun y hy => px_ok (by omega)
theorem plain (ns : List Int) (hl : ns.length ≤ 63) (hb : ∀ z ∈ ns, Builtin.Int.intBits z ≤ 1048576) : m_law (⟨ns⟩, ()) = .ok true := by
  have hb' : ∀ z ∈ ns, bits z ≤ 1048576 := hb
  refine px_is ?_
  unfold m_law
  dsimp only
  refine px_bind <| webm_ok hb' (by decide) (by decide) (by decide) (by decide) fun n q ties n1 nm qm qz tl tf tc => ?_
  dsimp only
  have n8 : n ≤ 8 := by omega
  have hcut := script_cut (ns := ns) ((n : Int) + (q : Int)) ((n : Int) + (q : Int) + 200) (by omega) (by omega)
  have hcut2 := script_cut (ns := ns) ((n : Int) + (q : Int)) ((n : Int) + (q : Int) + 30) (by omega) (by omega)
  refine px_bind <| ((gathered59 (n := n) (by omega) (fun z hz => hb' z (hcut.2 z hz)) n1 n8).any).imp fun D ⟨dl, d59⟩ => ?_
  have db : ∀ x ∈ D, bits x ≤ 200 := fun x hx => n59_bits (d59 x hx)
  have ec : cutL ties none (some (16 : Int)) = ties.take 16 := cut_take ties (k := 16)
  have l16 : (ties.take 16).length ≤ 16 := by rw [List.length_take]; omega
  have f16 : ∀ t ∈ sortP ((ties.take 16).map mm), Fit n t := fun t ht => by
    obtain ⟨u, hu, rfl⟩ := List.mem_map.mp ((sortP_perm _).mem_iff.mp ht)
    exact mm_fit (tf u (List.mem_of_mem_take hu))
  rw [ec]
  refine px_bind <| px_eq (law_text_ok n8 (by omega) f16 dl db) ?_
  have tlen : (txtS (n : Int) (sortP ((ties.take 16).map mm)) D).length ≤ 1000000 := txt_len n8 (by rw [(sortP_perm _).length_eq, List.length_map]; omega) f16 (by omega) db
  generalize txtS (n : Int) (sortP ((ties.take 16).map mm)) D = tx at tlen
  refine px_bind <| px_cat (by rw [List.length_singleton]; omega) <| px_ct ?_
  refine px_forM (fun _ _ => True) trivial (fun ys y zs e _ _ => ?_) fun _ _ => px_ok rfl
  refine px_bind <| ((spoiled_ok (by omega)).any).imp fun t1 h1 => px_bind <| px_bind <| px_bind <| px_bind <| px_bind <| px_bind <| px_div (by decide) (by decide +kernel) <| px_ok <| px_ok <| ((spoiled_ok (by omega)).any).imp fun t2 h2 => px_ok <| px_ok <| px_ct ?_
  refine px_forM (fun _ _ => True) trivial (fun ys2 y2 zs2 e2 _ _ => ?_) fun _ _ => px_ok trivial
  have hy : y2.length ≤ 5000000 := by
    have : y2 ∈ [t1, t2] := by rw [e2]; exact List.mem_append_right _ List.mem_cons_self
    rcases List.mem_cons.mp this with rfl | h
    · omega
    · rw [List.mem_singleton.mp h]; omega
  refine px_bind <| ((due_found (x := y2) (by omega)).any).imp fun v hv => px_bind <| px_bind <| px_eq hv <| px_ok ?_
  have ev : pyEq v v = true := by
    cases v with
    | inl s => exact pyEq_refl s
    | inr w => exact pyEq_refl w
  rw [ev]
  exact px_ite (fun z => by cases z) fun _ => px_nx trivial
end Wk
open PySem PySem.W PySem.Calls PyProof.Rows
theorem PySem.Challenge.cw_owinghall_k68_texts_refused_holds : PySem.Challenge.rw_owinghall_k68_texts_refused.Holds := by
  w_on; o_law
  refine HandSHeadRun.head_any (r := OpenLaw.row PySem.Challenge.rw_owinghall_k68_texts_refused) (q := view (OpenLaw.row PySem.Challenge.rw_owinghall_k68_texts_refused).prog [40]) (H := Wk.hk) (ob := Wk.ob) (M := 4000) (loose := Wk.names) (d := HandSHeadRun.topDef (OpenLaw.row PySem.Challenge.rw_owinghall_k68_texts_refused).prog 40) (kwd := []) Wk.ob_eq
    (by kernel_rfl) (fun s => by kernel_rfl) Wk.run (by kernel_rfl) (by kernel_rfl) (by kernel_rfl) (by rfl) (by first | assumption | decide +kernel) (by decide +kernel) ⟨rfl, rfl, rfl, rfl, rfl, by decide +kernel⟩ ?hw ?hc
  case hw => w_witness2
  case hc =>
    exact Wk.end_of (fe := Wk.fe) (fa := Wk.fa) (fn := Wk.fn) (dd := Wk.dd_law) (hd := 0) (m := Wk.m_law) (k := 6) rfl (by kernel_rfl) (by kernel_rfl) ⟨rfl, by decide, by decide⟩ 21 46 rfl rfl Wk.sc_law Wk.bn_law
      (fun w X _ _ C H0 qs rt A B fr hR t => Wk.b_law (by omega) X C H0 qs rt A B fr hR t) Wk.plain
