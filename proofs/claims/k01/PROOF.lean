import PyProof.Rows.All
import Wide.All
import OpenK.AllK
import Wide.FinOn
import HandS.ForMost
import HandS.Exc
import HandS.TryOnly
import HandS.TryMany
import HandS.WordsExc
import HandS.IsInst
import HandS.Defaults
import HandS.Flow
import HandS.Wide
import HandS.WideMore
import HandS.TupAny
import HandS.TupMul
import HandS.TupLe
import HandS.Deep
import HandS.Conv
import HandS.Zip
import HandS.Style
import HandS.HeadHook1
import HandS.HeadHook2
import HandS.HotCalls
import PyProof.ReprRoads
import HandS.Small
import HandS.ExcInit
import KE.KExcIs
import HandS.Ends
import KE.KStateDown
import HandS.Head0
import HandS.Head1
import HandS.Head2
import HandS.HeadEnd
import PyProof.StrLawsRepr
import PyProof.FitsInt
import PySem.Challenge.RW_carryrows_k01_errors
set_option Elab.async false
set_option linter.all false
set_option maxRecDepth 100000
set_option maxHeartbeats 8000000
/-! Mi.A: a small machine over plain data, its memory, and how the heap bears it. -/
namespace Mi
open PySem PySem.Spec
open PyProof.Rows hiding St
open L2

/-! ### data -/
/-- a value as data; ref: an object of the machine's own memory; lst, dct, obj: objects that nobody changes any more -/
inductive D where
  | non | bl (b : Bool) | int (i : Int) | str (x : Str)
  | tup (ds : List D) | lst (ds : List D) | dct (kvs : List (Key × D))
  | ref (i : Nat) | obj (c : Nat) (fs : List (Str × D)) | fn (f : Nat) | cls (c : Nat) | ty (n : String) | scr (ns : List Int) | exn
  deriving Inhabited
/-- an object of the memory; lk: a list while a loop walks it -/
inductive MO where
  | lst (ds : List D) | lk (ds : List D) | dK (kvs : List (Key × D)) | dT (kvs : List (List Key × D)) | ins (c : Nat) (fs : List (Str × D)) | dead
  deriving Inhabited
abbrev Mem := List MO
abbrev Env := List (Option D)
/-- how an expression ends -/
inductive R (α : Type) where
  | ok (a : α) (μ : Mem)
  | exc (c : Nat) (fs : List (Str × D)) (μ : Mem)
  | stuck
def R.bind {α β : Type} (r : R α) (k : α → Mem → R β) : R β :=
  match r with
  | .ok a μ => k a μ
  | .exc c fs μ => .exc c fs μ
  | .stuck => .stuck
/-- how a statement ends -/
inductive SR where
  | nx (ρ : Env) (μ : Mem)
  | rt (d : D) (μ : Mem)
  | bk (ρ : Env) (μ : Mem)
  | ct (ρ : Env) (μ : Mem)
  | exc (c : Nat) (fs : List (Str × D)) (ρ : Env) (μ : Mem)
  | stuck
/-- what calls do: the def, its arguments, the base, the memory -/
abbrev G := Nat → List D → Nat → Mem → R D
/-- what runs around: the calls, the first object of this frame; the calls while an exception is handled, that exception -/
structure Ar where
  g : G
  base : Nat
  h : Nat → List (Str × D) → G
  ex : Option (Nat × List (Str × D))
abbrev EM := Ar → Env → Mem → R D
abbrev LM := Ar → Env → Mem → R (List D)
abbrev TM := Ar → Env → Mem → R Bool
abbrev SM := Ar → Env → Mem → SR

/-! ### the heap bears the memory -/
/-- an exception that is handled -/
structure ExI where
  a : Addr
  c : Nat
  C : Addr
  d : Option Addr
  fs : List (Str × D)
/-- where the text's defs and classes stand; the exception that is handled -/
structure Wd where
  fn : Nat → Addr
  cl : Nat → Addr
  K : PySem.W.Frag
  ex : Option ExI := none

/-- a list of the written part -/
def KLs (K : PySem.W.Frag) (a : Addr) (xs : List V) : Prop := ∃ (o : Obj) (its : Array Value) (n : Nat), K.lookup a = some o ∧ o.cls = .type "list" ∧ o.dict = none ∧ o.data = .seq its n ∧ its.size ≤ sizeLine ∧ Vals xs its.toList
/-- the script -/
def FzS (K : PySem.W.Frag) (φ : List Addr) (H : Hp) (a : Addr) (xs : List V) : Prop := ((∃ o, H a = some (.frz o (.lst xs))) ∧ a ∉ φ) ∨ KLs K a xs
theorem FzS.sq {K φ H a xs} (h : FzS K φ H a xs) : SqL K H a xs := by
  rcases h with ⟨⟨o, h⟩, _⟩ | h
  · exact .inl (.inr ⟨o, h⟩)
  · exact .inr h
/-- a tuple of the written part -/
def KT (K : PySem.W.Frag) (a : Addr) (xs : List V) : Prop := ∃ (o : Obj) (its : Array Value) (n : Nat), K.lookup a = some o ∧ o.cls = .type "tuple" ∧ o.data = .seq its n ∧ its.size ≤ sizeLine ∧ Vals xs its.toList
/-- a tuple: nobody changes it -/
def FzT (K : PySem.W.Frag) (φ : List Addr) (H : Hp) (a : Addr) (xs : List V) : Prop := (Rd H a (.tup xs) ∧ a ∉ φ) ∨ KT K a xs
theorem FzT.sq {K φ H a xs} (h : FzT K φ H a xs) : SqT K H a xs := by
  rcases h with ⟨h, _⟩ | h
  · exact .inl h
  · exact .inr h

mutual
/-- the value v is the datum -/
def Rep (Y : Wd) (φ : List Addr) (H : Hp) : D → V → Prop
  | .non, v => v = .non
  | .bl b, v => v = .bl b
  | .int i, v => v = .int i
  | .str x, v => v = .str x
  | .tup ds, v => ∃ a vs, v = .ref a ∧ FzT Y.K φ H a vs ∧ RepL Y φ H ds vs
  | .lst ds, v => ∃ a vs, v = .ref a ∧ H a = some (.lst vs) ∧ a ∉ φ ∧ RepL Y φ H ds vs
  | .dct kvs, v => ∃ a kvs', v = .ref a ∧ H a = some (.dK kvs') ∧ a ∉ φ ∧ RepK Y φ H kvs kvs'
  | .ref i, v => ∃ a, v = .ref a ∧ φ[i]? = some a
  | .obj c fs, v => ∃ a dx fs', v = .ref a ∧ H a = some (.ins (Y.cl c) dx fs') ∧ a ∉ φ ∧ RepF Y φ H fs fs'
  | .fn f, v => v = .ref (Y.fn f)
  | .cls c, v => v = .ref (Y.cl c)
  | .ty n, v => v = .ty n
  | .scr ns, v => ∃ a, v = .ref a ∧ FzS Y.K φ H a (ns.map V.int)
  | .exn, v => ∃ a, v = .ref a
def RepL (Y : Wd) (φ : List Addr) (H : Hp) : List D → List V → Prop
  | [], vs => vs = []
  | d :: ds, vs => ∃ v r, vs = v :: r ∧ Rep Y φ H d v ∧ RepL Y φ H ds r
def RepK (Y : Wd) (φ : List Addr) (H : Hp) : List (Key × D) → List (Key × V) → Prop
  | [], vs => vs = []
  | (k, d) :: ds, vs => ∃ v r, vs = (k, v) :: r ∧ Rep Y φ H d v ∧ RepK Y φ H ds r
def RepF (Y : Wd) (φ : List Addr) (H : Hp) : List (Str × D) → List (Str × V) → Prop
  | [], vs => vs = []
  | (k, d) :: ds, vs => ∃ v r, vs = (k, v) :: r ∧ Rep Y φ H d v ∧ RepF Y φ H ds r
end
/-- tuple keys -/
def RepT (Y : Wd) (φ : List Addr) (H : Hp) : List (List Key × D) → List (List Key × V) → Prop
  | [], vs => vs = []
  | (k, d) :: ds, vs => ∃ v r, vs = (k, v) :: r ∧ Rep Y φ H d v ∧ RepT Y φ H ds r

/-- a step of the heap: what nobody may change stands, the memory's new objects are new -/
structure Step (φ φ' : List Addr) (H H' : Hp) : Prop where
  pre : ∃ l, φ' = φ ++ l
  keep : ∀ a o, H a = some o → a ∉ φ → H' a = some o
  fresh : ∀ a, a ∈ φ' → a ∉ φ → H a = none
  al : ∀ a ∈ φ, H a ≠ none → H' a ≠ none
theorem Step.refl {φ H} : Step φ φ H H := ⟨⟨[], by simp⟩, fun _ _ h _ => h, fun _ h n => absurd h n, fun _ _ h => h⟩
theorem Step.trans {φ φ1 φ2 H H1 H2} (a : Step φ φ1 H H1) (b : Step φ1 φ2 H1 H2) : Step φ φ2 H H2 := by
  obtain ⟨l1, e1⟩ := a.pre
  obtain ⟨l2, e2⟩ := b.pre
  refine ⟨⟨l1 ++ l2, by rw [e2, e1, List.append_assoc]⟩, fun x o h n => ?_, fun x h n => ?_, fun x hx h => ?_⟩
  · refine b.keep x o (a.keep x o h n) fun h1 => ?_
    have := a.fresh x h1 n
    rw [h] at this; cases this
  · by_cases h1 : x ∈ φ1
    · exact a.fresh x h1 n
    · have := b.fresh x h h1
      cases e : H x with
      | none => rfl
      | some o => rw [a.keep x o e n] at this; cases this
  · exact b.al x (by rw [e1]; exact List.mem_append_left _ hx) (a.al x hx h)
theorem Step.mem {φ φ' H H'} (a : Step φ φ' H H') {x : Addr} (h : x ∈ φ) : x ∈ φ' := by
  obtain ⟨l, e⟩ := a.pre
  rw [e]; exact List.mem_append_left _ h
theorem Step.get {φ φ' H H'} (a : Step φ φ' H H') {i : Nat} {x : Addr} (h : φ[i]? = some x) : φ'[i]? = some x := by
  obtain ⟨l, e⟩ := a.pre
  have hi : i < φ.length := (List.getElem?_eq_some_iff.mp h).1
  rw [e, List.getElem?_append_left hi]; exact h
theorem Step.nin {φ φ' H H'} (a : Step φ φ' H H') {x : Addr} {o : HO} (h : H x = some o) (n : x ∉ φ) : x ∉ φ' := fun h1 => by
  have := a.fresh x h1 n
  rw [h] at this; cases this
theorem Rd.some {H : Hp} {a : Addr} {u : HO} (r : Rd H a u) : ∃ o, H a = some o := by
  rcases r with r | ⟨o, r⟩
  · exact ⟨_, r⟩
  · exact ⟨_, r⟩
theorem Step.rd {φ φ' H H'} (a : Step φ φ' H H') {x : Addr} {u : HO} (r : Rd H x u) (n : x ∉ φ) : Rd H' x u := by
  rcases r with r | ⟨o, r⟩
  · exact .inl (a.keep _ _ r n)
  · exact .inr ⟨o, a.keep _ _ r n⟩
theorem Step.fzT {K φ φ' H H'} (a : Step φ φ' H H') {x : Addr} {xs} (h : FzT K φ H x xs) : FzT K φ' H' x xs := by
  rcases h with ⟨h, n⟩ | h
  · obtain ⟨o, e⟩ := Rd.some h
    exact .inl ⟨a.rd h n, a.nin e n⟩
  · exact .inr h
theorem Step.fzS {K φ φ' H H'} (a : Step φ φ' H H') {x : Addr} {xs} (h : FzS K φ H x xs) : FzS K φ' H' x xs := by
  rcases h with ⟨⟨o, h⟩, n⟩ | h
  · exact .inl ⟨⟨o, a.keep _ _ h n⟩, a.nin h n⟩
  · exact .inr h
section
variable {Y : Wd} {φ φ' : List Addr} {H H' : Hp}
mutual
theorem Rep.step (s : Step φ φ' H H') : ∀ {d : D} {v : V}, Rep Y φ H d v → Rep Y φ' H' d v
  | .non, v, h => by simpa only [Rep] using h
  | .bl b, v, h => by simpa only [Rep] using h
  | .int i, v, h => by simpa only [Rep] using h
  | .str x, v, h => by simpa only [Rep] using h
  | .tup ds, v, h => by
    simp only [Rep] at h ⊢
    obtain ⟨a, vs, e, f, r⟩ := h
    exact ⟨a, vs, e, s.fzT f, RepL.step s r⟩
  | .lst ds, v, h => by
    simp only [Rep] at h ⊢
    obtain ⟨a, vs, e, f, n, r⟩ := h
    exact ⟨a, vs, e, s.keep _ _ f n, s.nin f n, RepL.step s r⟩
  | .dct kvs, v, h => by
    simp only [Rep] at h ⊢
    obtain ⟨a, vs, e, f, n, r⟩ := h
    exact ⟨a, vs, e, s.keep _ _ f n, s.nin f n, RepK.step s r⟩
  | .ref i, v, h => by
    simp only [Rep] at h ⊢
    obtain ⟨a, e, g⟩ := h
    exact ⟨a, e, s.get g⟩
  | .obj c fs, v, h => by
    simp only [Rep] at h ⊢
    obtain ⟨a, dx, vs, e, f, n, r⟩ := h
    exact ⟨a, dx, vs, e, s.keep _ _ f n, s.nin f n, RepF.step s r⟩
  | .fn f, v, h => by simpa only [Rep] using h
  | .cls c, v, h => by simpa only [Rep] using h
  | .ty n, v, h => by simpa only [Rep] using h
  | .scr ns, v, h => by
    simp only [Rep] at h ⊢
    obtain ⟨a, e, f⟩ := h
    exact ⟨a, e, s.fzS f⟩
  | .exn, v, h => by simpa only [Rep] using h
theorem RepL.step (s : Step φ φ' H H') : ∀ {ds : List D} {vs : List V}, RepL Y φ H ds vs → RepL Y φ' H' ds vs
  | [], vs, h => by simpa only [RepL] using h
  | d :: ds, vs, h => by
    simp only [RepL] at h ⊢
    obtain ⟨v, r, e, h1, h2⟩ := h
    exact ⟨v, r, e, Rep.step s h1, RepL.step s h2⟩
theorem RepK.step (s : Step φ φ' H H') : ∀ {ds : List (Key × D)} {vs : List (Key × V)}, RepK Y φ H ds vs → RepK Y φ' H' ds vs
  | [], vs, h => by simpa only [RepK] using h
  | (k, d) :: ds, vs, h => by
    simp only [RepK] at h ⊢
    obtain ⟨v, r, e, h1, h2⟩ := h
    exact ⟨v, r, e, Rep.step s h1, RepK.step s h2⟩
theorem RepF.step (s : Step φ φ' H H') : ∀ {ds : List (Str × D)} {vs : List (Str × V)}, RepF Y φ H ds vs → RepF Y φ' H' ds vs
  | [], vs, h => by simpa only [RepF] using h
  | (k, d) :: ds, vs, h => by
    simp only [RepF] at h ⊢
    obtain ⟨v, r, e, h1, h2⟩ := h
    exact ⟨v, r, e, Rep.step s h1, RepF.step s h2⟩
end
theorem RepT.step (s : Step φ φ' H H') : ∀ {ds : List (List Key × D)} {vs : List (List Key × V)}, RepT Y φ H ds vs → RepT Y φ' H' ds vs
  | [], vs, h => by simpa only [RepT] using h
  | (k, d) :: ds, vs, h => by
    simp only [RepT] at h ⊢
    obtain ⟨v, r, e, h1, h2⟩ := h
    exact ⟨v, r, e, Rep.step s h1, RepT.step s h2⟩
end
end Mi

/-! Mi.B: how the heap bears the memory; what is wanted behind an expression. -/
namespace Mi
open PySem PySem.Spec
open PyProof.Rows hiding St
open L2

mutual
/-- all refs lie below b -/
def below (b : Nat) : D → Bool
  | .tup ds => belowL b ds
  | .lst ds => belowL b ds
  | .dct kvs => belowK b kvs
  | .ref i => Nat.blt i b
  | .obj _ fs => belowF b fs
  | .non => true
  | .bl _ => true
  | .int _ => true
  | .str _ => true
  | .fn _ => true
  | .cls _ => true
  | .ty _ => true
  | .scr _ => true
  | .exn => true
def belowL (b : Nat) : List D → Bool
  | [] => true
  | d :: ds => below b d && belowL b ds
def belowK (b : Nat) : List (Key × D) → Bool
  | [] => true
  | (_, d) :: ds => below b d && belowK b ds
def belowF (b : Nat) : List (Str × D) → Bool
  | [] => true
  | (_, d) :: ds => below b d && belowF b ds
end
def belowT (b : Nat) : List (List Key × D) → Bool
  | [] => true
  | (_, d) :: ds => below b d && belowT b ds
def MO.below (b : Nat) : MO → Bool
  | .lst ds => belowL b ds
  | .lk ds => belowL b ds
  | .dK kvs => belowK b kvs
  | .dT kvs => belowT b kvs
  | .ins _ fs => belowF b fs
  | .dead => true
theorem blt_iff {i b : Nat} : Nat.blt i b = true ↔ i < b := by
  unfold Nat.blt
  exact Iff.of_eq Nat.ble_eq
section
variable {Y : Wd} {φ : List Addr} {H : Hp} {b c : Nat}
mutual
theorem Rep.below : ∀ {d : D} {v : V}, Rep Y φ H d v → Mi.below φ.length d = true
  | .non, v, h => rfl
  | .bl b, v, h => rfl
  | .int i, v, h => rfl
  | .str x, v, h => rfl
  | .tup ds, v, h => by
    simp only [Rep] at h
    obtain ⟨a, vs, e, f, r⟩ := h
    simp only [Mi.below]; exact RepL.below r
  | .lst ds, v, h => by
    simp only [Rep] at h
    obtain ⟨a, vs, e, f, n, r⟩ := h
    simp only [Mi.below]; exact RepL.below r
  | .dct kvs, v, h => by
    simp only [Rep] at h
    obtain ⟨a, vs, e, f, n, r⟩ := h
    simp only [Mi.below]; exact RepK.below r
  | .ref i, v, h => by
    simp only [Rep] at h
    obtain ⟨a, e, g⟩ := h
    simp only [Mi.below]
    exact blt_iff.mpr (List.getElem?_eq_some_iff.mp g).1
  | .obj c fs, v, h => by
    simp only [Rep] at h
    obtain ⟨a, dx, vs, e, f, n, r⟩ := h
    simp only [Mi.below]; exact RepF.below r
  | .fn f, v, h => rfl
  | .cls c, v, h => rfl
  | .ty n, v, h => rfl
  | .scr n, v, h => rfl
  | .exn, v, h => rfl
theorem RepL.below : ∀ {ds : List D} {vs : List V}, RepL Y φ H ds vs → belowL φ.length ds = true
  | [], vs, h => rfl
  | d :: ds, vs, h => by
    simp only [RepL] at h
    obtain ⟨v, r, e, h1, h2⟩ := h
    simp only [belowL, Rep.below h1, RepL.below h2]; rfl
theorem RepK.below : ∀ {ds : List (Key × D)} {vs : List (Key × V)}, RepK Y φ H ds vs → belowK φ.length ds = true
  | [], vs, h => rfl
  | (k, d) :: ds, vs, h => by
    simp only [RepK] at h
    obtain ⟨v, r, e, h1, h2⟩ := h
    simp only [belowK, Rep.below h1, RepK.below h2]; rfl
theorem RepF.below : ∀ {ds : List (Str × D)} {vs : List (Str × V)}, RepF Y φ H ds vs → belowF φ.length ds = true
  | [], vs, h => rfl
  | (k, d) :: ds, vs, h => by
    simp only [RepF] at h
    obtain ⟨v, r, e, h1, h2⟩ := h
    simp only [belowF, Rep.below h1, RepF.below h2]; rfl
end
theorem RepT.below : ∀ {ds : List (List Key × D)} {vs : List (List Key × V)}, RepT Y φ H ds vs → belowT φ.length ds = true
  | [], vs, h => rfl
  | (k, d) :: ds, vs, h => by
    simp only [RepT] at h
    obtain ⟨v, r, e, h1, h2⟩ := h
    simp only [belowT, Rep.below h1, RepT.below h2]; rfl
theorem nin_take {x : Addr} (h : x ∉ φ) : x ∉ φ.take b := fun q => h (List.mem_of_mem_take q)
theorem FzT.take {K x xs} (h : FzT K φ H x xs) : FzT K (φ.take b) H x xs := by
  rcases h with ⟨h, n⟩ | h
  · exact .inl ⟨h, nin_take n⟩
  · exact .inr h
theorem FzS.take {K x xs} (h : FzS K φ H x xs) : FzS K (φ.take b) H x xs := by
  rcases h with ⟨h, n⟩ | h
  · exact .inl ⟨h, nin_take n⟩
  · exact .inr h
mutual
theorem Rep.cut : ∀ {d : D} {v : V}, Rep Y φ H d v → Mi.below b d = true → Rep Y (φ.take b) H d v
  | .non, v, h, _ => by simpa only [Rep] using h
  | .bl b, v, h, _ => by simpa only [Rep] using h
  | .int i, v, h, _ => by simpa only [Rep] using h
  | .str x, v, h, _ => by simpa only [Rep] using h
  | .tup ds, v, h, k => by
    simp only [Rep] at h ⊢
    obtain ⟨a, vs, e, f, r⟩ := h
    exact ⟨a, vs, e, f.take, RepL.cut r (by simpa only [Mi.below] using k)⟩
  | .lst ds, v, h, k => by
    simp only [Rep] at h ⊢
    obtain ⟨a, vs, e, f, n, r⟩ := h
    exact ⟨a, vs, e, f, nin_take n, RepL.cut r (by simpa only [Mi.below] using k)⟩
  | .dct kvs, v, h, k => by
    simp only [Rep] at h ⊢
    obtain ⟨a, vs, e, f, n, r⟩ := h
    exact ⟨a, vs, e, f, nin_take n, RepK.cut r (by simpa only [Mi.below] using k)⟩
  | .ref i, v, h, k => by
    simp only [Rep] at h ⊢
    obtain ⟨a, e, g⟩ := h
    exact ⟨a, e, by rw [List.getElem?_take_of_lt (blt_iff.mp (by simpa only [Mi.below] using k))]; exact g⟩
  | .obj c fs, v, h, k => by
    simp only [Rep] at h ⊢
    obtain ⟨a, dx, vs, e, f, n, r⟩ := h
    exact ⟨a, dx, vs, e, f, nin_take n, RepF.cut r (by simpa only [Mi.below] using k)⟩
  | .fn f, v, h, _ => by simpa only [Rep] using h
  | .cls c, v, h, _ => by simpa only [Rep] using h
  | .ty n, v, h, _ => by simpa only [Rep] using h
  | .scr n, v, h, _ => by
    simp only [Rep] at h ⊢
    obtain ⟨a, e, f⟩ := h
    exact ⟨a, e, f.take⟩
  | .exn, v, h, _ => by simpa only [Rep] using h
theorem RepL.cut : ∀ {ds : List D} {vs : List V}, RepL Y φ H ds vs → belowL b ds = true → RepL Y (φ.take b) H ds vs
  | [], vs, h, _ => by simpa only [RepL] using h
  | d :: ds, vs, h, k => by
    simp only [RepL] at h ⊢
    obtain ⟨v, r, e, h1, h2⟩ := h
    simp only [belowL, Bool.and_eq_true] at k
    exact ⟨v, r, e, Rep.cut h1 k.1, RepL.cut h2 k.2⟩
theorem RepK.cut : ∀ {ds : List (Key × D)} {vs : List (Key × V)}, RepK Y φ H ds vs → belowK b ds = true → RepK Y (φ.take b) H ds vs
  | [], vs, h, _ => by simpa only [RepK] using h
  | (k, d) :: ds, vs, h, q => by
    simp only [RepK] at h ⊢
    obtain ⟨v, r, e, h1, h2⟩ := h
    simp only [belowK, Bool.and_eq_true] at q
    exact ⟨v, r, e, Rep.cut h1 q.1, RepK.cut h2 q.2⟩
theorem RepF.cut : ∀ {ds : List (Str × D)} {vs : List (Str × V)}, RepF Y φ H ds vs → belowF b ds = true → RepF Y (φ.take b) H ds vs
  | [], vs, h, _ => by simpa only [RepF] using h
  | (k, d) :: ds, vs, h, q => by
    simp only [RepF] at h ⊢
    obtain ⟨v, r, e, h1, h2⟩ := h
    simp only [belowF, Bool.and_eq_true] at q
    exact ⟨v, r, e, Rep.cut h1 q.1, RepF.cut h2 q.2⟩
end
theorem RepT.cut : ∀ {ds : List (List Key × D)} {vs : List (List Key × V)}, RepT Y φ H ds vs → belowT b ds = true → RepT Y (φ.take b) H ds vs
  | [], vs, h, _ => by simpa only [RepT] using h
  | (k, d) :: ds, vs, h, q => by
    simp only [RepT] at h ⊢
    obtain ⟨v, r, e, h1, h2⟩ := h
    simp only [belowT, Bool.and_eq_true] at q
    exact ⟨v, r, e, Rep.cut h1 q.1, RepT.cut h2 q.2⟩
end
mutual
theorem below_mono {b c : Nat} (h : b ≤ c) : ∀ {d : D}, below b d = true → below c d = true
  | .non, _ => rfl
  | .bl _, _ => rfl
  | .int _, _ => rfl
  | .str _, _ => rfl
  | .tup ds, k => by simp only [below] at k ⊢; exact belowL_mono h k
  | .lst ds, k => by simp only [below] at k ⊢; exact belowL_mono h k
  | .dct ds, k => by simp only [below] at k ⊢; exact belowK_mono h k
  | .ref i, k => by
    simp only [below] at k ⊢
    have := blt_iff.mp k
    exact blt_iff.mpr (by omega)
  | .obj _ fs, k => by simp only [below] at k ⊢; exact belowF_mono h k
  | .fn _, _ => rfl
  | .cls _, _ => rfl
  | .ty _, _ => rfl
  | .scr _, _ => rfl
  | .exn, _ => rfl
theorem belowL_mono {b c : Nat} (h : b ≤ c) : ∀ {ds : List D}, belowL b ds = true → belowL c ds = true
  | [], _ => rfl
  | d :: ds, k => by
    simp only [belowL, Bool.and_eq_true] at k ⊢
    exact ⟨below_mono h k.1, belowL_mono h k.2⟩
theorem belowK_mono {b c : Nat} (h : b ≤ c) : ∀ {ds : List (Key × D)}, belowK b ds = true → belowK c ds = true
  | [], _ => rfl
  | (_, d) :: ds, k => by
    simp only [belowK, Bool.and_eq_true] at k ⊢
    exact ⟨below_mono h k.1, belowK_mono h k.2⟩
theorem belowF_mono {b c : Nat} (h : b ≤ c) : ∀ {ds : List (Str × D)}, belowF b ds = true → belowF c ds = true
  | [], _ => rfl
  | (_, d) :: ds, k => by
    simp only [belowF, Bool.and_eq_true] at k ⊢
    exact ⟨below_mono h k.1, belowF_mono h k.2⟩
end
theorem belowT_mono {b c : Nat} (h : b ≤ c) : ∀ {ds : List (List Key × D)}, belowT b ds = true → belowT c ds = true
  | [], _ => rfl
  | (_, d) :: ds, k => by
    simp only [belowT, Bool.and_eq_true] at k ⊢
    exact ⟨below_mono h k.1, belowT_mono h k.2⟩

/-! ### objects of the memory -/
def ObjRep (Y : Wd) (φ : List Addr) (H : Hp) (a : Addr) : MO → Prop
  | .lst ds => ∃ vs, H a = some (.lst vs) ∧ RepL Y φ H ds vs
  | .lk ds => ∃ vs, H a = some (.lst vs) ∧ RepL Y φ H ds vs
  | .dK kvs => ∃ kvs', H a = some (.dK kvs') ∧ RepK Y φ H kvs kvs'
  | .dT kvs => ∃ kvs', H a = some (.dT kvs') ∧ RepT Y φ H kvs kvs'
  | .ins c fs => ∃ dx fs', H a = some (.ins (Y.cl c) dx fs') ∧ RepF Y φ H fs fs'
  | .dead => True
theorem ObjRep.step {φ' H'} (s : Step φ φ' H H') {a : Addr} {m : MO} (h : ObjRep Y φ H a m) (e : H' a = H a) : ObjRep Y φ' H' a m := by
  cases m with
  | lst ds => obtain ⟨vs, e1, r⟩ := h; exact ⟨vs, e.trans e1, r.step s⟩
  | lk ds => obtain ⟨vs, e1, r⟩ := h; exact ⟨vs, e.trans e1, r.step s⟩
  | dK ds => obtain ⟨vs, e1, r⟩ := h; exact ⟨vs, e.trans e1, r.step s⟩
  | dT ds => obtain ⟨vs, e1, r⟩ := h; exact ⟨vs, e.trans e1, r.step s⟩
  | ins c fs => obtain ⟨dx, vs, e1, r⟩ := h; exact ⟨dx, vs, e.trans e1, r.step s⟩
  | dead => trivial
theorem ObjRep.below {a : Addr} {m : MO} (h : ObjRep Y φ H a m) : m.below φ.length = true := by
  cases m with
  | lst ds => obtain ⟨vs, e1, r⟩ := h; exact r.below
  | lk ds => obtain ⟨vs, e1, r⟩ := h; exact r.below
  | dK ds => obtain ⟨vs, e1, r⟩ := h; exact r.below
  | dT ds => obtain ⟨vs, e1, r⟩ := h; exact r.below
  | ins c fs => obtain ⟨dx, vs, e1, r⟩ := h; exact r.below
  | dead => rfl
theorem ObjRep.cut {a : Addr} {m : MO} (h : ObjRep Y φ H a m) (k : m.below b = true) : ObjRep Y (φ.take b) H a m := by
  cases m with
  | lst ds => obtain ⟨vs, e1, r⟩ := h; exact ⟨vs, e1, r.cut k⟩
  | lk ds => obtain ⟨vs, e1, r⟩ := h; exact ⟨vs, e1, r.cut k⟩
  | dK ds => obtain ⟨vs, e1, r⟩ := h; exact ⟨vs, e1, r.cut k⟩
  | dT ds => obtain ⟨vs, e1, r⟩ := h; exact ⟨vs, e1, r.cut k⟩
  | ins c fs => obtain ⟨dx, vs, e1, r⟩ := h; exact ⟨dx, vs, e1, r.cut k⟩
  | dead => trivial

/-- the handled exception's fields -/
def ExOk (Y : Wd) (φ : List Addr) (H : Hp) : Prop := ∀ x, Y.ex = some x → belowF 0 x.fs = true ∧ ((x.fs = [] ∧ x.d = none) ∨ ∃ d fs', x.d = some d ∧ H d = some (.xd fs') ∧ d ∉ φ ∧ RepF Y φ H x.fs fs')
theorem ExOk.step {φ' H'} (s : Step φ φ' H H') (h : ExOk Y φ H) : ExOk Y φ' H' := fun x e => by
  obtain ⟨h0, h⟩ := h x e
  refine ⟨h0, ?_⟩
  rcases h with h | ⟨d, fs', h1, h2, h3, h4⟩
  · exact .inl h
  · exact .inr ⟨d, fs', h1, s.keep _ _ h2 h3, s.nin h2 h3, h4.step s⟩
theorem ExOk.cut {n : Nat} (h : ExOk Y φ H) : ExOk Y (φ.take n) H := fun x e => by
  obtain ⟨h0, h⟩ := h x e
  refine ⟨h0, ?_⟩
  rcases h with h | ⟨d, fs', h1, h2, h3, h4⟩
  · exact .inl h
  · exact .inr ⟨d, fs', h1, h2, nin_take h3, h4.cut (belowF_mono (Nat.zero_le _) h0)⟩
/-- the memory stands in the heap; B: the bases of all frames that run -/
structure MemRep (Y : Wd) (φ : List Addr) (H : Hp) (B : List Nat) (μ : Mem) : Prop where
  len : φ.length = μ.length
  nd : φ.Nodup
  al : ∀ a ∈ φ, H a ≠ none
  hi : ∀ (i : Nat) a m, φ[i]? = some a → μ[i]? = some m → ObjRep Y φ H a m
  lo : ∀ b ∈ B, b ≤ μ.length ∧ ∀ (i : Nat) m, i < b → μ[i]? = some m → m.below b = true
  ex : ExOk Y φ H
theorem MemRep.grow {H'} {B μ} (m : MemRep Y φ H B μ) (k : ∀ a o, H a = some o → H' a = some o) : MemRep Y φ H' B μ where
  len := m.len
  nd := m.nd
  al := fun a h q => by
    cases e : H a with
    | none => exact m.al a h e
    | some o => rw [k a o e] at q; cases q
  hi := fun i a x h1 h2 => (m.hi i a x h1 h2).step ⟨⟨[], by simp⟩, fun a o h _ => k a o h, fun a h n => absurd h n, fun a _ h q => by
      cases e : H a with
      | none => exact h e
      | some o => rw [k a o e] at q; cases q⟩ (by
    cases e : H a with
    | none => exact absurd e (m.al a (List.mem_of_getElem? h1))
    | some o => exact k a o e)
  lo := m.lo
  ex := m.ex.step ⟨⟨[], by simp⟩, fun a o h _ => k a o h, fun a h n => absurd h n, fun a _ h q => by
      cases e : H a with
      | none => exact h e
      | some o => rw [k a o e] at q; cases q⟩
theorem Step.grow {H'} (k : ∀ a o, H a = some o → H' a = some o) : Step φ φ H H' :=
  ⟨⟨[], by simp⟩, fun a o h _ => k a o h, fun a h n => absurd h n, fun a _ h q => by
      cases e : H a with
      | none => exact h e
      | some o => rw [k a o e] at q; cases q⟩
theorem keep_new {p : Addr} {o : HO} (hp : H p = none) : ∀ a u, H a = some u → upd H p o a = some u := fun a u h => by rw [upd_ne (ne_of_none h hp)]; exact h
theorem Step.push {p : Addr} {o : HO} (hp : H p = none) : Step φ (φ ++ [p]) H (upd H p o) where
  pre := ⟨[p], rfl⟩
  keep := fun a u h _ => keep_new hp a u h
  fresh := fun a h n => by
    rcases List.mem_append.mp
          h with h | h
    · exact absurd h n
    · have : a = p := by simpa using h
      rw [this]; exact hp
  al := fun a _ h q => by
    cases e : H a with
    | none => exact h e
    | some u => rw [keep_new hp a u e] at q; cases q
/-- a new object of the memory -/
theorem MemRep.push {B μ} {p : Addr} {o : HO} {x : MO} (m : MemRep Y φ H B μ) (hp : H p = none) (h : ObjRep Y (φ ++ [p]) (upd H p o) p x) : MemRep Y (φ ++ [p]) (upd H p o) B (μ ++ [x]) where
  len := by simp [m.len]
  nd := by
    refine List.nodup_append.mpr ⟨m.nd, by simp, fun a ha b hb => ?_⟩
    have : b = p := by simpa using hb
    subst this
    rintro rfl
    exact m.al a ha hp
  al := fun a h => by
    rcases List.mem_append.mp
          h with h | h
    · exact (Step.push (o := o) hp).al a h (m.al a h)
    · have : a = p := by simpa using h
      subst this; rw [upd_same]; simp
  hi := fun i a y h1 h2 => by
    by_cases hi : i < φ.length
    · rw [List.getElem?_append_left hi] at h1
      rw [List.getElem?_append_left (by rw [← m.len]; exact hi)] at h2
      have ha := m.al a (List.mem_of_getElem? h1)
      exact (m.hi i a y h1 h2).step (Step.push hp) (upd_ne fun e => ha (by rw [e]; exact hp))
    · rw [List.getElem?_append_right (by omega)] at h1
      rw [List.getElem?_append_right (by have := m.len; omega)] at h2
      have e0 : i - φ.length = 0 := by
        cases q : i - φ.length with
        | zero => rfl
        | succ n => rw [q] at h1; simp at h1
      rw [e0] at h1
      rw [← m.len, e0] at h2
      simp at h1 h2
      subst h1; subst h2; exact h
  lo := fun b hb => ⟨by have := (m.lo b hb).1; simp; omega, fun i y hi h2 => (m.lo b hb).2 i y hi (by
    rw [List.getElem?_append_left (by have := (m.lo b hb).1; omega)] at h2; exact h2)⟩
  ex := m.ex.step (Step.push hp)
theorem Step.write {a : Addr} {o : HO} (ha : a ∈ φ) : Step φ φ H (upd H a o) where
  pre := ⟨[], by simp⟩
  keep := fun b u h n => by rw [upd_ne (fun e => n (by rw [e]; exact ha))]; exact h
  fresh := fun b h n => absurd h n
  al := fun b _ h q => by
    by_cases e : b = a
    · rw [e, upd_same] at q; cases q
    · rw [upd_ne e] at q; exact h q
/-- an object of the memory is changed: clean things alone below the base -/
theorem MemRep.write {B μ} {i : Nat} {a : Addr} {o : HO} {x : MO} (m : MemRep Y φ H B μ) (hi : φ[i]? = some a) (h : ObjRep Y φ (upd H a o) a x) (hb : ∀ b ∈ B, i < b → x.below b = true) : MemRep Y φ (upd H a o) B (μ.set i x) where
  len := by simp [m.len]
  nd := m.nd
  al := fun b hb q => by
    by_cases e : b = a
    · rw [e, upd_same] at q; cases q
    · rw [upd_ne e] at q; exact m.al b hb q
  hi := fun j b y h1 h2 => by
    by_cases e : j = i
    · subst e
      rw [hi] at h1; cases h1
      rw [List.getElem?_set_self (by have := (List.getElem?_eq_some_iff.mp hi).1; have := m.len; omega)] at h2
      cases h2; exact h
    · rw [List.getElem?_set_ne (Ne.symm e)] at h2
      have hab : b ≠ a := fun q => e (by
        obtain ⟨l1, e1⟩ := List.getElem?_eq_some_iff.mp h1
        obtain ⟨l2, e2⟩ := List.getElem?_eq_some_iff.mp hi
        exact (List.getElem_inj m.nd).mp (e1.trans (q.trans e2.symm)))
      exact (m.hi j b y h1 h2).step (Step.write (List.mem_of_getElem? hi)) (upd_ne hab)
  lo := fun b hB => ⟨by simpa using (m.lo b hB).1, fun j y hj h2 => by
    by_cases e : j = i
    · subst e
      have hl : j < μ.length := by have := (m.lo b hB).1; omega
      rw [List.getElem?_set_self hl] at h2
      cases h2; exact hb b hB hj
    · rw [List.getElem?_set_ne (Ne.symm e)] at h2
      exact (m.lo b hB).2 j y hj h2⟩
  ex := m.ex.step (Step.write (List.mem_of_getElem? hi))
/-- the memory's view of an object changes, the heap does not -/
theorem MemRep.relabel {B μ} {i : Nat} {a : Addr} {x : MO} (m : MemRep Y φ H B μ) (hi : φ[i]? = some a) (h : ObjRep Y φ H a x) (hb : ∀ b ∈ B, i < b → x.below b = true) : MemRep Y φ H B (μ.set i x) where
  len := by simp [m.len]
  nd := m.nd
  al := m.al
  hi := fun j b y h1 h2 => by
    by_cases e : j = i
    · subst e
      rw [hi] at h1; cases h1
      rw [List.getElem?_set_self (by have := (List.getElem?_eq_some_iff.mp hi).1; have := m.len; omega)] at h2
      cases h2; exact h
    · rw [List.getElem?_set_ne (Ne.symm e)] at h2
      exact m.hi j b y h1 h2
  lo := fun b hB => ⟨by simpa using (m.lo b hB).1, fun j y hj h2 => by
    by_cases e : j = i
    · subst e
      have hl : j < μ.length := by have := (m.lo b hB).1; omega
      rw [List.getElem?_set_self hl] at h2
      cases h2; exact hb b hB hj
    · rw [List.getElem?_set_ne (Ne.symm e)] at h2
      exact (m.lo b hB).2 j y hj h2⟩
  ex := m.ex
/-- a frame begins -/
theorem MemRep.enter {B μ} (m : MemRep Y φ H B μ) : MemRep Y φ H (μ.length :: B) μ where
  len := m.len
  nd := m.nd
  al := m.al
  hi := m.hi
  lo := fun b hb => by
    rcases List.mem_cons.mp
          hb with e | hb
    · subst e
      refine ⟨Nat.le_refl _, fun i y hi h2 => ?_⟩
      have hl : i < φ.length := by rw [m.len]; exact hi
      rw [← m.len]
      exact (m.hi i φ[i] y (by simp [hl]) h2).below
    · exact m.lo b hb
  ex := m.ex
/-- a frame ends: what it made is forgotten -/
theorem MemRep.leave {B μ} {n : Nat} (m : MemRep Y φ H (n :: B) μ) (hB : ∀ b ∈ B, b ≤ n) : MemRep Y (φ.take n) H B (μ.take n) where
  len := by simp [m.len]
  nd := m.nd.sublist (List.take_sublist _ _)
  al := fun a h => m.al a (List.mem_of_mem_take h)
  hi := fun i a y h1 h2 => by
    have hi : i < n := by
      have := (List.getElem?_eq_some_iff.mp h2).1
      simp at this; omega
    rw [List.getElem?_take_of_lt hi] at h1 h2
    exact (m.hi i a y h1 h2).cut ((m.lo n List.mem_cons_self).2 i y hi h2)
  lo := fun b hb => ⟨by have h1 := hB b hb; have h2 := (m.lo n List.mem_cons_self).1; simp; omega, fun i y hi h2 => by
    have h1 := hB b hb
    rw [List.getElem?_take_of_lt (by omega)] at h2
    exact (m.lo b (List.mem_cons_of_mem _ hb)).2 i y hi h2⟩
  ex := m.ex.cut

/-! ### environments -/
structure EnvRep (Y : Wd) (φ : List Addr) (H : Hp) (ρ : Env) (σ : St) : Prop where
  len : ρ.length = σ.length
  at_ : ∀ (i : Nat) d, ρ[i]? = some (some d) → ∃ v, σ[i]? = some (some v) ∧ Rep Y φ H d v
  ex : ∀ (i : Nat) x, ρ[i]? = some (some .exn) → Y.ex = some x → σ[i]? = some (some (.ref x.a))
theorem EnvRep.step {φ' H' ρ σ} (s : Step φ φ' H H') (e : EnvRep Y φ H ρ σ) : EnvRep Y φ' H' ρ σ :=
  ⟨e.len, fun i d h => let ⟨v, h1, h2⟩ := e.at_ i d h; ⟨v, h1, h2.step s⟩, e.ex⟩
def isExn : D → Bool
  | .exn => true
  | _ => false
theorem EnvRep.set {ρ σ} {i : Nat} {d : D} {v : V} (e : EnvRep Y φ H ρ σ) (r : Rep Y φ H d v) (hx : isExn d = false) : EnvRep Y φ H (ρ.set i (some d)) (σ.set i (some v)) := by
  refine ⟨by simp [e.len], fun j x h => ?_, fun j x h hy => ?_⟩
  · by_cases q : j = i
    · subst q
      have hl : j < ρ.length := by
        have := (List.getElem?_eq_some_iff.mp h).1
        simpa using this
      rw [List.getElem?_set_self hl] at h
      have : d = x := by simpa using h
      subst this
      exact ⟨v, List.getElem?_set_self (by rw [← e.len]; exact hl), r⟩
    · rw [List.getElem?_set_ne (Ne.symm q)] at h
      obtain ⟨w, h1, h2⟩ := e.at_ j x h
      exact ⟨w, by rw [List.getElem?_set_ne (Ne.symm q)]; exact h1, h2⟩
  · by_cases q : j = i
    · subst q
      have hl : j < ρ.length := by
        have := (List.getElem?_eq_some_iff.mp h).1
        simpa using this
      rw [List.getElem?_set_self hl] at h
      have : d = .exn := by simpa using h
      subst this; cases hx
    · rw [List.getElem?_set_ne (Ne.symm q)] at h ⊢
      exact e.ex j x h hy
theorem EnvRep.unset {ρ σ} {i : Nat} {o : Option V} (e : EnvRep Y φ H ρ σ) : EnvRep Y φ H (ρ.set i none) (σ.set i o) := by
  refine ⟨by simp [e.len], fun j x h => ?_, fun j x h hy => ?_⟩
  · by_cases q : j = i
    · subst q
      have hl : j < ρ.length := by
        have := (List.getElem?_eq_some_iff.mp h).1
        simpa using this
      rw [List.getElem?_set_self hl] at h
      cases h
    · rw [List.getElem?_set_ne (Ne.symm q)] at h
      obtain ⟨w, h1, h2⟩ := e.at_ j x h
      exact ⟨w, by rw [List.getElem?_set_ne (Ne.symm q)]; exact h1, h2⟩
  · by_cases q : j = i
    · subst q
      have hl : j < ρ.length := by
        have := (List.getElem?_eq_some_iff.mp h).1
        simpa using this
      rw [List.getElem?_set_self hl] at h
      cases h
    · rw [List.getElem?_set_ne (Ne.symm q)] at h ⊢
      exact e.ex j x h hy
/-- the handled exception's place in the environment -/
theorem EnvRep.setX {ρ σ} {i : Nat} {a : Addr} (e : EnvRep Y φ H ρ σ) (hx : ∀ x, Y.ex = some x → x.a = a) : EnvRep Y φ H (ρ.set i (some .exn)) (σ.set i (some (.ref a))) := by
  refine ⟨by simp [e.len], fun j x h => ?_, fun j x h hy => ?_⟩
  · by_cases q : j = i
    · subst q
      have hl : j < ρ.length := by
        have := (List.getElem?_eq_some_iff.mp h).1
        simpa using this
      rw [List.getElem?_set_self hl] at h
      have : D.exn = x := by simpa using h
      subst this
      exact ⟨.ref a, List.getElem?_set_self (by rw [← e.len]; exact hl), by simp only [Rep]; exact ⟨a, rfl⟩⟩
    · rw [List.getElem?_set_ne (Ne.symm q)] at h
      obtain ⟨w, h1, h2⟩ := e.at_ j x h
      exact ⟨w, by rw [List.getElem?_set_ne (Ne.symm q)]; exact h1, h2⟩
  · by_cases q : j = i
    · subst q
      have hl : j < ρ.length := by
        have := (List.getElem?_eq_some_iff.mp h).1
        simpa using this
      rw [List.getElem?_set_self (by rw [← e.len]; exact hl), hx x hy]
    · rw [List.getElem?_set_ne (Ne.symm q)] at h ⊢
      exact e.ex j x h hy
/-! ### the handled exception does not matter for data -/
def Wd.wx (Y : Wd) (x : Option ExI) : Wd := { Y with ex := x }
section
variable {x : Option ExI}
mutual
theorem Rep.wx : ∀ {d : D} {v : V}, Rep (Y.wx x) φ H d v ↔ Rep Y φ H d v
  | .non, v => by simp only [Rep]
  | .bl b, v => by simp only [Rep]
  | .int i, v => by simp only [Rep]
  | .str z, v => by simp only [Rep]
  | .tup ds, v => by simp only [Rep, RepL.wx]; rfl
  | .lst ds, v => by simp only [Rep, RepL.wx]
  | .dct kvs, v => by simp only [Rep, RepK.wx]
  | .ref i, v => by simp only [Rep]
  | .obj c fs, v => by simp only [Rep, RepF.wx]; rfl
  | .fn f, v => by simp only [Rep]; rfl
  | .cls f, v => by simp only [Rep]; rfl
  | .ty f, v => by simp only [Rep]
  | .scr f, v => by simp only [Rep]; rfl
  | .exn, v => by simp only [Rep]
theorem RepL.wx : ∀ {ds : List D} {vs : List V}, RepL (Y.wx x) φ H ds vs ↔ RepL Y φ H ds vs
  | [], vs => by simp only [RepL]
  | d :: ds, vs => by simp only [RepL, Rep.wx (d := d), RepL.wx (ds := ds)]
theorem RepK.wx : ∀ {ds : List (Key × D)} {vs : List (Key × V)}, RepK (Y.wx x) φ H ds vs ↔ RepK Y φ H ds vs
  | [], vs => by simp only [RepK]
  | (k, d) :: ds, vs => by simp only [RepK, Rep.wx (d := d), RepK.wx (ds := ds)]
theorem RepF.wx : ∀ {ds : List (Str × D)} {vs : List (Str × V)}, RepF (Y.wx x) φ H ds vs ↔ RepF Y φ H ds vs
  | [], vs => by simp only [RepF]
  | (k, d) :: ds, vs => by simp only [RepF, Rep.wx (d := d), RepF.wx (ds := ds)]
end
theorem RepT.wx : ∀ {ds : List (List Key × D)} {vs : List (List Key × V)}, RepT (Y.wx x) φ H ds vs ↔ RepT Y φ H ds vs
  | [], vs => by simp only [RepT]
  | (k, d) :: ds, vs => by simp only [RepT, Rep.wx (d := d), RepT.wx (ds := ds)]
theorem ObjRep.wx {a : Addr} {m : MO} : ObjRep (Y.wx x) φ H a m ↔ ObjRep Y φ H a m := by
  cases m with
  | lst ds => simp only [ObjRep, RepL.wx]
  | lk ds => simp only [ObjRep, RepL.wx]
  | dK ds => simp only [ObjRep, RepK.wx]
  | dT ds => simp only [ObjRep, RepT.wx]
  | ins c fs => simp only [ObjRep, RepF.wx]; rfl
  | dead => exact Iff.rfl
end
/-- an exception is being handled now, no more -/
theorem MemRep.wx {B μ} {x : Option ExI} (m : MemRep Y φ H B μ) (h : ExOk (Y.wx x) φ H) : MemRep (Y.wx x) φ H B μ :=
  ⟨m.len, m.nd, m.al, fun i a y h1 h2 => ObjRep.wx.mpr (m.hi i a y h1 h2), m.lo, h⟩
theorem MemRep.unwx {B μ} {x : Option ExI} (m : MemRep (Y.wx x) φ H B μ) (h : Y.ex = none) : MemRep Y φ H B μ :=
  ⟨m.len, m.nd, m.al, fun i a y h1 h2 => ObjRep.wx.mp (m.hi i a y h1 h2), m.lo, fun z e => by rw [h] at e; cases e⟩
theorem EnvRep.wx {ρ σ} {x : Option ExI} (e : EnvRep Y φ H ρ σ) (h : ∀ z, x = some z → ∀ (i : Nat), ρ[i]? = some (some .exn) → σ[i]? = some (some (.ref z.a))) : EnvRep (Y.wx x) φ H ρ σ :=
  ⟨e.len, fun i d hd => let ⟨v, h1, h2⟩ := e.at_ i d hd; ⟨v, h1, Rep.wx.mpr h2⟩, fun i z h1 h2 => h z h2 i h1⟩
theorem EnvRep.unwx {ρ σ} {x : Option ExI} (e : EnvRep (Y.wx x) φ H ρ σ) (h : Y.ex = none) : EnvRep Y φ H ρ σ :=
  ⟨e.len, fun i d hd => let ⟨v, h1, h2⟩ := e.at_ i d hd; ⟨v, h1, Rep.wx.mp h2⟩, fun i z _ e => by rw [h] at e; cases e⟩

/-! ### what is wanted -/
/-- an exception of the class c with the fields fs -/
def ExcRep (Y : Wd) (φ : List Addr) (H : Hp) (c : Nat) (fs : List (Str × D)) (C : Value) (dd : Option Addr) : Prop :=
  C = .ref (Y.cl c) ∧ ((fs = [] ∧ dd = none) ∨ ∃ d fs', dd = some d ∧ H d = some (.xd fs') ∧ d ∉ φ ∧ RepF Y φ H fs fs')
/-- where one stands: the addresses, the bases, what calls do, the wish about exceptions -/
structure Cn where
  Y : Wd
  B : List Nat
  ar : Ar
  W : WX
/-- the bases lie at most at this frame's -/
def Cn.ok (q : Cn) : Prop := ∀ b ∈ q.B, b ≤ q.ar.base
def Post {α : Type} (q : Cn) (φ : List Addr) (H : Hp) (σ : St) (r : R α) (k : α → Mem → List Addr → Hp → Prop) : Prop :=
  match r with
  | .ok a μ' => ∀ φ' H', Step φ φ' H H' → MemRep q.Y φ' H' q.B μ' → k a μ' φ' H'
  | .exc c fs μ' => ∀ φ' H' C dd, Step φ φ' H H' → MemRep q.Y φ' H' q.B μ' → ExcRep q.Y φ' H' c fs C dd → q.W C dd σ H'
  | .stuck => False
theorem Post.imp {α : Type} {q : Cn} {σ : St} {r : R α} {k k' : α → Mem → List Addr → Hp → Prop} (p : Post q φ H σ r k) (h : ∀ a μ' φ' H', Step φ φ' H H' → MemRep q.Y φ' H' q.B μ' → k a μ' φ' H' → k' a μ' φ' H') : Post q φ H σ r k' := by
  cases r with
  | ok a μ => exact fun φ' H' s m => h a μ φ' H' s m (p φ' H' s m)
  | exc c fs μ => exact p
  | stuck => exact p
theorem Post.bind {α β : Type} {q : Cn} {σ : St} {r : R α} {f : α → Mem → R β} {k : β → Mem → List Addr → Hp → Prop} (p : Post q φ H σ (r.bind f) k) : Post q φ H σ r fun a μ' φ' H' => Post q φ' H' σ (f a μ') k := by
  cases r with
  | ok a μ =>
    intro φ' H' s m
    have p' : Post q φ H σ (f a μ) k := p
    revert p'
    cases f a μ with
    | ok b μ2 => exact fun p φ2 H2 s2 m2 => p φ2 H2 (s.trans s2) m2
    | exc c fs μ2 => exact fun p φ2 H2 C dd s2 m2 x => p φ2 H2 C dd (s.trans s2) m2 x
    | stuck => exact fun p => p
  | exc c fs μ => exact p
  | stuck => exact p
theorem Post.ok {α : Type} {q : Cn} {σ : St} {a : α} {μ : Mem} {k : α → Mem → List Addr → Hp → Prop} (p : Post q φ H σ (.ok a μ) k) (m : MemRep q.Y φ H q.B μ) : k a μ φ H := p φ H Step.refl m
theorem Post.at {α : Type} {q : Cn} {σ : St} {a : α} {μ : Mem} {φ' H'} {k : α → Mem → List Addr → Hp → Prop} (p : Post q φ H σ (.ok a μ) k) (s : Step φ φ' H H') (m : MemRep q.Y φ' H' q.B μ) : k a μ φ' H' := p φ' H' s m
theorem Post.from {α : Type} {q : Cn} {σ : St} {r : R α} {φ' H'} {k : α → Mem → List Addr → Hp → Prop} (p : Post q φ H σ r k) (s : Step φ φ' H H') : Post q φ' H' σ r k := by
  cases r with
  | ok a μ => exact fun φ2 H2 s2 m => p φ2 H2 (s.trans s2) m
  | exc c fs μ => exact fun φ2 H2 C dd s2 m x => p φ2 H2 C dd (s.trans s2) m x
  | stuck => exact p

/-- the readings -/
def kE (Y : Wd) (Q : VK) : D → Mem → List Addr → Hp → Prop := fun d _ φ H => ∀ v, Rep Y φ H d v → Q v H
def kL (Y : Wd) (Q : List V → Hp → Prop) : List D → Mem → List Addr → Hp → Prop := fun ds _ φ H => ∀ vs, RepL Y φ H ds vs → Q vs H
def kT (Q : Bool → Hp → Prop) : Bool → Mem → List Addr → Hp → Prop := fun b _ _ H => Q b H
def tM (q : Cn) (f : EM) : TE := fun σ H Q => ∃ ρ μ φ, EnvRep q.Y φ H ρ σ ∧ MemRep q.Y φ H q.B μ ∧ Post q φ H σ (f q.ar ρ μ) (kE q.Y Q)
def tML (q : Cn) (f : LM) : TA := fun σ H Q => ∃ ρ μ φ, EnvRep q.Y φ H ρ σ ∧ MemRep q.Y φ H q.B μ ∧ Post q φ H σ (f q.ar ρ μ) (kL q.Y Q)
def tMT (q : Cn) (f : TM) : TT := fun σ H Q => ∃ ρ μ φ, EnvRep q.Y φ H ρ σ ∧ MemRep q.Y φ H q.B μ ∧ Post q φ H σ (f q.ar ρ μ) (kT Q)
def SPost (q : Cn) (φ : List Addr) (H : Hp) (Dn : Ends) (r : SR) : Prop :=
  match r with
  | .nx ρ' μ' => ∀ φ' H' σ', Step φ φ' H H' → MemRep q.Y φ' H' q.B μ' → EnvRep q.Y φ' H' ρ' σ' → Dn.nx σ' H'
  | .bk ρ' μ' => ∀ φ' H' σ', Step φ φ' H H' → MemRep q.Y φ' H' q.B μ' → EnvRep q.Y φ' H' ρ' σ' → Dn.bk σ' H'
  | .ct ρ' μ' => ∀ φ' H' σ', Step φ φ' H H' → MemRep q.Y φ' H' q.B μ' → EnvRep q.Y φ' H' ρ' σ' → Dn.ct σ' H'
  | .rt d μ' => ∀ φ' H' v, Step φ φ' H H' → MemRep q.Y φ' H' q.B μ' → Rep q.Y φ' H' d v → Dn.rt v H'
  | .exc c fs ρ' μ' => ∀ φ' H' σ' C dd, Step φ φ' H H' → MemRep q.Y φ' H' q.B μ' → EnvRep q.Y φ' H' ρ' σ' → ExcRep q.Y φ' H' c fs C dd → q.W C dd σ' H'
  | .stuck => False
def sM (q : Cn) (f : SM) : TS := fun Dn σ H => ∃ ρ μ φ, EnvRep q.Y φ H ρ σ ∧ MemRep q.Y φ H q.B μ ∧ SPost q φ H Dn (f q.ar ρ μ)
/-- weaker readings -/
theorem wkE {X : Cx} {e : Expr} {t t' : TE} (h : PE X e t) (k : ∀ σ H Q, t' σ H Q → t σ H Q) : PE X e t' := ⟨fun pins s σ H Q I w => h.run pins s σ H Q I (k _ _ _ w)⟩
theorem wkA {X : Cx} {e : List Expr} {t t' : TA} (h : PA X e t) (k : ∀ σ H Q, t' σ H Q → t σ H Q) : PA X e t' := ⟨fun pos pins s σ H Q I w => h.run pos pins s σ H Q I (k _ _ _ w)⟩
theorem wkT {X : Cx} {e : Expr} {t t' : TT} (h : PT X e t) (k : ∀ σ H Q, t' σ H Q → t σ H Q) : PT X e t' := ⟨fun pins s σ H Q I w => h.run pins s σ H Q I (k _ _ _ w)⟩
theorem wkS {X : Cx} {e : Stmt} {t t' : TS} (h : PS X e t) (k : ∀ D σ H, t' D σ H → t D σ H) : PS X e t' := ⟨fun pins s σ H D I w => h.run pins s σ H D I (k _ _ _ w)⟩
theorem wkB {X : Cx} {e : List Stmt} {t t' : TS} (h : PSs X e t) (k : ∀ D σ H, t' D σ H → t D σ H) : PSs X e t' := ⟨fun pins s σ H D I w => h.run pins s σ H D I (k _ _ _ w)⟩
end Mi

/-! Mi.C: calls of the text's defs, with what runs around told in full. -/
namespace Mi
open PySem PySem.Spec
open PyProof.Rows hiding St
open L2

/-! ### room -/
/-- hot: an exception is being handled -/
structure RoomG (hx : Option ExI) (k : Nat) (A : Around) : Prop where
  hd : hx = none → A.handled = none
  dp : A.depth + 3 * k
        + 5 < recursionLimit
  un : A.units + 16
        * k + 200 < cLine
  gd : A.guards = some []
theorem RoomG.h {hx k A} (r : RoomG hx k A) : L2H.RoomH k A := ⟨r.dp, r.un⟩
theorem RoomG.room {k A} (r : RoomG none k A) : Room k A := ⟨r.hd rfl, r.dp, r.un⟩
theorem RoomG.units {hx k A} (r : RoomG hx k A) : A.units + 64 < cLine := by have := r.un; omega
theorem RoomG.mono {hx} {j k : Nat} {A : Around} (r : RoomG hx k A) (h : j ≤ k) : RoomG hx j A := ⟨r.hd, (r.h.mono h).dp, (r.h.mono h).un, r.gd⟩
theorem RoomG.deeper {hx} {k : Nat} {A : Around} (r : RoomG hx (k + 1) A) (env : PySem.Env) : RoomG hx k (A.deeper env) := ⟨r.hd, (r.h.deeper env).dp, (r.h.deeper env).un, r.gd⟩
theorem RoomG.make {k : Nat} {A : Around} (r : RoomG none (k + 1) A) (C : Addr) (us : List Value) (kw : List (Str × Value)) : RoomG none k (A.under (.builtin "type.__call__" ⟨.ref C :: us, kw⟩)) :=
  ⟨fun _ => (r.room.make C us kw).hd, (r.room.make C us kw).dp, (r.room.make C us kw).un, by
    have e := r.gd
    first
      | exact e
      | (simp [Around.under, Code.guards, Code.isGuard, guardIds, pushGuards, e])⟩
theorem room_caller {k : Nat} (h : Room k callerA) : RoomG none k callerA := ⟨fun _ => h.hd, h.dp, h.un, rfl⟩
/-- the handled exception stands -/
def PinsH (hx : Option ExI) (A : Around) (outer : List PySem.Env) (H : Hp) (s : Shared) : Prop := ∀ z, hx = some z → ∃ oe : Obj, (∃ vs, oe.data = .fields vs) ∧ L2H.PinOk outer H s (z.a, oe) ∧ Zc (.ref z.C) z.d oe

/-- a def keeps its promise -/
structure FnOkG (hx : Option ExI) (P : Program) (w : World) (K : PySem.W.Frag) (mg : Str → Option Value) (base : Heap) (k : Nat) (f : Addr) (fd : FuncData) (ps : List Str) (sp : Sp) : Prop where
  len : ∀ vs H Q E, sp vs H
        Q E → vs.length = ps.length
  run : ∀ (A : Around) (outer : List PySem.Env) (s : Shared) (H : Hp) (args : Args) (us : List Value) (vs : List V) (Q : VK) (E : XK), RoomG hx k A → PinsH hx A outer H s → Env0 P w K mg base A outer s H → BindsTo s fd args (ps.zip us) → Vals vs us →
    sp vs H Q E → codeAny (model P w) A (.call (.ref f) args) (CR (L2.CX P w) outer P w H s Q E) s
theorem FnOkG.mono {hx P w K mg base j k f fd ps sp} (F : FnOkG hx P w K mg base j f fd ps sp) (h : j ≤ k) : FnOkG hx P w K mg base k f fd ps sp :=
  ⟨F.len, fun A outer s H args us vs Q E r => F.run A outer s H args us vs Q E (r.mono h)⟩
/-- the context bears
      the handled exception -/
def HotX (hx : Option ExI) (X : Cx) : Prop := ∀ z, hx = some z → ∃ oe : Obj, (∃ vs, oe.data = .fields vs) ∧ (z.a, oe) ∈ X.pn ∧ Zc (.ref z.C) z.d oe
theorem HotX.pins {hx : Option ExI} {X : Cx} {pins : List (Addr × Obj)} {σ : St} {H : Hp} {s : Shared} (h : HotX hx X) (I : Inv X pins σ H s) : PinsH hx X.A X.stack H s := fun z e => by
  obtain ⟨oe, h1, hp, hz⟩ := h z e
  have P1 := I.pin (z.a, oe) (List.mem_append_left _ hp)
  exact ⟨oe, h1, ⟨P1.1, P1.2.1, fun hm => (List.mem_cons.mp (I.stkSub z.a hm)).elim P1.2.2.1 P1.2.2.2.1, P1.2.2.2.2⟩, hz⟩

section
variable {X : Cx} {k : Nat} {f C : Addr} {fd : FuncData} {ps : List Str} {sp : Sp} {E : XK}
/-- the callee runs -/
theorem run_fnG {hx : Option ExI} {pins : List (Addr × Obj)} {σ : St} {H : Hp} {s : Shared} {Q : VK} {us : List Value} {vs : List V} (F : FnOkG hx X.prog X.w X.K X.mg X.base k f fd ps sp) (hr : RoomG hx k X.A) (ht : HotX hx X) (hb : Binds X.K fd ps [])
    (hxe : ∀ (e : Value) (s' : Shared), L2.CX X.prog X.w X.stack H s E e s' → X.xe e s') (I : Inv X pins σ H s) (r : Vals vs us) (h : sp vs H Q E) :
    wpAny (model X.prog X.w) X.A (call (.ref
          f) us) (EP X pins σ Q) X.xe s := by
  have hl : us.length = ps.length := r.length.symm.trans (F.len _ _ _ _ h)
  have b : BindsTo s fd ⟨us, []⟩ (ps.zip us) := by
    have := hb s us I.kIn (by simpa using hl)
    simpa using this
  refine wpAny_call (codeAny_mono (F.run X.A X.stack s H ⟨us, []⟩ us vs Q E hr (ht.pins I) I.env0 b r h) fun r s' q => ?_)
  rcases r with e | fl
  · exact hxe e s' q
  · rcases fl with _ | _ | _ | u
    · exact False.elim q
    · exact False.elim q
    · exact False.elim q
    · exact I.after q
/-- C(..): the instance, then its __init__ -/
theorem run_makeG {pins : List (Addr × Obj)} {σ : St} {H : Hp} {s : Shared} {Q : VK} {us : List Value} {vs : List V} (M : Mk X.K C f) (F : FnOkG none X.prog X.w X.K X.mg X.base k f fd ps sp) (hr : RoomG none (k + 1) X.A) (hb : Binds X.K fd ps [])
    (hx : ∀ (H : Hp) (s : Shared) (e : Value) (s' : Shared), Inv X pins σ H s → L2.CX X.prog X.w X.stack H s E e s' → X.xe e s') (I : Inv X pins σ H s) (r : Vals vs us)
    (h : ∀ x dx, H x = none → H dx = none → dx ≠ x → sp (.ref x :: vs) (upd (upd H dx (.own x)) x (.ins C dx [])) (fun v H2 => v = .non ∧ Q (.ref x) H2) E) :
    wpAny (model X.prog X.w) X.A (call (.ref
          C) us) (EP X pins σ Q) X.xe s := by
  have n0 : H s.heap.objs.size = none := I.hok.fresh (Nat.le_refl _)
  have n1 : H (s.heap.objs.size + 1) = none := I.hok.fresh (Nat.le_succ _)
  have q0 := h _ _ n1 n0 (Nat.ne_of_lt (Nat.lt_succ_self _))
  have J := Inv.made (C := C) I
  have rr : Vals (V.ref (s.heap.objs.size + 1) :: vs) (Value.ref (s.heap.objs.size + 1) :: us) := .cons rfl r
  have hl : (Value.ref (s.heap.objs.size + 1) :: us).length = ps.length := rr.length.symm.trans (F.len _ _ _ _ q0)
  have b := hb _ (Value.ref (s.heap.objs.size + 1) :: us) J.kIn (by simpa using hl)
  have b' := b
  rw [List.append_nil] at b'
  refine wpAny_call (make_map (f := f) I.kIn M.makes M.init (beq_iff_eq.mp M.fn) (codeAny_mono (F.run _ X.stack _ _ _ _ _ _ E (hr.make C us []) (fun _ z => nomatch z) (J.env0.make C us []) b' rr q0) fun r s' q => ?_))
  rcases r with e | fl
  · exact hx _ _ e s' J q
  · rcases fl with _ | _ | _ | u
    · exact False.elim q
    · exact False.elim q
    · exact False.elim q
    · obtain ⟨v, H', I3, rv, ev, q3⟩ := J.after q
      subst ev
      exact ⟨rv, V.ref (s.heap.objs.size + 1), H', I3, rfl, q3⟩
end

/-- THE RULE for a def by its body -/
theorem fn_ofG {P : Program} {w : World} {K : PySem.W.Frag} {mg : Str → Option Value} {base : Heap} {k : Nat} {f : Addr} {name qual : Str} {params : Arguments} {body : List Stmt} {scope : Scope} {dV kV doc pm cdv ct oc : Value} {an od : Option Addr}
    {osl : Array (Option Value)} {N ps : List Str} {sp : Sp} (lk : K.lookup f = some ⟨oc, od, .func (PySem.W.fnOf name qual
          params body scope dV kV doc pm an cdv ct), osl⟩) (hcd : PySem.W.codeIn K cdv qual = true) (S : FnScope N ps scope)
    (len : ∀ vs H Q E, sp vs H
          Q E → vs.length = ps.length)
    (bd : ∀ (A : Around) (outer : List PySem.Env) (s : Shared) (H : Hp) (vs : List V) (Q : VK) (E : XK), RoomG none k (A.deeper (envOfC qual scope s.heap.objs.size f cdv)) → sp vs H Q E →
      ∃ t, PSs (cxOf (L2.CX P w) P w K mg base N qual scope f cdv A outer s H E) body t ∧ t { nx := fun _ H' => Q .non H', rt := Q } (start N vs) H) :
    FnOkG none P w K mg base (k + 1) f (PySem.W.fnOf name qual params body scope dV kV doc pm an cdv ct) ps sp := by
  constructor
  · exact len
  intro A outer s H args us vs Q E hr _ e0 hb r q0
  have KX : K.In s.heap := e0.mod.kin.keeps (fun b o e => (e0.bs b o e).1)
  have lim : s.heap.NoLimit := e0.mod.nolimit.keeps (fun b o e => (e0.bs b o e).1)
  have kinds : ∀ y ∈ ps.zip us, scope.names.lookup y.1 = some .local ∨ (scope.names.lookup y.1 = some .cell ∧ ((cellsFrom (s.heap.objs.size + 1) scope.names []).lookup y.1).isSome = true) := by
    rintro ⟨n, v⟩ hy
    rcases S.par n (List.of_mem_zip hy).1 with z | z
    · exact .inl z
    · exact .inr ⟨z, PySem.W.cellsFrom_some _ _ _ (.inl z)⟩
  refine codeAny_call_function hr.h.depth (KX _ _ lk) rfl S.co S.gen rfl (PySem.W.codeRec_of KX hcd) (hb _ _ _ _ (wpAny_newFunctionEnv_cells S.kind kinds fun env he s1 x => ?_))
  subst he
  constructor
  · exact lim.keeps x.toInCall.keep
  refine codeAny_func ?_
  obtain ⟨t, ht, hq⟩ := bd A outer s H vs Q E (hr.deeper _) q0
  have I : Inv (cxOf (L2.CX P w) P w K mg base N qual scope f cdv A outer s H E) [] (start N vs) H s1 := inv_start S (hr.hd rfl) e0 (len _ _ _ _ q0) r x
  refine wpAny_mono (ht.run [] s1 (start N vs) H _ I hq) (fun fl s' z => ?_) fun _ _ z => z
  rcases fl with _ | _ | _ | u
  · obtain ⟨σ', H', J, q⟩ := z
    exact ⟨V.non, H', J.os, J.bare, J.base, J.hok, rfl, q⟩
  · obtain ⟨_, _, _, q⟩ := z
    exact q.elim
  · obtain ⟨_, _, _, q⟩ := z
    exact q.elim
  · obtain ⟨v, σ', H', J, rv, q⟩ := z
    exact ⟨v, H', J.os, J.bare, J.base, J.hok, rv, q⟩

/-- .. where an exception is being handled -/
theorem fn_ofGH {z : ExI} {P : Program} {w : World} {K : PySem.W.Frag} {mg : Str → Option Value} {base : Heap} {k : Nat} {f : Addr} {name qual : Str} {params : Arguments} {body : List Stmt} {scope : Scope} {dV kV doc pm cdv ct oc : Value} {an od : Option Addr}
    {osl : Array (Option Value)} {N ps : List Str} {sp : Sp} (lk : K.lookup f = some ⟨oc, od, .func (PySem.W.fnOf name qual
          params body scope dV kV doc pm an cdv ct), osl⟩) (hcd : PySem.W.codeIn K cdv qual = true) (S : FnScope N ps scope)
    (len : ∀ vs H Q E, sp vs H
          Q E → vs.length = ps.length)
    (bd : ∀ (A : Around) (outer : List PySem.Env) (s : Shared) (H : Hp) (vs : List V) (Q : VK) (E : XK) (oe : Obj), (∃ vs, oe.data = .fields vs) → Zc (.ref z.C) z.d oe → RoomG (some z) k (A.deeper (envOfC qual scope s.heap.objs.size f cdv)) → sp vs H Q E →
      ∃ t, PSs (L2H.cxH (L2.CX P w) P w K mg base N qual scope f cdv A outer s H E (z.a, oe)) body t ∧ t { nx := fun _ H' => Q .non H', rt := Q } (start N vs) H) :
    FnOkG (some z) P w K mg base (k + 1) f (PySem.W.fnOf name qual params body scope dV kV doc pm an cdv ct) ps sp := by
  constructor
  · exact len
  intro A outer s H args us vs Q E hr hpin e0 hb r q0
  obtain ⟨oe, hot, hpin, hzc⟩ := hpin z rfl
  have KX : K.In s.heap := e0.mod.kin.keeps (fun b o e => (e0.bs b o e).1)
  have lim : s.heap.NoLimit := e0.mod.nolimit.keeps (fun b o e => (e0.bs b o e).1)
  have kinds : ∀ y ∈ ps.zip us, scope.names.lookup y.1 = some .local ∨ (scope.names.lookup y.1 = some .cell ∧ ((cellsFrom (s.heap.objs.size + 1) scope.names []).lookup y.1).isSome = true) := by
    rintro ⟨n, v⟩ hy
    rcases S.par n (List.of_mem_zip hy).1 with z | z
    · exact .inl z
    · exact .inr ⟨z, PySem.W.cellsFrom_some _ _ _ (.inl z)⟩
  refine codeAny_call_function hr.h.depth (KX _ _ lk) rfl S.co S.gen rfl (PySem.W.codeRec_of KX hcd) (hb _ _ _ _ (wpAny_newFunctionEnv_cells S.kind kinds fun env he s1 x => ?_))
  subst he
  constructor
  · exact lim.keeps x.toInCall.keep
  refine codeAny_func ?_
  obtain ⟨t, ht, hq⟩ := bd A outer s H vs Q E oe hot hzc (hr.deeper _) q0
  have I : Inv (L2H.cxH (L2.CX P w) P w K mg base N qual scope f cdv A outer s H E (z.a, oe)) [] (start N vs) H s1 := L2H.inv_startH S hpin e0 (len _ _ _ _ q0) r x
  refine wpAny_mono (ht.run [] s1 (start N vs) H _ I hq) (fun fl s' z => ?_) fun _ _ z => z
  rcases fl with _ | _ | _ | u
  · obtain ⟨σ', H', J, q⟩ := z
    exact ⟨V.non, H', J.os, J.bare, J.base, J.hok, rfl, q⟩
  · obtain ⟨_, _, _, q⟩ := z
    exact q.elim
  · obtain ⟨_, _, _, q⟩ := z
    exact q.elim
  · obtain ⟨v, σ', H', J, rv, q⟩ := z
    exact ⟨v, H', J.os, J.bare, J.base, J.hok, rv, q⟩

/-! ### the program's tables -/
structure Pg where
  glo : List Str
  fre : List Str
  fnm : Nat → Str × Option Str
  cnm : Nat → Str
  ari : Nat → Nat
  hots : List Nat
  fa : List (PySem.W.Frag → Bool)
def Pg.wd (p : Pg) (K : PySem.W.Frag) : Wd := { fn := fun f => He.fAd K (p.fnm f), cl := fun c => He.ga K (p.cnm c), K := K }
/-- what a call promises -/
def spG (Y : Wd) (g : G) (n f : Nat) : Sp := fun vs H Q E => vs.length = n ∧ ∃ ds μ φ B b, RepL Y φ H ds vs ∧ (∀ (i : Nat) z, ds[i]? = some .exn → Y.ex = some z → vs[i]? = some (.ref z.a)) ∧ MemRep Y φ H B μ ∧ (∀ x ∈ B, x ≤ b) ∧
  match g f ds b μ with
  | .ok d μ' => ∀ φ' H' v, Step φ φ' H H' → MemRep Y φ' H' B μ' → Rep Y φ' H' d v → Q v H'
  | .exc c fs μ' => ∀ φ' H' C dd, Step φ φ' H H' → MemRep Y φ' H' B μ' → ExcRep Y φ' H' c fs C dd → E C dd H'
  | .stuck => False
/-- the def f at its place -/
structure FnAt (hx : Option ExI) (P : Program) (w : World) (K : PySem.W.Frag) (mg : Str → Option Value) (base : Heap) (p : Pg) (g : G) (k f : Nat) : Prop where
  ok : ∃ fd ps, FnOkG hx P w K mg base k ((p.wd K).fn f) fd ps (spG ((p.wd K).wx hx) g (p.ari f) f) ∧ Binds K fd ps []
  kp : PySem.W.keepIn K (.ref ((p.wd K).fn f)) = true
/-- the name is a global of the def's; it is none of the two odd ones -/
def gnB (sc : Scope) (x : Str) : Bool := (match sc.names.lookup x with
  | some .globalImplicit => true
  | _ => false) && !(x == ("__debug__" : Str)) && !(x == ("__name__" : Str))
def vnB (sc : Scope) (x : Str) : Bool := (match sc.names.lookup x with
  | some .local => true
  | some .cell => true
  | some .free => true
  | _ => false) && !(x == ("__debug__" : Str)) && !(x == ("__classdict__" : Str))
def lnB (sc : Scope) (x : Str) : Bool := (match sc.names.lookup x with
  | some .local => true
  | _ => false)
def inB (x : Str) : List Str → Bool
  | [] => false
  | y :: r => (x == y) || inB x r
theorem inB_mem {x : Str} : ∀ {l : List Str}, inB x l = true → x ∈ l
  | [], h => by cases h
  | y :: r, h => by
    simp only [inB, Bool.or_eq_true, beq_iff_eq] at h
    rcases h with h | h
    · subst h; exact List.mem_cons_self
    · exact List.mem_cons_of_mem _ (inB_mem h)
/-- where one stands, of a body's context: names, scope -/
structure Sc (X : Cx) (N : List Str) (sc : Scope) : Prop where
  nm : X.N = N
  nd : N.Nodup
  sco : X.env.scope = sc
  kd : sc.kind = .function
/-- .. the rest; fs: the defs that may be called -/
structure Ctx (hx : Option ExI) (X : Cx) (p : Pg) (q : Cn) (k : Nat) (fs : List Nat) : Prop where
  Y : q.Y = (p.wd X.K).wx hx
  calm : hx = none → X.calm = true
  ht : HotX hx X
  hc : ∀ z, hx = some z → z.C = (p.wd X.K).cl z.c ∧ q.ar.ex = some (z.c, z.fs)
  room : RoomG hx (2 * k + 2) X.A
  tk : Takes X q.W
  po : hx = none → PassesOwn (model X.prog X.w) X.A X.env X.xe
  bs : q.ok
  glo : ∀ x ∈ p.glo, X.mg x = some (.ref (He.ga X.K x))
  fre : ∀ x ∈ p.fre, X.mg x = none
  fa : ∀ (i : Nat) f, p.fa[i]? = some f → f X.K = true
  sm : ∃ o, X.K.lookup sysModules = some o
  fns : ∀ f ∈ fs, FnAt hx X.prog X.w X.K X.mg X.base p q.ar.g (2 * k + 1) f
  hfn : hx = none → ∀ z : ExI, z.C = (p.wd X.K).cl z.c → ∀ f ∈ p.hots, FnAt (some z) X.prog X.w X.K X.mg X.base p (q.ar.h z.c z.fs) (2 * k + 1) f
section
variable {X : Cx} {N : List Str} {sc : Scope} {p : Pg} {q : Cn} {k : Nat} {fs : List Nat} {x : Str}
theorem Sc.gl (S : Sc X N sc) (h : gnB sc x = true) : Gl X x ∧ (x == ("__debug__" : Str)) = false ∧ x ≠ "__name__" := by
  unfold gnB at h
  simp only [Bool.and_eq_true,
        Bool.not_eq_true'] at h
  obtain ⟨⟨h1, h2⟩, h3⟩ := h
  refine ⟨?_, h2, by simpa using h3⟩
  show X.env.scope.names.lookup x = some .globalImplicit
  rw [S.sco]
  revert h1
  cases sc.names.lookup x with
  | none => intro h; cases h
  | some y => cases y <;> first | (intro _; rfl) | (intro h; cases h)
theorem Sc.vis (S : Sc X N sc) (h : vnB sc x = true) : Vis X.env.scope x ∧ (x == ("__debug__" : Str)) = false ∧ (x == ("__classdict__" : Str)) = false := by
  unfold vnB at h
  simp only [Bool.and_eq_true,
        Bool.not_eq_true'] at h
  obtain ⟨⟨h1, h2⟩, h3⟩ := h
  refine ⟨?_, h2, h3⟩
  unfold Vis
  rw [S.sco]
  revert h1
  cases sc.names.lookup x with
  | none => intro h; cases h
  | some y => cases y <;> first | (intro _; first | exact .inl rfl | exact .inr (.inl rfl) | exact .inr (.inr rfl)) | (intro h; cases h)
theorem Sc.lnm (S : Sc X N sc) (h : lnB sc x = true) : X.env.scope.names.lookup x = some .local := by
  unfold lnB at h
  rw [S.sco]
  revert h
  cases sc.names.lookup x with
  | none => intro h; cases h
  | some y => cases y <;> first | (intro _; rfl) | (intro h; cases h)
theorem Sc.slot (S : Sc X N sc) {i : Nat} (h : N[i]? = some x) : X.N[i]? = some x := by rw [S.nm]; exact h
end
end Mi

/-! Mi.D: expressions. -/
namespace Mi
open PySem PySem.Spec
open PyProof.Rows hiding St
open L2

/-! ### words of the machine: expressions -/
def mVar (i : Nat) : EM := fun _ ρ μ => match ρ[i]? with
  | some (some d) => .ok d μ
  | _ => .stuck
def mC (d : D) : EM := fun _ _ μ => .ok d μ
/-- two values, a pure operation -/
def mBin (k : D → D → Mem → Option D) (fa fb : EM) : EM := fun a ρ μ => (fa a ρ μ).bind fun d μ1 => (fb a ρ μ1).bind fun e μ2 => match k d e μ2 with
  | some r => .ok r μ2
  | none => .stuck
def mUn (k : D → Mem → Option D) (fa : EM) : EM := fun a ρ μ => (fa a ρ μ).bind fun d μ1 => match k d μ1 with
  | some r => .ok r μ1
  | none => .stuck
def mNil : LM := fun _ _ μ => .ok [] μ
def mCons (fa : EM) (fr : LM) : LM := fun a ρ μ => (fa a ρ μ).bind fun d μ1 => (fr a ρ μ1).bind fun ds μ2 => .ok (d :: ds) μ2
/-- values, a pure operation -/
def mOps (k : List D → Mem → Option D) (fl : LM) : EM := fun a ρ μ => (fl a ρ μ).bind fun ds μ1 => match k ds μ1 with
  | some r => .ok r μ1
  | none => .stuck
def szB (n : Nat) : Bool := Nat.ble n sizeLine
def kTup : List D → Mem → Option D := fun ds _ => if szB ds.length then some (.tup ds) else none
def kLst : List D → Mem → Option D := fun ds _ => if szB ds.length then some (.lst ds) else none
/-- a list of one's own memory -/
def mNew (fa : EM) : EM := fun a ρ μ => (fa a ρ μ).bind fun d μ1 => match d with
  | .lst ds => .ok (.ref μ1.length) (μ1 ++ [.lst ds])
  | .dct kvs => .ok (.ref μ1.length) (μ1 ++ [.dK kvs])
  | _ => .stuck
def listOf (μ : Mem) : D → Option (List D)
  | .lst ds => some ds
  | .ref i => (match μ[i]? with
    | some (.lst ds) => some ds
    | some (.lk ds) => some ds
    | _ => none)
  | _ => none
/-- a test -/
def mTst (fa : EM) : TM := fun a ρ μ => (fa a ρ μ).bind fun d μ1 => match d with
  | .bl b => .ok b μ1
  | _ => .stuck
def tru (μ : Mem) : D → Option Bool
  | .non => some false
  | .bl b => some b
  | .int i => some (i != 0)
  | .str y => if szB y.length then some ((y.length : Int) != 0) else none
  | .tup ds => some (!ds.isEmpty)
  | .lst ds => some (!ds.isEmpty)
  | .ref i => (match μ[i]? with
    | some (.lst ds) => some (!ds.isEmpty)
    | some (.lk ds) => some (!ds.isEmpty)
    | some (.dK ds) => some (!ds.isEmpty)
    | _ => none)
  | _ => none
def mTru (fa : EM) : TM := fun a ρ μ => (fa a ρ μ).bind fun d μ1 => match tru μ1 d with
  | some b => .ok b μ1
  | none => .stuck
def mAnd (f g : TM) : TM := fun a ρ μ => (f a ρ μ).bind fun b μ1 => if b then g a ρ μ1 else .ok false μ1
def mOr (f g : TM) : TM := fun a ρ μ => (f a ρ μ).bind fun b μ1 => if b then .ok true μ1 else g a ρ μ1
def mNot (f : TM) : TM := fun a ρ μ => (f a ρ μ).bind fun b μ1 => .ok (!b) μ1
def mAndV (f g : EM) : EM := fun a ρ μ => (f a ρ μ).bind fun d μ1 => match d with
  | .bl b => if b then g a ρ μ1 else .ok (.bl false) μ1
  | _ => .stuck
def mOrV (f g : EM) : EM := fun a ρ μ => (f a ρ μ).bind fun d μ1 => match d with
  | .bl b => if b then .ok (.bl true) μ1 else g a ρ μ1
  | _ => .stuck
def mIf (c : TM) (f g : EM) : EM := fun a ρ μ => (c a ρ μ).bind fun b μ1 => if b then f a ρ μ1 else g a ρ μ1
/-- a call of a def -/
def mCall (f : Nat) (fl : LM) : EM := fun a ρ μ => (fl a ρ μ).bind fun ds μ1 => a.g f ds a.base μ1

section
variable {hx : Option ExI} {X : Cx} {N : List Str} {sc : Scope} {p : Pg} {q : Cn} {k : Nat} {fs : List Nat} {x : Str} {φ : List Addr} {H : Hp} {σ : St} {μ : Mem}

/-! ### how readings part -/
theorem kE_of {Q : VK} {d : D} {φ' : List Addr} {H' : Hp} {v : V} (h : kE q.Y Q d μ φ' H') (r : Rep q.Y φ' H' d v) : Q v H' := h v r
/-- one value -/
theorem tM_un {fa : EM} {f : D → Mem → R D} {Q : VK} {R' : V → Hp → Prop} (h : tM q (fun a ρ μ => (fa a ρ μ).bind f) σ H Q)
    (hr : ∀ φ H μ d v, MemRep q.Y φ H q.B μ → Rep q.Y φ H d v → Post q φ H σ (f d μ) (kE q.Y Q) → R' v H) : tM q fa σ H R' := by
  obtain ⟨ρ, μ, φ, he, hm, hp⟩ := h
  exact ⟨ρ, μ, φ, he, hm, (Post.bind hp).imp fun d μ1 φ1 H1 s1 m1 p1 v rv => hr φ1 H1 μ1 d v m1 rv p1⟩
/-- two values -/
theorem tM_bin {fa fb : EM} {f : D → D → Mem → R D} {Q : VK} {R' : V → V → Hp → Prop} (h : tM q (fun a ρ μ => (fa a ρ μ).bind fun d μ1 => (fb a ρ μ1).bind fun e μ2 => f d e μ2) σ H Q)
    (hr : ∀ φ H μ d e x y, MemRep q.Y φ H q.B μ → Rep q.Y φ H d x → Rep q.Y φ H e y → Post q φ H σ (f d e μ) (kE q.Y Q) → R' x y H) : tM q fa σ H fun x H1 => tM q fb σ H1 fun y H2 => R' x y H2 := by
  obtain ⟨ρ, μ, φ, he, hm, hp⟩ := h
  refine ⟨ρ, μ, φ, he, hm, (Post.bind hp).imp fun d μ1 φ1 H1 s1 m1 p1 v rv => ?_⟩
  exact ⟨ρ, μ1, φ1, he.step s1, m1, (Post.bind p1).imp fun e μ2 φ2 H2 s2 m2 p2 w rw => hr φ2 H2 μ2 d e v w m2 (rv.step s2) rw p2⟩
/-- values -/
theorem tML_un {fl : LM} {f : List D → Mem → R D} {Q : VK} {R' : List V → Hp → Prop} (h : tM q (fun a ρ μ => (fl a ρ μ).bind f) σ H Q)
    (hr : ∀ φ H μ ds vs, MemRep q.Y φ H q.B μ → RepL q.Y φ H ds vs → Post q φ H σ (f ds μ) (kE q.Y Q) → R' vs H) : tML q fl σ H R' := by
  obtain ⟨ρ, μ, φ, he, hm, hp⟩ := h
  exact ⟨ρ, μ, φ, he, hm, (Post.bind hp).imp fun d μ1 φ1 H1 s1 m1 p1 v rv => hr φ1 H1 μ1 d v m1 rv p1⟩

/-! ### names, constants -/
theorem pm_var (S : Sc X N sc) {i : Nat} {pos : Pos} (hi : N[i]? = some x) (hv : vnB sc x = true) : PE X (.Name x pos) (tM q (mVar i)) := by
  obtain ⟨h1, h2, h3⟩ := S.vis hv
  refine wkE (pe_var (S.slot hi) h1 h2 h3) fun σ H Q h => ?_
  obtain ⟨ρ, μ, φ, he, hm, hp⟩ := h
  unfold mVar at hp
  split at hp
  · rename_i d hd
    obtain ⟨v, hv, r⟩ := he.at_ i d hd
    exact ⟨v, hv, kE_of (Post.ok hp hm) r⟩
  · exact hp.elim
theorem pm_C {e : Expr} {d : D} {v : V} (h : PE X e (tC v)) (hd : ∀ φ H, Rep q.Y φ H d v) : PE X e (tM q (mC d)) := wkE h fun σ H Q h => by
  obtain ⟨ρ, μ, φ, he, hm, hp⟩ := h
  exact kE_of (Post.ok hp hm) (hd φ H)
theorem pm_int {i : Int} {j : Nat} {pos : Pos} : PE X (.Constant (.int i) j pos) (tM q (mC (.int i))) := pm_C pe_int fun _ _ => by simp only [Rep]
theorem pm_bl {b : Bool} {j : Nat} {pos : Pos} : PE X (.Constant (.bool b) j pos) (tM q (mC (.bl b))) := pm_C pe_bl fun _ _ => by simp only [Rep]
theorem pm_non {j : Nat} {pos : Pos} : PE X (.Constant .none j pos) (tM q (mC .non)) := pm_C pe_non fun _ _ => by simp only [Rep]
theorem pm_str {z : Str} {j : Nat} {pos : Pos} : PE X (.Constant (.str z) j pos) (tM q (mC (.str z))) := pm_C pe_str fun _ _ => by simp only [Rep]
theorem Ctx.gA (C : Ctx hx X p q k fs) (h : inB x p.glo = true) : X.mg x = some (.ref (He.ga X.K x)) := C.glo x (inB_mem h)
theorem Ctx.fr (C : Ctx hx X p q k fs) (h : inB x p.fre = true) : X.mg x = none := C.fre x (inB_mem h)
/-- a def, a class as a value -/
theorem pm_gfn (S : Sc X N sc) (C : Ctx hx X p q k fs) {f : Nat} {pos : Pos} (hg : gnB sc x = true) (hi : inB x p.glo = true) (hf : p.fnm f = (x, none)) : PE X (.Name x pos) (tM q (mC (.fn f))) := by
  obtain ⟨h1, h2, h3⟩ := S.gl hg
  refine pm_C (pe_glob (v := .ref (He.ga X.K x)) h1 (C.gA hi) rfl h2) fun φ H => ?_
  simp only [Rep]
  rw [C.Y]
  show V.ref (He.ga X.K x) = V.ref (He.fAd X.K (p.fnm f))
  rw [hf]; rfl
theorem pm_gcl (S : Sc X N sc) (C : Ctx hx X p q k fs) {c : Nat} {pos : Pos} (hg : gnB sc x = true) (hi : inB x p.glo = true) (hf : p.cnm c = x) : PE X (.Name x pos) (tM q (mC (.cls c))) := by
  obtain ⟨h1, h2, h3⟩ := S.gl hg
  refine pm_C (pe_glob (v := .ref (He.ga X.K x)) h1 (C.gA hi) rfl h2) fun φ H => ?_
  simp only [Rep]
  rw [C.Y]
  show V.ref (He.ga X.K x) = V.ref (He.ga X.K (p.cnm c))
  rw [hf]

/-! ### operations -/
/-- an operation by data -/
def rK (q : Cn) (k : D → D → Mem → Option D) : R2 := fun x y H Q => ∃ φ μ d e r, MemRep q.Y φ H q.B μ ∧ Rep q.Y φ H d x ∧ Rep q.Y φ H e y ∧ k d e μ = some r ∧
  ∀ φ' H', Step φ φ' H H' → MemRep q.Y φ' H' q.B μ → ∀ v, Rep q.Y φ' H' r v → Q v H'
def rKu (q : Cn) (k : D → Mem → Option D) : V → Hp → VK → Prop := fun x H Q => ∃ φ μ d r, MemRep q.Y φ H q.B μ ∧ Rep q.Y φ H d x ∧ k d μ = some r ∧
  ∀ φ' H', Step φ φ' H H' → MemRep q.Y φ' H' q.B μ → ∀ v, Rep q.Y φ' H' r v → Q v H'
def rKl (q : Cn) (k : List D → Mem → Option D) : List V → Hp → VK → Prop := fun xs H Q => ∃ φ μ ds r, MemRep q.Y φ H q.B μ ∧ RepL q.Y φ H ds xs ∧ k ds μ = some r ∧
  ∀ φ' H', Step φ φ' H H' → MemRep q.Y φ' H' q.B μ → ∀ v, Rep q.Y φ' H' r v → Q v H'
theorem wkO {f : Value → Value → Sem Value} {r r' : R2} (h : OpR X f r) (k : ∀ x y H Q, r' x y H Q → r x y H Q) : OpR X f r' := fun pins s σ H x y v u Q I rx ry w => h pins s σ H x y v u Q I rx ry (k _ _ _ _ w)
theorem wkU {f : Value → Sem Value} {r r' : V → Hp → VK → Prop} (h : UnR X f r) (k : ∀ x H Q, r' x H Q → r x H Q) : UnR X f r' := fun pins s σ H x v Q I rx w => h pins s σ H x v Q I rx (k _ _ _ w)
theorem wkC {f : Value} {r r' : List V → Hp → VK → Prop} (h : CallR X f r) (k : ∀ x H Q, r' x H Q → r x H Q) : CallR X f r' := fun pins s σ H x v Q I rx w => h pins s σ H x v Q I rx (k _ _ _ w)
theorem wkX {r r' : R2} (h : IxR X r) (k : ∀ x y H Q, r' x y H Q → r x y H Q) : IxR X r' := by
  intro va sl pins s σ H x y v u Q I rx ry w
  exact h va sl pins s σ H x y v u Q I rx ry (k _ _ _ _ w)
theorem post_some {o : Option D} {Q : VK} (hp : Post q φ H σ (match o with
    | some r => R.ok r μ
    | none => .stuck) (kE q.Y Q)) : ∃ r, o = some r ∧ ∀ φ' H', Step φ φ' H H' → MemRep q.Y φ' H' q.B μ → ∀ v, Rep q.Y φ' H' r v → Q v H' := by
  cases o with
  | none => exact hp.elim
  | some r => exact ⟨r, rfl, fun φ' H' s m v rv => hp φ' H' s m v rv⟩
theorem bin_op {k : D → D → Mem → Option D} {fa fb : EM} {Q : VK} (h : tM q (mBin k fa fb) σ H Q) : tOp (rK q k) (tM q fa) (tM q fb) σ H Q :=
  tM_bin h fun φ H μ d e x y hm rx ry hp => by
    obtain ⟨r, e1, h1⟩ := post_some hp
    exact ⟨φ, μ, d, e, r, hm, rx, ry, e1, h1⟩
theorem un_op {k : D → Mem → Option D} {fa : EM} {Q : VK} (h : tM q (mUn k fa) σ H Q) : tUn (rKu q k) (tM q fa) σ H Q :=
  tM_un h fun φ H μ d x hm rx hp => by
    obtain ⟨r, e1, h1⟩ := post_some hp
    exact ⟨φ, μ, d, r, hm, rx, e1, h1⟩
theorem ls_op {k : List D → Mem → Option D} {fl : LM} {Q : VK} (h : tM q (mOps k fl) σ H Q) : tML q fl σ H fun vs H1 => rKl q k vs H1 Q :=
  tML_un h fun φ H μ ds vs hm rx hp => by
    obtain ⟨r, e1, h1⟩ := post_some hp
    exact ⟨φ, μ, ds, r, hm, rx, e1, h1⟩
theorem pm_bin {op : Operator} {kk : D → D → Mem → Option D} {a b : Expr} {fa fb : EM} {pos : Pos} (ho : OpR X (binaryOp op) (rK q kk)) (ha : PE X a (tM q fa)) (hb : PE X b (tM q fb)) : PE X (.BinOp a op b pos) (tM q (mBin kk fa fb)) :=
  wkE (pe_op ho ha hb) fun _ _ _ h => bin_op h
theorem pm_un {op : UnaryOp} {kk : D → Mem → Option D} {a : Expr} {fa : EM} {pos : Pos} (ho : UnR X (unaryOp op) (rKu q kk)) (ha : PE X a (tM q fa)) : PE X (.UnaryOp op a pos) (tM q (mUn kk fa)) :=
  wkE (pe_un ho ha) fun _ _ _ h => un_op h
theorem pm_cmp {op : CmpOp} {kk : D → D → Mem → Option D} {a b : Expr} {fa fb : EM} {pos : Pos} (ho : OpR X (compareOp op) (rK q kk)) (ha : PE X a (tM q fa)) (hb : PE X b (tM q fb)) (hm : behindInMarks op b = false) :
    PE X (.Compare a [op] [b] pos) (tM q (mBin kk fa fb)) := wkE (pe_cmpR ho ha hb hm) fun _ _ _ h => bin_op h
theorem pm_ix {kk : D → D → Mem → Option D} {a b : Expr} {fa fb : EM} {pos : Pos} (ho : IxR X (rK q kk)) (ha : PE X a (tM q fa)) (hb : PE X b (tM q fb)) (hs : PlainIx b) : PE X (.Subscript a b pos) (tM q (mBin kk fa fb)) :=
  wkE (pe_ix ho ha hb hs) fun _ _ _ h => bin_op h

/-! ### arguments, displays -/
theorem pm_nil : PA X [] (tML q mNil) := wkA pa_nil fun σ H Q h => by
  obtain ⟨ρ, μ, φ, he, hm, hp⟩ := h
  exact (Post.ok hp hm) [] (by simp only [RepL])
theorem pm_cons {a : Expr} {es : List Expr} {fa : EM} {fr : LM} (ha : PE X a (tM q fa)) (hr : PA X es (tML q fr)) (hs : starEach (a :: es) X.env = (false, eval a X.env) :: starEach es X.env := by rfl) : PA X (a :: es) (tML q (mCons fa fr)) :=
  wkA (pa_cons ha hr hs) fun σ H Q h => by
    obtain ⟨ρ, μ, φ, he, hm, hp⟩ := h
    refine ⟨ρ, μ, φ, he, hm, (Post.bind hp).imp fun d μ1 φ1 H1 s1 m1 p1 v rv => ?_⟩
    refine ⟨ρ, μ1, φ1, he.step s1, m1, (Post.bind p1).imp fun ds μ2 φ2 H2 s2 m2 p2 vs rvs => ?_⟩
    exact (Post.ok p2 m2) (v :: vs) (by simp only [RepL]; exact ⟨v, vs, rfl, rv.step s2, rvs⟩)
theorem szB_le {n : Nat} (h : szB n = true) : n ≤ sizeLine := Nat.le_of_ble_eq_true h
theorem RepL.length {Y : Wd} : ∀ {ds : List D} {vs : List V}, RepL Y φ H ds vs → ds.length = vs.length
  | [], vs, h => by simp only [RepL] at h; subst h; rfl
  | d :: ds, vs, h => by
    simp only [RepL] at h
    obtain ⟨v, r, e, h1, h2⟩ := h
    subst e
    rw [List.length_cons, List.length_cons, RepL.length h2]
/-- a new tuple, a new list -/
theorem new_tup {Y : Wd} {B : List Nat} {ds : List D} {vs : List V} {p : Addr} (hm : MemRep Y φ H B μ) (r : RepL Y φ H ds vs) (hp : H p = none) :
    Step φ φ H (upd H p (.tup vs)) ∧ MemRep Y φ (upd H p (.tup vs)) B μ ∧ Rep Y φ (upd H p (.tup vs)) (.tup ds) (.ref p) := by
  have k := keep_new (o := .tup vs) hp
  have s : Step φ φ H (upd H p (.tup vs)) := Step.grow k
  refine ⟨s, hm.grow k, ?_⟩
  simp only [Rep]
  exact ⟨p, vs, rfl, .inl ⟨.inl upd_same, fun h => hm.al p h hp⟩, r.step s⟩
theorem new_lst {Y : Wd} {B : List Nat} {ds : List D} {vs : List V} {p : Addr} (hm : MemRep Y φ H B μ) (r : RepL Y φ H ds vs) (hp : H p = none) :
    Step φ φ H (upd H p (.lst vs)) ∧ MemRep Y φ (upd H p (.lst vs)) B μ ∧ Rep Y φ (upd H p (.lst vs)) (.lst ds) (.ref p) := by
  have k := keep_new (o := .lst vs) hp
  have s : Step φ φ H (upd H p (.lst vs)) := Step.grow k
  refine ⟨s, hm.grow k, ?_⟩
  simp only [Rep]
  exact ⟨p, vs, rfl, upd_same, fun h => hm.al p h hp, r.step s⟩
theorem pm_tup {es : List Expr} {fl : LM} {x1 : Nat} {pos : Pos} (h : PA X es (tML q fl)) : PE X (.Tuple es x1 pos) (tM q (mOps kTup fl)) := wkE (pe_tup h) fun σ H Q w => by
  refine tML_un w fun φ H1 μ ds vs hm rx hp => ?_
  obtain ⟨r, e1, h1⟩ := post_some hp
  unfold kTup at e1
  split at e1
  · cases e1
    rename_i hz
    refine ⟨by rw [← rx.length]; exact szB_le hz, fun p hn => ?_⟩
    obtain ⟨s, m, rr⟩ := new_tup hm rx hn
    exact h1 _ _ s m _ rr
  · cases e1
theorem pm_lst {es : List Expr} {fl : LM} {pos : Pos} (h : PA X es (tML q fl)) : PE X (.List es pos) (tM q (mOps kLst fl)) := wkE (pe_lst h) fun σ H Q w => by
  refine tML_un w fun φ H1 μ ds vs hm rx hp => ?_
  obtain ⟨r, e1, h1⟩ := post_some hp
  unfold kLst at e1
  split at e1
  · cases e1
    rename_i hz
    refine ⟨by rw [← rx.length]; exact szB_le hz, fun p hn => ?_⟩
    obtain ⟨s, m, rr⟩ := new_lst hm rx hn
    exact h1 _ _ s m _ rr
  · cases e1
/-- a new list of one's own memory -/
theorem own_lst {Y : Wd} {B : List Nat} {ds : List D} {vs : List V} {p : Addr} (hm : MemRep Y φ H B μ) (r : RepL Y φ H ds vs) (hp : H p = none) :
    Step φ (φ ++ [p]) H (upd H p (.lst vs)) ∧ MemRep Y (φ ++ [p]) (upd H p (.lst vs)) B (μ ++ [.lst ds]) ∧ Rep Y (φ ++ [p]) (upd H p (.lst vs)) (.ref μ.length) (.ref p) := by
  have s : Step φ (φ ++ [p]) H (upd H p (.lst vs)) := Step.push hp
  refine ⟨s, hm.push hp ⟨vs, upd_same, r.step s⟩, ?_⟩
  simp only [Rep]
  exact ⟨p, rfl, by rw [← hm.len]; simp⟩
theorem pm_lstN {es : List Expr} {fl : LM} {pos : Pos} (h : PA X es (tML q fl)) : PE X (.List es pos) (tM q (mNew (mOps kLst fl))) := wkE (pe_lst h) fun σ H Q w => by
  obtain ⟨ρ, μ, φ, he, hm, hp⟩ := w
  refine ⟨ρ, μ, φ, he, hm, ?_⟩
  have hp2 := Post.bind hp
  refine (Post.bind hp2).imp fun ds μ1 φ1 H1 s1 m1 p1 vs rvs => ?_
  unfold kLst at p1
  split at p1
  · rename_i hc
    split at hc
    · cases hc
      rename_i hz
      refine ⟨by rw [← rvs.length]; exact szB_le hz, fun p hn => ?_⟩
      obtain ⟨s, m, rr⟩ := own_lst m1 rvs hn
      have p2 := (Post.ok p1 m1)
      exact Post.at p2 s m _ rr
    · cases hc
  · exact p1.elim
end
end Mi

/-! Mi.E: operations by data. -/
namespace Mi
open PySem PySem.Spec
open PyProof.Rows hiding St
open L2

/-! ### the operations -/
def kAdd : D → D → Mem → Option D := fun d e μ => match d, e with
  | .int i, .int j => some (.int (i + j))
  | .str x, .str y => if szB (x.length + y.length) then some (.str (x ++ y)) else none
  | .tup xs, .tup ys => if szB (xs.length + ys.length) then some (.tup (xs ++ ys)) else none
  | d, e => (match listOf μ d, listOf μ e with
    | some xs, some ys => if szB (xs.length + ys.length) then some (.lst (xs ++ ys)) else none
    | _, _ => none)
def kSub : D → D → Mem → Option D := fun d e _ => match d, e with
  | .int i, .int j => some (.int (i - j))
  | _, _ => none
def smB (i : Int) : Bool := decide (-18446744073709551616 < i) && decide (i < 18446744073709551616)
def mulB (i j : Int) : Bool := smB i || smB j || Nat.blt (i.natAbs.log2 + j.natAbs.log2) 1000000
def kMul : D → D → Mem → Option D := fun d e μ => match d, e with
  | .int i, .int j => if mulB i j then some (.int (i * j)) else none
  | _, _ => none
def divB (j : Int) : Bool := !(j == 0) && Nat.blt j.natAbs.log2 9000
def kDiv : D → D → Mem → Option D := fun d e _ => match d, e with
  | .int i, .int j => if divB j then some (.int (i.fdiv j)) else none
  | _, _ => none
def kMod : D → D → Mem → Option D := fun d e _ => match d, e with
  | .int i, .int j => if !(j == 0) then some (.int (i.fmod j)) else none
  | _, _ => none
def powB (i j : Int) : Bool := decide (0 ≤ j) && decide (j ≤ 1000000) && Nat.blt i.natAbs 18446744073709551616
def kPow : D → D → Mem → Option D := fun d e _ => match d, e with
  | .int i, .int j => if powB i j then some (.int (i ^ j.toNat)) else none
  | _, _ => none
def kNeg : D → Mem → Option D := fun d _ => match d with
  | .int i => some (.int (-i))
  | _ => none
def kLt : D → D → Mem → Option D := fun d e _ => match d, e with
  | .int i, .int j => some (.bl (decide (i < j)))
  | _, _ => none
def kLe : D → D → Mem → Option D := fun d e _ => match d, e with
  | .int i, .int j => some (.bl (decide (i ≤ j)))
  | _, _ => none
def kGt : D → D → Mem → Option D := fun d e _ => match d, e with
  | .int i, .int j => some (.bl (decide (j < i)))
  | _, _ => none
def kGe : D → D → Mem → Option D := fun d e _ => match d, e with
  | .int i, .int j => some (.bl (decide (j ≤ i)))
  | _, _ => none
/-- x is None -/
def isN : D → Bool
  | .non => true
  | _ => false
def kIsN : D → D → Mem → Option D := fun d e _ => match e with
  | .non => some (.bl (isN d))
  | _ => none
def kNotN : D → D → Mem → Option D := fun d e _ => match e with
  | .non => some (.bl (!isN d))
  | _ => none
mutual
def toP : D → Option PyData
  | .non => some .none
  | .bl b => some (.bool b)
  | .int i => some (.int i)
  | .str x => some (.str x)
  | .tup ds => (toPL ds).map .tuple
  | .lst ds => (toPL ds).map .list
  | .dct _ => none
  | .ref _ => none
  | .obj _ _ => none
  | .fn _ => none
  | .cls _ => none
  | .ty _ => none
  | .scr _ => none
  | .exn => none
def toPL : List D → Option (List PyData)
  | [] => some []
  | d :: ds => match toP d with
    | some p => (match toPL ds with
      | some ps => some (p :: ps)
      | none => none)
    | none => none
end
def toPv (μ : Mem) (d : D) : Option PyData := match d with
  | .ref i => (match listOf μ (.ref i) with
    | some ds => (toPL ds).map .list
    | none => none)
  | d => toP d
def kEq : D → D → Mem → Option D := fun d e μ => match d, e with
  | .str x, .str y => some (.bl (x == y))
  | d, e => match toPv μ d, toPv μ e with
  | some a, some b => if SeqAt.shaped a && SeqAt.shaped b then some (.bl (PyData.eqv a b)) else none
  | _, _ => none
def kNe : D → D → Mem → Option D := fun d e μ => match d, e with
  | .str x, .str y => some (.bl (!(x == y)))
  | d, e => match toPv μ d, toPv μ e with
  | some a, some b => if SeqAt.shaped a && SeqAt.shaped b then some (.bl (!PyData.eqv a b)) else none
  | _, _ => none
/-- x[i] of a list, a tuple, a text -/
def kIx : D → D → Mem → Option D := fun d e μ => match e with
  | .int i => (match d with
    | .tup ds => atI ds i
    | .str z => if szB z.length then (match atI z.cps.toList i with
      | some c => some (.str ⟨#[c]⟩)
      | none => none) else none
    | d => (match listOf μ d with
      | some ds => atI ds i
      | none => none))
  | _ => none

section
variable {hx : Option ExI} {X : Cx} {p : Pg} {q : Cn} {k : Nat} {fs : List Nat} {φ : List Addr} {H : Hp} {σ : St} {μ : Mem} {x y : V} {d e : D} {Q : VK}

/-! ### what a datum says of its value -/
theorem Rep.int_iff {Y : Wd} {i : Int} (h : Rep Y φ H (.int i) x) : x = .int i := by simpa only [Rep] using h
theorem Rep.str_iff {Y : Wd} {z : Str} (h : Rep Y φ H (.str z) x) : x = .str z := by simpa only [Rep] using h
theorem Rep.bl_iff {Y : Wd} {b : Bool} (h : Rep Y φ H (.bl b) x) : x = .bl b := by simpa only [Rep] using h
theorem Rep.non_iff {Y : Wd} (h : Rep Y φ H .non x) : x = .non := by simpa only [Rep] using h
theorem rep_int {Y : Wd} {i : Int} : Rep Y φ H (.int i) (.int i) := by simp only [Rep]
theorem rep_bl {Y : Wd} {b : Bool} : Rep Y φ H (.bl b) (.bl b) := by simp only [Rep]
theorem rep_str {Y : Wd} {b : Str} : Rep Y φ H (.str b) (.str b) := by simp only [Rep]
theorem rep_non {Y : Wd} : Rep Y φ H .non .non := by simp only [Rep]
theorem listOf_rep {Y : Wd} {B : List Nat} (m : MemRep Y φ H B μ) (r : Rep Y φ H d x) {ds : List D} (h : listOf μ d = some ds) : ∃ a vs, x = .ref a ∧ H a = some (.lst vs) ∧ RepL Y φ H ds vs := by
  cases d with
  | lst es =>
    simp only [listOf, Option.some.injEq] at h
    subst h
    simp only [Rep] at r
    obtain ⟨a, vs, e, h1, _, h2⟩ := r
    exact ⟨a, vs, e, h1, h2⟩
  | ref i =>
    simp only [Rep] at r
    obtain ⟨a, e, g⟩ := r
    simp only [listOf] at h
    split at h
    · rename_i es e1
      cases h
      obtain ⟨vs, h1, h2⟩ := m.hi i a _ g e1
      exact ⟨a, vs, e, h1, h2⟩
    · rename_i es e1
      cases h
      obtain ⟨vs, h1, h2⟩ := m.hi i a _ g e1
      exact ⟨a, vs, e, h1, h2⟩
    · cases h
  | _ => simp only [listOf] at h; cases h
theorem Rep.tup_iff {Y : Wd} {ds : List D} (r : Rep Y φ H (.tup ds) x) : ∃ a vs, x = .ref a ∧ SqT Y.K H a vs ∧ RepL Y φ H ds vs := by
  simp only [Rep] at r
  obtain ⟨a, vs, e, f, h⟩ := r
  exact ⟨a, vs, e, f.sq, h⟩
theorem RepL.append {Y : Wd} : ∀ {ds es : List D} {vs ws : List V}, RepL Y φ H ds vs → RepL Y φ H es ws → RepL Y φ H (ds ++ es) (vs ++ ws)
  | [], es, vs, ws, h, g => by
    simp only [RepL] at h
    subst h
    exact g
  | d :: ds, es, vs, ws, h, g => by
    simp only [RepL] at h
    obtain ⟨v, r, e, h1, h2⟩ := h
    subst e
    simp only [List.cons_append, RepL]
    exact ⟨v, r ++ ws, rfl, h1, RepL.append h2 g⟩
theorem RepL.get {Y : Wd} : ∀ {ds : List D} {vs : List V} {i : Nat} {d : D}, RepL Y φ H ds vs → ds[i]? = some d → ∃ v, vs[i]? = some v ∧ Rep Y φ H d v
  | [], vs, i, d, h, e => by simp at e
  | a :: ds, vs, 0, d, h, e => by
    simp only [RepL] at h
    obtain ⟨v, r, e1, h1, h2⟩ := h
    subst e1
    simp at e
    subst e
    exact ⟨v, rfl, h1⟩
  | a :: ds, vs, i + 1, d, h, e => by
    simp only [RepL] at h
    obtain ⟨v, r, e1, h1, h2⟩ := h
    subst e1
    simp only
          [List.getElem?_cons_succ] at e ⊢
    exact RepL.get h2 e
theorem RepL.atI {Y : Wd} {ds : List D} {vs : List V} {i : Int} {d : D} (h : RepL Y φ H ds vs) (e : L2.atI ds i = some d) : ∃ v, L2.atI vs i = some v ∧ Rep Y φ H d v := by
  unfold L2.atI at e ⊢
  rw [← h.length]
  cases hx : ixN ds.length i with
  | none => rw [hx] at e; cases e
  | some j =>
    rw [hx] at e
    exact h.get e
/-- the end of an operation that makes nothing -/
theorem rK_scal {q : Cn} {r : D} {v : V} (hm : MemRep q.Y φ H q.B μ) (h : ∀ φ' H', Step φ φ' H H' → MemRep q.Y φ' H' q.B μ → ∀ v, Rep q.Y φ' H' r v → Q v H') (hr : Rep q.Y φ H r v) : Q v H := h φ H Step.refl hm v hr
theorem ki_add (C : Ctx hx X p q k fs) : OpR X (binaryOp .Add) (rK q kAdd) := by
  refine wkO (((op_add.or op_add_str).or op_catA).or op_cat) fun x y H Q w => ?_
  obtain ⟨φ, μ, d, e, r, hm, rx, ry, hk, h⟩ := w
  unfold kAdd at hk
  split at hk
  · cases hk
    cases rx.int_iff; cases ry.int_iff
    exact .inl (.inl (.inl ⟨_, _, rfl, rfl, rK_scal hm h rep_int⟩))
  · split at hk
    · cases hk
      cases rx.str_iff; cases ry.str_iff
      rename_i hz
      exact .inl (.inl (.inr ⟨_, _, rfl, rfl, szB_le hz, rK_scal hm h rep_str⟩))
    · cases hk
  · rename_i xs ys
    split at hk
    · cases hk
      rename_i hz
      obtain ⟨a, vs, e1, h1, r1⟩ := rx.tup_iff
      obtain ⟨b, ws, e2, h2, r2⟩ := ry.tup_iff
      subst e1 e2
      have hY : q.Y.K = X.K := by rw [C.Y]; rfl
      refine .inl (.inr ⟨a, b, vs, ws, rfl, rfl, by rw [← hY]; exact h1, by rw [← hY]; exact h2, by rw [← r1.length, ← r2.length]; exact szB_le hz, fun z => ?_, fun z1 z2 => ?_, fun z1 z2 p hp => ?_⟩)
      · subst z
        have : xs = [] := by have := r1.length; simpa using this
        subst this
        exact rK_scal hm h (by simpa using ry)
      · subst z2
        have : ys = [] := by have := r2.length; simpa using this
        subst this
        exact rK_scal hm h (by simpa using rx)
      · obtain ⟨s, m, rr⟩ := new_tup hm (r1.append r2) hp
        exact h _ _ s m _ rr
    · cases hk
  · split at hk
    · rename_i xs ys e1 e2
      split at hk
      · cases hk
        rename_i hz
        obtain ⟨a, vs, e3, h1, r1⟩ := listOf_rep hm rx e1
        obtain ⟨b, ws, e4, h2, r2⟩ := listOf_rep hm ry e2
        subst e3 e4
        refine .inr ⟨a, b, vs, ws, rfl, rfl, h1, h2, by rw [← r1.length, ← r2.length]; exact szB_le hz, fun p hp => ?_⟩
        obtain ⟨s, m, rr⟩ := new_lst hm (r1.append r2) hp
        exact h _ _ s m _ rr
      · cases hk
    · cases hk
/-- ints in, a datum out -/
theorem ki_I {f : Value → Value → Sem Value} {kk : D → D → Mem → Option D} {Cd : Int → Int → Prop} {g : Int → Int → V} (ho : OpR X f (rI Cd g))
    (hk : ∀ d e μ r, kk d e μ = some r → ∃ i j, d = .int i ∧ e = .int j ∧ Cd i j ∧ ∀ φ H, Rep q.Y φ H r (g i j)) : OpR X f (rK q kk) := by
  refine wkO ho fun x y H Q w => ?_
  obtain ⟨φ, μ, d, e, r, hm, rx, ry, h0, h⟩ := w
  obtain ⟨i, j, rfl, rfl, hc, hr⟩ := hk d e μ r h0
  cases rx.int_iff; cases ry.int_iff
  exact ⟨i, j, rfl, rfl, hc, rK_scal hm h (hr φ H)⟩
theorem ki_I0 {f : Value → Value → Sem Value} {kk : D → D → Mem → Option D} {g : Int → Int → V} (ho : OpR X f (rI0 g))
    (hk : ∀ d e μ r, kk d e μ = some r → ∃ i j, d = .int i ∧ e = .int j ∧ ∀ φ H, Rep q.Y φ H r (g i j)) : OpR X f (rK q kk) := by
  refine wkO ho fun x y H Q w => ?_
  obtain ⟨φ, μ, d, e, r, hm, rx, ry, h0, h⟩ := w
  obtain ⟨i, j, rfl, rfl, hr⟩ := hk d e μ r h0
  cases rx.int_iff; cases ry.int_iff
  exact ⟨i, j, rfl, rfl, rK_scal hm h (hr φ H)⟩
theorem ki_sub : OpR X (binaryOp .Sub) (rK q kSub) := ki_I0 op_sub fun d e μ r h => by
  unfold kSub at h
  split at h
  · cases h; exact ⟨_, _, rfl, rfl, fun _ _ => rep_int⟩
  · cases h
theorem smB_ok {i : Int} (h : smB i = true) : -(2 ^ 64) < i ∧ i < 2 ^ 64 := by
  unfold smB at h
  simp only [Bool.and_eq_true,
        decide_eq_true_eq] at h
  exact ⟨by have := h.1; omega, by have := h.2; omega⟩
theorem mulB_ok {i j : Int} (h : mulB i j = true) : IntMulOk i j := by
  unfold mulB at h
  simp only [Bool.or_eq_true] at h
  rcases h with (h | h) | h
  · exact CMul.ok (.inl (smB_ok h))
  · exact CMul.ok (.inr (smB_ok h))
  · exact CMulW.ok (blt_iff.mp h)
theorem ki_mul : OpR X (binaryOp .Mult) (rK q kMul) := ki_I (opI (C := fun i j => mulB i j = true) (g := fun i j => i * j) fun _ _ _ _ _ _ _ hc q => mul_int q (mulB_ok hc)) fun d e μ r h => by
  unfold kMul at h
  split at h
  · split at h
    · rename_i hb
      cases h; exact ⟨_, _, rfl, rfl, hb, fun _ _ => rep_int⟩
    · cases h
  · cases h
theorem divB_ok {j : Int} (h : divB j = true) : j ≠ 0 ∧ j.natAbs.log2 < 9000 := by
  unfold divB at h
  simp only [Bool.and_eq_true, Bool.not_eq_true', beq_eq_false_iff_ne] at h
  exact ⟨h.1, blt_iff.mp h.2⟩
theorem ki_div : OpR X (binaryOp .FloorDiv) (rK q kDiv) := ki_I (opI (C := fun _ j => divB j = true) (g := fun i j => i.fdiv j) fun _ _ _ _ _ _ _ hc q => floordiv_int (divB_ok hc).1 q (.inl (PyProof.noPylong_of_log2 (divB_ok hc).2))) fun d e μ r h => by
  unfold kDiv at h
  split at h
  · split at h
    · rename_i hb
      cases h; exact ⟨_, _, rfl, rfl, hb, fun _ _ => rep_int⟩
    · cases h
  · cases h
theorem ki_mod : OpR X (binaryOp .Mod) (rK q kMod) := ki_I op_modN fun d e μ r h => by
  unfold kMod at h
  split at h
  · split at h
    · rename_i hb
      cases h; exact ⟨_, _, rfl, rfl, by simpa using hb, fun _ _ => rep_int⟩
    · cases h
  · cases h
theorem ki_pow : OpR X (binaryOp .Pow) (rK q kPow) := ki_I op_pow fun d e μ r h => by
  unfold kPow at h
  split at h
  · split at h
    · rename_i hb
      unfold powB at hb
      simp only [Bool.and_eq_true, decide_eq_true_eq] at hb
      cases h
      exact ⟨_, _, rfl, rfl, ⟨hb.1.1, hb.1.2, by have := blt_iff.mp hb.2; omega⟩, fun _ _ => rep_int⟩
    · cases h
  · cases h
theorem ki_lt : OpR X (compareOp .Lt) (rK q kLt) := ki_I0 op_lt fun d e μ r h => by
  unfold kLt at h
  split at h
  · cases h; exact ⟨_, _, rfl, rfl, fun _ _ => rep_bl⟩
  · cases h
theorem ki_le : OpR X (compareOp .LtE) (rK q kLe) := ki_I0 op_le fun d e μ r h => by
  unfold kLe at h
  split at h
  · cases h; exact ⟨_, _, rfl, rfl, fun _ _ => rep_bl⟩
  · cases h
theorem ki_gt : OpR X (compareOp .Gt) (rK q kGt) := ki_I0 op_gt fun d e μ r h => by
  unfold kGt at h
  split at h
  · cases h; exact ⟨_, _, rfl, rfl, fun _ _ => rep_bl⟩
  · cases h
theorem ki_ge : OpR X (compareOp .GtE) (rK q kGe) := ki_I0 op_ge fun d e μ r h => by
  unfold kGe at h
  split at h
  · cases h; exact ⟨_, _, rfl, rfl, fun _ _ => rep_bl⟩
  · cases h
theorem ki_neg : UnR X (unaryOp .USub) (rKu q kNeg) := by
  refine wkU un_neg fun x H Q w => ?_
  obtain ⟨φ, μ, d, r, hm, rx, h0, h⟩ := w
  unfold kNeg at h0
  split at h0
  · cases h0
    cases rx.int_iff
    exact ⟨_, rfl, rK_scal hm h rep_int⟩
  · cases h0
theorem isN_rep {Y : Wd} (r : Rep Y φ H d x) : decide (x = V.non) = isN d := by
  cases d with
  | non => cases r.non_iff; rfl
  | bl b => cases r.bl_iff; rfl
  | int i => cases r.int_iff; rfl
  | str z => cases r.str_iff; rfl
  | tup ds => obtain ⟨a, _, e, _⟩ := r.tup_iff; subst e; rfl
  | lst ds => simp only [Rep] at r; obtain ⟨a, _, e, _⟩ := r; subst e; rfl
  | dct ds => simp only [Rep] at r; obtain ⟨a, _, e, _⟩ := r; subst e; rfl
  | ref i => simp only [Rep] at r; obtain ⟨a, e, _⟩ := r; subst e; rfl
  | obj c ds => simp only [Rep] at r; obtain ⟨a, _, _, e, _⟩ := r; subst e; rfl
  | fn i => simp only [Rep] at r; subst r; rfl
  | cls i => simp only [Rep] at r; subst r; rfl
  | ty i => simp only [Rep] at r; subst r; rfl
  | scr i => simp only [Rep] at r; obtain ⟨a, e, _⟩ := r; subst e; rfl
  | exn => simp only [Rep] at r; obtain ⟨a, e⟩ := r; subst e; rfl
theorem ki_isN : OpR X (compareOp .Is) (rK q kIsN) := by
  refine wkO op_isN fun x y H Q w => ?_
  obtain ⟨φ, μ, d, e, r, hm, rx, ry, h0, h⟩ := w
  unfold kIsN at h0
  split at h0
  · cases h0
    refine ⟨ry.non_iff, rK_scal hm h ?_⟩
    rw [isN_rep rx]; exact rep_bl
  · cases h0
theorem ki_notN : OpR X (compareOp .IsNot) (rK q kNotN) := by
  refine wkO op_notN fun x y H Q w => ?_
  obtain ⟨φ, μ, d, e, r, hm, rx, ry, h0, h⟩ := w
  unfold kNotN at h0
  split at h0
  · cases h0
    refine ⟨ry.non_iff, rK_scal hm h ?_⟩
    rw [isN_rep rx]; exact rep_bl
  · cases h0
mutual
theorem toP_dp {K : PySem.W.Frag} {Y : Wd} (hY : Y.K = K) : ∀ {d : D} {x : V} {pd : PyData}, Rep Y φ H d x → toP d = some pd → Dp K H x pd
  | .non, x, pd, r, h => by cases r.non_iff; simp only [toP, Option.some.injEq] at h; subst h; exact .non
  | .bl b, x, pd, r, h => by cases r.bl_iff; simp only [toP, Option.some.injEq] at h; subst h; exact .bl b
  | .int b, x, pd, r, h => by cases r.int_iff; simp only [toP, Option.some.injEq] at h; subst h; exact .int b
  | .str b, x, pd, r, h => by cases r.str_iff; simp only [toP, Option.some.injEq] at h; subst h; exact .str b
  | .tup ds, x, pd, r, h => by
    simp only [toP, Option.map_eq_some_iff] at h
    obtain ⟨ps, h1, rfl⟩ := h
    obtain ⟨a, vs, e, f, g⟩ := r.tup_iff
    subst e
    exact .tup (by rw [← hY]; exact f) (toPL_dp hY g h1)
  | .lst ds, x, pd, r, h => by
    simp only [toP, Option.map_eq_some_iff] at h
    obtain ⟨ps, h1, rfl⟩ := h
    simp only [Rep] at r
    obtain ⟨a, vs, e, f, n, g⟩ := r
    subst e
    exact .lst (SqL.of f) (toPL_dp hY g h1)
  | .dct _, x, pd, r, h => by simp only [toP] at h; cases h
  | .ref _, x, pd, r, h => by simp only [toP] at h; cases h
  | .obj _ _, x, pd, r, h => by simp only [toP] at h; cases h
  | .fn _, x, pd, r, h => by simp only [toP] at h; cases h
  | .cls _, x, pd, r, h => by simp only [toP] at h; cases h
  | .ty _, x, pd, r, h => by simp only [toP] at h; cases h
  | .scr _, x, pd, r, h => by simp only [toP] at h; cases h
  | .exn, x, pd, r, h => by simp only [toP] at h; cases h
theorem toPL_dp {K : PySem.W.Frag} {Y : Wd} (hY : Y.K = K) : ∀ {ds : List D} {vs : List V} {ps : List PyData}, RepL Y φ H ds vs → toPL ds = some ps → DpAll K H vs ps
  | [], vs, ps, r, h => by
    simp only [toPL, Option.some.injEq] at h; subst h
    simp only [RepL] at r; subst r; exact .nil
  | d :: ds, vs, ps, r, h => by
    simp only [RepL] at r
    obtain ⟨v, t, e, h1, h2⟩ := r
    subst e
    simp only [toPL] at h
    split at h
    · rename_i p0 e1
      split at h
      · rename_i ps0 e2
        cases h
        exact .cons (toP_dp hY h1 e1) (toPL_dp hY h2 e2)
      · cases h
    · cases h
end
theorem toPv_dp {K : PySem.W.Frag} {Y : Wd} {B : List Nat} (hY : Y.K = K) (m : MemRep Y φ H B μ) {pd : PyData} (r : Rep Y φ H d x) (h : toPv μ d = some pd) : Dp K H x pd := by
  unfold toPv at h
  split at h
  · split at h
    · rename_i ds e1
      simp only
            [Option.map_eq_some_iff] at h
      obtain ⟨ps, h1, rfl⟩ := h
      obtain ⟨a, vs, e, f, g⟩ := listOf_rep m r e1
      subst e
      exact .lst (SqL.of f) (toPL_dp hY g h1)
    · cases h
  · exact toP_dp hY r h
theorem Ctx.units (C : Ctx hx X p q k fs) : X.A.units + 64 < cLine := C.room.units
theorem Ctx.K (C : Ctx hx X p q k fs) : q.Y.K = X.K := by rw [C.Y]; rfl
theorem ki_eq (C : Ctx hx X p q k fs) : OpR X (compareOp .Eq) (rK q kEq) := by
  refine wkO ((op_eqD C.units).or op_eq) fun x y H Q w => ?_
  obtain ⟨φ, μ, d, e, r, hm, rx, ry, h0, h⟩ := w
  unfold kEq at h0
  split at h0
  · cases h0
    cases rx.str_iff; cases ry.str_iff
    exact .inr ⟨rfl, by rw [dec_str]; exact rK_scal hm h rep_bl⟩
  split at h0
  · rename_i a b e1 e2
    split at h0
    · rename_i hs
      cases h0
      simp only [Bool.and_eq_true] at hs
      exact .inl ⟨a, b, toPv_dp C.K hm rx e1, toPv_dp C.K hm ry e2, hs.1, hs.2, rK_scal hm h rep_bl⟩
    · cases h0
  · cases h0
theorem ki_ne (C : Ctx hx X p q k fs) : OpR X (compareOp .NotEq) (rK q kNe) := by
  refine wkO ((op_neD C.units).or op_ne) fun x y H Q w => ?_
  obtain ⟨φ, μ, d, e, r, hm, rx, ry, h0, h⟩ := w
  unfold kNe at h0
  split at h0
  · cases h0
    cases rx.str_iff; cases ry.str_iff
    exact .inr ⟨rfl, by rw [dec_str]; exact rK_scal hm h rep_bl⟩
  split at h0
  · rename_i a b e1 e2
    split at h0
    · rename_i hs
      cases h0
      simp only [Bool.and_eq_true] at hs
      exact .inl ⟨a, b, toPv_dp C.K hm rx e1, toPv_dp C.K hm ry e2, hs.1, hs.2, rK_scal hm h rep_bl⟩
    · cases h0
  · cases h0
theorem ki_ix (C : Ctx hx X p q k fs) : IxR X (rK q kIx) := by
  refine wkX ix_seq fun x y H Q w => ?_
  obtain ⟨φ, μ, d, e, r, hm, rx, ry, h0, h⟩ := w
  unfold kIx at h0
  split at h0
  · cases ry.int_iff
    split at h0
    · obtain ⟨a, vs, e1, f, g⟩ := rx.tup_iff
      subst e1
      obtain ⟨v, h1, h2⟩ := g.atI h0
      exact .inr (.inl ⟨a, vs, _, v, rfl, rfl, by rw [← C.K]; exact f, h1, rK_scal hm h h2⟩)
    · split at h0
      · rename_i hz
        split at h0
        · rename_i c e1
          cases h0
          cases rx.str_iff
          exact .inr (.inr ⟨_, _, c, rfl, rfl, szB_le hz, e1, rK_scal hm h rep_str⟩)
        · cases h0
      · cases h0
    · split at h0
      · rename_i ds e1
        obtain ⟨a, vs, e2, f, g⟩ := listOf_rep hm rx e1
        subst e2
        obtain ⟨v, h1, h2⟩ := g.atI h0
        exact .inl ⟨a, vs, _, v, rfl, rfl, SqL.of f, h1, rK_scal hm h h2⟩
      · cases h0
  · cases h0
end
end Mi

/-! Mi.F: tests, calls. -/
namespace Mi
open PySem PySem.Spec
open PyProof.Rows hiding St
open L2

/-- a or b, a and b as values -/
def mAndT (f g : EM) : EM := fun a ρ μ => (f a ρ μ).bind fun d μ1 => match tru μ1 d with
  | some b => if b then g a ρ μ1 else .ok d μ1
  | none => .stuck
def mOrT (f g : EM) : EM := fun a ρ μ => (f a ρ μ).bind fun d μ1 => match tru μ1 d with
  | some b => if b then .ok d μ1 else g a ρ μ1
  | none => .stuck
def mNotT (f : EM) : EM := fun a ρ μ => (f a ρ μ).bind fun d μ1 => match tru μ1 d with
  | some b => .ok (.bl (!b)) μ1
  | none => .stuck
/-- a op1 b op2 c, as a value -/
def mChain (k k' : D → D → Mem → Option D) (fa fb fc : EM) : EM := fun a ρ μ => (fa a ρ μ).bind fun d μ1 => (fb a ρ μ1).bind fun e μ2 => match k d e μ2 with
  | some (.bl b) => if b then (fc a ρ μ2).bind fun g μ3 => (match k' e g μ3 with
    | some r => .ok r μ3
    | none => .stuck) else .ok (.bl false) μ2
  | _ => .stuck
def noExn : List D → Bool
  | [] => true
  | d :: ds => !isExn d && noExn ds
/-- a call of a def with n arguments -/
def mCallN (f n : Nat) (fl : LM) : EM := fun a ρ μ => (fl a ρ μ).bind fun ds μ1 => if ds.length = n ∧ noExn ds = true then a.g f ds a.base μ1 else .stuck
/-- values, an operation that may change the memory -/
def mOpsM (k : List D → Mem → Option (D × Mem)) (fl : LM) : EM := fun a ρ μ => (fl a ρ μ).bind fun ds μ1 => match k ds μ1 with
  | some (r, μ2) => .ok r μ2
  | none => .stuck

section
variable {hx : Option ExI} {X : Cx} {N : List Str} {sc : Scope} {p : Pg} {q : Cn} {k : Nat} {fs : List Nat} {x : Str} {φ : List Addr} {H : Hp} {σ : St} {μ : Mem}

/-! ### tests -/
theorem tst_of {f : EM} {Q : Bool → Hp → Prop} (h : tMT q (mTst f) σ H Q) : tM q f σ H fun x H' => ∃ k, x = .bl k ∧ Q k H' := by
  obtain ⟨ρ, μ, φ, he, hm, hp⟩ := h
  refine ⟨ρ, μ, φ, he, hm, (Post.bind hp).imp fun d μ1 φ1 H1 s1 m1 p1 v rv => ?_⟩
  cases d with
  | bl b => cases rv.bl_iff; exact ⟨b, rfl, Post.ok p1 m1⟩
  | _ => exact p1.elim
theorem emp_rep {Y : Wd} {ds : List D} {vs : List V} (g : RepL Y φ H ds vs) : ds.isEmpty = vs.isEmpty := by
  have := g.length
  cases ds <;> cases vs <;> first | rfl | (simp at this)
theorem tru_rep {Y : Wd} {B : List Nat} {d : D} {x : V} {b : Bool} (hm : MemRep Y φ H B μ) (r : Rep Y φ H d x) (h : tru μ d = some b) : TruV Y.K x H b := by
  unfold tru at h
  split at h
  · cases h; cases r.non_iff; rfl
  · cases h; cases r.bl_iff; rfl
  · cases h; cases r.int_iff; rfl
  · split at h
    · rename_i hz
      cases h; cases r.str_iff
      exact ⟨szB_le hz, rfl⟩
    · cases h
  · cases h
    obtain ⟨a, vs, e, f, g⟩ := r.tup_iff
    subst e
    refine .inr (.inl ⟨vs, f, ?_⟩)
    rw [emp_rep g]
  · cases h
    simp only [Rep] at r
    obtain ⟨a, vs, e, f, n, g⟩ := r
    subst e
    refine .inl ⟨vs, SqL.of f, ?_⟩
    rw [emp_rep g]
  · simp only [Rep] at r
    obtain ⟨a, e, g⟩ := r
    subst e
    split at h
    · rename_i ds e1
      cases h
      obtain ⟨vs, h1, h2⟩ := hm.hi _ _ _ g e1
      refine .inl ⟨vs, SqL.of h1, ?_⟩
      rw [emp_rep h2]
    · rename_i ds e1
      cases h
      obtain ⟨vs, h1, h2⟩ := hm.hi _ _ _ g e1
      refine .inl ⟨vs, SqL.of h1, ?_⟩
      rw [emp_rep h2]
    · rename_i ds e1
      cases h
      obtain ⟨vs, h1, h2⟩ := hm.hi _ _ _ g e1
      refine .inr (.inr ⟨vs, h1, ?_⟩)
      cases ds with
      | nil => simp only [RepK] at h2; subst h2; rfl
      | cons kd ds =>
        obtain ⟨k, d⟩ := kd
        simp only [RepK] at h2
        obtain ⟨v, r, e, _⟩ := h2
        subst e; rfl
    · cases h
  · cases h
theorem tru_of (C : Ctx hx X p q k fs) {f : EM} {Q : Bool → Hp → Prop} (h : tMT q (mTru f) σ H Q) : tM q f σ H fun x H' => ∃ k, TruV X.K x H' k ∧ Q k H' := by
  obtain ⟨ρ, μ, φ, he, hm, hp⟩ := h
  refine ⟨ρ, μ, φ, he, hm, (Post.bind hp).imp fun d μ1 φ1 H1 s1 m1 p1 v rv => ?_⟩
  cases e : tru μ1 d with
  | none => rw [e] at p1; exact p1.elim
  | some b =>
    rw [e] at p1
    exact ⟨b, by rw [← C.K]; exact tru_rep m1 rv e, Post.ok p1 m1⟩
theorem mt_cmp {op : CmpOp} {kk : D → D → Mem → Option D} {a b : Expr} {fa fb : EM} {pos : Pos} (ho : OpR X (compareOp op) (rK q kk)) (ha : PE X a (tM q fa)) (hb : PE X b (tM q fb)) (hm : behindInMarks op b = false) :
    PT X (.Compare a [op] [b] pos) (tMT q (mTst (mBin kk fa fb))) := wkT (pt_cmpR ho ha hb hm) fun _ _ _ h => bin_op (tst_of h)
/-- any test whose value is a bool; he by fun _ => rfl -/
theorem mt_tru (C : Ctx hx X p q k fs) {e : Expr} {f : EM} (h : PE X e (tM q f)) (he : ∀ whole, isTrue e X.env whole = (do let v ← whole; standAt e.pos; holding [v] (truthy v))) : PT X e (tMT q (mTru f)) :=
  wkT (pt_truth h he) fun _ _ _ h => tru_of C h
theorem chain_of {kk kk' : D → D → Mem → Option D} {fa fb fc : EM} {Q : VK} (h : tM q (mChain kk kk' fa fb fc) σ H Q) : tChain (rK q kk) (rK q kk') (tM q fa) (tM q fb) (tM q fc) σ H Q := by
  obtain ⟨ρ, μ, φ, he, hm, hp⟩ := h
  refine ⟨ρ, μ, φ, he, hm, (Post.bind hp).imp fun d μ1 φ1 H1 s1 m1 p1 v rv => ?_⟩
  refine ⟨ρ, μ1, φ1, he.step s1, m1, (Post.bind p1).imp fun e μ2 φ2 H2 s2 m2 p2 w rw => ?_⟩
  split at p2
  · rename_i b hk
    refine ⟨φ2, μ2, d, e, _, m2, rv.step s2, rw, hk, fun φ3 H3 s3 m3 z rz => ?_⟩
    refine ⟨b, rz.bl_iff, ?_⟩
    cases b with
    | false => exact (Post.at p2 s3 m3) _ rep_bl
    | true =>
      rw [if_pos rfl] at p2 ⊢
      refine ⟨ρ, μ2, φ3, ((he.step s1).step s2).step s3, m3, (Post.bind (p2.from s3)).imp fun g μ4 φ4 H4 s4 m4 p4 u ru => ?_⟩
      obtain ⟨r, e1, h1⟩ := post_some p4
      exact ⟨φ4, μ4, e, g, r, m4, (rw.step s3).step s4, ru, e1, h1⟩
  · exact p2.elim
theorem pm_chain {op op' : CmpOp} {kk kk' : D → D → Mem → Option D} {a b c : Expr} {fa fb fc : EM} {pos : Pos} (ho : OpR X (compareOp op) (rK q kk)) (ho' : OpR X (compareOp op') (rK q kk')) (ha : PE X a (tM q fa)) (hb : PE X b (tM q fb)) (hc : PE X c (tM q fc))
    (hm : lastMarks [op, op'] [b, c] = false) : PE X (.Compare a [op, op'] [b, c] pos) (tM q (mChain kk kk' fa fb fc)) := wkE (pe_chain ho ho' ha hb hc hm) fun _ _ _ h => chain_of h
theorem mt_chain {op op' : CmpOp} {kk kk' : D → D → Mem → Option D} {a b c : Expr} {fa fb fc : EM} {pos : Pos} (ho : OpR X (compareOp op) (rK q kk)) (ho' : OpR X (compareOp op') (rK q kk')) (ha : PE X a (tM q fa)) (hb : PE X b (tM q fb)) (hc : PE X c (tM q fc))
    (hm : lastMarks [op, op'] [b, c] = false) : PT X (.Compare a [op, op'] [b, c] pos) (tMT q (mTst (mChain kk kk' fa fb fc))) := wkT (pt_chain ho ho' ha hb hc hm) fun _ _ _ h => chain_of (tst_of h)
theorem and_of {f g : TM} {Q : Bool → Hp → Prop} (h : tMT q (mAnd f g) σ H Q) : tAnd (tMT q f) (tMT q g) σ H Q := by
  obtain ⟨ρ, μ, φ, he, hm, hp⟩ := h
  refine ⟨ρ, μ, φ, he, hm, (Post.bind hp).imp fun b μ1 φ1 H1 s1 m1 p1 => ?_⟩
  cases b with
  | true => exact ⟨ρ, μ1, φ1, he.step s1, m1, p1⟩
  | false => exact Post.ok (α := Bool) (k := kT Q) p1 m1
theorem or_of {f g : TM} {Q : Bool → Hp → Prop} (h : tMT q (mOr f g) σ H Q) : tOr (tMT q f) (tMT q g) σ H Q := by
  obtain ⟨ρ, μ, φ, he, hm, hp⟩ := h
  refine ⟨ρ, μ, φ, he, hm, (Post.bind hp).imp fun b μ1 φ1 H1 s1 m1 p1 => ?_⟩
  cases b with
  | true => exact Post.ok (α := Bool) (k := kT Q) p1 m1
  | false => exact ⟨ρ, μ1, φ1, he.step s1, m1, p1⟩
theorem mw_and {a b : Expr} {r : List Expr} {f g : TM} {pos : Pos} (ha : PT X a (tMT q f)) (hb : PW X (.BoolOp .And (b :: r) pos) (tMT q g)) : PW X (.BoolOp .And (a :: b :: r) pos) (tMT q (mAnd f g)) :=
  ⟨fun wh pins s σ H Q I h => (pw_and ha hb).run wh pins s σ H Q I (and_of h)⟩
theorem mw_or {a b : Expr} {r : List Expr} {f g : TM} {pos : Pos} (ha : PT X a (tMT q f)) (hb : PW X (.BoolOp .Or (b :: r) pos) (tMT q g)) : PW X (.BoolOp .Or (a :: b :: r) pos) (tMT q (mOr f g)) :=
  ⟨fun wh pins s σ H Q I h => (pw_or ha hb).run wh pins s σ H Q I (or_of h)⟩
theorem mw_and1 {a : Expr} {f : TM} {pos : Pos} (ha : PT X a (tMT q f)) : PW X (.BoolOp .And [a] pos) (tMT q f) := pw_and1 ha
theorem mw_or1 {a : Expr} {f : TM} {pos : Pos} (ha : PT X a (tMT q f)) : PW X (.BoolOp .Or [a] pos) (tMT q f) := pw_or1 ha
theorem mt_not {a : Expr} {f : TM} {pos : Pos} (ha : PT X a (tMT q f)) : PT X (.UnaryOp .Not a pos) (tMT q (mNot f)) := wkT (pt_not ha) fun σ H Q h => by
  obtain ⟨ρ, μ, φ, he, hm, hp⟩ := h
  exact ⟨ρ, μ, φ, he, hm, (Post.bind hp).imp fun b μ1 φ1 H1 s1 m1 p1 => Post.ok (α := Bool) (σ := σ) (k := kT Q) p1 m1⟩
theorem pm_andT (C : Ctx hx X p q k fs) {a b : Expr} {r : List Expr} {f g : EM} {pos : Pos} (ha : PE X a (tM q f)) (hb : PE X (.BoolOp .And (b :: r) pos) (tM q g)) : PE X (.BoolOp .And (a :: b :: r) pos) (tM q (mAndT f g)) :=
  wkE (pe_andT ha hb) fun σ H Q h => by
    obtain ⟨ρ, μ, φ, he, hm, hp⟩ := h
    refine ⟨ρ, μ, φ, he, hm, (Post.bind hp).imp fun d μ1 φ1 H1 s1 m1 p1 v rv => ?_⟩
    cases e : tru μ1 d with
    | none => rw [e] at p1; exact p1.elim
    | some b =>
      rw [e] at p1
      refine ⟨b, by rw [← C.K]; exact tru_rep m1 rv e, ?_⟩
      cases b with
      | true => exact ⟨ρ, μ1, φ1, he.step s1, m1, p1⟩
      | false => exact Post.ok p1 m1 _ rv
theorem pm_orT (C : Ctx hx X p q k fs) {a b : Expr} {r : List Expr} {f g : EM} {pos : Pos} (ha : PE X a (tM q f)) (hb : PE X (.BoolOp .Or (b :: r) pos) (tM q g)) : PE X (.BoolOp .Or (a :: b :: r) pos) (tM q (mOrT f g)) :=
  wkE (pe_orT ha hb) fun σ H Q h => by
    obtain ⟨ρ, μ, φ, he, hm, hp⟩ := h
    refine ⟨ρ, μ, φ, he, hm, (Post.bind hp).imp fun d μ1 φ1 H1 s1 m1 p1 v rv => ?_⟩
    cases e : tru μ1 d with
    | none => rw [e] at p1; exact p1.elim
    | some b =>
      rw [e] at p1
      refine ⟨b, by rw [← C.K]; exact tru_rep m1 rv e, ?_⟩
      cases b with
      | true => exact Post.ok p1 m1 _ rv
      | false => exact ⟨ρ, μ1, φ1, he.step s1, m1, p1⟩
theorem pm_one {op} {a : Expr} {f : EM} {pos : Pos} (h : PE X a (tM q f)) : PE X (.BoolOp op [a] pos) (tM q f) := pe_one h
theorem pm_notT (C : Ctx hx X p q k fs) {a : Expr} {f : EM} {pos : Pos} (ha : PE X a (tM q f)) : PE X (.UnaryOp .Not a pos) (tM q (mNotT f)) := wkE (pe_notT ha) fun σ H Q h => by
  obtain ⟨ρ, μ, φ, he, hm, hp⟩ := h
  refine ⟨ρ, μ, φ, he, hm, (Post.bind hp).imp fun d μ1 φ1 H1 s1 m1 p1 v rv => ?_⟩
  cases e : tru μ1 d with
  | none => rw [e] at p1; exact p1.elim
  | some b =>
    rw [e] at p1
    exact ⟨b, by rw [← C.K]; exact tru_rep m1 rv e, Post.ok p1 m1 _ rep_bl⟩
theorem pm_if {c a b : Expr} {t : TM} {f g : EM} {pos : Pos} (hc : PT X c (tMT q t)) (ha : PE X a (tM q f)) (hb : PE X b (tM q g)) : PE X (.IfExp c a b pos) (tM q (mIf t f g)) := wkE (pe_ifExp hc ha hb) fun σ H Q h => by
  obtain ⟨ρ, μ, φ, he, hm, hp⟩ := h
  refine ⟨ρ, μ, φ, he, hm, (Post.bind hp).imp fun b μ1 φ1 H1 s1 m1 p1 => ?_⟩
  cases b with
  | true => exact ⟨ρ, μ1, φ1, he.step s1, m1, p1⟩
  | false => exact ⟨ρ, μ1, φ1, he.step s1, m1, p1⟩

/-! ### calls of defs -/
theorem noExn_no : ∀ {ds : List D}, noExn ds = true → ∀ i : Nat, ds[i]? = some D.exn → False
  | [], _, i, h => by simp at h
  | d :: ds, h, 0, e => by
    simp only [noExn, Bool.and_eq_true, Bool.not_eq_true'] at h
    simp at e
    subst e
    exact absurd h.1 (by decide)
  | d :: ds, h, i + 1, e => by
    simp only [noExn, Bool.and_eq_true, Bool.not_eq_true'] at h
    exact noExn_no h.2 i (by simpa using e)
theorem spG_of {Y : Wd} {n f : Nat} {vs : List V} {Q : VK} {ds : List D} {ar : Ar} (hq : q.ok) (hY : q.Y = Y) (hg : q.ar = ar) (hl : ds.length = n) (hne : noExn ds = true) (r : RepL q.Y φ H ds vs) (hm : MemRep q.Y φ H q.B μ)
    (hp : Post q φ H σ (ar.g f ds ar.base μ) (kE q.Y Q)) : spG Y ar.g n f vs H Q fun c d H' => q.W c d σ H' := by
  subst hY hg
  refine ⟨r.length.symm.trans hl, ds, μ, φ, q.B, q.ar.base, r, fun i z h _ => (noExn_no hne i h).elim, hm, hq, ?_⟩
  revert hp
  cases q.ar.g f ds q.ar.base μ with
  | ok d μ' => exact fun hp φ' H' v s m rv => hp φ' H' s m v rv
  | exc c fs μ' => exact fun hp => hp
  | stuck => exact fun hp => hp
theorem pm_call (S : Sc X N sc) (C : Ctx hx X p q k fs) {f : Nat} {e : Expr} {es : List Expr} {fl : LM} {np pos : Pos} (hf : f ∈ fs) (hn : p.fnm f = (x, none)) (hg : gnB sc x = true) (hi : inB x p.glo = true) (ha : PA X (e :: es) (tML q fl))
    (he : starEach (e :: es) X.env = (false, eval e X.env) :: starEach es X.env :=
          by rfl) (hpl : (backTo pos (starEach es X.env)).any (·.1) = false := by rfl) :
    PE X (.Call (.Name x np) (e :: es) [] pos) (tM q (mCallN f (p.ari f) fl)) := by
  obtain ⟨h1, h2, h3⟩ := S.gl hg
  obtain ⟨⟨fd, ps, F, hb⟩, hk⟩ := C.fns f hf
  have hA : (p.wd X.K).fn f = He.ga X.K x := by show He.fAd X.K (p.fnm f) = _; rw [hn]; rfl
  refine ⟨fun pins
        s σ H Q I h => ?_⟩
  obtain ⟨ρ, μ, φ, hev, hm, hp⟩ := h
  refine wpAny_Call_Name_kw (ld_glob I h1 (C.gA hi) ?_ h2)
  rw [← hA]
  refine PySem.W.callWith_K (h₀ := X.base) I.ok.mod.kin hk (thn (ha.run pos pins s σ H (fun vs H1 => ∃ ds μ1 φ1, RepL q.Y φ1 H1 ds vs ∧ MemRep q.Y φ1 H1 q.B μ1 ∧ (ds.length = p.ari f ∧ noExn ds = true) ∧ Post q φ1 H1 σ (q.ar.g f ds q.ar.base μ1) (kE q.Y Q)) I
    ⟨ρ, μ, φ, hev, hm, (Post.bind hp).imp fun ds μ1 φ1 H1 s1 m1 p1 vs rvs => ?_⟩) fun us s1 ⟨vs, H1, I1, r, ds, μ1, φ1, rr, m1, hl, p1⟩ => ⟨I1.kIn, ?_⟩) he hpl
  · split at p1
    · rename_i hl
      exact ⟨ds, μ1, φ1, rvs, m1, hl, p1⟩
    · exact p1.elim
  · exact run_fnG F (C.room.mono (by omega)) C.ht hb (fun e s' c => C.tk e s' (XE.of_call I1 (fun _ _ _ h => h) c)) I1 r (spG_of C.bs C.Y rfl hl.1 hl.2 rr m1 p1)
theorem pm_call0 (S : Sc X N sc) (C : Ctx hx X p q k fs) {f : Nat} {np pos : Pos} (hf : f ∈ fs) (hn : p.fnm f = (x, none)) (hg : gnB sc x = true) (hi : inB x p.glo = true) :
    PE X (.Call (.Name x np) [] [] pos) (tM q (mCallN f (p.ari f) mNil)) := by
  obtain ⟨h1, h2, h3⟩ := S.gl hg
  obtain ⟨⟨fd, ps, F, hb⟩, hk⟩ := C.fns f hf
  have hA : (p.wd X.K).fn f = He.ga X.K x := by show He.fAd X.K (p.fnm f) = _; rw [hn]; rfl
  refine ⟨fun pins
        s σ H Q I h => ?_⟩
  obtain ⟨ρ, μ, φ, hev, hm, hp⟩ := h
  refine wpAny_Call_Name_kw (ld_glob I h1 (C.gA hi) ?_ h2)
  rw [← hA]
  refine PySem.W.callWith_K0 I.kIn hk ?_
  have hp' := Post.bind hp
  have p1 := Post.ok hp' hm
  split at p1
  · rename_i hl
    exact run_fnG F (C.room.mono (by omega)) C.ht hb (fun e s' c => C.tk e s' (XE.of_call I (fun _ _ _ h => h) c)) I .nil (spG_of C.bs C.Y rfl hl.1 hl.2 (by simp only [RepL]) hm p1)
  · exact p1.elim

/-! ### builtins -/
theorem pm_bi (S : Sc X N sc) (C : Ctx hx X p q k fs) {id : String} {kk : List D → Mem → Option D} {e : Expr} {es : List Expr} {fl : LM} {np pos : Pos} (hc : CallR X (.builtin id) (rKl q kk)) (hg : gnB sc x = true) (hi : inB x p.fre = true)
    (hv : bootBuiltins x = some (.builtin id)) (ha : PA X (e :: es) (tML q fl))
    (he : starEach (e :: es) X.env = (false, eval e X.env) :: starEach es X.env := by rfl) (hpl : (backTo pos (starEach es X.env)).any (·.1) = false := by rfl) : PE X (.Call (.Name x np) (e :: es) [] pos) (tM q (mOps kk fl)) := by
  obtain ⟨h1, h2, h3⟩ := S.gl hg
  exact wkE (pe_callB hc h1 (C.fr hi) hv ha h3 h2 he hpl) fun _ _ _ h => ls_op h
theorem pm_ty (S : Sc X N sc) (C : Ctx hx X p q k fs) {id : String} {kk : List D → Mem → Option D} {e : Expr} {es : List Expr} {fl : LM} {np pos : Pos} (hc : CallR X (.type id) (rKl q kk)) (hg : gnB sc x = true) (hi : inB x p.fre = true)
    (hv : bootBuiltins x = some (.type id)) (ha : PA X (e :: es) (tML q fl))
    (he : starEach (e :: es) X.env = (false, eval e X.env) :: starEach es X.env := by rfl) (hpl : (backTo pos (starEach es X.env)).any (·.1) = false := by rfl) : PE X (.Call (.Name x np) (e :: es) [] pos) (tM q (mOps kk fl)) := by
  obtain ⟨h1, h2, h3⟩ := S.gl hg
  exact wkE (pe_callTy hc h1 (C.fr hi) hv ha h3 h2 he hpl) fun _ _ _ h => ls_op h
/-- an operation that may change the memory -/
def rKm (q : Cn) (k : List D → Mem → Option (D × Mem)) : List V → Hp → VK → Prop := fun xs H Q => ∃ φ μ ds r μ', MemRep q.Y φ H q.B μ ∧ RepL q.Y φ H ds xs ∧ k ds μ = some (r, μ') ∧
  ∀ φ' H', Step φ φ' H H' → MemRep q.Y φ' H' q.B μ' → ∀ v, Rep q.Y φ' H' r v → Q v H'
theorem ls_opM {k : List D → Mem → Option (D × Mem)} {fl : LM} {Q : VK} (h : tM q (mOpsM k fl) σ H Q) : tML q fl σ H fun vs H1 => rKm q k vs H1 Q :=
  tML_un h fun φ H μ ds vs hm rx hp => by
    cases e : k ds μ with
    | none => rw [e] at hp; exact hp.elim
    | some rr =>
      obtain ⟨r, μ'⟩ := rr
      rw [e] at hp
      exact ⟨φ, μ, ds, r, μ', hm, rx, e, fun φ' H' s m v rv => hp φ' H' s m v rv⟩
theorem pm_biM (S : Sc X N sc) (C : Ctx hx X p q k fs) {id : String} {kk : List D → Mem → Option (D × Mem)} {e : Expr} {es : List Expr} {fl : LM} {np pos : Pos} (hc : CallR X (.builtin id) (rKm q kk)) (hg : gnB sc x = true) (hi : inB x p.fre = true)
    (hv : bootBuiltins x = some (.builtin id)) (ha : PA X (e :: es) (tML q fl))
    (he : starEach (e :: es) X.env = (false, eval e X.env) :: starEach es X.env := by rfl) (hpl : (backTo pos (starEach es X.env)).any (·.1) = false := by rfl) : PE X (.Call (.Name x np) (e :: es) [] pos) (tM q (mOpsM kk fl)) := by
  obtain ⟨h1, h2, h3⟩ := S.gl hg
  exact wkE (pe_callB hc h1 (C.fr hi) hv ha h3 h2 he hpl) fun _ _ _ h => ls_opM h
theorem pm_tyM (S : Sc X N sc) (C : Ctx hx X p q k fs) {id : String} {kk : List D → Mem → Option (D × Mem)} {e : Expr} {es : List Expr} {fl : LM} {np pos : Pos} (hc : CallR X (.type id) (rKm q kk)) (hg : gnB sc x = true) (hi : inB x p.fre = true)
    (hv : bootBuiltins x = some (.type id)) (ha : PA X (e :: es) (tML q fl))
    (he : starEach (e :: es) X.env = (false, eval e X.env) :: starEach es X.env := by rfl) (hpl : (backTo pos (starEach es X.env)).any (·.1) = false := by rfl) : PE X (.Call (.Name x np) (e :: es) [] pos) (tM q (mOpsM kk fl)) := by
  obtain ⟨h1, h2, h3⟩ := S.gl hg
  exact wkE (pe_callTy hc h1 (C.fr hi) hv ha h3 h2 he hpl) fun _ _ _ h => ls_opM h
/-- a builtin's name as a value -/
theorem pm_tyN (S : Sc X N sc) (C : Ctx hx X p q k fs) {id : String} {pos : Pos} (hg : gnB sc x = true) (hi : inB x p.fre = true) (hv : bootBuiltins x = some (.type id)) : PE X (.Name x pos) (tM q (mC (.ty id))) := by
  obtain ⟨h1, h2, h3⟩ := S.gl hg
  exact pm_C (pe_bltn (v := .ty id) h1 (C.fr hi) hv rfl h3 h2) fun φ H => by simp only [Rep]
end
end Mi

/-! Mi.G: builtins, dicts, lists. -/
namespace Mi
open PySem PySem.Spec
open PyProof.Rows hiding St
open L2

/-! ### words -/
def kLen : List D → Mem → Option D := fun ds μ => match ds with
  | [.str x] => if szB x.length then some (.int x.length) else none
  | [.tup xs] => some (.int xs.length)
  | [d] => (match listOf μ d with
    | some xs => some (.int xs.length)
    | none => none)
  | _ => none
def kInt : List D → Mem → Option D := fun ds _ => match ds with
  | [.int i] => some (.int i)
  | [.bl b] => some (.int (if b then 1 else 0))
  | _ => none
def kAbs : List D → Mem → Option D := fun ds _ => match ds with
  | [.int i] => some (.int (if i < 0 then -i else i))
  | _ => none
def kMax2 : List D → Mem → Option D := fun ds _ => match ds with
  | [.int i, .int j] => some (.int (if j > i then j else i))
  | _ => none
def kMin2 : List D → Mem → Option D := fun ds _ => match ds with
  | [.int i, .int j] => some (.int (if j < i then j else i))
  | _ => none
/-- the items of a list, a tuple, the script -/
def itemsOf (μ : Mem) : D → Option (List D)
  | .tup ds => some ds
  | .scr ns => some (ns.map .int)
  | d => listOf μ d
def kList : List D → Mem → Option D := fun ds μ => match ds with
  | [d] => (itemsOf μ d).map .lst
  | _ => none
def kListN : List D → Mem → Option (D × Mem) := fun ds μ => match ds with
  | [d] => (match itemsOf μ d with
    | some xs => some (.ref μ.length, μ ++ [.lst xs])
    | none => none)
  | _ => none
def kTuple : List D → Mem → Option D := fun ds μ => match ds with
  | [d] => (itemsOf μ d).map .tup
  | _ => none
mutual
/-- data that is shown -/
def toR : D → Option PyData
  | .non => some .none
  | .bl b => some (.bool b)
  | .int i => some (.int i)
  | .str x => some (.str x)
  | .tup ds => (toRL ds).map .tuple
  | .lst ds => (toRL ds).map .list
  | .dct kvs => (toRK kvs).map .dict
  | .ref _ => none
  | .obj _ _ => none
  | .fn _ => none
  | .cls _ => none
  | .ty _ => none
  | .scr _ => none
  | .exn => none
def toRL : List D → Option (List PyData)
  | [] => some []
  | d :: ds => match toR d with
    | some p => (match toRL ds with
      | some ps => some (p :: ps)
      | none => none)
    | none => none
def toRK : List (Key × D) → Option (List (PyData × PyData))
  | [] => some []
  | (k, d) :: ds => match toR d with
    | some p => (match toRK ds with
      | some ps => some ((match k with
        | .inl i => .int i
        | .inr x => .str x, p) :: ps)
      | none => none)
    | none => none
end
def toRv (μ : Mem) (d : D) : Option PyData := match d with
  | .ref i => (match listOf μ (.ref i) with
    | some ds => (toRL ds).map .list
    | none => none)
  | d => toR d
def kRepr : List D → Mem → Option D := fun ds μ => match ds with
  | [d] => (match toRv μ d with
    | some p => if p.showable && Nat.blt p.depth 60 && szB p.shown.length then some (.str p.shown) else none
    | none => none)
  | _ => none
/-! dicts -/
def toKey : D → Option Key
  | .int i => some (.inl i)
  | .str x => some (.inr x)
  | _ => none
def dictOf (μ : Mem) : D → Option (List (Key × D))
  | .dct kvs => some kvs
  | .ref i => (match μ[i]? with
    | some (.dK kvs) => some kvs
    | _ => none)
  | _ => none
def lookK : List (Key × D) → Key → Option D
  | [], _ => none
  | (k, d) :: r, j => if k = j then some d else lookK r j
def putD (kvs : List (Key × D)) (k : Key) (d : D) : List (Key × D) := if kvs.any (fun kv => decide (kv.1 = k)) then kvs.map (fun kv => if kv.1 = k then (kv.1, d) else kv) else kvs ++ [(k, d)]
def kDGet : D → D → Mem → Option D := fun d e μ => match dictOf μ d, toKey e with
  | some kvs, some k => lookK kvs k
  | _, _ => none
/-- an object of the memory is changed: below the base clean things alone -/
def okW (base i : Nat) (m : MO) : Bool := Nat.ble base i || m.below 0
/-- o[i] = v -/
def kSet (base : Nat) (o e v : D) (μ : Mem) : Option Mem := match o with
  | .ref i => (match μ[i]? with
    | some (.dK kvs) => (match toKey e with
      | some k => if Nat.blt kvs.length sizeLine && okW base i (.dK (putD kvs k v)) then some (μ.set i (.dK (putD kvs k v))) else none
      | none => none)
    | some (.lst ds) => (match e with
      | .int j => (match ixN ds.length j with
        | some n => if okW base i (.lst (ds.set n v)) then some (μ.set i (.lst (ds.set n v))) else none
        | none => none)
      | _ => none)
    | _ => none)
  | _ => none
/-- l.append(v) -/
def kApp (base : Nat) (o v : D) (μ : Mem) : Option Mem := match o with
  | .ref i => (match μ[i]? with
    | some (.lst ds) => if Nat.blt ds.length sizeLine && okW base i (.lst (ds ++ [v])) then some (μ.set i (.lst (ds ++ [v]))) else none
    | _ => none)
  | _ => none
/-- l.extend(v) -/
def kExt (base : Nat) (o v : D) (μ : Mem) : Option Mem := match o with
  | .ref i => (match μ[i]?, listOf μ v with
    | some (.lst ds), some es => if szB (ds.length + es.length) && okW base i (.lst (ds ++ es)) then some (μ.set i (.lst (ds ++ es))) else none
    | _, _ => none)
  | _ => none

section
variable {hx : Option ExI} {X : Cx} {N : List Str} {sc : Scope} {p : Pg} {q : Cn} {k : Nat} {fs : List Nat} {φ : List Addr} {H : Hp} {σ : St} {μ : Mem} {x y : V} {d e : D} {Q : VK}
theorem Ctx.U (C : Ctx hx X p q k fs) : X.A.units + 1 < cLine := by have := C.units; omega
/-- one argument -/
theorem RepL.one {Y : Wd} {d : D} {vs : List V} (h : RepL Y φ H [d] vs) : ∃ v, vs = [v] ∧ Rep Y φ H d v := by
  simp only [RepL] at h
  obtain ⟨v, r, e, h1, h2⟩ := h
  subst h2
  exact ⟨v, e, h1⟩
theorem RepL.two {Y : Wd} {d e : D} {vs : List V} (h : RepL Y φ H [d, e] vs) : ∃ v w, vs = [v, w] ∧ Rep Y φ H d v ∧ Rep Y φ H e w := by
  simp only [RepL] at h
  obtain ⟨v, r, e, h1, w, r2, e2, h2, h3⟩ := h
  subst h3 e2
  exact ⟨v, w, e, h1, h2⟩
theorem items_rep {Y : Wd} {B : List Nat} (m : MemRep Y φ H B μ) (r : Rep Y φ H d x) {ds : List D} (h : itemsOf μ d = some ds) : ∃ a vs, x = .ref a ∧ (SqL Y.K H a vs ∨ SqT Y.K H a vs) ∧ RepL Y φ H ds vs := by
  unfold itemsOf at h
  split at h
  · cases h
    obtain ⟨a, vs, e, f, g⟩ := r.tup_iff
    exact ⟨a, vs, e, .inr f, g⟩
  · rename_i ns
    cases h
    simp only [Rep] at r
    obtain ⟨a, e, f⟩ := r
    refine ⟨a, ns.map V.int, e, .inl f.sq, ?_⟩
    clear f e
    induction ns with
    | nil => simp only [List.map_nil, RepL]
    | cons i r ih => simp only [List.map_cons, RepL]; exact ⟨_, _, rfl, rep_int, ih⟩
  · obtain ⟨a, vs, e, f, g⟩ := listOf_rep m r h
    exact ⟨a, vs, e, .inl (SqL.of f), g⟩
theorem kb_len (C : Ctx hx X p q k fs) : CallR X (.builtin "len") (rKl q kLen) := by
  refine wkC call_len fun xs H Q w => ?_
  obtain ⟨φ, μ, ds, r, hm, rx, hk, h⟩ := w
  unfold kLen at hk
  split at hk
  · split at hk
    · rename_i hz
      cases hk
      obtain ⟨v, e, rv⟩ := rx.one
      subst e
      cases rv.str_iff
      exact ⟨_, _, rfl, ⟨szB_le hz, rfl⟩, rK_scal hm h rep_int⟩
    · cases hk
  · cases hk
    obtain ⟨v, e, rv⟩ := rx.one
    subst e
    obtain ⟨a, vs, e, f, g⟩ := rv.tup_iff
    subst e
    exact ⟨_, _, rfl, .inr ⟨vs, by rw [← C.K]; exact f, g.length⟩, rK_scal hm h rep_int⟩
  · split at hk
    · rename_i zs e1
      cases hk
      obtain ⟨v, e, rv⟩ := rx.one
      subst e
      obtain ⟨a, vs, e, f, g⟩ := listOf_rep hm rv e1
      subst e
      exact ⟨_, _, rfl, .inl ⟨vs, SqL.of f, g.length⟩, rK_scal hm h rep_int⟩
    · cases hk
  · cases hk
theorem kb_int : CallR X (.type "int") (rKl q kInt) := by
  refine wkC call_int1 fun xs H Q w => ?_
  obtain ⟨φ, μ, ds, r, hm, rx, hk, h⟩ := w
  unfold kInt at hk
  split at hk
  · cases hk
    obtain ⟨v, e, rv⟩ := rx.one
    subst e
    cases rv.int_iff
    exact .inl ⟨_, rfl, rK_scal hm h rep_int⟩
  · cases hk
    obtain ⟨v, e, rv⟩ := rx.one
    subst e
    cases rv.bl_iff
    exact .inr ⟨_, rfl, rK_scal hm h rep_int⟩
  · cases hk
theorem kb_abs : CallR X (.builtin "abs") (rKl q kAbs) := by
  refine wkC call_abs fun xs H Q w => ?_
  obtain ⟨φ, μ, ds, r, hm, rx, hk, h⟩ := w
  unfold kAbs at hk
  split at hk
  · cases hk
    obtain ⟨v, e, rv⟩ := rx.one
    subst e
    cases rv.int_iff
    exact ⟨_, rfl, rK_scal hm h rep_int⟩
  · cases hk
theorem kb_max2 (hc : X.calm = true) : CallR X (.builtin "max") (rKl q kMax2) := by
  refine wkC (call_max2 hc) fun xs H Q w => ?_
  obtain ⟨φ, μ, ds, r, hm, rx, hk, h⟩ := w
  unfold kMax2 at hk
  split at hk
  · cases hk
    obtain ⟨v, w, e, rv, rw⟩ := rx.two
    subst e
    cases rv.int_iff; cases rw.int_iff
    exact ⟨_, _, rfl, rK_scal hm h rep_int⟩
  · cases hk
theorem kb_min2 (hc : X.calm = true) : CallR X (.builtin "min") (rKl q kMin2) := by
  refine wkC (call_min2 hc) fun xs H Q w => ?_
  obtain ⟨φ, μ, ds, r, hm, rx, hk, h⟩ := w
  unfold kMin2 at hk
  split at hk
  · cases hk
    obtain ⟨v, w, e, rv, rw⟩ := rx.two
    subst e
    cases rv.int_iff; cases rw.int_iff
    exact ⟨_, _, rfl, rK_scal hm h rep_int⟩
  · cases hk
theorem kb_list (C : Ctx hx X p q k fs) : CallR X (.type "list") (rKl q kList) := by
  refine wkC call_list_of fun xs H Q w => ?_
  obtain ⟨φ, μ, ds, r, hm, rx, hk, h⟩ := w
  unfold kList at hk
  split at hk
  · simp only [Option.map_eq_some_iff] at hk
    obtain ⟨zs, e1, rfl⟩ := hk
    obtain ⟨v, e, rv⟩ := rx.one
    subst e
    obtain ⟨a, vs, e, f, g⟩ := items_rep hm rv e1
    subst e
    refine ⟨a, vs, rfl, by rw [← C.K]; exact f, fun l hl => ?_⟩
    obtain ⟨s, m, rr⟩ := new_lst hm g hl
    exact h _ _ s m _ rr
  · cases hk
theorem kb_listN (C : Ctx hx X p q k fs) : CallR X (.type "list") (rKm q kListN) := by
  refine wkC call_list_of fun xs H Q w => ?_
  obtain ⟨φ, μ, ds, r, μ', hm, rx, hk, h⟩ := w
  unfold kListN at hk
  split at hk
  · split at hk
    · rename_i zs e1
      cases hk
      obtain ⟨v, e, rv⟩ := rx.one
      subst e
      obtain ⟨a, vs, e, f, g⟩ := items_rep hm rv e1
      subst e
      refine ⟨a, vs, rfl, by rw [← C.K]; exact f, fun l hl => ?_⟩
      obtain ⟨s, m, rr⟩ := own_lst hm g hl
      exact h _ _ s m _ rr
    · cases hk
  · cases hk
theorem kb_tuple (C : Ctx hx X p q k fs) : CallR X (.type "tuple") (rKl q kTuple) := by
  refine wkC call_tuple_of fun xs H Q w => ?_
  obtain ⟨φ, μ, ds, r, hm, rx, hk, h⟩ := w
  unfold kTuple at hk
  split at hk
  · rename_i d
    simp only [Option.map_eq_some_iff] at hk
    obtain ⟨zs, e1, rfl⟩ := hk
    obtain ⟨v, e, rv⟩ := rx.one
    subst e
    cases d with
    | tup ds =>
      simp only [itemsOf, Option.some.injEq] at e1
      subst e1
      have rv' := rv
      obtain ⟨a, vs, e, f, g⟩ := rv.tup_iff
      subst e
      exact ⟨a, vs, rfl, .inr ⟨by rw [← C.K]; exact f, rK_scal hm h rv'⟩⟩
    | scr ns =>
      obtain ⟨a, vs, e, f, g⟩ := items_rep hm rv e1
      subst e
      rcases f with f | f
      · refine ⟨a, vs, rfl, .inl ⟨by rw [← C.K]; exact f, fun l hl => ?_⟩⟩
        obtain ⟨s, m, rr⟩ := new_tup hm g hl
        exact h _ _ s m _ rr
      · -- the script is a list
        simp only [Rep] at rv
        obtain ⟨a', e, f'⟩ := rv
        cases e
        have e2 : itemsOf μ (.scr ns) = some (ns.map .int) := rfl
        rw [e2] at e1
        cases e1
        refine ⟨a, ns.map V.int, rfl, .inl ⟨by rw [← C.K]; exact f'.sq, fun l hl => ?_⟩⟩
        have g' : RepL q.Y φ H (ns.map .int) (ns.map V.int) := by
          clear e2 f f' h rx g
          induction ns with
          | nil => simp only [List.map_nil, RepL]
          | cons i r ih => simp only [List.map_cons, RepL]; exact ⟨_, _, rfl, rep_int, ih⟩
        obtain ⟨s, m, rr⟩ := new_tup hm g' hl
        exact h _ _ s m _ rr
    | lst ds =>
      obtain ⟨a, vs, e, f, g⟩ := listOf_rep hm rv e1
      subst e
      refine ⟨a, vs, rfl, .inl ⟨SqL.of f, fun l hl => ?_⟩⟩
      obtain ⟨s, m, rr⟩ := new_tup hm g hl
      exact h _ _ s m _ rr
    | ref i =>
      obtain ⟨a, vs, e, f, g⟩ := listOf_rep hm rv e1
      subst e
      refine ⟨a, vs, rfl, .inl ⟨SqL.of f, fun l hl => ?_⟩⟩
      obtain ⟨s, m, rr⟩ := new_tup hm g hl
      exact h _ _ s m _ rr
    | _ => simp [itemsOf, listOf] at e1
  · cases hk
end
end Mi

/-! Mi.H: repr, dicts. -/
namespace Mi
open PySem PySem.Spec
open PyProof.Rows hiding St
open L2

section
variable {hx : Option ExI} {X : Cx} {N : List Str} {sc : Scope} {p : Pg} {q : Cn} {k : Nat} {fs : List Nat} {φ : List Addr} {H : Hp} {σ : St} {μ : Mem} {x y : V} {d e : D} {Q : VK} {pins : List (Addr × Obj)} {s : Shared}
/-! ### what is tracked is not the table of modules -/
theorem no_sys (hs : ∃ o, X.K.lookup sysModules = some o) (I : Inv X pins σ H s) {a : Addr} (h : H a ≠ none) : a ≠ sysModules := fun z => by
  obtain ⟨o, ho⟩ := hs
  have hb : X.base.get? sysModules = some o := I.ok.mod.kin _ _ ho
  exact h (by rw [z]; exact (I.bs _ _ hb).2)
theorem mem_app2 {α : Type} {P : α → Prop} {as bs : List α} (h1 : ∀ a ∈ as, P a) (h2 : ∀ a ∈ bs, P a) : ∀ a ∈ as ++ bs, P a := fun a h => (List.mem_append.mp h).elim (h1 a) (h2 a)
def keyP : Key → PyData
  | .inl i => .int i
  | .inr x => .str x
theorem toRK_keys : ∀ {kvs : List (Key × D)} {ps : List (PyData × PyData)}, toRK kvs = some ps → ps.map (·.1) = kvs.map fun kv => keyP kv.1
  | [], ps, h => by simp only [toRK, Option.some.injEq] at h; subst h; rfl
  | (k, d) :: r, ps, h => by
    simp only [toRK] at h
    split at h
    · split at h
      · rename_i ps0 e2
        cases h
        simp only [List.map_cons, toRK_keys e2]
        cases k <;> rfl
      · cases h
    · cases h
theorem repK_keys {Y : Wd} : ∀ {kvs : List (Key × D)} {vs : List (Key × V)}, RepK Y φ H kvs vs → vs.map (·.1) = kvs.map (·.1)
  | [], vs, h => by simp only [RepK] at h; subst h; rfl
  | (k, d) :: r, vs, h => by
    simp only [RepK] at h
    obtain ⟨v, t, e, _, h2⟩ := h
    subst e
    simp only [List.map_cons, repK_keys h2]
theorem keys_reads {P : Program} {w : World} {h : Heap} : ∀ {es : List DictEntry} {vs : List (Key × Value)}, Pairs (mixKind P w) es vs → ReadsAll h (es.map (·.key)) (vs.map fun kv => keyP kv.1) []
  | _, _, .nil => .nil
  | e :: es, (k, v) :: vs, .cons h1 h2 h3 => by
    have t := keys_reads (h := h) h3
    have hk : keyIs k e.key = true := h1
    obtain ⟨i, t', rfl, ek⟩ | ⟨z, t', rfl, ek⟩ := keyIs_shape hk
    · show ReadsAll h (e.key :: _) (PyData.int i :: _) []
      rw [ek]
      exact ReadsAll.cons (as := []) (bs := []) (Reads.int i t') t
    · show ReadsAll h (e.key :: _) (PyData.str z :: _) []
      rw [ek]
      exact ReadsAll.cons (as := []) (bs := []) (Reads.str z t') t
theorem pairs_vals {P : Program} {w : World} : ∀ {es : List DictEntry} {vs : List (Key × Value)}, Pairs (mixKind P w) es vs → es.map (·.val) = vs.map (·.2)
  | _, _, .nil => rfl
  | e :: es, (k, v) :: vs, .cons h1 h2 h3 => by rw [List.map_cons, List.map_cons, pairs_vals h3, h2]
mutual
theorem toR_reads (hs : ∃ o, X.K.lookup sysModules = some o) (hY : q.Y.K = X.K) (I : Inv X pins σ H s) : ∀ {d : D} {x : V} {u : Value} {pd : PyData}, Rep q.Y φ H d x → RelV x u → toR d = some pd → ∃ as, Reads s.heap u pd as ∧ ∀ a ∈ as, H a ≠ none
  | .non, x, u, pd, r, ru, h => by
    cases r.non_iff; cases ru
    simp only [toR, Option.some.injEq] at h; subst h
    exact ⟨[], Reads.none, by simp⟩
  | .bl b, x, u, pd, r, ru, h => by
    cases r.bl_iff; cases ru
    simp only [toR, Option.some.injEq] at h; subst h
    exact ⟨[], Reads.bool b, by simp⟩
  | .int b, x, u, pd, r, ru, h => by
    cases r.int_iff; obtain ⟨t, rfl⟩ := ru
    simp only [toR, Option.some.injEq] at h; subst h
    exact ⟨[], Reads.int b t, by simp⟩
  | .str b, x, u, pd, r, ru, h => by
    cases r.str_iff; obtain ⟨t, rfl⟩ := ru
    simp only [toR, Option.some.injEq] at h; subst h
    exact ⟨[], Reads.str b t, by simp⟩
  | .tup ds, x, u, pd, r, ru, h => by
    simp only [toR, Option.map_eq_some_iff] at h
    obtain ⟨ps, h1, rfl⟩ := h
    obtain ⟨a, vs, e, f, g⟩ := r.tup_iff
    subst e; cases ru
    rw [hY] at f
    obtain ⟨its, rv, ⟨o, ho, hc, n, hd⟩, _⟩ := I.tuple f
    obtain ⟨as, h2, h3⟩ := toRL_reads hs hY I g rv h1
    exact ⟨as, Reads.tuple ho hc hd (by simpa using h2), h3⟩
  | .lst ds, x, u, pd, r, ru, h => by
    simp only [toR, Option.map_eq_some_iff] at h
    obtain ⟨ps, h1, rfl⟩ := h
    simp only [Rep] at r
    obtain ⟨a, vs, e, f, n, g⟩ := r
    subst e; cases ru
    obtain ⟨its, rv, ⟨o, n, ho, hc, _, hd⟩, _⟩ := I.list (SqL.of f)
    obtain ⟨as, h2, h3⟩ := toRL_reads hs hY I g rv h1
    refine ⟨a :: as, Reads.list ho hc hd (by simpa using h2), fun b hb => ?_⟩
    rcases List.mem_cons.mp
          hb with z | z
    · subst z; rw [f]; simp
    · exact h3 b z
  | .dct kvs, x, u, pd, r, ru, h => by
    simp only [toR, Option.map_eq_some_iff] at h
    obtain ⟨ps, h1, rfl⟩ := h
    simp only [Rep] at r
    obtain ⟨a, kvs', e, f, n, g⟩ := r
    subst e; cases ru
    obtain ⟨z, hd, vs, rel, o, es, ep, ho, hex, hdat, _, hp, _⟩ := dk_of I.hok f
    obtain ⟨bs, h2, h3⟩ := toRK_reads hs hY I g rel h1
    refine ⟨a :: ([] : List Addr) ++ bs, Reads.dict ho hex.1 hdat ?_ ?_, fun b hb => ?_⟩
    · have h4 := keys_reads (h := s.heap) hp
      have e1 : ps.map (·.1) = vs.map fun kv => keyP kv.1 := by
        rw [toRK_keys h1]
        have := repK_keys g
        have h6 : kvs'.map (·.1) = vs.map (·.1) := KV.keys rel
        have h7 : vs.map (·.1) = kvs.map (·.1) := by rw [← h6, this]
        have : (vs.map (·.1)).map keyP = (kvs.map (·.1)).map keyP := by rw [h7]
        simpa [List.map_map, Function.comp_def] using this.symm
      rw [e1]
      exact h4
    · rw [pairs_vals hp]; exact h2
    · rcases List.mem_cons.mp hb with z | z
      · subst z; rw [f]; simp
      · exact h3 b z
  | .ref _, x, u, pd, r, ru, h => by simp only [toR] at h; cases h
  | .obj _ _, x, u, pd, r, ru, h => by simp only [toR] at h; cases h
  | .fn _, x, u, pd, r, ru, h => by simp only [toR] at h; cases h
  | .cls _, x, u, pd, r, ru, h => by simp only [toR] at h; cases h
  | .ty _, x, u, pd, r, ru, h => by simp only [toR] at h; cases h
  | .scr _, x, u, pd, r, ru, h => by simp only [toR] at h; cases h
  | .exn, x, u, pd, r, ru, h => by simp only [toR] at h; cases h
theorem toRL_reads (hs : ∃ o, X.K.lookup sysModules = some o) (hY : q.Y.K = X.K) (I : Inv X pins σ H s) : ∀ {ds : List D} {vs : List V} {us : List Value} {ps : List PyData}, RepL q.Y φ H ds vs → Vals vs us → toRL ds = some ps → ∃ as, ReadsAll s.heap us ps as ∧ ∀ a ∈ as, H a ≠ none
  | [], vs, us, ps, r, rv, h => by
    simp only [toRL, Option.some.injEq] at h; subst h
    simp only [RepL] at r; subst r
    cases rv
    exact ⟨[], .nil, by simp⟩
  | d :: ds, vs, us, ps, r, rv, h => by
    simp only [RepL] at r
    obtain ⟨v, t, e, h1, h2⟩ := r
    subst e
    simp only [toRL] at h
    split at h
    · rename_i p0 e1
      split at h
      · rename_i ps0 e2
        cases h
        cases rv with
        | cons r1 r2 =>
          obtain ⟨as, q1, n1⟩ := toR_reads hs hY I h1 r1 e1
          obtain ⟨bs, q2, n2⟩ := toRL_reads hs hY I h2 r2 e2
          exact ⟨_, .cons q1 q2, mem_app2 n1 n2⟩
      · cases h
    · cases h
theorem toRK_reads (hs : ∃ o, X.K.lookup sysModules = some o) (hY : q.Y.K = X.K) (I : Inv X pins σ H s) : ∀ {kvs : List (Key × D)} {kvs' : List (Key × V)} {vs : List (Key × Value)} {ps : List (PyData × PyData)}, RepK q.Y φ H kvs kvs' → KV kvs' vs → toRK kvs = some ps →
    ∃ as, ReadsAll s.heap (vs.map (·.2)) (ps.map (·.2)) as ∧ ∀ a ∈ as, H a ≠ none
  | [], vs, us, ps, r, rv, h => by
    simp only [toRK, Option.some.injEq] at h; subst h
    simp only [RepK] at r; subst r
    cases rv
    exact ⟨[], .nil, by simp⟩
  | (k, d) :: ds, vs, us, ps, r, rv, h => by
    simp only [RepK] at r
    obtain ⟨v, t, e, h1, h2⟩ := r
    subst e
    simp only [toRK] at h
    split at h
    · rename_i p0 e1
      split at h
      · rename_i ps0 e2
        cases h
        cases rv with
        | cons r1 r2 =>
          obtain ⟨as, q1, n1⟩ := toR_reads hs hY I h1 r1.2 e1
          obtain ⟨bs, q2, n2⟩ := toRK_reads hs hY I h2 r2 e2
          exact ⟨_, .cons q1 q2, mem_app2 n1 n2⟩
      · cases h
    · cases h
end
theorem toRv_reads (hs : ∃ o, X.K.lookup sysModules = some o) (hY : q.Y.K = X.K) (I : Inv X pins σ H s) (hm : MemRep q.Y φ H q.B μ) {u : Value} {pd : PyData} (r : Rep q.Y φ H d x) (ru : RelV x u) (h : toRv μ d = some pd) : ∃ as, Reads s.heap u pd as ∧ ∀ a ∈ as, H a ≠ none := by
  unfold toRv at h
  split at h
  · split at h
    · rename_i ds e1
      simp only
            [Option.map_eq_some_iff] at h
      obtain ⟨ps, h1, rfl⟩ := h
      obtain ⟨a, vs, e, f, g⟩ := listOf_rep hm r e1
      subst e; cases ru
      obtain ⟨its, rv, ⟨o, n, ho, hc, _, hd⟩, _⟩ := I.list (SqL.of f)
      obtain ⟨as, h2, h3⟩ := toRL_reads hs hY I g rv h1
      refine ⟨a :: as, Reads.list ho hc hd (by simpa using h2), fun b hb => ?_⟩
      rcases List.mem_cons.mp
            hb with z | z
      · subst z; rw [f]; simp
      · exact h3 b z
    · cases h
  · exact toR_reads hs hY I r ru h
theorem kb_repr (C : Ctx hx X p q k fs) : CallR X (.builtin "repr") (rKl q kRepr) := by
  intro pins s σ H xs us Q I r w
  obtain ⟨φ, μ, ds, r0, hm, rx, hk, h⟩ := w
  unfold kRepr at hk
  split at hk
  · rename_i d
    split at hk
    · rename_i pd e1
      split at hk
      · rename_i hb
        cases hk
        simp only [Bool.and_eq_true] at hb
        obtain ⟨⟨hs, hd⟩, hz⟩ := hb
        have hz := szB_le hz
        obtain ⟨v, e, rv⟩ := rx.one
        subst e
        obtain ⟨u, rfl,
              ru⟩ := vals1 r
        obtain ⟨as, hr, hn⟩ := toRv_reads C.sm C.K I hm rv ru e1
        have fin : ∀ (h' : Heap) (t tk : Nat), (∀ b o, s.heap.get? b = some o → h'.get? b = some o) → EP X pins σ Q (.str pd.shown t) { s with heap := h', toks := tk } := fun h' t tk hk =>
          ⟨.str pd.shown, H, I.kept (t' := tk) hk, ⟨_, rfl⟩, rK_scal hm h rep_str⟩
        cases hr with
        | none =>
          simp only [PyData.shown] at hz fin
          exact PySem.P.repr_of_none (fin s.heap _ _ fun _ _ z => z)
        | bool b =>
          simp only [PyData.shown] at hz fin
          exact PySem.P.repr_of_bool (fin s.heap _ _ fun _ _ z => z)
        | int i t =>
          simp only [PyData.shown] at hz fin
          simp only [PyData.showable, decide_eq_true_eq] at hs
          exact PySem.P.repr_of_int hs (fin s.heap _ _ fun _ _ z => z)
        | str z t =>
          simp only [PyData.shown] at hz fin
          exact PySem.P.repr_of_str (fin s.heap _ _ fun _ _ z => z) hz
        | list h1 h2 h3 h4 =>
          exact repr_of_reads' (.list h1 h2 h3 h4) hs (fun _ hm => no_sys C.sm I (hn _ hm) rfl) C.room.gd (by have := C.room.un; have := blt_iff.mp hd; omega) (fun _ _ z => z) (fun h' t tk hk => fin h' t tk hk) hz
        | tuple h1 h2 h3 h4 =>
          exact repr_of_reads' (.tuple h1 h2 h3 h4) hs (fun _ hm => no_sys C.sm I (hn _ hm) rfl) C.room.gd (by have := C.room.un; have := blt_iff.mp hd; omega) (fun _ _ z => z) (fun h' t tk hk => fin h' t tk hk) hz
        | dict h1 h2 h3 h4 h5 =>
          exact repr_of_reads' (.dict h1 h2 h3 h4 h5) hs (fun _ hm => no_sys C.sm I (hn _ hm) rfl) C.room.gd (by have := C.room.un; have := blt_iff.mp hd; omega) (fun _ _ z => z) (fun h' t tk hk => fin h' t tk hk) hz
      · cases hk
    · cases hk
  · cases hk

/-! ### dicts -/
theorem lookK_rep {Y : Wd} {j : Key} : ∀ {kvs : List (Key × D)} {vs : List (Key × V)} {d : D}, RepK Y φ H kvs vs → lookK kvs j = some d → ∃ v, valV vs j = some v ∧ Rep Y φ H d v
  | [], vs, d, r, h => by simp only [lookK] at h; cases h
  | (k, e) :: kvs, vs, d, r, h => by
    simp only [RepK] at r
    obtain ⟨v, t, e1, h1, h2⟩ := r
    subst e1
    simp only [lookK] at h
    split at h
    · rename_i ek
      cases h
      exact ⟨v, valV_pos ek, h1⟩
    · rename_i ek
      rw [valV_neg ek]
      exact lookK_rep h2 h
theorem dictOf_rep {Y : Wd} {B : List Nat} (m : MemRep Y φ H B μ) (r : Rep Y φ H d x) {kvs : List (Key × D)} (h : dictOf μ d = some kvs) : ∃ a vs, x = .ref a ∧ H a = some (.dK vs) ∧ RepK Y φ H kvs vs := by
  cases d with
  | dct es =>
    simp only [dictOf, Option.some.injEq] at h
    subst h
    simp only [Rep] at r
    obtain ⟨a, vs, e, h1, _, h2⟩ := r
    exact ⟨a, vs, e, h1, h2⟩
  | ref i =>
    simp only [Rep] at r
    obtain ⟨a, e, g⟩ := r
    simp only [dictOf] at h
    split at h
    · rename_i es e1
      cases h
      obtain ⟨vs, h1, h2⟩ := m.hi i a _ g e1
      exact ⟨a, vs, e, h1, h2⟩
    · cases h
  | _ => simp only [dictOf] at h; cases h
theorem toKey_rep {Y : Wd} {j : Key} (r : Rep Y φ H d x) (h : toKey d = some j) : x = kV j := by
  cases d with
  | int i => simp only [toKey, Option.some.injEq] at h; subst h; exact r.int_iff
  | str i => simp only [toKey, Option.some.injEq] at h; subst h; exact r.str_iff
  | _ => simp only [toKey] at h; cases h
theorem dget_of {fa fb : EM} {Q : VK} (h : tM q (mBin kDGet fa fb) σ H Q) : tDGet (tM q fa) (tM q fb) σ H Q :=
  tM_bin h fun φ H μ d e x y hm rx ry hp => by
    obtain ⟨r, e1, h1⟩ := post_some hp
    unfold kDGet at e1
    split at e1
    · rename_i kvs j e2 e3
      obtain ⟨a, vs, e4, f, g⟩ := dictOf_rep hm rx e2
      obtain ⟨v, h2, h3⟩ := lookK_rep g e1
      refine ⟨a, v, e4, ?_, rK_scal hm h1 h3⟩
      rw [toKey_rep ry e3, ← h2]
      exact DGet.k f
    · cases e1
theorem pm_dget (C : Ctx hx X p q k fs) {o i : Expr} {fo fi : EM} {pos : Pos} (ho : PE X o (tM q fo)) (hi : PE X i (tM q fi)) (hs : NoSl i) : PE X (.Subscript o i pos) (tM q (mBin kDGet fo fi)) :=
  wkE (pe_dget C.U ho hi hs) fun _ _ _ h => dget_of h
/-- of a dict, a list, a tuple, a str -/
def kSub2 : D → D → Mem → Option D := fun d e μ => match dictOf μ d with
  | some _ => kDGet d e μ
  | none => kIx d e μ
theorem sub2_of {fa fb : EM} {Q : VK} (h : tM q (mBin kSub2 fa fb) σ H Q) : tM q (mBin kDGet fa fb) σ H Q ∨ tM q (mBin kIx fa fb) σ H Q := by
  obtain ⟨ρ, μ, φ, he, hm, hp⟩ := h
  simp only [tM, mBin] at hp ⊢
  cases h1 : fa q.ar ρ μ with
  | stuck => rw [h1] at hp; exact hp.elim
  | exc c f m => exact .inl ⟨ρ, μ, φ, he, hm, by rw [h1] at hp ⊢; exact hp⟩
  | ok d μ1 =>
    rw [h1] at hp
    cases h2 : fb q.ar ρ μ1 with
    | stuck => simp only [R.bind, h2] at hp; exact hp.elim
    | exc c f m => exact .inl ⟨ρ, μ, φ, he, hm, by rw [h1]; simp only [R.bind, h2] at hp ⊢; exact hp⟩
    | ok e μ2 =>
      simp only [R.bind, h2] at hp
      unfold kSub2 at hp
      cases h3 : dictOf μ2 d with
      | some z => exact .inl ⟨ρ, μ, φ, he, hm, by rw [h1]; simp only [R.bind, h2]; rw [h3] at hp; exact hp⟩
      | none => exact .inr ⟨ρ, μ, φ, he, hm, by rw [h1]; simp only [R.bind, h2]; rw [h3] at hp; exact hp⟩
theorem pe_either {e : Expr} {t t' : TE} (h : PE X e t) (h' : PE X e t') : PE X e fun σ H Q => t σ H Q ∨ t' σ H Q :=
  ⟨fun pins s σ H Q I w => w.elim (h.run pins s σ H Q I) (h'.run pins s σ H Q I)⟩
theorem pm_sub (C : Ctx hx X p q k fs) {o i : Expr} {fo fi : EM} {pos : Pos} (ho : PE X o (tM q fo)) (hi : PE X i (tM q fi)) (hs : NoSl i) (hs' : PlainIx i) : PE X (.Subscript o i pos) (tM q (mBin kSub2 fo fi)) :=
  wkE (pe_either (pm_dget C ho hi hs) (pm_ix (ki_ix C) ho hi hs')) fun _ _ _ h => sub2_of h
end
end Mi

/-! Mi.I: targets, statements. -/
namespace Mi
open PySem PySem.Spec
open PyProof.Rows hiding St
open L2

/-! ### words -/
abbrev GM := D → Ar → Env → Mem → Option (Env × Mem)
abbrev GsM := List D → Ar → Env → Mem → Option (Env × Mem)
def gVar (i : Nat) : GM := fun d _ ρ μ => if isExn d = true then none else some (ρ.set i (some d), μ)
def gsNil : GsM := fun ds _ ρ μ => match ds with
  | [] => some (ρ, μ)
  | _ => none
def gsCons (g : GM) (gs : GsM) : GsM := fun ds a ρ μ => match ds with
  | d :: r => (match g d a ρ μ with
    | some (ρ1, μ1) => gs r a ρ1 μ1
    | none => none)
  | [] => none
/-- (a, b, ..) = a tuple, a list of n -/
def gTupM (n : Nat) (gs : GsM) : GM := fun d a ρ μ => match d with
  | .tup ds => if ds.length = n then gs ds a ρ μ else none
  | _ => none
/-- o[i] = .. -/
def gSubM (fo fi : EM) : GM := fun d a ρ μ => match fo a ρ μ with
  | .ok o μ1 => (match fi a ρ μ1 with
    | .ok e μ2 => (match kSet a.base o e d μ2 with
      | some μ3 => some (ρ, μ3)
      | none => none)
    | _ => none)
  | _ => none
def sOf {α : Type} (r : R α) (ρ : Env) (k : α → Mem → SR) : SR := match r with
  | .ok x μ => k x μ
  | .exc c fs μ => .exc c fs ρ μ
  | .stuck => .stuck
def sNil : SM := fun _ ρ μ => .nx ρ μ
def sSeq (f g : SM) : SM := fun a ρ μ => match f a ρ μ with
  | .nx ρ1 μ1 => g a ρ1 μ1
  | r => r
def sAsg (f : EM) (g : GM) : SM := fun a ρ μ => sOf (f a ρ μ) ρ fun d μ1 => match g d a ρ μ1 with
  | some (ρ1, μ2) => .nx ρ1 μ2
  | none => .stuck
def sDrop (f : EM) : SM := fun a ρ μ => sOf (f a ρ μ) ρ fun _ μ1 => .nx ρ μ1
def sRet (f : EM) : SM := fun a ρ μ => sOf (f a ρ μ) ρ fun d μ1 => .rt d μ1
def sRetN : SM := fun _ _ μ => .rt .non μ
def sBrk : SM := fun _ ρ μ => .bk ρ μ
def sCont : SM := fun _ ρ μ => .ct ρ μ
def sIf (c : TM) (f g : SM) : SM := fun a ρ μ => sOf (c a ρ μ) ρ fun b μ1 => if b then f a ρ μ1 else g a ρ μ1
/-- a, b = x, y -/
def sPar2 (i j : Nat) (fl : LM) : SM := fun a ρ μ => sOf (fl a ρ μ) ρ fun ds μ1 => match ds with
  | [d, e] => if isExn d || isExn e then .stuck else .nx ((ρ.set i (some d)).set j (some e)) μ1
  | _ => .stuck
def sPar3 (i j l : Nat) (fl : LM) : SM := fun a ρ μ => sOf (fl a ρ μ) ρ fun ds μ1 => match ds with
  | [d, e, g] => if isExn d || isExn e || isExn g then .stuck else .nx (((ρ.set i (some d)).set j (some e)).set l (some g)) μ1
  | _ => .stuck
/-- what a loop walks: the item at turn i, or the end -/

abbrev ItF := Mem → Nat → Option (Option D)
abbrev IM := Ar → Env → Mem → R (ItF × Nat)
def forGo (it : ItF) (g : GM) (body : SM) (a : Ar) : Nat → Nat → Env → Mem → SR
  | 0, _, _, _ => .stuck
  | n + 1, i, ρ, μ => match it μ i with
    | none => .stuck
    | some none => .nx ρ μ
    | some (some d) => match g d a ρ μ with
      | none => .stuck
      | some (ρ1, μ1) => (match body a ρ1 μ1 with
        | .nx ρ2 μ2 => forGo it g body a n (i + 1) ρ2 μ2
        | .ct ρ2 μ2 => forGo it g body a n (i + 1) ρ2 μ2
        | .bk ρ2 μ2 => .nx ρ2 μ2
        | r => r)
def sFor (f : IM) (g : GM) (body : SM) : SM := fun a ρ μ => sOf (f a ρ μ) ρ fun itn μ1 => forGo itn.1 g body a (itn.2 + 1) 0 ρ μ1
def whileGo (c : TM) (body : SM) (a : Ar) : Nat → Env → Mem → SR
  | 0, _, _ => .stuck
  | n + 1, ρ, μ => sOf (c a ρ μ) ρ fun b μ1 => if b then (match body a ρ μ1 with
      | .nx ρ2 μ2 => whileGo c body a n ρ2 μ2
      | .ct ρ2 μ2 => whileGo c body a n ρ2 μ2
      | .bk ρ2 μ2 => .nx ρ2 μ2
      | r => r) else .nx ρ μ1
def sWhile (fuel : Nat) (c : TM) (body : SM) : SM := fun a ρ μ => whileGo c body a fuel ρ μ
/-- over a list, a tuple -/
def iSeq (f : EM) : IM := fun a ρ μ => (f a ρ μ).bind fun d μ1 => match d with
  | .tup ds => .ok (fun _ i => some ds[i]?, ds.length) μ1
  | .lst ds => .ok (fun _ i => some ds[i]?, ds.length) μ1
  | .scr ns => .ok (fun _ i => some ((ns[i]?).map .int), ns.length) μ1
  | .ref j => (match listOf μ1 (.ref j) with
    | some ds => .ok (fun μ i => match listOf μ (.ref j) with
      | some ds => some ds[i]?
      | none => none, ds.length) μ1
    | none => .stuck)
  | _ => .stuck
def rgB (i : Int) : Bool := decide (-4611686018427387904 ≤ i) && decide (i < 4611686018427387904)
def rgF (lo : Int) (n : Nat) : ItF := fun _ i => if i < n then some (some (.int (lo + (i : Int)))) else some none
def iRange1 (fl : LM) : IM := fun a ρ μ => (fl a ρ μ).bind fun ds μ1 => match ds with
  | [.int j] => if rgB j then .ok (rgF 0 j.toNat, j.toNat) μ1 else .stuck
  | _ => .stuck
def iRange2 (fl : LM) : IM := fun a ρ μ => (fl a ρ μ).bind fun ds μ1 => match ds with
  | [.int i, .int j] => if rgB i && rgB j then .ok (rgF i (j - i).toNat, (j - i).toNat) μ1 else .stuck
  | _ => .stuck

section
variable {hx : Option ExI} {X : Cx} {N : List Str} {sc : Scope} {p : Pg} {q : Cn} {k : Nat} {fs : List Nat} {φ : List Addr} {H : Hp} {σ : St} {μ : Mem} {ρ : Env} {x : Str} {d e : D} {Q : VK} {Dn : Ends}
/-! ### ends -/
theorem SPost.from {r : SR} {φ' H'} (p : SPost q φ H Dn r) (s : Step φ φ' H H') : SPost q φ' H' Dn r := by
  cases r with
  | nx ρ μ => exact fun φ2 H2 σ2 s2 m e => p φ2 H2 σ2 (s.trans s2) m e
  | bk ρ μ => exact fun φ2 H2 σ2 s2 m e => p φ2 H2 σ2 (s.trans s2) m e
  | ct ρ μ => exact fun φ2 H2 σ2 s2 m e => p φ2 H2 σ2 (s.trans s2) m e
  | rt d μ => exact fun φ2 H2 v s2 m r => p φ2 H2 v (s.trans s2) m r
  | exc c fs ρ μ => exact fun φ2 H2 σ2 C dd s2 m e x => p φ2 H2 σ2 C dd (s.trans s2) m e x
  | stuck => exact p
theorem SPost.bind {α : Type} {r : R α} {f : α → Mem → SR} (p : SPost q φ H Dn (sOf r ρ f)) (he : EnvRep q.Y φ H ρ σ) : Post q φ H σ r fun a μ' φ' H' => SPost q φ' H' Dn (f a μ') := by
  cases r with
  | ok a μ => exact fun φ' H' s m => p.from s
  | exc c fs μ => exact fun φ' H' C dd s m x => p φ' H' σ C dd s m (he.step s) x
  | stuck => exact p
theorem SPost.nx {ρ' : Env} {σ' : St} {μ' : Mem} {φ' H'} (p : SPost q φ H Dn (.nx ρ' μ')) (s : Step φ φ' H H') (m : MemRep q.Y φ' H' q.B μ') (e : EnvRep q.Y φ' H' ρ' σ') : Dn.nx σ' H' := p φ' H' σ' s m e

/-! ### targets -/
def gM (q : Cn) (g : GM) : TG := fun v σ H Q => ∃ ρ μ φ d ρ' μ', EnvRep q.Y φ H ρ σ ∧ MemRep q.Y φ H q.B μ ∧ Rep q.Y φ H d v ∧ g d q.ar ρ μ = some (ρ', μ') ∧ ∀ φ' H' σ', Step φ φ' H H' → MemRep q.Y φ' H' q.B μ' → EnvRep q.Y φ' H' ρ' σ' → Q σ' H'
def gsM (q : Cn) (g : GsM) : TGs := fun vs σ H Q => ∃ ρ μ φ ds ρ' μ', EnvRep q.Y φ H ρ σ ∧ MemRep q.Y φ H q.B μ ∧ RepL q.Y φ H ds vs ∧ g ds q.ar ρ μ = some (ρ', μ') ∧ ∀ φ' H' σ', Step φ φ' H H' → MemRep q.Y φ' H' q.B μ' → EnvRep q.Y φ' H' ρ' σ' → Q σ' H'
theorem wkG {X : Cx} {e : Expr} {t t' : TG} (h : PG X e t) (k : ∀ v σ H Q, t' v σ H Q → t v σ H Q) : PG X e t' := ⟨fun pins s σ H v u Q I r w => h.run pins s σ H v u Q I r (k _ _ _ _ w)⟩
theorem wkGs {X : Cx} {e : List Expr} {t t' : TGs} (h : PGs X e t) (k : ∀ v σ H Q, t' v σ H Q → t v σ H Q) : PGs X e t' := ⟨fun pins s σ H v u Q I r w => h.run pins s σ H v u Q I r (k _ _ _ _ w)⟩
theorem mg_var (S : Sc X N sc) {i : Nat} {pos : Pos} (hi : N[i]? = some x) (hv : lnB sc x = true) : PG X (.Name x pos) (gM q (gVar i)) :=
  wkG (pg_name (by rw [S.nm]; exact S.nd) (S.slot hi) (.inl (S.lnm hv)) (.inr (S.lnm hv))) fun v σ H Q h => by
    obtain ⟨ρ, μ, φ, d, ρ', μ', he, hm, hr, e, hq⟩ := h
    unfold gVar at e
    split at e
    · cases e
    · rename_i hx
      cases e
      exact hq _ _ _ Step.refl hm (he.set hr (by simpa using hx))
theorem mg_nil : PGs X [] (gsM q gsNil) := wkGs pgs_nil fun vs σ H Q h => by
  obtain ⟨ρ, μ, φ, ds, ρ', μ', he, hm, hr, e, hq⟩ := h
  cases ds with
  | nil => simp only [RepL] at hr; cases e; exact ⟨hr, hq _ _ _ Step.refl hm he⟩
  | cons d ds => cases e
theorem mg_cons {e : Expr} {es : List Expr} {g : GM} {gs : GsM} (h1 : PG X e (gM q g)) (h2 : PGs X es (gsM q gs))
    (hs : (assignEach (e :: es) X.env).map (·.2) = assign e X.env :: (assignEach es X.env).map (·.2) := by rfl) : PGs X (e :: es) (gsM q (gsCons g gs)) := wkGs (pgs_cons h1 h2 hs) fun vs σ H Q h => by
  obtain ⟨ρ, μ, φ, ds, ρ', μ', he, hm, hr, e, hq⟩ := h
  cases ds with
  | nil => cases e
  | cons d ds =>
    simp only [RepL] at hr
    obtain ⟨v, r, e1, hv, hr⟩ := hr
    simp only [gsCons] at e
    split at e
    · rename_i ρ1 μ1 e2
      exact ⟨v, r, e1, ρ, μ, φ, d, ρ1, μ1, he, hm, hv, e2, fun φ1 H1 σ1 s1 m1 he1 =>
        ⟨ρ1, μ1, φ1, ds, ρ', μ', he1, m1, hr.step s1, e, fun φ2 H2 σ2 s2 m2 he2 => hq _ _ _ (s1.trans s2) m2 he2⟩⟩
    · cases e
theorem mg_tup (hc : X.calm = true) (hY : q.Y.K = X.K) {es : List Expr} {kk : Nat} {gs : GsM} {n : Nat} {pos : Pos} (h : PGs X es (gsM q gs))
    (hn : (assignEach es X.env).length = n := by rfl) (hst : (assignEach es X.env).findIdx? (·.1) = none := by rfl) : PG X (.Tuple es kk pos) (gM q (gTupM n gs)) := wkG (pg_tup hc h hn hst) fun v σ H Q h => by
  obtain ⟨ρ, μ, φ, d, ρ', μ', he, hm, hr, e, hq⟩ := h
  unfold gTupM at e
  split at e
  · split at e
    · rename_i ds hl
      obtain ⟨a, vs, e1, f, g⟩ := hr.tup_iff
      exact ⟨a, vs, e1, by rw [← hY]; exact f, g.length.symm.trans hl, ρ, μ, φ, ds, ρ', μ', he, hm, g, e, hq⟩
    · cases e
  · cases e
/-- o[i] = v by data -/
def tSetM (q : Cn) : TSet := fun o i v H Q => ∃ φ μ d e w μ', MemRep q.Y φ H q.B μ ∧ Rep q.Y φ H d o ∧ Rep q.Y φ H e i ∧ Rep q.Y φ H w v ∧ kSet q.ar.base d e w μ = some μ' ∧ ∀ H', Step φ φ H H' → MemRep q.Y φ H' q.B μ' → Q H'
theorem okW_ok {base i : Nat} {m : MO} {B : List Nat} (h : okW base i m = true) (hB : ∀ b ∈ B, b ≤ base) : ∀ b ∈ B, i < b → m.below b = true := fun b hb hi => by
  unfold okW at h
  simp only [Bool.or_eq_true] at h
  rcases h with h | h
  · have := Nat.le_of_ble_eq_true h
    have := hB b hb
    omega
  · cases m with
    | lst ds => exact belowL_mono (Nat.zero_le _) h
    | lk ds => exact belowL_mono (Nat.zero_le _) h
    | dK ds => exact belowK_mono (Nat.zero_le _) h
    | dT ds => exact belowT_mono (Nat.zero_le _) h
    | ins c fs => exact belowF_mono (Nat.zero_le _) h
    | dead => rfl
theorem RepL.set {Y : Wd} : ∀ {ds : List D} {vs : List V} {i : Nat} {d : D} {v : V}, RepL Y φ H ds vs → Rep Y φ H d v → RepL Y φ H (ds.set i d) (vs.set i v)
  | [], vs, i, d, v, h, r => by simp only [RepL] at h; subst h; simp only [List.set_nil, RepL]
  | a :: ds, vs, 0, d, v, h, r => by
    simp only [RepL] at h
    obtain ⟨w, t, e, h1, h2⟩ := h
    subst e
    simp only [List.set_cons_zero, RepL]
    exact ⟨v, t, rfl, r, h2⟩
  | a :: ds, vs, i + 1, d, v, h, r => by
    simp only [RepL] at h
    obtain ⟨w, t, e, h1, h2⟩ := h
    subst e
    simp only [List.set_cons_succ, RepL]
    exact ⟨w, _, rfl, h1, RepL.set h2 r⟩
theorem RepK.length {Y : Wd} : ∀ {ds : List (Key × D)} {vs : List (Key × V)}, RepK Y φ H ds vs → ds.length = vs.length
  | [], vs, h => by simp only [RepK] at h; subst h; rfl
  | (k, d) :: ds, vs, h => by
    simp only [RepK] at h
    obtain ⟨v, r, e, h1, h2⟩ := h
    subst e
    rw [List.length_cons, List.length_cons, RepK.length h2]
theorem RepK.any {Y : Wd} {j : Key} : ∀ {ds : List (Key × D)} {vs : List (Key × V)}, RepK Y φ H ds vs → (vs.any fun kv => decide (kv.1 = j)) = ds.any fun kv => decide (kv.1 = j)
  | [], vs, h => by simp only [RepK] at h; subst h; rfl
  | (k, d) :: ds, vs, h => by
    simp only [RepK] at h
    obtain ⟨v, r, e, h1, h2⟩ := h
    subst e
    rw [List.any_cons, List.any_cons, RepK.any h2]
theorem RepK.map {Y : Wd} {j : Key} {d : D} {v : V} (r : Rep Y φ H d v) : ∀ {ds : List (Key × D)} {vs : List (Key × V)}, RepK Y φ H ds vs →
    RepK Y φ H (ds.map fun kv => if kv.1 = j then (kv.1, d) else kv) (vs.map fun kv => if kv.1 = j then (kv.1, v) else kv)
  | [], vs, h => by simp only [RepK] at h; subst h; simp only [List.map_nil, RepK]
  | (k, c) :: ds, vs, h => by
    simp only [RepK] at h
    obtain ⟨w, t, e, h1, h2⟩ := h
    subst e
    simp only [List.map_cons]
    by_cases z : k = j
    · rw [if_pos z, if_pos z]
      simp only [RepK]
      exact ⟨v, _, rfl, r, RepK.map r h2⟩
    · rw [if_neg z, if_neg z]
      simp only [RepK]
      exact ⟨w, _, rfl, h1, RepK.map r h2⟩
theorem RepK.snoc {Y : Wd} {j : Key} {d : D} {v : V} (r : Rep Y φ H d v) : ∀ {ds : List (Key × D)} {vs : List (Key × V)}, RepK Y φ H ds vs → RepK Y φ H (ds ++ [(j, d)]) (vs ++ [(j, v)])
  | [], vs, h => by simp only [RepK] at h; subst h; simp only [List.nil_append, RepK]; exact ⟨v, [], rfl, r, rfl⟩
  | (k, c) :: ds, vs, h => by
    simp only [RepK] at h
    obtain ⟨w, t, e, h1, h2⟩ := h
    subst e
    simp only [List.cons_append, RepK]
    exact ⟨w, _, rfl, h1, RepK.snoc r h2⟩
theorem RepK.put {Y : Wd} {j : Key} {d : D} {v : V} {ds : List (Key × D)} {vs : List (Key × V)} (h : RepK Y φ H ds vs) (r : Rep Y φ H d v) : RepK Y φ H (putD ds j d) (putK vs j v) := by
  unfold putD putK
  rw [h.any]
  split
  · exact RepK.map r h
  · exact RepK.snoc r h
theorem step_same {a : Addr} {o : HO} (ha : a ∈ φ) : Step φ φ H (upd H a o) := Step.write ha
theorem set_M (C : Ctx hx X p q k fs) : PSet X (tSetM q) := by
  intro pins s σ H o i v
        ov iv u Q I ro ri rv h
  obtain ⟨φ, μ, d, e, w, μ', hm, rd, re, rw', hk, h⟩ := h
  unfold kSet at hk
  split at hk
  · rename_i j
    simp only [Rep] at rd
    obtain ⟨a, e1, g⟩ := rd
    subst e1
    split at hk
    · rename_i kvs e2
      split at hk
      · rename_i ky e3
        split at hk
        · rename_i hb
          cases hk
          simp only [Bool.and_eq_true] at hb
          obtain ⟨vs, h1, h2⟩ := hm.hi _ _ _ g e2
          refine set_dict C.U pins s σ H _ _ _ ov iv u Q I ro ri rv ⟨a, upd H a (.dK (putK vs ky v)), rfl, ?_, ?_⟩
          · rw [toKey_rep re e3]
            exact DPut.k h1 (by rw [← h2.length]; exact blt_iff.mp hb.1)
          · have st := Step.write (φ := φ) (H := H) (o := .dK (putK vs ky v)) (List.mem_of_getElem? g)
            exact h _ st (hm.write g ⟨_, upd_same, (h2.put rw').step st⟩ (okW_ok hb.2 C.bs))
        · cases hk
      · cases hk
    · rename_i ds e2
      split at hk
      · cases re.int_iff
        split at hk
        · rename_i n e3
          split at hk
          · rename_i hb
            cases hk
            obtain ⟨vs, h1, h2⟩ := hm.hi _ _ _ g e2
            refine set_list pins s σ H _ _ _ ov iv u Q I ro ri rv ⟨a, vs, _, n, rfl, rfl, h1, by rw [← h2.length]; exact e3, ?_⟩
            have st := Step.write (φ := φ) (H := H) (o := .lst (vs.set n v)) (List.mem_of_getElem? g)
            exact h _ st (hm.write g ⟨_, upd_same, (h2.set rw').step st⟩ (okW_ok hb C.bs))
          · cases hk
        · cases hk
      · cases hk
    · cases hk
  · cases hk
theorem mg_sub (C : Ctx hx X p q k fs) {o i : Expr} {fo fi : EM} {pos : Pos} (ho : PE X o (tM q fo)) (hi : PE X i (tM q fi))
    (ha : ∀ v, assign (.Subscript
          o i pos) X.env v = (do
      let ov ← holding
            [v] (eval o X.env)
      let iv ← holding [v,
            ov] (eval i X.env)
      standAt pos
      holding [v, ov, iv]
            (setItem ov iv v)
      release [v, ov, iv] []) := by intro _; rfl) : PG X (.Subscript o i pos) (gM q (gSubM fo fi)) := wkG (pg_sub ho hi (set_M C) ha) fun v σ H Q h => by
  obtain ⟨ρ, μ, φ, d, ρ', μ', he, hm, hr, e, hq⟩ := h
  unfold gSubM at e
  split at e
  · rename_i od μ1 e1
    split at e
    · rename_i ed μ2 e2
      split at e
      · rename_i μ3 e3
        cases e
        refine ⟨ρ, μ, φ, he, hm, ?_⟩
        rw [e1]
        intro φ1 H1 s1 m1 ov rov
        refine ⟨ρ, μ1, φ1, he.step s1, m1, ?_⟩
        rw [e2]
        intro φ2 H2 s2 m2 iv riv
        exact ⟨φ2, μ2, od, ed, d, μ', m2, rov.step s2, riv, hr.step (s1.trans s2), e3, fun H3 s3 m3 => hq _ _ _ ((s1.trans s2).trans s3) m3 (he.step ((s1.trans s2).trans s3))⟩
      · cases e
    · cases e
  · cases e

/-! ### statements -/
theorem mb_nil : PSs X [] (sM q sNil) := wkB pss_nil fun Dn σ H h => by
  obtain ⟨ρ, μ, φ, he, hm, hp⟩ := h
  exact SPost.nx hp Step.refl hm he
theorem seq_of {f g : SM} (h : sM q (sSeq f g) Dn σ H) : tSeq (sM q f) (sM q g) Dn σ H := by
  obtain ⟨ρ, μ, φ, he, hm, hp⟩ := h
  refine ⟨ρ, μ, φ, he, hm, ?_⟩
  unfold sSeq at hp
  cases e : f q.ar ρ μ with
  | nx ρ1 μ1 =>
    rw [e] at hp
    exact fun φ' H' σ' s m e1 => ⟨ρ1, μ1, φ', e1, m, hp.from s⟩
  | rt d μ1 => rw [e] at hp; exact hp
  | bk ρ1 μ1 => rw [e] at hp; exact hp
  | ct ρ1 μ1 => rw [e] at hp; exact hp
  | exc c fs ρ1 μ1 => rw [e] at hp; exact hp
  | stuck => rw [e] at hp; exact hp
theorem mb_cons {s : Stmt} {r : List Stmt} {f g : SM} (h1 : PS X s (sM q f)) (h2 : PSs X r (sM q g)) : PSs X (s :: r) (sM q (sSeq f g)) := wkB (pss_cons h1 h2) fun _ _ _ h => seq_of h
theorem mb_one {s : Stmt} {f : SM} (h1 : PS X s (sM q f)) : PSs X [s] (sM q f) := pss_one h1
theorem asg_of {f : EM} {g : GM} (h : sM q (sAsg f g) Dn σ H) : tAsg (tM q f) (gM q g) Dn σ H := by
  obtain ⟨ρ, μ, φ, he, hm, hp⟩ := h
  refine ⟨ρ, μ, φ, he, hm, (SPost.bind hp he).imp fun d μ1 φ1 H1 s1 m1 p1 v rv => ?_⟩
  cases e : g d q.ar ρ μ1 with
  | none => rw [e] at p1; exact p1.elim
  | some z =>
    obtain ⟨ρ1, μ2⟩ := z
    rw [e] at p1
    exact ⟨ρ, μ1, φ1, d, ρ1, μ2, he.step s1, m1, rv, e, fun φ2 H2 σ2 s2 m2 e2 => p1 φ2 H2 σ2 s2 m2 e2⟩
/-- target = value -/
theorem ms_asg {tg e : Expr} {f : EM} {g : GM} {pos : Pos} (he : PE X e (tM q f)) (hg : PG X tg (gM q g)) (hs : swapsWithSole [tg] e pos.line X.env = pure false := by rfl) (hw : swappedStores [tg] e X.env = pure none := by rfl)
    (h1 : (assignEach [tg] X.env).map (·.2) = [assign tg X.env] := by rfl) : PS X (.Assign [tg] e pos) (sM q (sAsg f g)) := wkS (ps_asg he hg hs hw h1) fun _ _ _ h => asg_of h
/-- name = value -/
theorem ms_set (S : Sc X N sc) {i : Nat} {e : Expr} {f : EM} {pos pos' : Pos} (hi : N[i]? = some x) (hv : lnB sc x = true) (he : PE X e (tM q f)) (hs : swapsWith e (some (.Name x pos')) pos.line X.env = pure false := by rfl) :
    PS X (.Assign [.Name x pos'] e pos) (sM q (sAsg f (gVar i))) := wkS (ps_set (by rw [S.nm]; exact S.nd) (S.slot hi) (.inl (S.lnm hv)) he hs (.inr (S.lnm hv))) fun Dn σ H h => by
  have h2 := asg_of h
  obtain ⟨ρ, μ, φ, he, hm, hp⟩ := h2
  refine ⟨ρ, μ, φ, he, hm, hp.imp fun d μ1 φ1 H1 s1 m1 p1 v rv => ?_⟩
  obtain ⟨ρ0, μ0, φ0, d0, ρ', μ', he0, hm0, hr, e, hq⟩ := p1 v rv
  unfold gVar at e
  split at e
  · cases e
  · rename_i hx
    cases e
    exact hq _ _ _ Step.refl hm0 (he0.set hr (by simpa using hx))
theorem ms_expr {e : Expr} {f : EM} {pos : Pos} (he : PE X e (tM q f)) (hs : swapsWith e none pos.line X.env = pure false := by rfl) : PS X (.Expr e pos) (sM q (sDrop f)) := wkS (ps_expr he hs) fun Dn σ H h => by
  obtain ⟨ρ, μ, φ, he, hm, hp⟩ := h
  exact ⟨ρ, μ, φ, he, hm, (SPost.bind hp he).imp fun d μ1 φ1 H1 s1 m1 p1 v rv => SPost.nx p1 Step.refl m1 (he.step s1)⟩
theorem ms_doc {z : Str} {j : Nat} {pos pos' : Pos} : PS X (.Expr (.Constant (.str z) j pos) pos') (sM q sNil) := wkS ps_doc fun Dn σ H h => by
  obtain ⟨ρ, μ, φ, he, hm, hp⟩ := h
  exact SPost.nx hp Step.refl hm he
theorem ms_pass {pos : Pos} : PS X (.Pass pos) (sM q sNil) := wkS ps_pass fun Dn σ H h => by
  obtain ⟨ρ, μ, φ, he, hm, hp⟩ := h
  exact SPost.nx hp Step.refl hm he
theorem ms_brk {pos : Pos} : PS X (.Break pos) (sM q sBrk) := wkS ps_break fun Dn σ H h => by
  obtain ⟨ρ, μ, φ, he, hm, hp⟩ := h
  exact hp φ H σ Step.refl hm he
theorem ms_cont {pos : Pos} : PS X (.Continue pos) (sM q sCont) := wkS ps_continue fun Dn σ H h => by
  obtain ⟨ρ, μ, φ, he, hm, hp⟩ := h
  exact hp φ H σ Step.refl hm he
theorem ms_ret {e : Expr} {f : EM} {pos : Pos} (he : PE X e (tM q f)) : PS X (.Return (some e) pos) (sM q (sRet f)) := wkS (ps_ret he) fun Dn σ H h => by
  obtain ⟨ρ, μ, φ, he, hm, hp⟩ := h
  exact ⟨ρ, μ, φ, he, hm, (SPost.bind hp he).imp fun d μ1 φ1 H1 s1 m1 p1 v rv => p1 φ1 H1 v Step.refl m1 rv⟩
theorem ms_retN {pos : Pos} : PS X (.Return none pos) (sM q sRetN) := wkS ps_retN fun Dn σ H h => by
  obtain ⟨ρ, μ, φ, he, hm, hp⟩ := h
  exact hp φ H .non Step.refl hm rep_non
theorem ms_if {c : Expr} {a b : List Stmt} {t : TM} {f g : SM} {pos : Pos} (hc : PT X c (tMT q t)) (ha : PSs X a (sM q f)) (hb : PSs X b (sM q g)) : PS X (.If c a b pos) (sM q (sIf t f g)) := wkS (ps_if hc ha hb) fun Dn σ H h => by
  obtain ⟨ρ, μ, φ, he, hm, hp⟩ := h
  refine ⟨ρ, μ, φ, he, hm, (SPost.bind hp he).imp fun b μ1 φ1 H1 s1 m1 p1 => ?_⟩
  cases b with
  | true => exact ⟨ρ, μ1, φ1, he.step s1, m1, p1⟩
  | false => exact ⟨ρ, μ1, φ1, he.step s1, m1, p1⟩
end
end Mi

/-! Mi.J: loops, dict displays, raise, try. -/
namespace Mi
open PySem PySem.Spec
open PyProof.Rows hiding St
open L2
section
variable {hx : Option ExI} {X : Cx} {N : List Str} {sc : Scope} {p : Pg} {q : Cn} {k : Nat} {fs : List Nat} {φ : List Addr} {H : Hp} {σ : St} {μ : Mem} {ρ : Env} {x : Str} {d e : D} {Q : VK} {Dn : Ends}
/-! ### what a loop walks -/
def ItOk (q : Cn) (it : ItF) (J : It) (φ0 : List Addr) (H0 : Hp) : Prop := ∀ φ H μ i, Step φ0 φ H0 H → MemRep q.Y φ H q.B μ → ∀ o, it μ i = some o → (o = none → J.stop i H) ∧
  ∀ d, o = some d → J.go i H ∧ ∀ x H', J.yld i H x H' → Step φ φ H H' ∧ MemRep q.Y φ H' q.B μ ∧ Rep q.Y φ H' d x
def tMI (q : Cn) (f : IM) : TI := fun σ H R => ∃ ρ μ φ, EnvRep q.Y φ H ρ σ ∧ MemRep q.Y φ H q.B μ ∧ Post q φ H σ (f q.ar ρ μ) (fun itn μ' φ' H' => ∀ J, ItOk q itn.1 J φ' H' → R J H')
theorem wkI {X : Cx} {tg e : Expr} {t t' : TI} (h : PI X tg e t) (k : ∀ σ H Q, t' σ H Q → t σ H Q) : PI X tg e t' := ⟨fun pins s σ H Q I w => h.run pins s σ H Q I (k _ _ _ w)⟩
theorem pi_either {tg e : Expr} {t t' : TI} (h : PI X tg e t) (h' : PI X tg e t') : PI X tg e fun σ H R => t σ H R ∨ t' σ H R :=
  ⟨fun pins s σ H Q I w => w.elim (h.run pins s σ H Q I) (h'.run pins s σ H Q I)⟩
theorem itok_tup {a : Addr} {vs : List V} {ds : List D} (hY : q.Y.K = X.K) (f : FzT q.Y.K φ H a vs) (g : RepL q.Y φ H ds vs) : ItOk q (fun _ i => some ds[i]?) (Itt X.K a) φ H := fun φ1 H1 μ i s m o ho => by
  have f1 : SqT X.K H1 a vs := by rw [← hY]; exact (s.fzT f).sq
  have g1 := g.step s
  cases ho
  refine ⟨fun e => ?_, fun d e => ?_⟩
  · refine ⟨vs, f1, ?_⟩
    have := List.getElem?_eq_none_iff.mp e
    rw [← g.length]; exact this
  · obtain ⟨v, h1, h2⟩ := g1.get e
    refine ⟨⟨vs, v, f1, h1⟩, fun x H' hy => ?_⟩
    obtain ⟨e1, hy⟩ := hy
    subst e1
    have h3 := hy vs f1
    rw [h1] at h3; cases h3
    exact ⟨Step.refl, m, h2⟩
theorem itok_lst {a : Addr} {it : ItF} (h : ∀ φ1 H1 μ1, Step φ φ1 H H1 → MemRep q.Y φ1 H1 q.B μ1 → (∀ i, it μ1 i = none) ∨ ∃ ds vs, SqL X.K H1 a vs ∧ RepL q.Y φ1 H1 ds vs ∧ ∀ i, it μ1 i = some ds[i]?) : ItOk q it (Itl X.K a) φ H := fun φ1 H1 μ i s m o ho => by
  rcases h φ1 H1 μ s m with h | ⟨ds, vs, f1, g1, hit⟩
  · rw [h] at ho; cases ho
  rw [hit] at ho
  cases ho
  refine ⟨fun e => ?_, fun d e => ?_⟩
  · refine ⟨vs, f1, ?_⟩
    have := List.getElem?_eq_none_iff.mp e
    rw [← g1.length]; exact this
  · obtain ⟨v, h1, h2⟩ := g1.get e
    refine ⟨⟨vs, v, f1, h1⟩, fun x H' hy => ?_⟩
    obtain ⟨e1, hy⟩ := hy
    subst e1
    have h3 := hy vs f1
    rw [h1] at h3; cases h3
    exact ⟨Step.refl, m, h2⟩
theorem repL_ints {Y : Wd} : ∀ ns : List Int, RepL Y φ H (ns.map .int) (ns.map V.int)
  | [] => by simp only [List.map_nil, RepL]
  | i :: r => by simp only [List.map_cons, RepL]; exact ⟨_, _, rfl, rep_int, repL_ints r⟩
/-- over a list or a tuple: by the value -/
theorem seq_of' (C : Ctx hx X p q k fs) {f : EM} {R' : It → Hp → Prop} (h : tMI q (iSeq f) σ H R') : iList X.K (tM q f) σ H R' ∨ iTup X.K (tM q f) σ H R' := by
  obtain ⟨ρ, μ, φ, he, hm, hp⟩ := h
  have hp := Post.bind hp
  cases e : f q.ar ρ μ with
  | stuck => rw [e] at hp; exact hp.elim
  | exc c fs m => rw [e] at hp; exact .inl ⟨ρ, μ, φ, he, hm, by rw [e]; exact hp⟩
  | ok d μ1 =>
    rw [e] at hp
    cases d with
    | tup ds =>
      refine .inr ⟨ρ, μ, φ, he, hm, ?_⟩
      rw [e]
      intro φ1 H1 s1 m1 v rv
      have p1 := Post.ok (hp φ1 H1 s1 m1) m1
      simp only [Rep] at rv
      obtain ⟨a, vs, e1, f1, g1⟩ := rv
      exact ⟨a, e1, ⟨vs, by rw [← C.K]; exact f1.sq⟩, p1 _ (itok_tup C.K f1 g1)⟩
    | lst ds =>
      refine .inl ⟨ρ, μ, φ, he, hm, ?_⟩
      rw [e]
      intro φ1 H1 s1 m1 v rv
      have p1 := Post.ok (hp φ1 H1 s1 m1) m1
      have rv' := rv
      simp only [Rep] at rv
      obtain ⟨a, vs, e1, f1, n1, g1⟩ := rv
      subst e1
      refine ⟨a, rfl, ⟨vs, SqL.of f1⟩, p1 _ (itok_lst fun φ2 H2 μ2 s2 m2 => ?_)⟩
      exact .inr ⟨ds, vs, SqL.of (s2.keep _ _ f1 n1), g1.step s2, fun i => rfl⟩
    | scr ns =>
      refine .inl ⟨ρ, μ, φ, he, hm, ?_⟩
      rw [e]
      intro φ1 H1 s1 m1 v rv
      have p1 := Post.ok (hp φ1 H1 s1 m1) m1
      simp only [Rep] at rv
      obtain ⟨a, e1, f1⟩ := rv
      subst e1
      refine ⟨a, rfl, ⟨_, by rw [← C.K]; exact f1.sq⟩, p1 _ (itok_lst fun φ2 H2 μ2 s2 m2 => ?_)⟩
      exact .inr ⟨ns.map .int, ns.map V.int, by rw [← C.K]; exact (s2.fzS f1).sq, repL_ints ns, fun i => by simp⟩
    | ref j =>
      refine .inl ⟨ρ, μ, φ, he, hm, ?_⟩
      rw [e]
      intro φ1 H1 s1 m1 v rv
      have hp1 := hp φ1 H1 s1 m1
      simp only at hp1
      split at hp1
      · rename_i ds e2
        have p1 := Post.ok hp1 m1
        obtain ⟨a, vs, e1, f1, g1⟩ := listOf_rep m1 rv e2
        subst e1
        simp only [Rep] at rv
        obtain ⟨a', e1, ga⟩ := rv
        cases e1
        -- the list may change
        refine ⟨a, rfl, ⟨vs, SqL.of f1⟩, p1 _ (itok_lst fun φ2 H2 μ2 s2 m2 => ?_)⟩
        cases e3 : listOf μ2 (.ref j) with
        | none => exact .inl fun i => by simp only [e3]
        | some es =>
          obtain ⟨a2, ws, e4, f2, g2⟩ := listOf_rep (Y := q.Y) (φ := φ2) (H := H2) (x := .ref a) m2 (by simp only [Rep]; exact ⟨a, rfl, s2.get ga⟩) e3
          cases e4
          exact .inr ⟨es, ws, SqL.of f2, g2, fun i => by simp only [e3]⟩
      · exact hp1.elim
    | _ =>
      refine .inl ⟨ρ, μ, φ, he, hm, ?_⟩
      rw [e]
      intro φ1 H1 s1 m1 v rv
      exact (hp φ1 H1 s1 m1).elim
theorem mi_seq (C : Ctx hx X p q k fs) {tg e : Expr} {f : EM} (he : PE X e (tM q f)) : PI X tg e (tMI q (iSeq f)) := wkI (pi_either (pi_list he) (pi_tup he)) fun _ _ _ h => seq_of' C h
theorem rgB_ok {i : Int} (h : rgB i = true) : -(2 ^ 62) ≤ i ∧ i < 2 ^ 62 := by
  unfold rgB at h
  simp only [Bool.and_eq_true,
        decide_eq_true_eq] at h
  exact ⟨by have := h.1; omega, by have := h.2; omega⟩
theorem itok_rg {lo : Int} {n : Nat} : ItOk q (rgF lo n) (Itr lo n) φ H := fun φ1 H1 μ i s m o ho => by
  unfold rgF at ho
  split at ho
  · rename_i hi
    cases ho
    refine ⟨fun e => (by cases e), fun d e => ?_⟩
    cases e
    exact ⟨hi, fun x H' hy => by obtain ⟨e1, e2⟩ := hy; subst e1; subst e2; exact ⟨Step.refl, m, rep_int⟩⟩
  · rename_i hi
    cases ho
    exact ⟨fun _ => Nat.le_of_not_lt hi, fun d e => by cases e⟩
theorem mi_range1 (S : Sc X N sc) (C : Ctx hx X p q k fs) {tg a : Expr} {fl : LM} {np pos : Pos} (hg : gnB sc "range" = true) (hi : inB "range" p.fre = true) (ha : PA X [a] (tML q fl)) (hs : starEach [a] X.env = [(false, eval a X.env)] := by rfl) :
    PI X tg (.Call (.Name "range" np) [a] [] pos) (tMI q (iRange1 fl)) := wkI (pi_range1 (S.gl hg).1 (C.fr hi) ha hs) fun σ H R h => by
  obtain ⟨ρ, μ, φ, he, hm, hp⟩ := h
  refine ⟨ρ, μ, φ, he, hm, (Post.bind hp).imp fun ds μ1 φ1 H1 s1 m1 p1 vs rvs => ?_⟩
  split at p1
  · split at p1
    · rename_i j hb
      obtain ⟨v, e, rv⟩ := rvs.one
      subst e
      cases rv.int_iff
      obtain ⟨h1, h2⟩ := rgB_ok hb
      exact ⟨j, rfl, h1, h2, (Post.ok p1 m1) _ itok_rg⟩
    · exact p1.elim
  · exact p1.elim
theorem mi_range2 (S : Sc X N sc) (C : Ctx hx X p q k fs) {tg a b : Expr} {fl : LM} {np pos : Pos} (hg : gnB sc "range" = true) (hi : inB "range" p.fre = true) (ha : PA X [a, b] (tML q fl))
    (hs : starEach [a, b] X.env = [(false, eval a X.env), (false, eval b X.env)] := by rfl) (hs2 : starEach [b] X.env = [(false, eval b X.env)] := by rfl) :
    PI X tg (.Call (.Name "range" np) [a, b] [] pos) (tMI q (iRange2 fl)) := wkI (pi_range2 (S.gl hg).1 (C.fr hi) ha hs hs2) fun σ H R h => by
  obtain ⟨ρ, μ, φ, he, hm, hp⟩ := h
  refine ⟨ρ, μ, φ, he, hm, (Post.bind hp).imp fun ds μ1 φ1 H1 s1 m1 p1 vs rvs => ?_⟩
  split at p1
  · split at p1
    · rename_i i j hb
      simp only [Bool.and_eq_true] at hb
      obtain ⟨v, w, e, rv, rw'⟩ := rvs.two
      subst e
      cases rv.int_iff; cases rw'.int_iff
      obtain ⟨h1, h2⟩ := rgB_ok hb.1
      obtain ⟨h3, h4⟩ := rgB_ok hb.2
      exact ⟨i, j, rfl, ⟨h1, h2, h3, h4⟩, (Post.ok p1 m1) _ itok_rg⟩
    · exact p1.elim
  · exact p1.elim

/-! ### for, while -/
/-- a body's ends within a loop -/
theorem body_ends {r : SR} {kn : Env → Mem → SR} {Nx : St → Hp → Prop} (hp : SPost q φ H Dn (match r with
      | .nx ρ2 μ2 => kn ρ2 μ2
      | .ct ρ2 μ2 => kn ρ2 μ2
      | .bk ρ2 μ2 => .nx ρ2 μ2
      | r => r)) (hn : ∀ ρ2 μ2 φ2 H2 σ2, Step φ φ2 H H2 → MemRep q.Y φ2 H2 q.B μ2 → EnvRep q.Y φ2 H2 ρ2 σ2 → SPost q φ2 H2 Dn (kn ρ2 μ2) → Nx σ2 H2) : SPost q φ H { Dn with nx := Nx, ct := Nx, bk := Dn.nx } r := by
  cases r with
  | nx ρ2 μ2 => exact fun φ2 H2 σ2 s m e => hn ρ2 μ2 φ2 H2 σ2 s m e (hp.from s)
  | ct ρ2 μ2 => exact fun φ2 H2 σ2 s m e => hn ρ2 μ2 φ2 H2 σ2 s m e (hp.from s)
  | bk ρ2 μ2 => exact hp
  | rt d μ2 => exact hp
  | exc c fs ρ2 μ2 => exact hp
  | stuck => exact hp
theorem ms_for (S : Sc X N sc) (C : Ctx none X p q k fs) {tg it : Expr} {body : List Stmt} {f : IM} {g : GM} {b : SM} {pos : Pos} (hi : PI X tg it (tMI q f)) (hg : PG X tg (gM q g)) (hb : PSs X body (sM q b))
    (hs : ∀ x, foldedSetIterable it X.env x = pure x := by intro _; rfl) : PS X (.For tg it body [] pos) (sM q (sFor f g b)) := wkS (ps_for (C.po rfl) (C.calm rfl) hi hg hb hs) fun Dn σ H h => by
  obtain ⟨ρ, μ, φ, he, hm, hp⟩ := h
  refine ⟨ρ, μ, φ, he, hm, (SPost.bind hp he).imp fun itn μ1 φ1 H1 s1 m1 p1 J hJ => ?_⟩
  refine ⟨fun i m σ' H' => ∃ ρ' μ' φ', Step φ1 φ' H1 H' ∧ EnvRep q.Y φ' H' ρ' σ' ∧ MemRep q.Y φ' H' q.B μ' ∧ SPost q φ' H' Dn (forGo itn.1 g b q.ar m i ρ' μ'), ⟨_, ρ, μ1, φ1, Step.refl, he.step s1, m1, p1⟩, ?_⟩
  rintro i m σ2 H2 ⟨ρ2, μ2, φ2, s2, e2, m2, p2⟩
  cases m with
  | zero => exact p2.elim
  | succ m =>
    rw [forGo] at p2
    cases e : itn.1 μ2 i with
    | none => rw [e] at p2; exact p2.elim
    | some o =>
      obtain ⟨h1, h2⟩ := hJ φ2 H2 μ2 i s2 m2 o e
      rw [e] at p2
      cases o with
      | none => exact .inl ⟨h1 rfl, SPost.nx p2 Step.refl m2 e2⟩
      | some d =>
        obtain ⟨h3, h4⟩ := h2 d rfl
        refine .inr ⟨h3, fun σ' H' => ∃ ρ' μ' φ', Step φ1 φ' H1 H' ∧ EnvRep q.Y φ' H' ρ' σ' ∧ MemRep q.Y φ' H' q.B μ' ∧ SPost q φ' H' Dn (forGo itn.1 g b q.ar m (i + 1) ρ' μ'), fun σ' H' n => ⟨m, Nat.lt_succ_self _, n⟩, fun x H3 hy => ?_⟩
        obtain ⟨s3, m3, r3⟩ := h4 x H3 hy
        simp only at p2
        cases eg : g d q.ar ρ2 μ2 with
        | none => rw [eg] at p2; exact p2.elim
        | some z =>
          obtain ⟨ρ4, μ4⟩ := z
          rw [eg] at p2
          refine ⟨ρ2, μ2, φ2, d, ρ4, μ4, e2.step s3, m3, r3, eg, fun φ5 H5 σ5 s5 m5 e5 => ⟨ρ4, μ4, φ5, e5, m5, ?_⟩⟩
          exact body_ends (kn := fun ρ2 μ2 => forGo itn.1 g b q.ar m (i + 1) ρ2 μ2) (p2.from (s3.trans s5)) fun ρ6 μ6 φ6 H6 σ6 s6 m6 e6 p6 => ⟨ρ6, μ6, φ6, ((s2.trans s3).trans s5).trans s6, e6, m6, p6⟩
theorem ms_while (C : Ctx none X p q k fs) {c : Expr} {body : List Stmt} {t : TM} {b : SM} {n : Nat} {pos : Pos} (hc : PT X c (tMT q t)) (hb : PSs X body (sM q b)) : PS X (.While c body [] pos) (sM q (sWhile n t b)) := wkS (ps_while (C.po rfl) hc hb) fun Dn σ H h => by
  obtain ⟨ρ, μ, φ, he, hm, hp⟩ := h
  refine ⟨fun m σ' H' => ∃ ρ' μ' φ', EnvRep q.Y φ' H' ρ' σ' ∧ MemRep q.Y φ' H' q.B μ' ∧ SPost q φ' H' Dn (whileGo t b q.ar m ρ' μ'), ⟨_, ρ, μ, φ, he, hm, hp⟩, ?_⟩
  rintro m σ2 H2 ⟨ρ2, μ2, φ2, e2, m2, p2⟩
  cases m with
  | zero => exact p2.elim
  | succ m =>
    rw [whileGo] at p2
    refine ⟨ρ2, μ2, φ2, e2, m2, (SPost.bind p2 e2).imp fun bb μ3 φ3 H3 s3 m3 p3 => ?_⟩
    cases bb with
    | false => exact SPost.nx p3 Step.refl m3 (e2.step s3)
    | true =>
      refine ⟨fun σ' H' => ∃ ρ' μ' φ', EnvRep q.Y φ' H' ρ' σ' ∧ MemRep q.Y φ' H' q.B μ' ∧ SPost q φ' H' Dn (whileGo t b q.ar m ρ' μ'), fun σ' H' n => ⟨m, Nat.lt_succ_self _, n⟩, ρ2, μ3, φ3, e2.step s3, m3, ?_⟩
      exact body_ends (kn := fun ρ2 μ2 => whileGo t b q.ar m ρ2 μ2) p3 fun ρ6 μ6 φ6 H6 σ6 s6 m6 e6 p6 => ⟨ρ6, μ6, φ6, e6, m6, p6⟩
end
end Mi

/-! Mi.K: exceptions, dict displays, methods. -/
namespace Mi
open PySem PySem.Spec
open PyProof.Rows hiding St
open L2

/-! ### words -/
def tabAt : List (Nat × Bool) → Nat → Option Bool
  | [], _ => none
  | (c, b) :: r, j => if c = j then some b else tabAt r j
/-- raise C(..), C's fields ns -/
def sRaise (c : Nat) (ns : List Str) (fl : LM) : SM := fun a ρ μ => sOf (fl a ρ μ) ρ fun ds μ1 => if ds.length = ns.length then .exc c (ns.zip ds).reverse ρ μ1 else .stuck
def noExnE (ρ : Env) : Bool := ρ.all fun o => match o with
  | some d => !isExn d
  | none => true
/-- try: body, except X as e: suite -/
def sTry (body suite : SM) (i : Nat) (tab : List (Nat × Bool)) : SM := fun a ρ μ => match body a ρ μ with
  | .exc c fs ρ1 μ1 => (match tabAt tab c with
    | some true => if belowF 0 fs && noExnE ρ1 then (match suite { g := a.h c fs, base := a.base, h := a.h, ex := some (c, fs) } (ρ1.set i (some .exn)) μ1 with
        | .nx ρ2 μ2 => .nx (ρ2.set i none) μ2
        | .bk ρ2 μ2 => .bk (ρ2.set i none) μ2
        | .ct ρ2 μ2 => .ct (ρ2.set i none) μ2
        | .rt d μ2 => .rt d μ2
        | _ => .stuck) else .stuck
    | some false => .exc c fs ρ1 μ1
    | none => .stuck)
  | r => r
/-- isinstance(e, D), e the exception that is handled -/
def mIsE (i : Nat) (tab : List (Nat × Bool)) : EM := fun a ρ μ => match ρ[i]?, a.ex with
  | some (some .exn), some (c, _) => (match tabAt tab c with
    | some b => .ok (.bl b) μ
    | none => .stuck)
  | _, _ => .stuck
/-- e.f -/
def lookF : List (Str × D) → Str → Option D
  | [], _ => none
  | (k, d) :: r, j => if k = j then some d else lookF r j
def hasN : List Nat → Nat → Bool
  | [], _ => false
  | c :: r, j => decide (c = j) || hasN r j
def mXf (i : Nat) (f : Str) (tab : List Nat) : EM := fun a ρ μ => match ρ[i]?, a.ex with
  | some (some .exn), some (c, fs) => (match hasN tab c, lookF fs f with
    | true, some d => .ok d μ
    | _, _ => .stuck)
  | _, _ => .stuck
/-- f(e) -/
def mCallX (f i : Nat) : EM := fun a ρ μ => match ρ[i]? with
  | some (some .exn) => a.g f [.exn] a.base μ
  | _ => .stuck
/-- l.append(x), l.extend(x) -/
def mMut (op : Nat → D → D → Mem → Option Mem) (fo fa : EM) : EM := fun a ρ μ => (fo a ρ μ).bind fun o μ1 => match listOf μ1 o with
  | none => .stuck
  | some _ => (fa a ρ μ1).bind fun d μ2 => match op a.base o d μ2 with
    | some μ3 => .ok .non μ3
    | none => .stuck

/-! ### facts of exception classes -/
/-- what a class of the text must say, that its exceptions be made and asked -/
def excF (x : Str) : PySem.W.Frag → Bool := fun K =>
  let C := He.ga K x
  (match K.lookup C with
    | some o => decide (o.cls = .type "type") && (match o.data with
      | .cls z => z.hasDict && (!z.hasDel && ((match z.mro with
        | .ref C' :: bm => decide (C' = C) && PySem.HandSPX.refsVE bm
        | _ => false) && (match o.slots.toList with
          | [_, _, _, _, some (.builtin n), _] => decide (n = "ValueError.__new__")
          | _ => false)))
      | _ => false)
    | none => false) &&
  (He.eqO (PySem.W.findIn K (.ref C) "__setattr__") (some (some (.builtin "object.__setattr__"))) &&
  (decide (PySem.W.subIn K (.ref C) (.type "BaseException") = some true) &&
  (decide (PySem.W.typeIn K (.ref C) = some (.type "type")) && (PySem.W.keepIn K (.ref C) &&
  ((PySem.W.clsIn K C).isSome && (He.eqO (PySem.W.findIn K (.ref C) "__getattribute__") (some (some (.builtin "BaseException.__getattribute__"))) &&
  (He.eqO (PySem.W.findIn K (.ref C) "__getattr__") (some none) && (He.eqO (PySem.W.findIn K (.ref C) "__class__") (some (some (.builtin "object.__class__"))) &&
  (He.eqO (PySem.W.specialIn K (.builtin "object.__class__") "__get__") (some (some (.builtin "getset_descriptor.__get__"))) &&
  (decide (PySem.W.takesIn K (.builtin "object.__class__") = some true) && (decide (PySem.W.mroIn K C (.type "object") = some true) && PySem.W.hasDictIn K C)))))))))))
/-- own fields: no class has them -/
def noatF (x : Str) (ns : List Str) : PySem.W.Frag → Bool := fun K => ns.all fun n => He.eqO (PySem.W.findIn K (.ref (He.ga K x)) n) (some none)
def initF (x : Str) : PySem.W.Frag → Bool := fun K => He.eqO (PySem.W.findIn K (.ref (He.ga K x)) "__init__") (some (some (.ref (He.ma K (He.ga K x) "__init__")))) && decide (PySem.W.typeIn K (.ref (He.ma K (He.ga K x) "__init__")) = some (.type "function"))
def sysF : PySem.W.Frag → Bool := fun K => (K.lookup sysModules).isSome
/-- isinstance of exceptions -/
def isF (cnm : Nat → Str) (D : PySem.W.Frag → Value) (tab : List (Nat × Bool)) : PySem.W.Frag → Bool := fun K => tab.all fun t => decide (PySem.W.kitOne K (.ref (He.ga K (cnm t.1))) (D K) = some t.2)
/-- the except clause -/
def exmF (cnm : Nat → Str) (x : Str) (tab : List (Nat × Bool)) : PySem.W.Frag → Bool := fun K => tab.all fun t => decide (PySem.W.exmOne K (.ref (He.ga K (cnm t.1))) (.ref (He.ga K x)) = some t.2)
structure ExcFacts (K : PySem.W.Frag) (C : Addr) : Prop where
  oex : OexC K C
  cls : (PySem.W.clsIn K C).isSome = true
  ga : PySem.W.findIn K (.ref C) "__getattribute__" =
        some (some (.builtin "BaseException.__getattribute__"))
  gt : PySem.W.findIn K (.ref C) "__getattr__" = some none
  ca : PySem.W.findIn K (.ref C) "__class__"
        = some (some (.builtin "object.__class__"))
  cg : PySem.W.specialIn K (.builtin "object.__class__") "__get__" = some (some (.builtin "getset_descriptor.__get__"))
  ct : PySem.W.takesIn K (.builtin
        "object.__class__") = some true
  mo : PySem.W.mroIn K C (.type "object") = some true
  hd : PySem.W.hasDictIn
        K C = true
theorem excF_ok {K : PySem.W.Frag} {x : Str} (h : excF x K = true) : ExcFacts K (He.ga K x) := by
  unfold excF at h
  simp only [Bool.and_eq_true,
        decide_eq_true_eq] at h
  obtain ⟨h0, h1, h2, h3, h4, h5, h6, h7, h8, h9, h10, h11, h12⟩ := h
  refine ⟨⟨?_, He.eqO_ok h1, h2, h3, h4⟩, h5, He.eqO_ok h6, He.eqO_ok h7, He.eqO_ok h8, He.eqO_ok h9, h10, h11, h12⟩
  split at h0
  · rename_i o ho
    obtain ⟨oc, dd, dt, sl⟩ := o
    simp only [Bool.and_eq_true, decide_eq_true_eq] at h0
    obtain ⟨e1, h0⟩ := h0
    subst e1
    split at h0
    · rename_i z
      obtain ⟨nm, bs, mro, ns, qn, hd, sn, sub, ab, col, del⟩ := z
      simp only [Bool.and_eq_true, Bool.not_eq_true'] at h0
      obtain ⟨k1, k2, k3, k4⟩ := h0
      subst k1 k2
      split at k3
      · rename_i C' bm
        simp only [Bool.and_eq_true, decide_eq_true_eq] at k3
        obtain ⟨e2, k3⟩ := k3
        subst e2
        split at k4
        · rename_i a0 a1 a2 a3 n a5 es
          simp only [decide_eq_true_eq] at k4
          subst k4
          refine ⟨nm, qn, ns, bs, bm, sn, sub, ab, col, dd, a0, a1, a2, a3, a5, ?_, k3⟩
          rw [ho]
          obtain ⟨l⟩ := sl
          simp only at es
          rw [es]
        · cases k4
      · cases k3
    · cases h0
  · cases h0

section
variable {X : Cx} {N : List Str} {sc : Scope} {p : Pg} {q : Cn} {k : Nat} {fs : List Nat} {φ : List Addr} {H : Hp} {σ : St} {μ : Mem} {ρ : Env} {x : Str} {d e : D} {Q : VK} {Dn : Ends}

/-! ### an exception's __init__ -/
/-- what it leaves: the fields, the last first -/
def spI (C : Addr) (ns : List Str) : Sp := fun vs H Q _ => ∃ a ys, vs = V.ref a :: ys ∧ ys.length = ns.length ∧ H a = some (exo a C none) ∧ ∀ dx, H dx = none → dx ≠ a → Q .non (upd (upd H dx (exd dx (ns.zip ys).reverse)) a (exo a C (some dx)))
/-- self.f = x : the statement -/
def selfSet (f x : Str) (p1 p2 p3 p4 : Pos) : Stmt := .Assign [.Attribute (.Name "self" p1) f p2] (.Name x p3) p4
structure InitN (K : PySem.W.Frag) (C : Addr) (ns : List Str) : Prop where
  oex : OexC K C
  no : ∀ n ∈ ns, PySem.W.findIn K (.ref C) n = some none
end
section
variable {X : Cx} {C a : Addr} {H : Hp} {σ : St} {f x : Str} {p1 p2 p3 p4 : Pos} {j : Nat} {y : V} {ns : List Str}
/-- the first field -/
theorem init_first (T : InitN X.K C ns) (hf : f ∈ ns) (h0 : X.N[0]? = some ("self" : Str)) (v0 : Vis X.env.scope "self") (hj : X.N[j]? = some x) (vj : Vis X.env.scope x) (d1 : (x == ("__debug__" : Str)) = false) (d2 : (x == ("__classdict__" : Str)) = false) :
    PS X (selfSet f x p1 p2 p3 p4) (tOst X.K f (tVar 0) (tVar j)) := ps_ost (pe_var h0 v0) (pe_var hj vj d1 d2)
end
theorem upd_comm {H : Hp} {a b : Addr} {o u : HO} (h : a ≠ b) : upd (upd H a o) b u = upd (upd H b u) a o := by
  funext c
  unfold upd
  by_cases h1 : c = a
  · by_cases h2 : c = b
    · exact absurd (h1.symm.trans h2) h
    · rw [if_neg h2, if_pos h1, if_pos h1]
  · by_cases h2 : c = b
    · rw [if_pos h2, if_neg h1, if_pos h2]
    · rw [if_neg h2, if_neg h1, if_neg h1, if_neg h2]
section
variable {P : Program} {w : World} {K : PySem.W.Frag} {mg : Str → Option Value} {base : Heap} {C : Addr} {qual : Str} {params : Arguments} {scope : Scope} {fI : Addr} {fd : FuncData}
theorem scope_vis {N : List Str} {sc : Scope} {x : Str} (h : vnB sc x = true) : Vis sc x ∧ (x == ("__debug__" : Str)) = false ∧ (x == ("__classdict__" : Str)) = false := by
  unfold vnB at h
  simp only [Bool.and_eq_true,
        Bool.not_eq_true'] at h
  obtain ⟨⟨h1, h2⟩, h3⟩ := h
  refine ⟨?_, h2, h3⟩
  unfold Vis
  revert h1
  cases sc.names.lookup x with
  | none => intro h; cases h
  | some y => cases y <;> first | (intro _; first | exact .inl rfl | exact .inr (.inl rfl) | exact .inr (.inr rfl)) | (intro h; cases h)
/-- one field -/
theorem init1 {f1 x1 : Str} {a1 a2 a3 a4 : Pos} (F : FunD K "__init__" qual params [selfSet f1 x1 a1 a2 a3 a4] scope [] [] fI fd) (S : FnScope ["self", x1] ["self", x1] scope) (T : InitN K C [f1]) (h0 : vnB scope "self" = true) (h1 : vnB scope x1 = true) :
    FnOk P w K mg base CX0 1 fI fd ["self", x1] (spI C [f1]) := by
  refine F.ok S (fun vs H Q E h => ?_) fun cdv A outer s H vs Q E hr h => ⟨_, pss_one (init_first (T := T) (ns := [f1]) (j := 1) (by simp) rfl (scope_vis (N := []) h0).1 rfl (scope_vis (N := []) h1).1 (scope_vis (N := []) h1).2.1 (scope_vis (N := []) h1).2.2), ?_⟩
  · obtain ⟨a, ys, rfl, hl, _⟩ := h
    simpa using hl
  · obtain ⟨a, ys, rfl, hl, ha, hq⟩ := h
    obtain ⟨y1, rfl⟩ : ∃ y1, ys = [y1] := by
      match ys, hl with
      | [y1], _ => exact ⟨y1, rfl⟩
    exact ⟨y1, rfl, .ref a, rfl, a, C, rfl, T.oex, T.no f1 (by simp), .inl ⟨ha, fun dx h1 h2 => hq dx h1 h2⟩⟩
/-- two fields -/
theorem init2 {f1 x1 f2 x2 : Str} {a1 a2 a3 a4 b1 b2 b3 b4 : Pos} (F : FunD K "__init__" qual params [selfSet f1 x1 a1 a2 a3 a4, selfSet f2 x2 b1 b2 b3 b4] scope [] [] fI fd) (S : FnScope ["self", x1, x2] ["self", x1, x2] scope) (T : InitN K C [f1, f2])
    (h0 : vnB scope "self" = true) (h1 : vnB scope x1 = true) (h2 : vnB scope x2 = true) : FnOk P w K mg base CX0 1 fI fd ["self", x1, x2] (spI C [f1, f2]) := by
  refine F.ok S (fun vs H Q E h => ?_) fun cdv A outer s H vs Q E hr h =>
    ⟨_, pss_cons (init_first (T := T) (ns := [f1, f2]) (j := 1) (by simp) rfl (scope_vis (N := []) h0).1 rfl (scope_vis (N := []) h1).1 (scope_vis (N := []) h1).2.1 (scope_vis (N := []) h1).2.2)
      (pss_one (init_first (T := T) (ns := [f1, f2]) (j := 2) (by simp) rfl (scope_vis (N := []) h0).1 rfl (scope_vis (N := []) h2).1 (scope_vis (N := []) h2).2.1 (scope_vis (N := []) h2).2.2)), ?_⟩
  · obtain ⟨a, ys, rfl, hl, _⟩ := h
    simpa using hl
  · obtain ⟨a, ys, rfl, hl, ha, hq⟩ := h
    obtain ⟨y1, y2, rfl⟩ : ∃ y1 y2, ys = [y1, y2] := by
      match ys, hl with
      | [y1, y2], _ => exact ⟨y1, y2, rfl⟩
    refine ⟨y1, rfl, .ref a, rfl, a, C, rfl, T.oex, T.no f1 (by simp), .inl ⟨ha, fun dx n1 n2 => ?_⟩⟩
    refine ⟨y2, rfl, .ref a, rfl, a, C, rfl, T.oex, T.no f2 (by simp), .inr ⟨dx, [(f1, y1)], upd_same, by rw [upd_ne n2, upd_same], by simp, ?_⟩⟩
    have := hq dx n1 n2
    show Q .non _
    rw [upd_comm (Ne.symm n2), upd_upd]
    exact this
/-- three fields -/
theorem init3 {f1 x1 f2 x2 f3 x3 : Str} {a1 a2 a3 a4 b1 b2 b3 b4 c1 c2 c3 c4 : Pos} (F : FunD K "__init__" qual params [selfSet f1 x1 a1 a2 a3 a4, selfSet f2 x2 b1 b2 b3 b4, selfSet f3 x3 c1 c2 c3 c4] scope [] [] fI fd)
    (S : FnScope ["self", x1, x2, x3] ["self", x1, x2, x3] scope) (T : InitN K C [f1, f2, f3])
    (h0 : vnB scope "self" = true) (h1 : vnB scope x1 = true) (h2 : vnB scope x2 = true) (h3 : vnB scope x3 = true) : FnOk P w K mg base CX0 1 fI fd ["self", x1, x2, x3] (spI C [f1, f2, f3]) := by
  refine F.ok S (fun vs H Q E h => ?_) fun cdv A outer s H vs Q E hr h =>
    ⟨_, pss_cons (init_first (T := T) (ns := [f1, f2, f3]) (j := 1) (by simp) rfl (scope_vis (N := []) h0).1 rfl (scope_vis (N := []) h1).1 (scope_vis (N := []) h1).2.1 (scope_vis (N := []) h1).2.2)
      (pss_cons (init_first (T := T) (ns := [f1, f2, f3]) (j := 2) (by simp) rfl (scope_vis (N := []) h0).1 rfl (scope_vis (N := []) h2).1 (scope_vis (N := []) h2).2.1 (scope_vis (N := []) h2).2.2)
      (pss_one (init_first (T := T) (ns := [f1, f2, f3]) (j := 3) (by simp) rfl (scope_vis (N := []) h0).1 rfl (scope_vis (N := []) h3).1 (scope_vis (N := []) h3).2.1 (scope_vis (N := []) h3).2.2))), ?_⟩
  · obtain ⟨a, ys, rfl, hl, _⟩ := h
    simpa using hl
  · obtain ⟨a, ys, rfl, hl, ha, hq⟩ := h
    obtain ⟨y1, y2, y3, rfl⟩ : ∃ y1 y2 y3, ys = [y1, y2, y3] := by
      match ys, hl with
      | [y1, y2, y3], _ => exact ⟨y1, y2, y3, rfl⟩
    refine ⟨y1, rfl, .ref a, rfl, a, C, rfl, T.oex, T.no f1 (by simp), .inl ⟨ha, fun dx n1 n2 => ?_⟩⟩
    refine ⟨y2, rfl, .ref a, rfl, a, C, rfl, T.oex, T.no f2 (by simp), .inr ⟨dx, [(f1, y1)], upd_same, by rw [upd_ne n2, upd_same], by simp, ?_⟩⟩
    rw [upd_comm (Ne.symm n2), upd_upd]
    refine ⟨y3, rfl, .ref a, rfl, a, C, rfl, T.oex, T.no f3 (by simp), .inr ⟨dx, [(f2, y2), (f1, y1)], upd_same, by rw [upd_ne n2, upd_same], by simp, ?_⟩⟩
    have := hq dx n1 n2
    show Q .non _
    rw [upd_comm (Ne.symm n2), upd_upd]
    exact this
end
/-- an exception's class at its place: own __init__ with fields, or none -/
structure ExcAt (P : Program) (w : World) (K : PySem.W.Frag) (mg : Str → Option Value) (base : Heap) (C : Addr) (ns : List Str) : Prop where
  fa : ExcFacts K C
  how : (ns = [] ∧ PySem.W.excIn K C He.veBase "ValueError.__new__" = true) ∨
    ns ≠ [] ∧ ∃ fI fd ps, PySem.W.findIn K (.ref C) "__init__" = some (some (.ref fI)) ∧ PySem.W.typeIn K (.ref fI) = some (.type "function") ∧ FnOk P w K mg base CX0 1 fI fd ps (spI C ns) ∧ Binds K fd ps []
end Mi

/-! Mi.L: raise, try, what a suite asks of its exception; methods; dict displays. -/
namespace Mi
open PySem PySem.Spec
open PyProof.Rows hiding St
open L2
def Exs (X : Cx) (p : Pg) (l : List (Nat × List Str)) : Prop := ∀ e ∈ l, ExcAt X.prog X.w X.K X.mg X.base (He.ga X.K (p.cnm e.1)) e.2
section
variable {hx : Option ExI} {X : Cx} {N : List Str} {sc : Scope} {p : Pg} {q : Cn} {k : Nat} {fs : List Nat} {φ : List Addr} {H : Hp} {σ : St} {μ : Mem} {ρ : Env} {x : Str} {d e : D} {Q : VK} {Dn : Ends} {l : List (Nat × List Str)}

/-! ### raise -/
theorem repF_zip {Y : Wd} : ∀ (ns : List Str) {ds : List D} {vs : List V}, RepL Y φ H ds vs → RepF Y φ H (ns.zip ds) (ns.zip vs)
  | [], ds, vs, h => by simp only [List.zip_nil_left, RepF]
  | n :: ns, [], vs, h => by simp only [RepL] at h; subst h; simp only [List.zip_nil_right, RepF]
  | n :: ns, d :: ds, vs, h => by
    simp only [RepL] at h
    obtain ⟨v, r, e, h1, h2⟩ := h
    subst e
    simp only [List.zip_cons_cons, RepF]
    exact ⟨v, _, rfl, h1, repF_zip ns h2⟩
theorem repF_app {Y : Wd} : ∀ {f g : List (Str × D)} {f' g' : List (Str × V)}, RepF Y φ H f f' → RepF Y φ H g g' → RepF Y φ H (f ++ g) (f' ++ g')
  | [], g, f', g', h, r => by simp only [RepF] at h; subst h; exact r
  | (n, d) :: f, g, f', g', h, r => by
    simp only [RepF] at h
    obtain ⟨v, t, e, h1, h2⟩ := h
    subst e
    simp only [List.cons_append, RepF]
    exact ⟨v, _, rfl, h1, repF_app h2 r⟩
theorem repF_rev {Y : Wd} : ∀ {f : List (Str × D)} {f' : List (Str × V)}, RepF Y φ H f f' → RepF Y φ H f.reverse f'.reverse
  | [], f', h => by simp only [RepF] at h; subst h; simp only [List.reverse_nil, RepF]
  | (n, d) :: f, f', h => by
    simp only [RepF] at h
    obtain ⟨v, t, e, h1, h2⟩ := h
    subst e
    rw [List.reverse_cons,
          List.reverse_cons]
    exact repF_app (repF_rev h2) (by simp only [RepF]; exact ⟨v, [], rfl, h1, rfl⟩)
theorem upd_del {H : Hp} {a d : Addr} {u o v : HO} (h0 : H a = none) (n : d ≠ a) : upd (del (upd (upd (upd H a u) d o) a v) a) d (.xd []) = upd H d (.xd []) ∧ ∀ w, upd (del (upd (upd (upd H a u) d o) a v) a) d w = upd H d w := by
  have key : ∀ w, upd (del (upd (upd (upd H a u) d o) a v) a) d w = upd H d w := fun w => by
    funext c
    by_cases h1 : c = d
    · simp only [upd, del, h1, if_true]
    · by_cases h2 : c = a
      · simp only [upd, del, h1, if_false, h2, if_true, h0]
      · simp only [upd, del, h1, if_false, h2]
  exact ⟨key _, key⟩
theorem ms_raise (S : Sc X N sc) (C : Ctx none X p q k fs) (E : Exs X p l) {c : Nat} {ns : List Str} {ex : Expr} {es : List Expr} {fl : LM} {np pos pos' : Pos} (hc : (c, ns) ∈ l) (hn : p.cnm c = x) (hz : ns ≠ []) (hg : gnB sc x = true) (hi : inB x p.glo = true) (ha : PA X (ex :: es) (tML q fl))
    (h8 : ns.length ≤ 1000)
    (he : starEach (ex :: es) X.env = (false, eval ex X.env) :: starEach es X.env := by rfl) (hpl : (backTo pos (starEach es X.env)).any (·.1) = false := by rfl) :
    PS X (.Raise (some (.Call (.Name x np) (ex :: es) [] pos)) none pos') (sM q (sRaise c ns fl)) := by
  obtain ⟨h1, h2, h3⟩ := S.gl hg
  obtain ⟨fa, mk⟩ := E _ hc
  rcases mk with ⟨e0, _⟩ | ⟨_, fI, fd, ps, m1, m2, m3, m4⟩
  · exact absurd e0 hz
  have hC : (q.Y.cl c) = He.ga X.K (p.cnm c) := by rw [C.Y]; rfl
  have R := pmk_oex (p := np) (pos := pos) fa.oex m1 m2 m3 (by have := C.room.room; exact this.mono (by omega)) m4 (.nil) pass0 h1 (by rw [hn]; exact C.gA hi) ha h2 he hpl
  refine wkS (ps_raise (C.calm rfl) C.tk R) fun Dn σ H h => ?_
  obtain ⟨ρ, μ, φ, hev, hm, hp⟩ := h
  refine ⟨ρ, μ, φ, hev, hm, (SPost.bind hp hev).imp fun ds μ1 φ1 H1 s1 m1 p1 vs rvs => ?_⟩
  split at p1
  · rename_i hl
    refine ⟨by rw [← rvs.length, hl]; exact h8, fun a ha0 => ⟨a, vs, by simp, by rw [← rvs.length, hl], upd_same, fun dx hd1 hd2 => ?_⟩⟩
    have hd3 : H1 dx = none := by rw [upd_ne hd2] at hd1; exact hd1
    refine ⟨rfl, dx, (ns.zip vs).reverse, upd_same, by rw [upd_ne hd2, upd_same], hd3, ?_⟩
    rw [(upd_del ha0 hd2).2]
    have kp := keep_new (o := .xd (ns.zip vs).reverse) hd3
    refine p1 φ1 _ σ _ _ (Step.grow kp) (m1.grow kp) ((hev.step s1).step (Step.grow kp)) ⟨by rw [hC], .inr ⟨dx, _, rfl, upd_same, fun z => m1.al dx z hd3, ?_⟩⟩
    exact (repF_rev (repF_zip ns rvs)).step (Step.grow kp)
  · exact p1.elim
/-- raise C(), C without own __init__ -/
theorem ms_raise0 (S : Sc X N sc) (C : Ctx none X p q k fs) (E : Exs X p l) {c : Nat} {np pos pos' : Pos} (hc : (c, []) ∈ l) (hn : p.cnm c = x) (hg : gnB sc x = true) (hi : inB x p.glo = true) :
    PS X (.Raise (some (.Call (.Name x np) [] [] pos)) none pos') (sM q (sRaise c [] mNil)) := by
  obtain ⟨h1, h2, h3⟩ := S.gl hg
  obtain ⟨fa, mk⟩ := E _ hc
  have hC : (q.Y.cl c) = He.ga X.K (p.cnm c) := by rw [C.Y]; rfl
  have q0 : PySem.W.excIn X.K (He.ga X.K (p.cnm c)) He.veBase "ValueError.__new__" = true := by
    rcases mk with ⟨_, h⟩ | ⟨z, _⟩
    · exact h
    · exact absurd rfl z
  have R : PMk X (.Call (.Name x np) [] [] pos) (fun _ H Q => Q (.ref (He.ga X.K (p.cnm c))) none H) := by
    intro pins s σ H Q I h
    refine wpAny_Call_Name_kw (ld_glob I h1 (C.gA hi) ?_ h2)
    rw [← hn]
    refine PySem.W.callWith_K0 I.kIn fa.oex.kC ?_
    show wpAny _ _ (call (.ref _) []) _ _ _
    obtain ⟨bm, N, nm, qn, bs, hdct, sn, sub, ab, col, dd, k0, k1, k2, k3, k5, mN, hC, hN, hni, T⟩ := exc_obj I.kIn q0
    exact wpAny_call_exc_subT PySem.F.excBase_ValueError T hC hN hni (fun h' e hm => mk_of I hm (raises_own fa.oex.exC fa.oex.tyC) h (I.hok.gone hm.new)) (by simp)
  refine wkS (ps_raise (C.calm rfl) C.tk R) fun Dn σ H h => ?_
  obtain ⟨ρ, μ, φ, hev, hm, hp⟩ := h
  exact hp φ H σ _ _ Step.refl hm hev ⟨by rw [hC], .inl ⟨rfl, rfl⟩⟩
end
end Mi

/-! Mi.M: try, what a suite asks of its exception; methods; dict displays. -/
namespace Mi
open PySem PySem.Spec
open PyProof.Rows hiding St
open L2
theorem noneTakes {X : Cx} : Takes X (fun _ _ _ _ => False) := fun _ _ ⟨_, _, _, _, _, _, _, _, _, _, _, _, _, _, _, _, z⟩ => z.elim
/-- a def's body, where try may stand -/
structure Tr (X : Cx) : Prop where
  stk : X.stack = X.env :: X.outer
  frm : X.env.frame = some X.env.locals
/-- what runs in a suite -/
def qz (q : Cn) (Y : Wd) (z : ExI) : Cn := { Y := Y.wx (some z), B := q.B, ar := { g := q.ar.h z.c z.fs, base := q.ar.base, h := q.ar.h, ex := some (z.c, z.fs) }, W := fun _ _ _ _ => False }
section
variable {X : Cx} {N : List Str} {sc : Scope} {p : Pg} {q : Cn} {k : Nat} {fs : List Nat} {φ : List Addr} {H : Hp} {σ : St} {μ : Mem} {ρ : Env} {x y : Str} {d e : D} {Q : VK} {Dn : Ends} {l : List (Nat × List Str)}
theorem tabAt_mem {c : Nat} {b : Bool} : ∀ {tab : List (Nat × Bool)}, tabAt tab c = some b → (c, b) ∈ tab
  | [], h => by cases h
  | (j, v) :: r, h => by
    simp only [tabAt] at h
    split at h
    · rename_i e
      cases h; subst e
      exact List.mem_cons_self
    · exact List.mem_cons_of_mem _ (tabAt_mem h)
theorem Ctx.wish (C : Ctx none X p q k fs) {pn : List (Addr × Obj)} {xe : Value → Shared → Prop} {W : WX} (t : Takes (X.tr pn xe) W) (po : PassesOwn (model X.prog X.w) X.A X.env xe) : Ctx none (X.tr pn xe) p { q with W := W } k fs :=
  ⟨C.Y, C.calm, fun z e => (by cases e), C.hc, C.room, t, fun _ => po, C.bs, C.glo, C.fre, C.fa, C.sm, C.fns, C.hfn⟩
theorem Ctx.hotS (C : Ctx none X p q k fs) {a : Addr} {oe : Obj} {pn : List (Addr × Obj)} {z : ExI} (ha : z.a = a) (hC : z.C = (p.wd X.K).cl z.c) (hz : Zc (.ref z.C) z.d oe) (hf : ∃ vs, oe.data = .fields vs) : Ctx (some z) (X.suite a ((a, oe) :: pn)) p (qz q (p.wd X.K) z) k p.hots where
  Y := rfl
  calm := fun e => by cases e
  ht := fun z' e => by
    cases e
    exact ⟨oe, hf, by rw [ha]; exact List.mem_cons_self, hz⟩
  hc := fun z' e => by
    cases e
    exact ⟨hC, rfl⟩
  room := ⟨fun e => (by cases e), C.room.dp, C.room.un, C.room.gd⟩
  tk := noneTakes
  po := fun e => by cases e
  bs := C.bs
  glo := C.glo
  fre := C.fre
  fa := C.fa
  sm := C.sm
  fns := C.hfn rfl z hC
  hfn := fun e => by cases e
theorem Sc.tr (S : Sc X N sc) (pn : List (Addr × Obj)) (xe : Value → Shared → Prop) : Sc (X.tr pn xe) N sc := ⟨S.nm, S.nd, S.sco, S.kd⟩
theorem Sc.suite (S : Sc X N sc) (a : Addr) (pn : List (Addr × Obj)) : Sc (X.suite a pn) N sc := ⟨S.nm, S.nd, S.sco, S.kd⟩
/-- the suite's reading: for the exception that is there -/
def tsX (q : Cn) (Y : Wd) (f : SM) : Addr → Value → Option Addr → TS := fun a cls d D σ H => ∃ z : ExI, z.a = a ∧ cls = .ref z.C ∧ z.d = d ∧ z.C = Y.cl z.c ∧ sM (qz q Y z) f D σ H
theorem exc_wx {Y : Wd} {c : Nat} {f : List (Str × D)} {C : Value} {dd : Option Addr} (h : ExcRep Y φ H c f C dd) (h0 : belowF 0 f = true) (a : Addr) : ExOk (Y.wx (some ⟨a, c, Y.cl c, dd, f⟩)) φ H := fun x e => by
  cases e
  refine ⟨h0, ?_⟩
  obtain ⟨_, h⟩ := h
  rcases h with h | ⟨d, fs', h1, h2, h3, h4⟩
  · exact .inl h
  · exact .inr ⟨d, fs', h1, h2, h3, RepF.wx.mpr h4⟩
theorem noExnE_no {ρ : Env} (h : noExnE ρ = true) {i : Nat} : ρ[i]? ≠ some (some D.exn) := fun e => by
  have := List.all_eq_true.mp h _ (List.mem_of_getElem? e)
  simp [isExn] at this
/-- try: body, except y as x: suite -/
theorem ms_try (S : Sc X N sc) (C : Ctx none X p q k fs) (T : Tr X) {i j : Nat} {tab : List (Nat × Bool)} {body suite : List Stmt} {b0 : Stmt} {np pos pos' : Pos} {fb fz : SM} (hi : N[i]? = some x) (hv : lnB sc x = true) (hg : gnB sc y = true) (hy : inB y p.glo = true)
    (hf : p.fa[j]? = some (exmF p.cnm y tab))
    (hb : ∀ (X' : Cx) (q' : Cn), Sc X' N sc → Ctx none X' p q' k fs → X'.env = X.env → PSs X' body (sM q' fb))
    (hsu : ∀ (X' : Cx) (q' : Cn) (z : ExI), Sc X' N sc → Ctx (some z) X' p q' k p.hots → X'.env = X.env → PSs X' (b0 :: suite) (sM q' fz)) :
    PS X (.Try body [.ExceptHandler (some (.Name y np)) (some x) (b0 :: suite) pos'] [] [] pos) (sM q (sTry fb fz i tab)) := by
  obtain ⟨h1, h2, h3⟩ := S.gl hg
  have R := ps_try_as (i := i) (pos := pos) (pos' := pos') (np := np) (body := body) (suite := suite) (b₀ := b0) (tb := fun W => sM { q with W := W } fb) (ts := tsX q (p.wd X.K) fz) (Wout := q.W) (c := .ref (He.ga X.K y)) T.stk T.frm (by rw [S.nm]; exact S.nd) (S.slot hi) (S.lnm hv)
    ⟨h1, h2, .inl (C.gA hy)⟩ C.tk (fun W pn xe t po => hb _ _ (S.tr pn xe) (C.wish t po) rfl)
    (fun a oe cls dd pn hz hfl => ⟨fun pins s σ H D I h => by
      obtain ⟨z, e1, e2, e3, e4, h⟩ := h
      subst e2 e3
      exact (hsu _ _ z (S.suite a _) (C.hotS e1 e4 hz hfl) rfl).run pins s σ H D I h⟩)
  refine wkS R fun Dn σ H h => ?_
  obtain ⟨ρ, μ, φ, he, hm, hp⟩ := h
  refine ⟨ρ, μ, φ, he, hm, ?_⟩
  show SPost { q with W := _ } φ H Dn (fb q.ar ρ μ)
  unfold sTry at hp
  cases e : fb q.ar ρ μ with
  | nx ρ1 μ1 => rw [e] at hp; exact hp
  | rt d μ1 => rw [e] at hp; exact hp
  | bk ρ1 μ1 => rw [e] at hp; exact hp
  | ct ρ1 μ1 => rw [e] at hp; exact hp
  | stuck => rw [e] at hp; exact hp.elim
  | exc c f ρ1 μ1 =>
    rw [e] at hp
    intro φ1 H1 σ1 Cv dd s1 m1 e1 x1
    simp only at hp
    cases et : tabAt tab c with
    | none => rw [et] at hp; exact hp.elim
    | some b =>
      rw [et] at hp
      have hYc : q.Y.cl c = He.ga X.K (p.cnm c) := by rw [C.Y]; rfl
      have hex : PySem.W.exmOne X.K Cv (.ref (He.ga X.K y)) = some b := by
        have h4 := C.fa j _ hf
        have h5 := List.all_eq_true.mp h4 _ (tabAt_mem et)
        rw [x1.1, hYc]
        exact of_decide_eq_true h5
      refine ⟨b, hex, fun hb1 a ha => ?_, fun hb0 => ?_⟩
      · subst hb1
        simp only at hp
        split at hp
        · rename_i hc
          simp only
                [Bool.and_eq_true] at hc
          have hY : q.Y = p.wd X.K := C.Y
          have hYn : (p.wd X.K).ex = none := rfl
          rw [hY] at m1 e1 x1
          refine ⟨⟨a, c, (p.wd X.K).cl c, dd, f⟩, rfl, x1.1, rfl, rfl, ρ1.set i (some .exn), μ1, φ1, ?_, m1.wx (exc_wx x1 hc.1 a), ?_⟩
          · refine (e1.setX (a := a) (fun x hx => by rw [hYn] at hx; cases hx)).wx fun z hz i2 hi2 => ?_
            cases hz
            by_cases q1 : i2 = i
            · subst q1
              have hl : i2 < ρ1.length := by
                have := (List.getElem?_eq_some_iff.mp hi2).1
                simpa using this
              exact List.getElem?_set_self (by rw [← e1.len]; exact hl)
            · rw [List.getElem?_set_ne (Ne.symm q1)] at hi2
              exact absurd hi2 (noExnE_no hc.2)
          · have hp1 := SPost.from hp s1
            rw [show (qz q (p.wd X.K) ⟨a, c, (p.wd X.K).cl c, dd, f⟩).ar = { g := q.ar.h c f, base := q.ar.base, h := q.ar.h, ex := some (c, f) } from rfl]
            cases er : fz { g := q.ar.h c f, base := q.ar.base, h := q.ar.h, ex := some (c, f) } (ρ1.set i (some .exn)) μ1 with
            | nx ρ2 μ2 =>
              rw [er] at hp1
              exact fun φ2 H2 σ2 s2 m2 e2 => hp1 φ2 H2 _ s2 (by rw [hY]; exact m2.unwx hYn) (by rw [hY]; exact (e2.unwx hYn).unset)
            | bk ρ2 μ2 =>
              rw [er] at hp1
              exact fun φ2 H2 σ2 s2 m2 e2 => hp1 φ2 H2 _ s2 (by rw [hY]; exact m2.unwx hYn) (by rw [hY]; exact (e2.unwx hYn).unset)
            | ct ρ2 μ2 =>
              rw [er] at hp1
              exact fun φ2 H2 σ2 s2 m2 e2 => hp1 φ2 H2 _ s2 (by rw [hY]; exact m2.unwx hYn) (by rw [hY]; exact (e2.unwx hYn).unset)
            | rt d μ2 =>
              rw [er] at hp1
              exact fun φ2 H2 v s2 m2 rv => hp1 φ2 H2 v s2 (by rw [hY]; exact m2.unwx hYn) (by rw [hY]; exact Rep.wx.mp rv)
            | exc c2 f2 ρ2 μ2 => rw [er] at hp1; exact hp1.elim
            | stuck => rw [er] at hp1; exact hp1.elim
        · exact hp.elim
      · subst hb0
        exact hp φ1 H1 σ1 Cv dd s1 m1 e1 x1

/-! ### what a suite asks -/
variable {z : ExI}
theorem exc_inst {pins : List (Addr × Obj)} {s : Shared} (C : Ctx (some z) X p q k fs) (hm : MemRep q.Y φ H q.B μ) (I : Inv X pins σ H s) : ∃ (oe : Obj) (od : Option Obj), PySem.W.InstAt s.heap z.a oe z.C od ∧
    ((z.fs = [] ∧ od = none) ∨ ∃ (o : Obj) (fs' : List (Str × V)) (mA : Str → Option Value), od = some o ∧ RepF q.Y φ H z.fs fs' ∧ (∀ f, PySem.W.lookIn f o = some (mA f)) ∧ ∀ f, RelO (fs'.lookup f) (mA f)) := by
  obtain ⟨oe, ⟨vs, hd⟩, hp, hz⟩ := C.ht z rfl
  obtain ⟨ha, _⟩ := I.pin (z.a, oe) (List.mem_append_left _ hp)
  have hex := hm.ex z (by rw [C.Y]; rfl)
  have nc : PySem.W.notCls oe = true := by unfold PySem.W.notCls; rw [hd]
  rcases hex.2 with ⟨h1, h2⟩ | ⟨dd, fs', h1, h2, h3, h4⟩
  · refine ⟨oe, none, ⟨ha, hz.1, nc, ?_⟩, .inl ⟨h1, rfl⟩⟩
    rw [hz.2, h2]
    trivial
  · have hx : ObjOk X.prog X.w H s.heap dd (.xd fs') := I.hok dd _ h2
    obtain ⟨mA, hns, hr⟩ := hx
    obtain ⟨od, ho, hl⟩
          := lookIn_ns hns
    refine ⟨oe, some od, ⟨ha, hz.1, nc, ?_⟩, .inr ⟨od, fs', mA, rfl, h4, hl, hr⟩⟩
    rw [hz.2, h1]
    exact ho
theorem kitx_E (F : ExcFacts X.K z.C) {oe : Obj} {od : Option Obj} : PySem.W.KitX X.K (.ref z.a) (.ref z.C) (fun h => PySem.W.InstAt h z.a oe z.C od) := PySem.W.kitx_exc F.cls F.ga F.gt F.oex.exC F.ca F.cg F.ct F.mo
theorem pm_var_exn (C : Ctx (some z) X p q k fs) (S : Sc X N sc) {i : Nat} {pos : Pos} (hi : N[i]? = some x) (hv : vnB sc x = true) : PE X (.Name x pos) (tVar i) := by
  obtain ⟨h1, h2, h3⟩ := S.vis hv
  exact pe_var (S.slot hi) h1 h2 h3
/-- isinstance(e, D) -/
theorem pm_isE (S : Sc X N sc) (C : Ctx (some z) X p q k fs) {i j1 j2 : Nat} {tab : List (Nat × Bool)} {en : Str} {De : Expr} {Dv : PySem.W.Frag → Value} {dD : D} {np p1 pos : Pos} (hg : gnB sc "isinstance" = true) (hf : inB "isinstance" p.fre = true) (hi : N[i]? = some en) (hv : vnB sc en = true)
    (hD : PE X De (tM q (mC dD))) (hDv : ∀ φ H v u, Rep q.Y φ H dD v → RelV v u → u = Dv X.K) (hj : p.fa[j1]? = some (isF p.cnm Dv tab)) (hc : ∀ c b, tabAt tab c = some b → ∃ j : Nat, p.fa[j]? = some (excF (p.cnm c)))
    (he : starEach (Expr.Name en p1 :: [De]) X.env = (false, eval (.Name en p1) X.env) :: starEach [De] X.env := by rfl) (hpl : (backTo pos (starEach [De] X.env)).any (·.1) = false := by rfl) (hs : starEach (De :: []) X.env = (false, eval De X.env) :: starEach [] X.env := by rfl) :
    PE X (.Call (.Name "isinstance" np) [.Name en p1, De] [] pos) (tM q (mIsE i tab)) := by
  obtain ⟨h1, h2, h3⟩ := S.gl hg
  have hArg : PA X [.Name en p1, De] (tCons (tVar i) (tCons (tM q (mC dD)) tNil)) := pa_cons (pm_var_exn C S hi hv) (pa_cons hD pa_nil hs) he
  have hcall : CallR X (.builtin "isinstance") (fun xs H Q => ∃ c b w μ φ, xs = [V.ref z.a, w] ∧ q.ar.ex = some (c, z.fs) ∧ tabAt tab c = some b ∧ Rep q.Y φ H dD w ∧ MemRep q.Y φ H q.B μ ∧ Q (.bl b) H) := by
    intro pins s σ
          H xs us Q I r h
    obtain ⟨c, b, w, μ, φ, rfl, hx, hb, rw', hm, hq⟩ := h
    obtain ⟨u1, u2, rfl,
          r1, r2⟩ := vals2 r
    cases (show u1 = Value.ref z.a from r1)
    have e2 := hDv _ _ _ _ rw' r2
    subst e2
    obtain ⟨hC, hA⟩ := C.hc z rfl
    rw [hA] at hx
    have ec : z.c = c := by cases hx; rfl
    subst ec
    obtain ⟨j, hj2⟩ := hc _ _ hb
    have F : ExcFacts X.K z.C := by rw [hC]; exact excF_ok (C.fa j _ hj2)
    obtain ⟨oe, od, J, _⟩ := exc_inst C hm I
    have hk : PySem.W.kitOne X.K (.ref z.C) (Dv X.K) = some b := by
      have h4 := C.fa j1 _ hj
      have h5 := List.all_eq_true.mp h4 _ (tabAt_mem hb)
      rw [hC]
      exact of_decide_eq_true h5
    exact PySem.W.kia_one (kitx_E F) I.kIn J hk (fun z => nomatch z) fun tk => ⟨.bl b, H, I.kept (t' := tk) fun _ _ z => z, rfl, hq⟩
  refine wkE (pe_callB hcall h1 (C.fr hf) (by decide +kernel) hArg h3 h2 he hpl) fun σ H Q h => ?_
  obtain ⟨ρ, μ, φ, hev, hm, hp⟩ := h
  unfold mIsE at hp
  split at hp
  · rename_i c fs1 e1 e2
    split at hp
    · rename_i b e3
      have hz := hev.ex i z e1 (by rw [C.Y]; rfl)
      obtain ⟨hC, hA⟩ := C.hc z rfl
      rw [hA] at e2
      cases e2
      refine ⟨.ref z.a, hz, ρ, μ, φ, hev, hm, ?_⟩
      intro φ1 H1 s1 m1 w rw'
      exact ⟨z.c, b, w, μ, φ1, rfl, hA, e3, rw', m1, (Post.at hp s1 m1) _ rep_bl⟩
    · exact hp.elim
  · exact hp.elim
end
end Mi

/-! Mi.N: fields of the handled exception, its calls; methods; dict displays. -/
namespace Mi
open PySem PySem.Spec
open PyProof.Rows hiding St
open L2
def flatP : List (EM × EM) → LM
  | [] => mNil
  | (f, g) :: r => mCons f (mCons g (flatP r))
def pairsD : List D → Option (List (Key × D))
  | [] => some []
  | k :: d :: r => match toKey k, pairsD r with
    | some j, some ps => some ((j, d) :: ps)
    | _, _ => none
  | _ => none
def mergeD (kvs more : List (Key × D)) : List (Key × D) := more.foldl (fun acc kv => putD acc kv.1 kv.2) kvs
/-- {k: v, ..}, of one's own memory -/
def mDictN (fps : List (EM × EM)) : EM := fun a ρ μ => (flatP fps a ρ (μ ++ [.dK []])).bind fun ds μ1 => match pairsD ds, μ1[μ.length]? with
  | some kvs, some (.dK []) => if Nat.ble kvs.length 15 && okW a.base μ.length (.dK (mergeD [] kvs)) then .ok (.ref μ.length) (μ1.set μ.length (.dK (mergeD [] kvs))) else .stuck
  | _, _ => .stuck
section
variable {hx : Option ExI} {X : Cx} {N : List Str} {sc : Scope} {p : Pg} {q : Cn} {k : Nat} {fs : List Nat} {φ : List Addr} {H : Hp} {σ : St} {μ : Mem} {ρ : Env} {x y : Str} {d e : D} {Q : VK} {Dn : Ends} {z : ExI}
theorem hasN_mem {c : Nat} : ∀ {tab : List Nat}, hasN tab c = true → c ∈ tab
  | [], h => by cases h
  | j :: r, h => by
    simp only [hasN, Bool.or_eq_true, decide_eq_true_eq] at h
    rcases h with h | h
    · subst h; exact List.mem_cons_self
    · exact List.mem_cons_of_mem _ (hasN_mem h)
theorem lookF_rep {Y : Wd} {j : Str} : ∀ {fs : List (Str × D)} {vs : List (Str × V)} {d : D}, RepF Y φ H fs vs → lookF fs j = some d → ∃ v, vs.lookup j = some v ∧ Rep Y φ H d v
  | [], vs, d, r, h => by simp only [lookF] at h; cases h
  | (k, e) :: kvs, vs, d, r, h => by
    simp only [RepF] at r
    obtain ⟨v, t, e1, h1, h2⟩ := r
    subst e1
    simp only [lookF] at h
    split at h
    · rename_i ek
      cases h
      subst ek
      exact ⟨v, by simp [List.lookup_cons], h1⟩
    · rename_i ek
      have : (j == k) = false := by simpa using fun z => ek z.symm
      obtain ⟨w, h3, h4⟩ := lookF_rep h2 h
      exact ⟨w, by simp [List.lookup_cons, this, h3], h4⟩
/-- e.f -/
theorem pm_xf (S : Sc X N sc) (C : Ctx (some z) X p q k fs) {i : Nat} {tab : List Nat} {en f : Str} {p1 pos : Pos} (hi : N[i]? = some en) (hv : vnB sc en = true)
    (hc : ∀ c ∈ tab, (∃ j : Nat, p.fa[j]? = some (excF (p.cnm c))) ∧ ∃ (j : Nat) (ns : List Str), p.fa[j]? = some (noatF (p.cnm c) ns) ∧ f ∈ ns)
    (hb : attributeBase (.Name en p1) f X.env (eval (.Name en p1) X.env) = eval (.Name en p1) X.env := by rfl) : PE X (.Attribute (.Name en p1) f pos) (tM q (mXf i f tab)) := by
  refine ⟨fun pins
        s σ H Q I h => ?_⟩
  obtain ⟨ρ, μ, φ, hev, hm, hp⟩ := h
  unfold mXf at hp
  split at hp
  · rename_i c fs1 e1 e2
    split at hp
    · rename_i d e3 e4
      have hz := hev.ex i z e1 (by rw [C.Y]; rfl)
      obtain ⟨hC, hA⟩ := C.hc z rfl
      rw [hA] at e2
      cases e2
      obtain ⟨⟨j1, g1⟩, j2, ns, g2, g3⟩ := hc _ (hasN_mem e3)
      have F : ExcFacts X.K z.C := by rw [hC]; exact excF_ok (C.fa j1 _ g1)
      have hno : PySem.W.findIn X.K (.ref z.C) f = some none := by
        rw [hC]
        exact He.eqO_ok (List.all_eq_true.mp (C.fa j2 _ g2) f g3)
      refine attr_of hb (thn ((pm_var_exn C S hi hv).run pins s σ H (fun w H1 => w = .ref z.a ∧ H1 = H) I ⟨_, hz, rfl, rfl⟩) fun u s1 hh => ?_)
      obtain ⟨w, H1, I1, rw', ew, eH⟩ := hh
      subst ew eH
      cases (show u = Value.ref z.a from rw')
      obtain ⟨oe, od, J, hrest⟩ := exc_inst C hm I1
      rcases hrest with ⟨h1, _⟩ | ⟨o, fs', mA, h1, h2, h3, h4⟩
      · rw [h1] at e4; cases e4
      · subst h1
        obtain ⟨v, h5, h6⟩ := lookF_rep h2 e4
        obtain ⟨u, hu, ru⟩ := RelO.some_of (v := v) (o := mA f) (by rw [← h5]; exact h4 f)
        exact HandSPX.exc_get I1.kIn J F.ga F.gt F.oex.exC (PySem.W.findObj_own F.hd hno rfl (by rw [h3, hu])) (handed_of ru) ⟨v, _, I1.tok _, ru, (Post.ok hp hm) v h6⟩
    · exact hp.elim
  · exact hp.elim
/-- f(e) -/
theorem pm_callX (S : Sc X N sc) (C : Ctx (some z) X p q k fs) {f i : Nat} {en : Str} {np p1 pos : Pos} (hf : f ∈ fs) (hn : p.fnm f = (x, none)) (h1a : p.ari f = 1) (hg : gnB sc x = true) (hi : inB x p.glo = true) (hN : N[i]? = some en) (hv : vnB sc en = true)
    (he : starEach (Expr.Name en p1 :: []) X.env = (false, eval (.Name en p1) X.env) :: starEach [] X.env := by rfl) (hpl : (backTo pos (starEach [] X.env)).any (·.1) = false := by rfl) :
    PE X (.Call (.Name x np) [.Name en p1] [] pos) (tM q (mCallX f i)) := by
  obtain ⟨h1, h2, h3⟩ := S.gl hg
  obtain ⟨⟨fd, ps, F, hb⟩, hk⟩ := C.fns f hf
  have hA : (p.wd X.K).fn f = He.ga X.K x := by show He.fAd X.K (p.fnm f) = _; rw [hn]; rfl
  refine ⟨fun pins
        s σ H Q I h => ?_⟩
  obtain ⟨ρ, μ, φ, hev, hm, hp⟩ := h
  unfold mCallX at hp
  split at hp
  · rename_i e1
    have hz := hev.ex i z e1 (by rw [C.Y]; rfl)
    refine wpAny_Call_Name_kw (ld_glob I h1 (C.gA hi) ?_ h2)
    rw [← hA]
    refine PySem.W.callWith_K (h₀ := X.base) I.ok.mod.kin hk (thn ((pa_cons (pm_var_exn C S hN hv) pa_nil he).run pos pins s σ H (fun vs H1 => vs = [V.ref z.a] ∧ H1 = H) I ⟨_, hz, rfl, rfl⟩) fun us s1 hh => ?_) he hpl
    obtain ⟨vs, H1, I1, r, ev, eH⟩ := hh
    subst ev eH
    refine ⟨I1.kIn, ?_⟩
    refine run_fnG F (C.room.mono (by omega)) C.ht hb (fun e s' c => C.tk e s' (XE.of_call I1 (fun _ _ _ h => h) c)) I1 r ?_
    refine ⟨by rw [h1a]; rfl, [.exn], μ, φ, q.B, q.ar.base, by simp only [RepL, Rep]; exact ⟨_, [], rfl, ⟨z.a, rfl⟩, rfl⟩, fun j z' hj hz' => ?_, by rw [← C.Y]; exact hm, C.bs, ?_⟩
    · cases hz'
      match j, hj with
      | 0, _ => rfl
    · revert hp
      rw [← C.Y]
      cases q.ar.g f [.exn] q.ar.base μ with
      | ok d μ' => exact fun hp φ' H' v s m rv => hp φ' H' s m v rv
      | exc c fs μ' => exact fun hp => hp
      | stuck => exact fun hp => hp
  · exact hp.elim

/-! ### methods that change a list -/
def rMut (q : Cn) (op : Nat → D → D → Mem → Option Mem) : V → List V → Hp → VK → Prop := fun x vs H Q => ∃ φ μ d e y μ', MemRep q.Y φ H q.B μ ∧ Rep q.Y φ H d x ∧ vs = [y] ∧ Rep q.Y φ H e y ∧ op q.ar.base d e μ = some μ' ∧ ∀ H', Step φ φ H H' → MemRep q.Y φ H' q.B μ' → Q .non H'
theorem mut_app (C : Ctx hx X p q k fs) : MtM X "list.append" (rMut q kApp) := by
  intro pins s σ H x
        xs v us Q I rx rxs h
  obtain ⟨φ, μ, d, e, y, μ', hm, rd, rfl, re, hk, hq⟩ := h
  refine mt_append pins s σ H x _ v us Q I rx rxs ?_
  unfold kApp at hk
  split at hk
  · rename_i j
    simp only [Rep] at rd
    obtain ⟨a, e1, g⟩ := rd
    subst e1
    split at hk
    · rename_i ds e2
      split at hk
      · rename_i hb
        cases hk
        simp only [Bool.and_eq_true] at hb
        obtain ⟨vs, h1, h2⟩ := hm.hi _ _ _ g e2
        have st := Step.write (φ := φ) (H := H) (o := .lst (vs ++ [y])) (List.mem_of_getElem? g)
        refine ⟨a, vs, y, rfl, rfl, h1, by rw [← h2.length]; exact blt_iff.mp hb.1, hq _ st (hm.write g ⟨_, upd_same, (h2.append ?_).step st⟩ (okW_ok hb.2 C.bs))⟩
        simp only [RepL]
        exact ⟨y, [], rfl, re, rfl⟩
      · cases hk
    · cases hk
  · cases hk
theorem mut_ext (C : Ctx hx X p q k fs) : MtM X "list.extend" (rMut q kExt) := by
  intro pins s σ H x
        xs v us Q I rx rxs h
  obtain ⟨φ, μ, d, e, y, μ', hm, rd, rfl, re, hk, hq⟩ := h
  refine mt_extend pins s σ H x _ v us Q I rx rxs ?_
  unfold kExt at hk
  split at hk
  · rename_i j
    simp only [Rep] at rd
    obtain ⟨a, e1, g⟩ := rd
    subst e1
    split at hk
    · rename_i ds es e2 e3
      split at hk
      · rename_i hb
        cases hk
        simp only [Bool.and_eq_true] at hb
        obtain ⟨vs, h1, h2⟩ := hm.hi _ _ _ g e2
        obtain ⟨b, ws, e4, h3, h4⟩ := listOf_rep hm re e3
        subst e4
        have st := Step.write (φ := φ) (H := H) (o := .lst (vs ++ ws)) (List.mem_of_getElem? g)
        exact ⟨a, b, vs, ws, rfl, rfl, h1, h3, by rw [← h2.length, ← h4.length]; exact szB_le hb.1, hq _ st (hm.write g ⟨_, upd_same, (h2.append h4).step st⟩ (okW_ok hb.2 C.bs))⟩
      · cases hk
    · cases hk
  · cases hk
theorem mut_of (C : Ctx hx X p q k fs) {op : Nat → D → D → Mem → Option Mem} {fo fa : EM} (h : tM q (mMut op fo fa) σ H Q) : tBM X.K "list" (rMut q op) (tM q fo) (tCons (tM q fa) tNil) σ H Q := by
  obtain ⟨ρ, μ, φ, he, hm, hp⟩ := h
  refine ⟨ρ, μ, φ, he, hm, (Post.bind hp).imp fun o μ1 φ1 H1 s1 m1 p1 v rv => ?_⟩
  cases e1 : listOf μ1 o with
  | none => rw [e1] at p1; exact p1.elim
  | some ds =>
    rw [e1] at p1
    refine ⟨?_, ρ, μ1, φ1, he.step s1, m1, (Post.bind p1).imp fun d μ2 φ2 H2 s2 m2 p2 w rw' => ?_⟩
    · obtain ⟨a, vs, e2, h1, h2⟩ := listOf_rep m1 rv e1
      subst e2
      exact .inl ⟨rfl, vs, SqL.of h1⟩
    · cases e3 : op q.ar.base o d μ2 with
      | none => rw [e3] at p2; exact p2.elim
      | some μ3 =>
        rw [e3] at p2
        exact ⟨φ2, μ2, o, d, w, μ3, m2, rv.step s2, rfl, rw', e3, fun H' s m => (Post.at p2 s m) _ rep_non⟩
theorem pm_app (C : Ctx hx X p q k fs) {o a : Expr} {fo fa : EM} {apos pos : Pos} (ho : PE X o (tM q fo)) (ha : PE X a (tM q fa))
    (hbase : attributeBase o "append" X.env (eval o X.env) = eval o X.env := by rfl)
    (hfew : ((backTo pos (starEach (a :: []) X.env)).all (fun x => !x.1) && (backToKw pos (keywordEach [] X.env)).all (fun x => x.1.isSome)
      && decide ((a :: []).length + ([] : List Keyword).length + (if ([] : List Keyword).isEmpty then 0 else 1) < 30)) = true := by rfl)
    (hline : (apos.endLine == pos.line) = true := by rfl) (hs : starEach (a :: []) X.env = (false, eval a X.env) :: starEach [] X.env := by rfl) (hplain : (backTo pos (starEach [] X.env)).any (·.1) = false := by rfl) :
    PE X (.Call (.Attribute o "append" apos) [a] [] pos) (tM q (mMut kApp fo fa)) :=
  wkE (pe_bm PySem.F.plainAttrs_list PySem.F.slot_list_append PySem.F.type_list_append (mut_app C) ho (pa_cons ha pa_nil hs) hbase hfew hline hs hplain) fun _ _ _ h => mut_of C h

/-! ### dict displays -/
def trsM (q : Cn) (fps : List (EM × EM)) : List (TE × TE) := fps.map fun f => (tM q f.1, tM q f.2)
def pairV : List V → List (V × V)
  | v :: w :: r => (v, w) :: pairV r
  | _ => []
theorem pairs_of : ∀ (fps : List (EM × EM)) {σ : St} {H : Hp} {R' : List (V × V) → Hp → Prop}, tML q (flatP fps) σ H (fun vs H' => R' (pairV vs) H') → tPairs (trsM q fps) σ H R'
  | [], σ, H, R', h => by
    obtain ⟨ρ, μ, φ, he, hm, hp⟩ := h
    exact (Post.ok hp hm) [] (by simp only [RepL])
  | (f, g) :: r, σ, H, R', h => by
    obtain ⟨ρ, μ, φ, he, hm, hp⟩ := h
    show tM q f σ H fun x H1 => tM q g σ H1 fun y H2 => tPairs (trsM q r) σ H2 fun ps H3 => R' ((x, y) :: ps) H3
    refine ⟨ρ, μ, φ, he, hm, (Post.bind hp).imp fun d μ1 φ1 H1 s1 m1 p1 v rv => ?_⟩
    have p1 := Post.bind p1
    refine ⟨ρ, μ1, φ1, he.step s1, m1, (Post.bind p1).imp fun e μ2 φ2 H2 s2 m2 p2 w rw' => ?_⟩
    refine pairs_of r ⟨ρ, μ2, φ2, (he.step s1).step s2, m2, (Post.bind p2).imp fun ds μ3 φ3 H3 s3 m3 p3 vs rvs => ?_⟩
    have p4 := Post.ok p3 m3
    have p5 := (Post.ok p4 m3) (v :: w :: vs) (by simp only [RepL]; exact ⟨v, _, rfl, (rv.step s2).step s3, w, vs, rfl, rw'.step s3, rvs⟩)
    exact p5
theorem pairsD_rep {Y : Wd} : ∀ {ds : List D} {vs : List V} {kvs : List (Key × D)}, RepL Y φ H ds vs → pairsD ds = some kvs → ∃ kvs' : List (Key × V), pairV vs = kvs'.map (fun kv => (kV kv.1, kv.2)) ∧ RepK Y φ H kvs kvs'
  | [], vs, kvs, r, h => by
    simp only [pairsD, Option.some.injEq] at h
    subst h
    simp only [RepL] at r
    subst r
    exact ⟨[], rfl, by simp only [RepK]⟩
  | [d], vs, kvs, r, h => by simp [pairsD] at h
  | k :: d :: t, vs, kvs, r, h => by
    simp only [RepL] at r
    obtain ⟨v, r1, e1, h1, w, r2, e2, h2, h3⟩ := r
    subst e2 e1
    simp only [pairsD] at h
    split at h
    · rename_i j ps e3 e4
      cases h
      obtain ⟨kvs', h4, h5⟩ := pairsD_rep h3 e4
      refine ⟨(j, w) :: kvs', ?_, ?_⟩
      · simp only [pairV, List.map_cons, h4, toKey_rep h1 e3]
      · simp only [RepK]
        exact ⟨w, kvs', rfl, h2, h5⟩
    · cases h
theorem mergeD_rep {Y : Wd} : ∀ {more : List (Key × D)} {more' : List (Key × V)} {kvs : List (Key × D)} {kvs' : List (Key × V)}, RepK Y φ H more more' → RepK Y φ H kvs kvs' → RepK Y φ H (mergeD kvs more) (mergeK kvs' more')
  | [], m', kvs, kvs', h, g => by simp only [RepK] at h; subst h; exact g
  | (j, d) :: r, m', kvs, kvs', h, g => by
    simp only [RepK] at h
    obtain ⟨v, t, e, h1, h2⟩ := h
    subst e
    show RepK Y φ H (mergeD (putD kvs j d) r) (mergeK (putK kvs' j v) t)
    exact mergeD_rep h2 (g.put h1)
theorem pm_dict (C : Ctx hx X p q k fs) {keys : List (Option Expr)} {values : List Expr} {fps : List (EM × EM)} {pos : Pos} (h : PPs X pos keys values (trsM q fps)) (hall : keys.all (·.isSome) = true) (hl : keys.length = values.length) (h0 : keys ≠ []) (h15 : keys.length ≤ 15) :
    PE X (.Dict keys values pos) (tM q (mDictN fps)) := wkE (pe_disp h hall hl h0 h15) fun σ H Q w => by
  obtain ⟨ρ, μ, φ, he, hm, hp⟩ := w
  intro pd hn
  have st0 : Step φ (φ ++ [pd]) H (upd H pd (.dK [])) := Step.push hn
  have m0 : MemRep q.Y (φ ++ [pd]) (upd H pd (.dK [])) q.B (μ ++ [.dK []]) := hm.push hn ⟨[], upd_same, by simp only [RepK]⟩
  refine pairs_of fps ⟨ρ, _, _, he.step st0, m0, (Post.bind (hp.from st0)).imp fun ds μ1 φ1 H1 s1 m1 p1 vs rvs => ?_⟩
  split at p1
  · rename_i kvs e1 e2
    split at p1
    · rename_i hb
      simp only [Bool.and_eq_true] at hb
      have gd : φ1[μ.length]? = some pd := s1.get (by rw [← hm.len]; simp)
      obtain ⟨w0, h1, h2⟩ := m1.hi _ _ _ gd e2
      simp only [RepK] at h2
      subst h2
      obtain ⟨kvs', h3, h4⟩ := pairsD_rep rvs e1
      refine ⟨h1, kvs', h3, by rw [← h4.length]; exact Nat.le_of_ble_eq_true hb.1, ?_⟩
      have st := Step.write (φ := φ1) (H := H1) (o := .dK (mergeK [] kvs')) (List.mem_of_getElem? gd)
      have m2 := m1.write gd (x := .dK (mergeD [] kvs)) ⟨_, upd_same, (mergeD_rep h4 (by simp only [RepK])).step st⟩ (okW_ok hb.2 C.bs)
      exact (Post.at p1 st m2) _ (by simp only [Rep]; exact ⟨pd, rfl, gd⟩)
    · exact p1.elim
  · exact p1.elim
end
end Mi

/-! Mi.O: calls: a frame ends, the defs by depth. -/
namespace Mi
open PySem PySem.Spec
open PyProof.Rows hiding St
open L2

/-! ### a frame's objects become data -/
mutual
def frz : Nat → Nat → Mem → D → Option D
  | 0, _, _, _ => none
  | s + 1, n, μ, d => if below n d then some d else match d with
    | .ref i => (match μ[i]? with
      | some (.lst ds) => (frzL s n μ ds).map .lst
      | some (.dK kvs) => (frzK s n μ kvs).map .dct
      | some (.ins c fs) => (frzF s n μ fs).map (.obj c)
      | _ => none)
    | .tup ds => (frzL s n μ ds).map .tup
    | .lst ds => (frzL s n μ ds).map .lst
    | .dct kvs => (frzK s n μ kvs).map .dct
    | .obj c fs => (frzF s n μ fs).map (.obj c)
    | _ => none
def frzL : Nat → Nat → Mem → List D → Option (List D)
  | 0, _, _, _ => none
  | _ + 1, _, _, [] => some []
  | s + 1, n, μ, d :: ds => match frz s n μ d, frzL s n μ ds with
    | some a, some r => some (a :: r)
    | _, _ => none
def frzK : Nat → Nat → Mem → List (Key × D) → Option (List (Key × D))
  | 0, _, _, _ => none
  | _ + 1, _, _, [] => some []
  | s + 1, n, μ, (k, d) :: ds => match frz s n μ d, frzK s n μ ds with
    | some a, some r => some ((k, a) :: r)
    | _, _ => none
def frzF : Nat → Nat → Mem → List (Str × D) → Option (List (Str × D))
  | 0, _, _, _ => none
  | _ + 1, _, _, [] => some []
  | s + 1, n, μ, (k, d) :: ds => match frz s n μ d, frzF s n μ ds with
    | some a, some r => some ((k, a) :: r)
    | _, _ => none
end
section
variable {Y : Wd} {φ : List Addr} {H : Hp} {B : List Nat} {μ : Mem} {n : Nat}
theorem nin_low (hn : φ.Nodup) {i : Nat} {a : Addr} (h : φ[i]? = some a) (hi : n ≤ i) : a ∉ φ.take n := fun hm => by
  obtain ⟨j, hj, e⟩ := List.mem_iff_getElem.mp hm
  have hj1 : j < n := by simp at hj; omega
  obtain ⟨l2, e2⟩ := List.getElem?_eq_some_iff.mp h
  have e3 : φ[j]'(by simp at hj; omega) = φ[i] := by
    rw [e2, ← e, List.getElem_take]
  have := (List.getElem_inj hn).mp e3
  omega
mutual
theorem frz_ok (hm : MemRep Y φ H B μ) : ∀ (s : Nat) {d d' : D} {v : V}, Rep Y φ H d v → frz s n μ d = some d' → Rep Y (φ.take n) H d' v
  | 0, d, d', v, r, h => by simp only [frz] at h; cases h
  | s + 1, .ref i, d', v, r, h => by
    simp only [frz] at h
    split at h
    · rename_i hb
      cases h
      exact r.cut hb
    · rename_i hb
      have hi : n ≤ i := by
        simp only [below] at hb
        by_cases q : i < n
        · exact absurd (blt_iff.mpr q) hb
        · omega
      simp only [Rep] at r
      obtain ⟨a, e, g⟩ := r
      subst e
      have na := nin_low hm.nd g hi
      split at h
      · rename_i ds e1
        simp only
              [Option.map_eq_some_iff] at h
        obtain ⟨es, h1, rfl⟩ := h
        obtain ⟨vs, h2, h3⟩ := hm.hi _ _ _ g e1
        simp only [Rep]
        exact ⟨a, vs, rfl, h2, na, frzL_ok hm s h3 h1⟩
      · rename_i ds e1
        simp only
              [Option.map_eq_some_iff] at h
        obtain ⟨es, h1, rfl⟩ := h
        obtain ⟨vs, h2, h3⟩ := hm.hi _ _ _ g e1
        simp only [Rep]
        exact ⟨a, vs, rfl, h2, na, frzK_ok hm s h3 h1⟩
      · rename_i c ds e1
        simp only
              [Option.map_eq_some_iff] at h
        obtain ⟨es, h1, rfl⟩ := h
        obtain ⟨dx, vs, h2, h3⟩ := hm.hi _ _ _ g e1
        simp only [Rep]
        exact ⟨a, dx, vs, rfl, h2, na, frzF_ok hm s h3 h1⟩
      · cases h
  | s + 1, .tup ds, d', v, r, h => by
    simp only [frz] at h
    split at h
    · rename_i hb
      cases h
      exact r.cut hb
    · simp only [Option.map_eq_some_iff] at h
      obtain ⟨es, h1, rfl⟩ := h
      simp only [Rep] at r ⊢
      obtain ⟨a, vs, e, f, g⟩ := r
      exact ⟨a, vs, e, f.take, frzL_ok hm s g h1⟩
  | s + 1, .lst ds, d', v, r, h => by
    simp only [frz] at h
    split at h
    · rename_i hb
      cases h
      exact r.cut hb
    · simp only [Option.map_eq_some_iff] at h
      obtain ⟨es, h1, rfl⟩ := h
      simp only [Rep] at r ⊢
      obtain ⟨a, vs, e, f, m, g⟩ := r
      exact ⟨a, vs, e, f, nin_take m, frzL_ok hm s g h1⟩
  | s + 1, .dct ds, d', v, r, h => by
    simp only [frz] at h
    split at h
    · rename_i hb
      cases h
      exact r.cut hb
    · simp only [Option.map_eq_some_iff] at h
      obtain ⟨es, h1, rfl⟩ := h
      simp only [Rep] at r ⊢
      obtain ⟨a, vs, e, f, m, g⟩ := r
      exact ⟨a, vs, e, f, nin_take m, frzK_ok hm s g h1⟩
  | s + 1, .obj c ds, d', v, r, h => by
    simp only [frz] at h
    split at h
    · rename_i hb
      cases h
      exact r.cut hb
    · simp only [Option.map_eq_some_iff] at h
      obtain ⟨es, h1, rfl⟩ := h
      simp only [Rep] at r ⊢
      obtain ⟨a, dx, vs, e, f, m, g⟩ := r
      exact ⟨a, dx, vs, e, f, nin_take m, frzF_ok hm s g h1⟩
  | s + 1, .non, d', v, r, h => by
    simp only [frz, below, if_true, Option.some.injEq] at h
    subst h
    exact r.cut rfl
  | s + 1, .bl _, d', v, r, h => by
    simp only [frz, below, if_true, Option.some.injEq] at h
    subst h
    exact r.cut rfl
  | s + 1, .int _, d', v, r, h => by
    simp only [frz, below, if_true, Option.some.injEq] at h
    subst h
    exact r.cut rfl
  | s + 1, .str _, d', v, r, h => by
    simp only [frz, below, if_true, Option.some.injEq] at h
    subst h
    exact r.cut rfl
  | s + 1, .fn _, d', v, r, h => by
    simp only [frz, below, if_true, Option.some.injEq] at h
    subst h
    exact r.cut rfl
  | s + 1, .cls _, d', v, r, h => by
    simp only [frz, below, if_true, Option.some.injEq] at h
    subst h
    exact r.cut rfl
  | s + 1, .ty _, d', v, r, h => by
    simp only [frz, below, if_true, Option.some.injEq] at h
    subst h
    exact r.cut rfl
  | s + 1, .scr _, d', v, r, h => by
    simp only [frz, below, if_true, Option.some.injEq] at h
    subst h
    exact r.cut rfl
  | s + 1, .exn, d', v, r, h => by
    simp only [frz, below, if_true, Option.some.injEq] at h
    subst h
    exact r.cut rfl
theorem frzL_ok (hm : MemRep Y φ H B μ) : ∀ (s : Nat) {ds es : List D} {vs : List V}, RepL Y φ H ds vs → frzL s n μ ds = some es → RepL Y (φ.take n) H es vs
  | 0, ds, es, vs, r, h => by simp only [frzL] at h; cases h
  | s + 1, [], es, vs, r, h => by
    simp only [frzL, Option.some.injEq] at h
    subst h
    simpa only [RepL] using r
  | s + 1, d :: ds, es, vs, r, h => by
    simp only [RepL] at r
    obtain ⟨v, t, e, h1, h2⟩ := r
    simp only [frzL] at h
    split at h
    · rename_i a b e1 e2
      cases h
      simp only [RepL]
      exact ⟨v, t, e, frz_ok hm s h1 e1, frzL_ok hm s h2 e2⟩
    · cases h
theorem frzK_ok (hm : MemRep Y φ H B μ) : ∀ (s : Nat) {ds es : List (Key × D)} {vs : List (Key × V)}, RepK Y φ H ds vs → frzK s n μ ds = some es → RepK Y (φ.take n) H es vs
  | 0, ds, es, vs, r, h => by simp only [frzK] at h; cases h
  | s + 1, [], es, vs, r, h => by
    simp only [frzK, Option.some.injEq] at h
    subst h
    simpa only [RepK] using r
  | s + 1, (k, d) :: ds, es, vs, r, h => by
    simp only [RepK] at r
    obtain ⟨v, t, e, h1, h2⟩ := r
    simp only [frzK] at h
    split at h
    · rename_i a b e1 e2
      cases h
      simp only [RepK]
      exact ⟨v, t, e, frz_ok hm s h1 e1, frzK_ok hm s h2 e2⟩
    · cases h
theorem frzF_ok (hm : MemRep Y φ H B μ) : ∀ (s : Nat) {ds es : List (Str × D)} {vs : List (Str × V)}, RepF Y φ H ds vs → frzF s n μ ds = some es → RepF Y (φ.take n) H es vs
  | 0, ds, es, vs, r, h => by simp only [frzF] at h; cases h
  | s + 1, [], es, vs, r, h => by
    simp only [frzF, Option.some.injEq] at h
    subst h
    simpa only [RepF] using r
  | s + 1, (k, d) :: ds, es, vs, r, h => by
    simp only [RepF] at r
    obtain ⟨v, t, e, h1, h2⟩ := r
    simp only [frzF] at h
    split at h
    · rename_i a b e1 e2
      cases h
      simp only [RepF]
      exact ⟨v, t, e, frz_ok hm s h1 e1, frzF_ok hm s h2 e2⟩
    · cases h
end
end

/-! ### the defs by depth -/
/-- the bodies: how many names, what the body does (calm; while an exception is handled), whether its objects outlive it -/
structure Bd where
  n : Nat → Nat
  b : Nat → SM
  kp : Nat → Bool
def fin (kp : Bool) (n : Nat) (r : SR) : R D := match r with
  | .rt d μ => if kp then .ok d μ else (match frz 100 n μ d with
    | some e => .ok e (μ.take n)
    | none => .stuck)
  | .nx _ μ => .ok .non (if kp then μ else μ.take n)
  | .exc c fs _ μ => if belowF n fs then .exc c fs (μ.take n) else .stuck
  | _ => .stuck
def startE (n : Nat) (ds : List D) : Env := ds.map some ++ List.replicate (n - ds.length) none
def noG : G := fun _ _ _ _ => .stuck
def callH (B : Bd) : Nat → Nat → List (Str × D) → G
  | 0, _, _ => noG
  | k + 1, c, fs => fun f ds _ μ => fin (B.kp f) μ.length (B.b f { g := callH B k c fs, base := μ.length, h := fun _ _ => noG, ex := some (c, fs) } (startE (B.n f) ds) μ)
def callN (B : Bd) : Nat → G
  | 0 => noG
  | k + 1 => fun f ds _ μ => fin (B.kp f) μ.length (B.b f { g := callN B k, base := μ.length, h := callH B k, ex := none } (startE (B.n f) ds) μ)
section
variable {Y : Wd} {φ : List Addr} {H : Hp} {B0 : List Nat} {μ : Mem} {n : Nat}
theorem start_rep {N : List Str} {ds : List D} {vs : List V} (hn : n = N.length) (r : RepL Y φ H ds vs) (hx : ∀ (i : Nat) z, ds[i]? = some .exn → Y.ex = some z → vs[i]? = some (.ref z.a)) : EnvRep Y φ H (startE n ds) (L2.start N vs) := by
  have hl := r.length
  have key : ∀ (i : Nat) d, (startE n ds)[i]? = some (some d) → ds[i]? = some d ∧ i < ds.length := fun i d h => by
    unfold startE at h
    by_cases q : i < ds.length
    · rw [List.getElem?_append_left (by simpa using q)] at h
      simp only [List.getElem?_map, Option.map_eq_some_iff] at h
      obtain ⟨a, h1, h2⟩ := h
      cases h2
      exact ⟨h1, q⟩
    · rw [List.getElem?_append_right (by simpa using q), List.getElem?_replicate] at h
      split at h <;> cases h
  have st : ∀ (i : Nat) v, vs[i]? = some v → (L2.start N vs)[i]? = some (some v) := fun i v h => by
    have hi := (List.getElem?_eq_some_iff.mp h).1
    unfold L2.start
    rw [List.getElem?_append_left (by simpa using hi), List.getElem?_map, h]
    rfl
  refine ⟨by unfold startE L2.start; simp [hl, hn], fun i d h => ?_, fun i x h hy => ?_⟩
  · obtain ⟨v, h1, h2⟩ := r.get (key i d h).1
    exact ⟨v, st i v h1, h2⟩
  · exact st i _ (hx i x (key i _ h).1 hy)
theorem take_self {φ' : List Addr} {H' : Hp} (s : Step φ φ' H H') (h : φ.length = n) : φ'.take n = φ := by
  obtain ⟨l, e⟩ := s.pre
  rw [e, ← h]
  simp
/-- a frame that ends -/
theorem fin_ok {kp : Bool} {q : Cn} {r : SR} {Q : VK} {E : XK} (hY : q.Y = Y) (hB : q.B = μ.length :: B0) (hB0 : ∀ b ∈ B0, b ≤ μ.length) (hm : MemRep Y φ H B0 μ) (hW : ∀ c d σ H', E c d H' → q.W c d σ H')
    (h : match fin kp μ.length r with
      | .ok d μ' => ∀ φ' H' v, Step φ φ' H H' → MemRep Y φ' H' B0 μ' → Rep Y φ' H' d v → Q v H'
      | .exc c fs μ' => ∀ φ' H' C dd, Step φ φ' H H' → MemRep Y φ' H' B0 μ' → ExcRep Y φ' H' c fs C dd → E C dd H'
      | .stuck => False) : SPost q φ H { nx := fun _ H' => Q .non H', rt := Q } r := by
  have low : ∀ {φ' H' μ'}, MemRep q.Y φ' H' q.B μ' → MemRep Y φ' H' B0 μ' := fun {φ' H' μ'} m => by
    rw [hY, hB] at m
    exact ⟨m.len, m.nd, m.al, m.hi, fun b hb => m.lo b (List.mem_cons_of_mem _ hb), m.ex⟩
  have cut : ∀ {φ' H' μ'}, Step φ φ' H H' → MemRep q.Y φ' H' q.B μ' → Step φ (φ'.take μ.length) H H' ∧ MemRep Y (φ'.take μ.length) H' B0 (μ'.take μ.length) := fun {φ' H' μ'} s m => by
    rw [hY, hB] at m
    have e := take_self s hm.len
    refine ⟨?_, m.leave hB0⟩
    rw [e]
    exact ⟨⟨[], by simp⟩, s.keep, fun a h n => absurd h n, s.al⟩
  cases r with
  | nx ρ μ' =>
    intro φ' H' σ' s m e
    simp only [fin] at h
    cases kp with
    | true => exact h φ' H' .non s (low m) rep_non
    | false =>
      obtain ⟨s2, m2⟩ := cut s m
      exact h _ H' .non s2 m2 rep_non
  | rt d μ' =>
    intro φ' H' v s m r
    simp only [fin] at h
    rw [hY] at r
    cases kp with
    | true => exact h φ' H' v s (low m) r
    | false =>
      simp only [Bool.false_eq_true,
            if_false] at h
      cases e : frz 100 μ.length μ' d with
      | none => rw [e] at h; exact h.elim
      | some d' =>
        rw [e] at h
        obtain ⟨s2, m2⟩ := cut s m
        exact h _ H' v s2 m2 (frz_ok (low m) 100 r e)
  | exc c f ρ μ' =>
    intro φ' H' σ' C dd s m e x
    simp only [fin] at h
    split at h
    · rename_i hb
      split at hb
      · cases hb
      · cases hb
    · rename_i c1 f1 μ1 hb
      split at hb
      · rename_i hbel
        cases hb
        obtain ⟨s2, m2⟩ := cut s m
        rw [hY] at x
        refine hW _ _ _ _ (h _ H' C dd s2 m2 ⟨x.1, ?_⟩)
        rcases x.2 with z | ⟨d, fs', h1, h2, h3, h4⟩
        · exact .inl z
        · exact .inr ⟨d, fs', h1, h2, nin_take h3, h4.cut hbel⟩
      · cases hb
    · exact h.elim
  | bk ρ μ' => exact h.elim
  | ct ρ μ' => exact h.elim
  | stuck => exact h.elim
end
end Mi

/-! Mi.P: every def at every depth; the law's end. -/
namespace Mi
open PySem PySem.Spec
open PyProof.Rows hiding St
open L2
/-- what holds of the text at every heap behind its top -/
structure Txt (P : Program) (w : World) (K : PySem.W.Frag) (mg : Str → Option Value) (base : Heap) (p : Pg) : Prop where
  glo : ∀ x ∈ p.glo, mg x = some (.ref (He.ga K x))
  fre : ∀ x ∈ p.fre, mg x = none
  fa : ∀ (i : Nat) f, p.fa[i]? = some f → f K = true
  sm : ∃ o, K.lookup sysModules = some o
/-- a def of the text: its function object, its scope, its body's reading, calm -/
structure DefAt (P : Program) (w : World) (K : PySem.W.Frag) (mg : Str → Option Value) (base : Heap) (p : Pg) (B : Bd) (l : List (Nat × List Str)) (all : List Nat) (f : Nat) : Prop where
  ex : ∃ (x qual : Str) (params : Arguments) (body : List Stmt) (scope : Scope) (N ps : List Str) (fd : FuncData), FunD K x qual params body scope [] [] ((p.wd K).fn f) fd ∧ FnScope N ps scope ∧ Binds K fd ps [] ∧ B.n f = N.length ∧ ps.length = p.ari f ∧
    ∀ (X : Cx) (q : Cn) (k : Nat), Sc X N scope → Ctx none X p q k all → Tr X → Exs X p l → PSs X body (sM q (B.b f))
/-- .. while an exception is handled -/
structure HotAt (K : PySem.W.Frag) (p : Pg) (B : Bd) (f : Nat) : Prop where
  ex : ∃ (x qual : Str) (params : Arguments) (body : List Stmt) (scope : Scope) (N ps : List Str) (fd : FuncData), FunD K x qual params body scope [] [] ((p.wd K).fn f) fd ∧ FnScope N ps scope ∧ Binds K fd ps [] ∧ B.n f = N.length ∧ ps.length = p.ari f ∧
    ∀ (X : Cx) (q : Cn) (k : Nat) (z : ExI), Sc X N scope → Ctx (some z) X p q k p.hots → PSs X body (sM q (B.b f))
section
variable {P : Program} {w : World} {K : PySem.W.Frag} {mg : Str → Option Value} {base : Heap} {p : Pg} {B : Bd} {l : List (Nat × List Str)} {all : List Nat}
theorem sp_len {Y : Wd} {g : G} {n f : Nat} {ps : List Str} (h : ps.length = n) : ∀ vs H Q E, spG Y g n f vs H Q E → vs.length = ps.length := fun vs H Q E q => q.1.trans h.symm
theorem hot_all (T : Txt P w K mg base p) (D : ∀ f ∈ p.hots, HotAt K p B f) : ∀ (k : Nat) (z : ExI), z.C = (p.wd K).cl z.c → ∀ f ∈ p.hots, FnAt (some z) P w K mg base p (callH B k z.c z.fs) (2 * k + 1) f := by
  intro k
  induction k with
  | zero =>
    intro z hz f hf
    obtain ⟨x, qual, params, body, scope, N, ps, fd, F, S, hb, hn, hp, R⟩ := (D f hf).ex
    refine ⟨⟨fd, ps, ⟨sp_len hp, fun A outer s H args us vs Q E _ _ _ _ _ h => ?_⟩, hb⟩, F.kp⟩
    obtain ⟨_, ds, μ, φ, B0, b, _, _, _, _, h⟩ := h
    exact h.elim
  | succ k ih =>
    intro z hz f hf
    obtain ⟨x, qual, params, body, scope, N, ps, fd, F, S, hb, hn, hp, R⟩ := (D f hf).ex
    refine ⟨⟨fd, ps, ?_, hb⟩, F.kp⟩
    obtain ⟨oc, od, dV, kV, doc, pm, an, cdv, ct, osl, rfl, lk, hcd, hD, _⟩ := F.ex
    refine fn_ofGH (z := z) (k := 2 * k + 2) lk hcd S (sp_len hp) fun A outer s H vs Q E oe hf1 hzc hr h => ?_
    obtain ⟨hl, ds, μ, φ, B0, b, r, hxx, hm, hB0, h⟩ := h
    let q : Cn := { Y := (p.wd K).wx (some z), B := μ.length :: B0, ar := { g := callH B k z.c z.fs, base := μ.length, h := fun _ _ => noG, ex := some (z.c, z.fs) }, W := fun cls d _ H' => E cls d H' }
    have hB1 : ∀ b ∈ B0, b ≤ μ.length := fun b hb => (hm.lo b hb).1
    have Sx : Sc (L2H.cxH (L2.CX P w) P w K mg base N qual scope ((p.wd K).fn f) cdv A outer s H E (z.a, oe)) N scope := ⟨rfl, S.nd, rfl, S.kind⟩
    have C : Ctx (some z) (L2H.cxH (L2.CX P w) P w K mg base N qual scope ((p.wd K).fn f) cdv A outer s H E (z.a, oe)) p q k p.hots := {
      Y := rfl
      calm := fun e => by cases e
      ht := fun z' e => by
        cases e
        exact ⟨oe, hf1, List.mem_cons_self, hzc⟩
      hc := fun z' e => by
        cases e
        exact ⟨hz, rfl⟩
      room := hr
      tk := takes_of (X := L2H.cxH (L2.CX P w) P w K mg base N qual scope ((p.wd K).fn f) cdv A outer s H E (z.a, oe)) (E := E) rfl rfl rfl rfl
      po := fun e => by cases e
      bs := fun b hb => by
        rcases List.mem_cons.mp
              hb with e | hb
        · rw [e]; exact Nat.le_refl _
        · exact hB1 b hb
      glo := T.glo
      fre := T.fre
      fa := T.fa
      sm := T.sm
      fns := ih z hz
      hfn := fun e => by cases e }
    refine ⟨_, R _ q k z Sx C, ?_⟩
    refine ⟨startE (B.n f) ds, μ, φ, start_rep hn r hxx, hm.enter, ?_⟩
    exact fin_ok (kp := B.kp f) (q := q) (B0 := B0) (Y := (p.wd K).wx (some z)) (E := E) rfl rfl hB1 hm (fun c d σ H' h => h) h
theorem fn_all (T : Txt P w K mg base p) (hE : ∀ e ∈ l, ExcAt P w K mg base (He.ga K (p.cnm e.1)) e.2) (Dh : ∀ f ∈ p.hots, HotAt K p B f) (D : ∀ f ∈ all, DefAt P w K mg base p B l all f) : ∀ (k : Nat), ∀ f ∈ all, FnAt none P w K mg base p (callN B k) (2 * k + 1) f := by
  intro k
  induction k with
  | zero =>
    intro f hf
    obtain ⟨x, qual, params, body, scope, N, ps, fd, F, S, hb, hn, hp, R⟩ := (D f hf).ex
    refine ⟨⟨fd, ps, ⟨sp_len hp, fun A outer s H args us vs Q E _ _ _ _ _ h => ?_⟩, hb⟩, F.kp⟩
    obtain ⟨_, ds, μ, φ, B0, b, _, _, _, _, h⟩ := h
    exact h.elim
  | succ k ih =>
    intro f hf
    obtain ⟨x, qual, params, body, scope, N, ps, fd, F, S, hb, hn, hp, R⟩ := (D f hf).ex
    refine ⟨⟨fd, ps, ?_, hb⟩, F.kp⟩
    obtain ⟨oc, od, dV, kV, doc, pm, an, cdv, ct, osl, rfl, lk, hcd, hD, _⟩ := F.ex
    refine fn_ofG (k := 2 * k + 2) lk hcd S (sp_len hp) fun A outer s H vs Q E hr h => ?_
    obtain ⟨hl, ds, μ, φ, B0, b, r, hxx, hm, hB0, h⟩ := h
    let q : Cn := { Y := (p.wd K).wx none, B := μ.length :: B0, ar := { g := callN B k, base := μ.length, h := callH B k, ex := none }, W := fun cls d _ H' => E cls d H' }
    have hB1 : ∀ b ∈ B0, b ≤ μ.length := fun b hb => (hm.lo b hb).1
    have Sx : Sc (cxOf (L2.CX P w) P w K mg base N qual scope ((p.wd K).fn f) cdv A outer s H E) N scope := ⟨rfl, S.nd, rfl, S.kind⟩
    have C : Ctx none (cxOf (L2.CX P w) P w K mg base N qual scope ((p.wd K).fn f) cdv A outer s H E) p q k all := {
      Y := rfl
      calm := fun _ => rfl
      ht := fun z' e => by cases e
      hc := fun z' e => by cases e
      room := hr
      tk := takes_of (X := cxOf (L2.CX P w) P w K mg base N qual scope ((p.wd K).fn f) cdv A outer s H E) (E := E) rfl rfl rfl rfl
      po := fun _ => passes_of rfl
      bs := fun b hb => by
        rcases List.mem_cons.mp
              hb with e | hb
        · rw [e]; exact Nat.le_refl _
        · exact hB1 b hb
      glo := T.glo
      fre := T.fre
      fa := T.fa
      sm := T.sm
      fns := ih
      hfn := fun _ z hz => hot_all T Dh k z hz }
    refine ⟨_, R _ q k Sx C ⟨rfl, rfl⟩ hE, ?_⟩
    refine ⟨startE (B.n f) ds, μ, φ, start_rep hn r hxx, hm.enter, ?_⟩
    exact fin_ok (kp := B.kp f) (q := q) (B0 := B0) (Y := (p.wd K).wx none) (E := E) rfl rfl hB1 hm (fun c d σ H' h => h) h
end

/-! ### the law's end -/
theorem cx_no {P : Program} {w : World} {H : Hp} {s : Shared} {e : Value} {s' : Shared} (h : L2.CX P w [] H s (fun _ _ _ => False) e s') : False := by
  obtain ⟨_, _, _, _, _, _,
        _, _, _, _, _, _, z⟩ := h
  exact z
theorem law_G {P : Program} {w : World} {K : PySem.W.Frag} {mg mb : Str → Option Value} {k : Nat} {fa a : Addr} {sp : Sp} {s1 : Shared} {us : List Value} {zs : List Int}
    (kx : K.In s1.heap) (gn : s1.heap.Ns mainGlobals mg) (bn : s1.heap.Ns builtinsNs mb) (bb : ∀ x : Str, x ≠ "__name__" → mb x = bootBuiltins x) (nl : s1.heap.NoLimit) (g0 : s1.gens = #[])
    (ga : s1.heap.get? a = some { cls := .type "list", data := .seq us.toArray }) (iz : IntsAre us zs) (lz : zs.length ≤ sizeLine) (hr : RoomG none k callerA)
    (F : ∀ base : Heap, K.In base → base.Ns mainGlobals mg → ∃ fd ps, FnOkG none P w K mg base k fa fd ps sp ∧ Binds K fd ps [])
    (hsp : ∀ H : Hp, FzS K [] H a (zs.map V.int) → sp [.ref a] H (fun v _ => v = .bl true) fun _ _ _ => False) :
    codeAny (model P w) callerA (.call (.ref fa) ⟨[.ref a], []⟩) (fun r s' => r = .ok (.ret (.bool true)) ∧ OldK s1.heap s'.heap ∧ s'.os = s1.os ∧ AllBare s'.gens) s1 := by
  have rz := vals_ints iz
  -- the abstract heap: the script, if no object of the written part
  obtain ⟨H, hS, hA, hN⟩ : ∃ H : Hp, FzS K [] H a (zs.map V.int) ∧ (∀ b o, H b = some o → b = a ∧ K.lookup a = none ∧ o = .frz { cls := .type "list", data := .seq us.toArray } (.lst (zs.map V.int))) ∧ True := by
    cases e : K.lookup a with
    | some o =>
      refine ⟨fun _ => none, .inr ⟨o, us.toArray, 0, e, ?_⟩, fun b o h => (by cases h), trivial⟩
      have e2 := kx a o e
      rw [ga] at e2
      cases e2
      exact ⟨rfl, rfl, rfl, by rw [List.size_toArray, iz.length]; exact lz, by simpa using rz⟩
    | none =>
      refine ⟨fun b => if b = a then some (.frz { cls := .type "list", data := .seq us.toArray } (.lst (zs.map V.int))) else none, .inl ⟨⟨_, if_pos rfl⟩, by simp⟩, fun b o h => ?_, trivial⟩
      by_cases q : b = a
      · have h : (if b = a then some _ else none) = some o := h
        rw [if_pos q] at h
        cases h
        exact ⟨q, rfl, rfl⟩
      · have h : (if b = a then some _ else none) = some o := h
        rw [if_neg q] at h
        cases h
  have off : ∀ {b : Addr} {o : Obj}, s1.heap.get? b = some o → (b = a → K.lookup a ≠ none ∨ ∀ vs n, o.data ≠ .seq vs n) → (hidT s1.heap H).get? b = some o := fun {b o} e n => hidT_get e (by
    cases q : H b with
    | none => rfl
    | some u =>
      obtain ⟨e1, e2, e3⟩ := hA b u q
      rcases n e1 with z | z
      · exact absurd e2 z
      · rw [e1, ga] at e
        cases e
        exact absurd rfl (z _ _))
  have ns' : ∀ {b : Addr} {m : Str → Option Value}, s1.heap.Ns b m → (hidT s1.heap H).Ns b m := fun {b m} ⟨o, es, ep, e, d, r⟩ => ⟨o, es, ep, off e fun _ => .inr fun vs n z => (by rw [d] at z; cases z), d, r⟩
  have kb : K.In (hidT s1.heap H) := fun b o e => off (kx b o e) fun q => .inl (by rw [← q, e]; simp)
  have md : Mod K mg (hidT s1.heap H) := ⟨kb, ns' gn, ⟨mb, ns' bn, bb⟩, let ⟨mc, h1, h2⟩ := nl; ⟨mc, ns' h1, h2⟩⟩
  have ok : HOk P w H s1.heap := fun b o e => by
    obtain ⟨e1, _, e3⟩ := hA b o e
    subst e1 e3
    exact ⟨ga, by rw [List.length_map]; exact lz, us, _, rz, ga⟩
  have e0 : Env0 P w K mg (hidT s1.heap H) callerA [] s1 H := ⟨rfl, md, fun b o e => of_hidT e, Nat.le_of_eq (hidT_size _ _), trivial, fun b hb => absurd (show b ∈ ([] : List Addr) from hb) (by simp), ok, .of_eq g0⟩
  obtain ⟨fd, ps, F1, bd⟩ := F _ kb (ns' gn)
  have hl := F1.len _ _ _ _ (hsp H hS)
  have b1 := bd s1 [.ref a] kx (by simpa using hl)
  rw [List.append_nil] at b1
  refine codeAny_mono (F1.run callerA [] s1 H ⟨[.ref a], []⟩ [.ref a] [.ref a] _ _ hr (fun z e => by cases e) e0 b1 (.cons rfl .nil) (hsp H hS)) fun r s' h => ?_
  rcases r with e | fl
  · exact (cx_no h).elim
  rcases fl with _ | _ | _ | u
  · exact False.elim h
  · exact False.elim h
  · exact False.elim h
  · obtain ⟨v, H', os, bare, un, ok', rv, q⟩ := h
    have q' : v = .bl true := q
    subst q'
    obtain rfl : u = Value.bool true := rv
    refine ⟨rfl, OldK.of_keep
          fun b o e => ?_, os, bare⟩
    cases q : H b with
    | none => exact un.keep b o e q (fun z => absurd (show b ∈ ([] : List Addr) from z) (by simp)) (by simp)
    | some y =>
      obtain ⟨e1, _, e3⟩ := hA b y q
      subst e3
      have z2 := un.frzs b _ _ q
      obtain ⟨e4, _⟩ := ok b _ q
      obtain ⟨e5, _⟩ := ok' b _ z2
      rw [e] at e4; cases e4
      exact e5
/-- the end of a law over its head: the machine answers True at every script -/
theorem walk_M {l : PySem.W.OpenLaw} {n : Nat} {q : Program} {loose : List Str} {XP : (Str → Option Value) → Heap → Prop} {YP : World → Heap → Prop} {d : DefRec} {p : Pg} {B : Bd} {kk fl : Nat}
    (hn : l.most = some n) (hn2 : n ≤ sizeLine) (hdf : d.params.defaults = []) (hk : Room (2 * kk + 1) callerA)
    (F : ∀ (w : World) (mg : Str → Option Value) (h : Heap), YP w h → h.Ns mainGlobals mg →
      ∃ K : PySem.W.Frag, K.In h ∧ (p.wd K).fn fl = He.ga K d.name ∧ mg d.name = some (.ref (He.ga K d.name)) ∧ (∀ base : Heap, K.In base → base.Ns mainGlobals mg → FnAt none l.prog w K mg base p (callN B kk) (2 * kk + 1) fl) ∧ p.ari fl = 1)
    (A : ∀ ns : List Int, ns.length ≤ n → ∃ μ, callN B kk fl [.scr ns] 0 [] = .ok (.bl true) μ) :
    PySem.W.WalkO q loose XP YP l.row.toRowW
          d [] (fun f vs => PySem.call f vs) := by
  refine Att.attach_call hn hdf fun w s0 s1 mg mb fa o pm cd doc a vs ns G Y ho hd hcd hmg hobj hints hlen hg => ?_
  obtain ⟨K, kx, e1, e2, hF, ha⟩ := F w mg _ Y G.T.g
  have e3 : fa = He.ga K d.name := by
    rw [hmg] at e2
    cases e2; rfl
  rw [e3, ← e1]
  refine law_G kx G.T.g G.T.b G.T.builtins G.T.nolimit hg hobj hints (Nat.le_trans hlen hn2) (room_caller hk) (fun base kb gb => (hF base kb gb).ok) fun H hS => ?_
  obtain ⟨μ, hA⟩ := A ns hlen
  refine ⟨by rw [ha]; rfl, [.scr ns], [], [], [], 0, by simp only [RepL, Rep]; exact ⟨_, [], rfl, ⟨a, rfl, hS⟩, rfl⟩, fun i z h e => (by cases e), ?_, fun x h => by simp at h, ?_⟩
  · exact ⟨rfl, List.nodup_nil, fun a h => by simp at h, fun i a m h => by simp at h, fun b h => by simp at h, fun z e => by cases e⟩
  · rw [hA]
    intro φ' H' v s m r
    exact r.bl_iff
end Mi

/-! Mi.Q: in, not in; an object of one's own becomes data at once. -/
namespace Mi
open PySem PySem.Spec
open PyProof.Rows hiding St
open L2
def vD : D → Option V
  | .non => some .non
  | .bl b => some (.bl b)
  | .int i => some (.int i)
  | .str x => some (.str x)
  | _ => none
def vDL : List D → Option (List V)
  | [] => some []
  | d :: ds => match vD d, vDL ds with
    | some v, some r => some (v :: r)
    | _, _ => none
/-- x in a list, a tuple of flat items -/
def kIn : D → D → Mem → Option D := fun d e μ => match vD d, (itemsOf μ e).bind vDL with
  | some v, some vs => some (.bl (inV v vs))
  | _, _ => none
def kNotIn : D → D → Mem → Option D := fun d e μ => match vD d, (itemsOf μ e).bind vDL with
  | some v, some vs => some (.bl (!inV v vs))
  | _, _ => none
/-- the last object of one's own becomes data -/
def memBelow (i : Nat) : Nat → Mem → Bool
  | 0, _ => true
  | n + 1, μ => (match μ[n]? with
    | some m => m.below i
    | none => true) && memBelow i n μ
def mFrz (f : EM) : EM := fun a ρ μ => match f a ρ μ with
  | .ok (.ref i) μ1 => if Nat.ble a.base i && (Nat.ble μ.length i && (decide (μ1.length = i + 1) && memBelow i i μ1)) then (match μ1[i]? with
    | some (.dK kvs) => if belowK i kvs then .ok (.dct kvs) (μ1.take i) else .stuck
    | some (.lst ds) => if belowL i ds then .ok (.lst ds) (μ1.take i) else .stuck
    | _ => .stuck) else .stuck
  | .exc c fs μ1 => .exc c fs μ1
  | _ => .stuck
section
variable {hx : Option ExI} {X : Cx} {N : List Str} {sc : Scope} {p : Pg} {q : Cn} {k : Nat} {fs : List Nat} {φ : List Addr} {H : Hp} {σ : St} {μ : Mem} {ρ : Env} {x y : V} {d e : D} {Q : VK}
theorem vD_rep {Y : Wd} {v : V} (r : Rep Y φ H d x) (h : vD d = some v) : x = v ∧ flatV v = true := by
  cases d with
  | non => cases h; exact ⟨r.non_iff, rfl⟩
  | bl b => cases h; exact ⟨r.bl_iff, rfl⟩
  | int b => cases h; exact ⟨r.int_iff, rfl⟩
  | str b => cases h; exact ⟨r.str_iff, rfl⟩
  | _ => simp only [vD] at h; cases h
theorem vDL_rep {Y : Wd} : ∀ {ds : List D} {vs us : List V}, RepL Y φ H ds vs → vDL ds = some us → vs = us ∧ us.all flatV = true
  | [], vs, us, r, h => by
    simp only [vDL, Option.some.injEq] at h
    subst h
    simp only [RepL] at r
    exact ⟨r, rfl⟩
  | d :: ds, vs, us, r, h => by
    simp only [RepL] at r
    obtain ⟨v, t, e, h1, h2⟩ := r
    subst e
    simp only [vDL] at h
    split at h
    · rename_i v1 r1 e1 e2
      cases h
      obtain ⟨h3, h4⟩ := vD_rep h1 e1
      obtain ⟨h5, h6⟩ := vDL_rep h2 e2
      subst h3 h5
      exact ⟨rfl, by rw [List.all_cons, h4, h6]; rfl⟩
    · cases h
theorem in_rep (C : Ctx hx X p q k fs) {v : V} {vs : List V} (hm : MemRep q.Y φ H q.B μ) (rx : Rep q.Y φ H d x) (ry : Rep q.Y φ H e y) (h1 : vD d = some v) (h2 : (itemsOf μ e).bind vDL = some vs) :
    ∃ pa xs, y = .ref pa ∧ (SqL X.K H pa xs ∨ SqT X.K H pa xs) ∧ flatV x = true ∧ xs.all flatV = true ∧ x = v ∧ xs = vs := by
  obtain ⟨e1, h3⟩ := vD_rep rx h1
  obtain ⟨ds, e2, h4⟩ := Option.bind_eq_some_iff.mp h2
  obtain ⟨a, ws, e3, f, g⟩ := items_rep hm ry e2
  obtain ⟨e4, h5⟩ := vDL_rep g h4
  subst e1 e4
  exact ⟨a, ws, e3, by rw [← C.K]; exact f, h3, h5, rfl, rfl⟩
theorem ki_in (C : Ctx hx X p q k fs) : OpR X (compareOp .In) (rK q kIn) := by
  refine wkO op_in_seq fun x y H Q w => ?_
  obtain ⟨φ, μ, d, e, r, hm, rx, ry, h0, h⟩ := w
  unfold kIn at h0
  split at h0
  · rename_i v vs e1 e2
    cases h0
    obtain ⟨a, xs, h1, h2, h3, h4, h5, h6⟩ := in_rep C hm rx ry e1 e2
    subst h5 h6
    exact ⟨a, xs, h1, h2, h3, h4, rK_scal hm h rep_bl⟩
  · cases h0
theorem ki_notIn (C : Ctx hx X p q k fs) : OpR X (compareOp .NotIn) (rK q kNotIn) := by
  refine wkO op_notIn_seq fun x y H Q w => ?_
  obtain ⟨φ, μ, d, e, r, hm, rx, ry, h0, h⟩ := w
  unfold kNotIn at h0
  split at h0
  · rename_i v vs e1 e2
    cases h0
    obtain ⟨a, xs, h1, h2, h3, h4, h5, h6⟩ := in_rep C hm rx ry e1 e2
    subst h5 h6
    exact ⟨a, xs, h1, h2, h3, h4, rK_scal hm h rep_bl⟩
  · cases h0
theorem memBelow_at {i : Nat} : ∀ {n : Nat}, memBelow i n μ = true → ∀ (j : Nat) m, j < n → μ[j]? = some m → m.below i = true
  | 0, _, j, m, h, _ => absurd h (Nat.not_lt_zero _)
  | n + 1, h, j, m, hj, e => by
    simp only [memBelow, Bool.and_eq_true] at h
    by_cases q : j = n
    · subst q
      have := h.1
      rw [e] at this
      exact this
    · exact memBelow_at h.2 j m (by omega) e
theorem pm_frz (C : Ctx hx X p q k fs) {ex : Expr} {f : EM} (h : PE X ex (tM q f)) : PE X ex (tM q (mFrz f)) := wkE h fun σ H Q w => by
  obtain ⟨ρ, μ, φ, he, hm, hp⟩ := w
  refine ⟨ρ, μ, φ, he, hm, ?_⟩
  unfold mFrz at hp
  split at hp
  · rename_i i μ1 e1
    rw [e1]
    split at hp
    · rename_i hb
      simp only [Bool.and_eq_true, decide_eq_true_eq] at hb
      obtain ⟨hb1, hb2, hb3, hb4⟩ := hb
      have hb1 := Nat.le_of_ble_eq_true hb1
      have hb2 := Nat.le_of_ble_eq_true hb2
      intro φ1 H1 s1 m1 v rv
      simp only [Rep] at rv
      obtain ⟨a, e2, g⟩ := rv
      subst e2
      -- the last object is let go
      have st : Step φ (φ1.take i) H H1 := by
        obtain ⟨l, el⟩ := s1.pre
        refine ⟨⟨l.take (i - φ.length), ?_⟩, s1.keep, fun a h n => s1.fresh a (List.mem_of_mem_take h) n, s1.al⟩
        rw [el, List.take_append, List.take_of_length_le (by rw [hm.len]; exact hb2)]
      have m2 : MemRep q.Y (φ1.take i) H1 q.B (μ1.take i) := by
        have m3 : MemRep q.Y φ1 H1 (i :: q.B) μ1 := ⟨m1.len, m1.nd, m1.al, m1.hi, fun b hb => by
          rcases List.mem_cons.mp
                hb with z | z
          · subst z
            exact ⟨by omega, fun j m hj e => memBelow_at hb4 j m hj e⟩
          · exact m1.lo b z, m1.ex⟩
        exact m3.leave fun b hb => Nat.le_trans (C.bs b hb) hb1
      have na := nin_low m1.nd g (Nat.le_refl i)
      split at hp
      · rename_i kvs e3
        split at hp
        · rename_i hk
          obtain ⟨vs, h1, h2⟩ := m1.hi _ _ _ g e3
          exact (Post.at hp st m2) _ (by simp only [Rep]; exact ⟨a, vs, rfl, h1, na, h2.cut hk⟩)
        · exact hp.elim
      · rename_i ds e3
        split at hp
        · rename_i hk
          obtain ⟨vs, h1, h2⟩ := m1.hi _ _ _ g e3
          exact (Post.at hp st m2) _ (by simp only [Rep]; exact ⟨a, vs, rfl, h1, na, h2.cut hk⟩)
        · exact hp.elim
      · exact hp.elim
    · exact hp.elim
  · rename_i c fs1 μ1 e1
    rw [e1]; exact hp
  · exact hp.elim
end
end Mi

/-! Mi.R: several names at once; the head's facts; a law from its head. -/
namespace Mi
open PySem PySem.Spec
open PyProof.Rows hiding St
open L2
section
variable {hx : Option ExI} {X : Cx} {N : List Str} {sc : Scope} {p : Pg} {q : Cn} {k : Nat} {fs : List Nat} {φ : List Addr} {H : Hp} {σ : St} {μ : Mem} {ρ : Env} {x y z : Str} {Dn : Ends}
/-- a, b = v, w -/
theorem ms_par2 (S : Sc X N sc) (hc : X.calm = true) {i j : Nat} {a b : Expr} {fl : LM} {px py pt pos : Pos} {kt k2 : Nat} {pt2 : Pos} (hi : N[i]? = some x) (hj : N[j]? = some y) (hij : i ≠ j) (hv : lnB sc x = true) (hw : lnB sc y = true) (ha : PA X [a, b] (tML q fl))
    (h1 : swappedStores [.Tuple [.Name x px, .Name y py] kt pt] (.Tuple [a, b] k2 pt2) X.env = pure (some [x, y]))
    (h2 : swapsWithSole [.Tuple [.Name x px, .Name y py] kt pt] (.Tuple [a, b] k2 pt2) pos.line X.env = pure false := by rfl) :
    PS X (.Assign [.Tuple [.Name x px, .Name y py] kt pt] (.Tuple [a, b] k2 pt2) pos) (sM q (sPar2 i j fl)) := wkS (ps_par hc (by rw [S.nm]; exact S.nd) (S.slot hi) (S.slot hj) hij (S.lnm hv) (S.lnm hw) ha h1 h2) fun Dn σ H h => by
  obtain ⟨ρ, μ, φ, he, hm, hp⟩ := h
  refine ⟨ρ, μ, φ, he, hm, (SPost.bind hp he).imp fun ds μ1 φ1 H1 s1 m1 p1 vs rvs => ?_⟩
  split at p1
  · rename_i d e
    split at p1
    · exact p1.elim
    · rename_i hx
      simp only [Bool.or_eq_true, not_or, Bool.not_eq_true] at hx
      obtain ⟨v, w, e1, rv, rw'⟩ := rvs.two
      exact ⟨v, w, e1, SPost.nx p1 Step.refl m1 (((he.step s1).set rv hx.1).set rw' hx.2)⟩
  · exact p1.elim
/-- a, b, c = u, v, w -/
theorem ms_par3 (S : Sc X N sc) (hc : X.calm = true) {i j l : Nat} {a b c : Expr} {fl : LM} {px py pz pt pos : Pos} {kt k2 : Nat} {pt2 : Pos} (hi : N[i]? = some x) (hj : N[j]? = some y) (hl : N[l]? = some z) (hij : i ≠ j) (hil : i ≠ l) (hjl : j ≠ l)
    (hv : lnB sc x = true) (hw : lnB sc y = true) (hu : lnB sc z = true) (ha : PA X [a, b, c] (tML q fl))
    (h1 : swappedStores [.Tuple [.Name x px, .Name y py, .Name z pz] kt pt] (.Tuple [a, b, c] k2 pt2) X.env = pure (some [x, y, z]))
    (h2 : swapsWithSole [.Tuple [.Name x px, .Name y py, .Name z pz] kt pt] (.Tuple [a, b, c] k2 pt2) pos.line X.env = pure false := by rfl) :
    PS X (.Assign [.Tuple [.Name x px, .Name y py, .Name z pz] kt pt] (.Tuple [a, b, c] k2 pt2) pos) (sM q (sPar3 i j l fl)) := wkS (ps_par3 hc (by rw [S.nm]; exact S.nd) (S.slot hi) (S.slot hj) (S.slot hl) hij hil hjl (S.lnm hv) (S.lnm hw) (S.lnm hu) ha h1 h2) fun Dn σ H h => by
  obtain ⟨ρ, μ, φ, he, hm, hp⟩ := h
  refine ⟨ρ, μ, φ, he, hm, (SPost.bind hp he).imp fun ds μ1 φ1 H1 s1 m1 p1 vs rvs => ?_⟩
  split at p1
  · rename_i d e g
    split at p1
    · exact p1.elim
    · rename_i hx
      simp only [Bool.or_eq_true, not_or, Bool.not_eq_true] at hx
      simp only [RepL] at rvs
      obtain ⟨v, r1, e1, h3, w, r2, e2, h4, u, r3, e3, h5, e4⟩ := rvs
      subst e4 e3 e2
      exact ⟨v, w, u, e1, SPost.nx p1 Step.refl m1 ((((he.step s1).set h3 hx.1.1).set h4 hx.1.2).set h5 hx.2)⟩
  · exact p1.elim
end

/-! ### the head's facts -/
def obsM (p : Pg) (fn : List He.DefD) (K : PySem.W.Frag) : He.AlD := ((p.glo.all fun x => (He.Fa.glo x).ok K) && ((p.fre.all fun x => (He.Fa.free x).ok K) && ((p.fa.all fun f => f K) && (sysF K && fn.all fun d => d.ok K))), fn.map fun d => He.fnW K d.at_)
def frM (n : Nat) (g : Addr → Option Obj) : PySem.W.Frag := He.frG g (sysModules :: He.asD g n)
def SaysM (p : Pg) (fn : List He.DefD) (K : PySem.W.Frag) : Prop := obsM p fn K = He.valD fn
def hookM (n : Nat) (p : Pg) (fn : List He.DefD) : PySem.W.Hook where
  α := He.AlD
  obs := fun s => obsM p fn (frM n s.heap.get?)
  val := fun _ => He.valD fn
  says := fun _ h => ∃ K : PySem.W.Frag, K.In h ∧ SaysM p fn K
  of := fun _ _ e => ⟨_, He.frG_in, e⟩
  keeps := fun _ _ _ ⟨K, hK, c⟩ k =>
        ⟨K, PySem.W.Frag.In.keeps hK k, c⟩
def obM (n : Nat) (p : Pg) (fn : List He.DefD) (s : PySem.W.SharedT) : He.AlD := obsM p fn (frM n (HandSHeadRun.getT s))
theorem obM_eq (n : Nat) (p : Pg) (fn : List He.DefD) (s : PySem.W.SharedT) : obM n p fn s = (hookM n p fn).obs s.abs := by
  have e : HandSHeadRun.getT s = s.abs.heap.get? := funext (HandSHeadRun.getT_eq s)
  show obsM p fn (frM n (HandSHeadRun.getT s)) = obsM p fn (frM n s.abs.heap.get?)
  rw [e]
section
variable {p : Pg} {fn : List He.DefD} {K : PySem.W.Frag} {P : Program} {w : World} {mg : Str → Option Value} {base : Heap}
theorem SaysM.all (c : SaysM p fn K) : (∀ x ∈ p.glo, (He.Fa.glo x).ok K = true) ∧ (∀ x ∈ p.fre, (He.Fa.free x).ok K = true) ∧ (∀ (i : Nat) f, p.fa[i]? = some f → f K = true) ∧ (∃ o, K.lookup sysModules = some o) ∧ ∀ d ∈ fn, d.ok K = true := by
  have c1 : _ = true := congrArg (fun z : He.AlD => z.1) c
  simp only [obsM, Bool.and_eq_true] at c1
  obtain ⟨h1, h2, h3, h4, h5⟩ := c1
  exact ⟨fun x hx => List.all_eq_true.mp h1 x hx, fun x hx => List.all_eq_true.mp h2 x hx, fun i f hf => List.all_eq_true.mp h3 f (List.mem_of_getElem? hf), Option.isSome_iff_exists.mp h4, fun d hd => List.all_eq_true.mp h5 d hd⟩
theorem SaysM.fun_ (c : SaysM p fn K) {i : Nat} {d : He.DefD} (h : fn[i]? = some d) : ∃ fd, FunD K d.name d.qual d.params d.body d.scope (d.dvs K) (d.kws K) (He.fAd K d.at_) fd := by
  have e : fn.map (fun d => He.fnW K d.at_) = fn.map He.DefD.val := congrArg (fun z : He.AlD => z.2) c
  have e2 : (fn.map fun d => He.fnW K d.at_)[i]? = (fn.map He.DefD.val)[i]? := by rw [e]
  rw [List.getElem?_map,
        List.getElem?_map, h] at e2
  exact He.DefD.funD (Option.some.inj e2) (c.all.2.2.2.2 d (List.mem_of_getElem? h))
theorem SaysM.txt (c : SaysM p fn K) {h : Heap} (kx : K.In h) (gn : h.Ns mainGlobals mg) : Txt P w K mg base p :=
  ⟨fun x hx => He.glo_ok kx gn (c.all.1 x hx), fun x hx => He.free_ok kx gn (c.all.2.1 x hx), c.all.2.2.1, c.all.2.2.2.1⟩
end
/-- a def of the text as the head tells it -/
def dfn (x : Str) (st : Stmt) : He.DefD := ⟨(x, none), x, x, defArgs st, defBody st, defScope st, [], []⟩
def dinit (x q : Str) (st : Stmt) : He.DefD := ⟨(x, some "__init__"), "__init__", q, defArgs st, defBody st, defScope st, [], []⟩
/-- all of a law's text -/
structure LawM (P : Program) (p : Pg) (fn : List He.DefD) (B : Bd) (l : List (Nat × List Str)) (all : List Nat) : Prop where
  exs : ∀ (w : World) (K : PySem.W.Frag) (mg : Str → Option Value) (base : Heap), SaysM p fn K → Txt P w K mg base p → ∀ e ∈ l, ExcAt P w K mg base (He.ga K (p.cnm e.1)) e.2
  hot : ∀ (K : PySem.W.Frag), SaysM p fn K → ∀ f ∈ p.hots, HotAt K p B f
  defs : ∀ (w : World) (K : PySem.W.Frag) (mg : Str → Option Value) (base : Heap), SaysM p fn K → ∀ f ∈ all, DefAt P w K mg base p B l all f
theorem LawM.walk {l : PySem.W.OpenLaw} {n : Nat} {q : Program} {loose : List Str} {XP : (Str → Option Value) → Heap → Prop} {d : DefRec} {p : Pg} {fn : List He.DefD} {B : Bd} {ls : List (Nat × List Str)} {all : List Nat} {kk fl nn : Nat}
    (L : LawM l.prog p fn B ls all) (hn : l.most = some n) (hn2 : n ≤ sizeLine) (hdf : d.params.defaults = []) (hk : Room (2 * kk + 1) callerA)
    (hfl : p.fnm fl = (d.name, none)) (hgl : inB d.name p.glo = true) (hall : fl ∈ all) (ha : p.ari fl = 1)
    (A : ∀ ns : List Int, ns.length ≤ n → ∃ μ, callN B kk fl [.scr ns] 0 [] = .ok (.bl true) μ) :
    PySem.W.WalkO q loose XP (hookM nn p fn).says l.row.toRowW d [] (fun f vs => PySem.call f vs) := by
  refine walk_M (p := p) (B := B) (kk := kk) (fl := fl) hn hn2 hdf hk (fun w mg h Y gn => ?_) A
  obtain ⟨K, kx, c⟩ := Y
  refine ⟨K, kx, by show He.fAd K (p.fnm fl) = _; rw [hfl]; rfl, He.glo_ok kx gn (c.all.1 _ (inB_mem hgl)), fun base kb gb => ?_, ha⟩
  have T : Txt l.prog w K mg base p := c.txt kx gn
  exact fn_all T (L.exs w K mg base c T) (L.hot K c) (L.defs w K mg base c) kk fl hall
end Mi
namespace Mi
open PySem PySem.Spec
/-- an environment of that scope -/
def envS (sc : Scope) : PySem.Env := { (default : PySem.Env) with scope := sc }
theorem sw_of {X : L2.Cx} {sc : Scope} (h : X.env.scope = sc) {ts : List Expr} {v : Expr} {r : Sem (Option (List Str))} (e : swappedStores ts v (envS sc) = r) : swappedStores ts v X.env = r := by
  have k1 : ∀ y, X.env.kindOf y = (envS sc).kindOf y := fun y => by unfold PySem.Env.kindOf; rw [h]; rfl
  have k2 : X.env.blockKind = (envS sc).blockKind := by unfold PySem.Env.blockKind; rw [h]; rfl
  rw [← e]
  unfold swappedStores
  simp only [k1, k2]
end Mi
namespace Mi
open PySem PySem.Spec
open PyProof.Rows hiding St
open L2
section
variable {hx : Option ExI} {X : Cx} {p : Pg} {q : Cn} {k : Nat} {fs : List Nat}
theorem is_cls (C : Ctx hx X p q k fs) {c : Nat} {x : Str} (h : p.cnm c = x) : ∀ (φ : List Addr) (H : Hp) (v : V) (u : Value), Rep q.Y φ H (.cls c) v → RelV v u → u = (fun K => Value.ref (He.ga K x)) X.K := fun φ H v u r rv => by
  simp only [Rep] at r
  subst r
  cases rv
  show Value.ref (q.Y.cl c) = _
  rw [C.Y]
  show Value.ref (He.ga X.K (p.cnm c)) = _
  rw [h]
theorem is_ty (C : Ctx hx X p q k fs) {n : String} : ∀ (φ : List Addr) (H : Hp) (v : V) (u : Value), Rep q.Y φ H (.ty n) v → RelV v u → u = (fun _ => Value.type n) X.K := fun φ H v u r rv => by
  simp only [Rep] at r
  subst r
  cases rv
  rfl
end
/-- turns of a while loop -/
def bigF : Nat := 1099511627776
end Mi

/-! Mi.S: the pen, a draw. -/
namespace Mi
open PySem
def penSM : SM :=
   sSeq (sAsg (mC (.int 0)) (gVar 1))
   (sSeq (sFor (iSeq (mVar 0)) (gVar 2) (sAsg (mBin kMod (mOps kInt (mCons (mBin kAdd (mBin kMul (mVar 1) (mC (.int 47))) (mVar 2)) (mNil))) (mC (.int 1000000007))) (gVar 1)))
   (sRet (mDictN [(mC (.str "cells"), mOps kList (mCons (mVar 0) (mNil))), (mC (.str "at"), mC (.int 0)), (mC (.str "digits"), mC (.int 0)), (mC (.str "count"), mC (.int 0)), (mC (.str "fold"), mVar 1)])))
def drawSM : SM :=
   sSeq (sAsg (mBin kAdd (mBin kDGet (mVar 0) (mC (.str "count"))) (mC (.int 1))) (gSubM (mVar 0) (mC (.str "count"))))
   (sSeq (sIf (mAnd (mTst (mBin kEq (mBin kDGet (mVar 0) (mC (.str "digits"))) (mC (.int 0)))) (mTst (mBin kLt (mBin kDGet (mVar 0) (mC (.str "at"))) (mOps kLen (mCons (mBin kDGet (mVar 0) (mC (.str "cells"))) (mNil)))))) (sSeq (sAsg (mBin kSub2 (mBin kDGet (mVar 0) (mC (.str "cells"))) (mBin kDGet (mVar 0) (mC (.str "at")))) (gVar 3))
   (sSeq (sAsg (mBin kAdd (mBin kDGet (mVar 0) (mC (.str "at"))) (mC (.int 1))) (gSubM (mVar 0) (mC (.str "at"))))
   (sIf (mTst (mBin kGe (mVar 3) (mBin kPow (mC (.int 10)) (mC (.int 18))))) (sAsg (mBin kSub (mVar 3) (mBin kPow (mC (.int 10)) (mC (.int 18)))) (gSubM (mVar 0) (mC (.str "digits")))) (sAsg (mBin kMod (mOps kInt (mCons (mBin kAdd (mBin kMul (mBin kDGet (mVar 0) (mC (.str "fold"))) (mC (.int 69069))) (mVar 3)) (mNil))) (mC (.int 2147483587))) (gSubM (mVar 0) (mC (.str "fold"))))))) (sNil))
   (sSeq (sIf (mTst (mBin kGt (mBin kDGet (mVar 0) (mC (.str "digits"))) (mC (.int 0)))) (sSeq (sAsg (mBin kMod (mOps kInt (mCons (mBin kDGet (mVar 0) (mC (.str "digits"))) (mNil))) (mVar 1)) (gVar 4))
   (sSeq (sAsg (mBin kDiv (mBin kDGet (mVar 0) (mC (.str "digits"))) (mVar 1)) (gSubM (mVar 0) (mC (.str "digits"))))
   (sRet (mVar 4)))) (sNil))
   (sSeq (sAsg (mBin kMod (mOps kInt (mCons (mBin kAdd (mBin kAdd (mBin kMul (mBin kDGet (mVar 0) (mC (.str "fold"))) (mC (.int 48271))) (mBin kMul (mBin kDGet (mVar 0) (mC (.str "count"))) (mC (.int 7919)))) (mC (.int 13))) (mNil))) (mC (.int 2147483647))) (gVar 2))
   (sSeq (sAsg (mBin kMod (mOps kInt (mCons (mBin kAdd (mBin kAdd (mBin kMul (mVar 2) (mVar 2)) (mBin kMul (mC (.int 31)) (mVar 2))) (mBin kDGet (mVar 0) (mC (.str "count")))) (mNil))) (mC (.int 2147483629))) (gVar 2))
   (sSeq (sAsg (mBin kMod (mOps kInt (mCons (mBin kAdd (mBin kMul (mVar 2) (mC (.int 16807))) (mC (.int 7))) (mNil))) (mC (.int 2147483647))) (gSubM (mVar 0) (mC (.str "fold"))))
   (sRet (mBin kMod (mOps kInt (mCons (mBin kDiv (mVar 2) (mC (.int 64))) (mNil))) (mVar 1))))))))
/-- the pen: cells, at, digits, count, fold -/
def penK (cs : List Int) (a g n f : Int) : List (L2.Key × D) := [(.inr "cells", .lst (cs.map .int)), (.inr "at", .int a), (.inr "digits", .int g), (.inr "count", .int n), (.inr "fold", .int f)]
def penO (cs : List Int) (a g n f : Int) : MO := .dK (penK cs a g n f)
/-- what stays true of a pen -/
structure PenOk (a g : Int) : Prop where
  a0 : 0 ≤ a
  g0 : 0 ≤ g
section
variable {cs : List Int} {a g n f v : Int} {rest : Mem} {ar : Ar} {ρ : Env} {base : Nat}
theorem pen_cells : lookK (penK cs a g n f) (.inr "cells") = some (.lst (cs.map .int)) := rfl
theorem pen_at : lookK (penK cs a g n f) (.inr "at") = some (.int a) := rfl
theorem pen_digits : lookK (penK cs a g n f) (.inr "digits") = some (.int g) := rfl
theorem pen_count : lookK (penK cs a g n f) (.inr "count") = some (.int n) := rfl
theorem pen_fold : lookK (penK cs a g n f) (.inr "fold") = some (.int f) := rfl
theorem put_at : putD (penK cs a g n f) (.inr "at") (.int v) = penK cs v g n f := rfl
theorem put_digits : putD (penK cs a g n f) (.inr "digits") (.int v) = penK cs a v n f := rfl
theorem put_count : putD (penK cs a g n f) (.inr "count") (.int v) = penK cs a g v f := rfl
theorem put_fold : putD (penK cs a g n f) (.inr "fold") (.int v) = penK cs a g n v := rfl
theorem below_ints (b : Nat) : ∀ cs : List Int, belowL b (cs.map .int) = true
  | [] => rfl
  | c :: r => by simp only [List.map_cons, belowL, below, below_ints b r]; rfl
theorem penO_below (b : Nat) : (penO cs a g n f).below b = true := by
  simp only [penO, penK, MO.below, belowK, below, below_ints]; rfl
theorem pget {x : Str} {d : D} (h : lookK (penK cs a g n f) (.inr x) = some d) : mBin kDGet (mVar 0) (mC (.str x)) ar (some (.ref 0) :: ρ) (penO cs a g n f :: rest) = .ok d (penO cs a g n f :: rest) := by
  simp only [mBin, mVar, mC, R.bind, List.getElem?_cons_zero, kDGet, dictOf, toKey, penO]
  rw [h]
theorem pset {fe : EM} {x : Str} {cs' : List Int} {a' g' n' f' : Int} (h : fe ar (some (.ref 0) :: ρ) (penO cs a g n f :: rest) = .ok (.int v) (penO cs a g n f :: rest)) (hp : putD (penK cs a g n f) (.inr x) (.int v) = penK cs' a' g' n' f') :
    sAsg fe (gSubM (mVar 0) (mC (.str x))) ar (some (.ref 0) :: ρ) (penO cs a g n f :: rest) = .nx (some (.ref 0) :: ρ) (penO cs' a' g' n' f' :: rest) := by
  have h1 : okW ar.base 0 (.dK (penK cs' a' g' n' f')) = true := by
    unfold okW
    have := penO_below (cs := cs') (a := a') (g := g') (n := n') (f := f') 0
    unfold penO at this
    rw [this, Bool.or_true]
  have h2 : Nat.blt (penK cs a g n f).length sizeLine = true := by
    show Nat.blt 5 sizeLine = true
    rw [sizeLine_eq]; rfl
  unfold sAsg
  rw [h]
  simp only [sOf, gSubM, mVar, mC, List.getElem?_cons_zero, kSet, penO, toKey, hp, h1, h2, Bool.and_self, if_true, List.set_cons_zero]
end

/-! ### how words answer -/
section
variable {fa fb : EM} {k : D → D → Mem → Option D} {kl : List D → Mem → Option D} {ar : Ar} {ρ : Env} {μ μ1 μ2 : Mem} {d e r : D} {ds : List D} {fl : LM} {b : Bool} {t u : TM} {s1 s2 : SM}
theorem w_bin (ha : fa ar ρ μ = .ok d μ1) (hb : fb ar ρ μ1 = .ok e μ2) (hk : k d e μ2 = some r) : mBin k fa fb ar ρ μ = .ok r μ2 := by
  simp only [mBin, ha, R.bind, hb, hk]
theorem w_ops (hl : fl ar ρ μ = .ok ds μ1) (hk : kl ds μ1 = some r) : mOps kl fl ar ρ μ = .ok r μ1 := by
  simp only [mOps, hl, R.bind, hk]
theorem w_nil : mNil ar ρ μ = .ok [] μ := rfl
theorem w_cons (ha : fa ar ρ μ = .ok d μ1) (hl : fl ar ρ μ1 = .ok ds μ2) : mCons fa fl ar ρ μ = .ok (d :: ds) μ2 := by
  simp only [mCons, ha, R.bind, hl]
theorem w_c : mC d ar ρ μ = .ok d μ := rfl
theorem w_var {i : Nat} (h : ρ[i]? = some (some d)) : mVar i ar ρ μ = .ok d μ := by
  simp only [mVar, h]
theorem w_tst (h : fa ar ρ μ = .ok (.bl b) μ1) : mTst fa ar ρ μ = .ok b μ1 := by
  simp only [mTst, h, R.bind]
theorem w_tru (h : fa ar ρ μ = .ok d μ1) (ht : tru μ1 d = some b) : mTru fa ar ρ μ = .ok b μ1 := by
  simp only [mTru, h, R.bind, ht]
theorem w_and {c : Bool} (h : t ar ρ μ = .ok b μ1) (h2 : b = true → u ar ρ μ1 = .ok c μ2) (h3 : b = false → μ2 = μ1 ∧ c = false) : mAnd t u ar ρ μ = .ok c μ2 := by
  simp only [mAnd, h, R.bind]
  cases b with
  | true => exact h2 rfl
  | false => obtain ⟨e1, e2⟩ := h3 rfl; subst e1 e2; rfl
theorem w_or {c : Bool} (h : t ar ρ μ = .ok b μ1) (h2 : b = false → u ar ρ μ1 = .ok c μ2) (h3 : b = true → μ2 = μ1 ∧ c = true) : mOr t u ar ρ μ = .ok c μ2 := by
  simp only [mOr, h, R.bind]
  cases b with
  | false => exact h2 rfl
  | true => obtain ⟨e1, e2⟩ := h3 rfl; subst e1 e2; rfl
theorem w_not (h : t ar ρ μ = .ok b μ1) : mNot t ar ρ μ = .ok (!b) μ1 := by
  simp only [mNot, h, R.bind]
theorem w_set {i : Nat} (h : fa ar ρ μ = .ok d μ1) (hx : isExn d = false) : sAsg fa (gVar i) ar ρ μ = .nx (ρ.set i (some d)) μ1 := by
  simp only [sAsg, h, sOf, gVar, hx, Bool.false_eq_true, if_false]
theorem w_seq {ρ1 : Env} {o : SR} (h : s1 ar ρ μ = .nx ρ1 μ1) (h2 : s2 ar ρ1 μ1 = o) : sSeq s1 s2 ar ρ μ = o := by
  simp only [sSeq, h, h2]
theorem w_seqR (h : s1 ar ρ μ = .rt d μ1) : sSeq s1 s2 ar ρ μ = .rt d μ1 := by
  simp only [sSeq, h]
theorem w_ret (h : fa ar ρ μ = .ok d μ1) : sRet fa ar ρ μ = .rt d μ1 := by
  simp only [sRet, h, sOf]
theorem w_yes {o : SR} (h : t ar ρ μ = .ok true μ1) (h2 : s1 ar ρ μ1 = o) : sIf t s1 s2 ar ρ μ = o := by
  simp only [sIf, h, sOf, if_true, h2]
theorem w_no {o : SR} (h : t ar ρ μ = .ok false μ1) (h2 : s2 ar ρ μ1 = o) : sIf t s1 s2 ar ρ μ = o := by
  simp only [sIf, h, sOf, Bool.false_eq_true, if_false, h2]
end
theorem kEq_int (i j : Int) (μ : Mem) : kEq (.int i) (.int j) μ = some (.bl (i == j)) := rfl
theorem kNe_int (i j : Int) (μ : Mem) : kNe (.int i) (.int j) μ = some (.bl (!(i == j))) := rfl
theorem kMod_pos {i j : Int} (μ : Mem) (h : 0 < j) : kMod (.int i) (.int j) μ = some (.int (i % j)) := by
  have : (!(j == 0)) = true := by simp; omega
  simp only [kMod, this, if_true]
  rw [Int.fmod_eq_emod_of_nonneg
        _ (by omega)]
theorem divB_small {j : Int} (h : 0 < j) (h2 : j < 1099511627776) : divB j = true := by
  unfold divB
  have h1 : (j == 0) = false := by simp; omega
  rw [h1]
  have : j.natAbs.log2 < 9000 := by
    have : j.natAbs.log2 < 41 := (Nat.log2_lt (by omega)).mpr (by omega)
    omega
  simp [blt_iff.mpr this]
theorem kDiv_pos {i j : Int} (μ : Mem) (h : 0 < j) (h2 : j < 1099511627776) : kDiv (.int i) (.int j) μ = some (.int (i / j)) := by
  simp only [kDiv, divB_small h h2, if_true]
  rw [Int.fdiv_eq_ediv_of_nonneg _ (by omega)]
theorem smB_small {i : Int} (h1 : -18446744073709551616 < i) (h2 : i < 18446744073709551616) : smB i = true := by
  unfold smB; simp [h1, h2]
theorem kMul_r {i j : Int} (μ : Mem) (h1 : -18446744073709551616 < j) (h2 : j < 18446744073709551616) : kMul (.int i) (.int j) μ = some (.int (i * j)) := by
  simp only [kMul, mulB, smB_small h1 h2, Bool.or_true, Bool.true_or, if_true]
theorem kMul_l {i j : Int} (μ : Mem) (h1 : -18446744073709551616 < i) (h2 : i < 18446744073709551616) : kMul (.int i) (.int j) μ = some (.int (i * j)) := by
  simp only [kMul, mulB, smB_small h1 h2, Bool.true_or, if_true]
theorem ints_at {cs : List Int} {a : Int} (h0 : 0 ≤ a) (h1 : a < cs.length) : ∃ c, L2.atI (cs.map D.int) a = some (.int c) := by
  unfold L2.atI
  have : L2.ixN (cs.map D.int).length a = some a.toNat := by
    rw [List.length_map]
    unfold L2.ixN
    rw [if_pos h0, if_pos h1]
  rw [this]
  have hl : a.toNat < cs.length := by omega
  exact ⟨cs[a.toNat], by simp [hl]⟩

/-! ### a draw -/
def draw1 : SM := sAsg (mBin kAdd (mBin kDGet (mVar 0) (mC (.str "count"))) (mC (.int 1))) (gSubM (mVar 0) (mC (.str "count")))
section
variable {cs : List Int} {a g n f m : Int} {rest : Mem} {ar : Ar} {ρ : Env}
theorem pgetI {x : Str} {i : Int} (h : lookK (penK cs a g n f) (.inr x) = some (.int i)) {k : D → D → Mem → Option D} {fb : EM} {e r : D} (hb : fb ar (some (.ref 0) :: ρ) (penO cs a g n f :: rest) = .ok e (penO cs a g n f :: rest)) (hk : k (.int i) e (penO cs a g n f :: rest) = some r) :
    mBin k (mBin kDGet (mVar 0) (mC (.str x))) fb ar (some (.ref 0) :: ρ) (penO cs a g n f :: rest) = .ok r (penO cs a g n f :: rest) := w_bin (pget h) hb hk
theorem w_int1 {fa : EM} {μ : Mem} {i : Int} {μ1 : Mem} (h : fa ar ρ μ = .ok (.int i) μ1) : mOps kInt (mCons fa mNil) ar ρ μ = .ok (.int i) μ1 := w_ops (w_cons h w_nil) rfl
/-- the second step of a draw: a cell, or the digits left -/
theorem draw_mid (h0 : 0 ≤ a) (hg : 0 ≤ g) : ∃ (c3 : Option D) (a' g' f' : Int), 0 ≤ a' ∧ 0 ≤ g' ∧
    sIf (mAnd (mTst (mBin kEq (mBin kDGet (mVar 0) (mC (.str "digits"))) (mC (.int 0)))) (mTst (mBin kLt (mBin kDGet (mVar 0) (mC (.str "at"))) (mOps kLen (mCons (mBin kDGet (mVar 0) (mC (.str "cells"))) (mNil)))))) (sSeq (sAsg (mBin kSub2 (mBin kDGet (mVar 0) (mC (.str "cells"))) (mBin kDGet (mVar 0) (mC (.str "at")))) (gVar 3))
   (sSeq (sAsg (mBin kAdd (mBin kDGet (mVar 0) (mC (.str "at"))) (mC (.int 1))) (gSubM (mVar 0) (mC (.str "at"))))
   (sIf (mTst (mBin kGe (mVar 3) (mBin kPow (mC (.int 10)) (mC (.int 18))))) (sAsg (mBin kSub (mVar 3) (mBin kPow (mC (.int 10)) (mC (.int 18)))) (gSubM (mVar 0) (mC (.str "digits")))) (sAsg (mBin kMod (mOps kInt (mCons (mBin kAdd (mBin kMul (mBin kDGet (mVar 0) (mC (.str "fold"))) (mC (.int 69069))) (mVar 3)) (mNil))) (mC (.int 2147483587))) (gSubM (mVar 0) (mC (.str "fold"))))))) (sNil)
   ar [some (.ref 0), some (.int m), none, none, none] (penO cs a g n f :: rest) = .nx [some (.ref 0), some (.int m), none, c3, none] (penO cs a' g' n f' :: rest) := by
  have hd : mTst (mBin kEq (mBin kDGet (mVar 0) (mC (.str "digits"))) (mC (.int 0))) ar [some (.ref 0), some (.int m), none, none, none] (penO cs a g n f :: rest) = .ok (g == 0) (penO cs a g n f :: rest) := w_tst (pgetI pen_digits w_c rfl)
  have hl : mTst (mBin kLt (mBin kDGet (mVar 0) (mC (.str "at"))) (mOps kLen (mCons (mBin kDGet (mVar 0) (mC (.str "cells"))) (mNil)))) ar [some (.ref 0), some (.int m), none, none, none] (penO cs a g n f :: rest) = .ok (decide (a < (cs.length : Int))) (penO cs a g n f :: rest) :=
    w_tst (pgetI pen_at (w_ops (r := .int (cs.length : Int)) (w_cons (pget pen_cells) w_nil) (by simp only [kLen, listOf, List.length_map])) rfl)
  by_cases c1 : g = 0 ∧ a < cs.length
  · obtain ⟨c1, c2⟩ := c1
    have hc : mAnd _ _ ar [some (.ref 0), some (.int m), none, none, none] (penO cs a g n f :: rest) = .ok true _ := w_and hd (fun _ => hl.trans (by rw [decide_eq_true c2])) (fun e => by simp [c1] at e)
    obtain ⟨c, hcell⟩ := ints_at h0 c2
    have e1 : sAsg (mBin kSub2 (mBin kDGet (mVar 0) (mC (.str "cells"))) (mBin kDGet (mVar 0) (mC (.str "at")))) (gVar 3) ar [some (.ref 0), some (.int m), none, none, none] (penO cs a g n f :: rest) = .nx [some (.ref 0), some (.int m), none, some (.int c), none] (penO cs a g n f :: rest) :=
      w_set (w_bin (pget pen_cells) (pget pen_at) (by simp only [kSub2, dictOf, kIx, listOf]; exact hcell)) rfl
    have e2 : sAsg (mBin kAdd (mBin kDGet (mVar 0) (mC (.str "at"))) (mC (.int 1))) (gSubM (mVar 0) (mC (.str "at"))) ar [some (.ref 0), some (.int m), none, some (.int c), none] (penO cs a g n f :: rest) = .nx [some (.ref 0), some (.int m), none, some (.int c), none] (penO cs (a + 1) g n f :: rest) :=
      pset (pgetI pen_at w_c rfl) put_at
    have p18 : mBin kPow (mC (.int 10)) (mC (.int 18)) ar [some (.ref 0), some (.int m), none, some (.int c), none] (penO cs (a + 1) g n f :: rest) = .ok (.int 1000000000000000000) (penO cs (a + 1) g n f :: rest) := w_bin w_c w_c rfl
    by_cases c3 : 1000000000000000000 ≤ c
    · refine ⟨some (.int c), a + 1, c - 1000000000000000000, f, by omega, by omega, w_yes hc (w_seq e1 (w_seq e2 (w_yes (w_tst (w_bin (w_var rfl) p18 (by simp only [kGe, decide_eq_true c3]))) (pset (w_bin (w_var rfl) p18 rfl) put_digits))))⟩
    · refine ⟨some (.int c), a + 1, g, (f * 69069 + c) % 2147483587, by omega, hg, w_yes hc (w_seq e1 (w_seq e2 (w_no (w_tst (w_bin (w_var rfl) p18 (by simp only [kGe, decide_eq_false c3])))
        (pset (w_bin (w_int1 (w_bin (pgetI pen_fold w_c (kMul_r _ (by decide) (by decide))) (w_var rfl) rfl)) w_c (kMod_pos _ (by decide))) put_fold))))⟩
  · refine ⟨none, a, g, f, h0, hg, w_no (μ1 := penO cs a g n f :: rest) ?_ rfl⟩
    by_cases c2 : g = 0
    · have c3 : ¬ a < (cs.length : Int) := fun z => c1 ⟨c2, z⟩
      exact w_and hd (fun _ => hl.trans (by rw [decide_eq_false c3])) (fun _ => ⟨rfl, rfl⟩)
    · exact w_and hd (fun e => by simp at e; exact absurd e c2) (fun _ => ⟨rfl, rfl⟩)
/-- a draw from m -/
theorem draw_sem (h0 : 0 ≤ a) (hg : 0 ≤ g) (hm : 0 < m) (hm2 : m < 1099511627776) : ∃ (r a' g' n' f' : Int), 0 ≤ r ∧ r < m ∧ 0 ≤ a' ∧ 0 ≤ g' ∧
    drawSM ar [some (.ref 0), some (.int m), none, none, none] (penO cs a g n f :: rest) = .rt (.int r) (penO cs a' g' n' f' :: rest) := by
  obtain ⟨c3, a1, g1, f1, h1, h2, e2⟩ := draw_mid (cs := cs) (n := n + 1) (f := f) (m := m) (rest := rest) (ar := ar) h0 hg
  have e1 : sAsg (mBin kAdd (mBin kDGet (mVar 0) (mC (.str "count"))) (mC (.int 1))) (gSubM (mVar 0) (mC (.str "count"))) ar [some (.ref 0), some (.int m), none, none, none] (penO cs a g n f :: rest) = .nx [some (.ref 0), some (.int m), none, none, none] (penO cs a g (n + 1) f :: rest) :=
    pset (pgetI pen_count w_c rfl) put_count
  have hd : mTst (mBin kGt (mBin kDGet (mVar 0) (mC (.str "digits"))) (mC (.int 0))) ar [some (.ref 0), some (.int m), none, c3, none] (penO cs a1 g1 (n + 1) f1 :: rest) = .ok (decide (0 < g1)) (penO cs a1 g1 (n + 1) f1 :: rest) := w_tst (pgetI pen_digits w_c rfl)
  by_cases c1 : 0 < g1
  · rw [decide_eq_true c1] at hd
    refine ⟨g1 % m, a1, g1 / m, n + 1, f1, Int.emod_nonneg _ (by omega), Int.emod_lt_of_pos _ hm, h1, Int.ediv_nonneg h2 (by omega), w_seq e1 (w_seq e2 (w_seqR (w_yes hd
      (w_seq (w_set (w_bin (w_int1 (pget pen_digits)) (w_var rfl) (kMod_pos _ hm)) rfl) (w_seq (pset (pgetI pen_digits (w_var rfl) (kDiv_pos _ hm hm2)) put_digits) (w_ret (w_var rfl)))))))⟩
  · rw [decide_eq_false c1] at hd
    let b1 : Int := (f1 * 48271 + (n + 1) * 7919 + 13) % 2147483647
    let b2 : Int := (b1 * b1 + 31 * b1 + (n + 1)) % 2147483629
    have hb0 : 0 ≤ b1 := Int.emod_nonneg _ (by decide)
    have hb1 : b1 < 2147483647 := Int.emod_lt_of_pos _ (by decide)
    have hb2 : 0 ≤ b2 := Int.emod_nonneg _ (by decide)
    have hb3 : b2 < 2147483629 := Int.emod_lt_of_pos _ (by decide)
    refine ⟨(b2 / 64) % m, a1, g1, n + 1, (b2 * 16807 + 7) % 2147483647, Int.emod_nonneg _ (by omega), Int.emod_lt_of_pos _ hm, h1, h2, w_seq e1 (w_seq e2 (w_seq (w_no hd rfl) (w_seq (ρ1 := [some (.ref 0), some (.int m), some (.int b1), c3, none]) (μ1 := penO cs a1 g1 (n + 1) f1 :: rest) ?_ (w_seq (ρ1 := [some (.ref 0), some (.int m), some (.int b2), c3, none]) (μ1 := penO cs a1 g1 (n + 1) f1 :: rest) ?_ (w_seq (ρ1 := [some (.ref 0), some (.int m), some (.int b2), c3, none]) (μ1 := penO cs a1 g1 (n + 1) ((b2 * 16807 + 7) % 2147483647) :: rest) ?_ ?_)))))⟩
    · exact w_set (w_bin (w_int1 (w_bin (w_bin (pgetI pen_fold w_c (kMul_r _ (by decide) (by decide))) (pgetI pen_count w_c (kMul_r _ (by decide) (by decide))) rfl) w_c rfl)) w_c (kMod_pos _ (by decide))) rfl
    · exact w_set (w_bin (w_int1 (w_bin (w_bin (w_bin (w_var rfl) (w_var rfl) (kMul_r _ (by omega) (by omega))) (w_bin w_c (w_var rfl) (kMul_l _ (by decide) (by decide))) rfl) (pget pen_count) rfl)) w_c (kMod_pos _ (by decide))) rfl
    · exact pset (w_bin (w_int1 (w_bin (w_bin (w_var rfl) w_c (kMul_r _ (by decide) (by decide))) w_c rfl)) w_c (kMod_pos _ (by decide))) put_fold
    · exact w_ret (w_bin (w_int1 (w_bin (w_var rfl) w_c (kDiv_pos _ (by decide) (by decide)))) (w_var rfl) (kMod_pos _ hm))
end
end Mi

/-! Mi.T: how long a shown datum is; more words' answers. -/
namespace Mi
open PySem PySem.Builtin.Str
def okS (x : Str) : Prop := ∀ c ∈ x.cps.toList, c < 16 ^ 8
theorem okS_app {x y : Str} (hx : okS x) (hy : okS y) : okS (x ++ y) := fun c h => by
  have h : c ∈ (x.cps ++ y.cps).toList := h
  rw [Array.toList_append] at h
  rcases List.mem_append.mp h with z | z
  · exact hx c z
  · exact hy c z
theorem okS_str (s : String) : okS (Str.ofString s) := fun c h => by
  rw [Str.ofString_eq_toList] at h
  simp only [List.mem_map] at h
  obtain ⟨d, _, e⟩ := h
  rw [← e]
  exact d.val.toNat_lt
theorem okS_nil : okS Str.empty := fun c h => by simp [Str.empty] at h
theorem okC_rep (q c : Nat) (hq : q < 16 ^ 8) (hc : c < 16 ^ 8) : ∀ e ∈ reprChar q c, e < 16 ^ 8 := by
  have hex : ∀ w, ∀ e ∈ (List.replicate (w - ((Nat.toDigits 16 c).map Char.toNat).length) 48 ++ (Nat.toDigits 16 c).map Char.toNat), e < 16 ^ 8 := fun w e he => by
    rcases List.mem_append.mp he with z | z
    · rw [List.eq_of_mem_replicate z]; decide
    · obtain ⟨d, _, e2⟩ := List.mem_map.mp z
      rw [← e2]
      exact d.val.toNat_lt
  unfold reprChar
  dsimp only
  intro e he
  repeat' split at he
  all_goals first
    | (simp only [List.mem_cons, List.not_mem_nil, or_false] at he; omega)
    | (rcases List.mem_append.mp he with z | z
       · simp only [List.mem_cons, List.not_mem_nil, or_false] at z; omega
       · exact hex _ e z)
theorem okS_fold (q : Nat) (hq : q < 16 ^ 8) : ∀ (l : List Nat) (acc : Array Nat), (∀ c ∈ l, c < 16 ^ 8) → (∀ c ∈ acc.toList, c < 16 ^ 8) → ∀ c ∈ (l.foldl (fun out c => out ++ (reprChar q c).toArray) acc).toList, c < 16 ^ 8
  | [], acc, _, h => h
  | d :: r, acc, hl, h => by
    simp only [List.foldl_cons]
    refine okS_fold q hq r _ (fun c hc => hl c (List.mem_cons_of_mem _ hc)) fun c hc => ?_
    rw [Array.toList_append] at hc
    rcases List.mem_append.mp hc with z | z
    · exact h c z
    · exact okC_rep q d hq (hl d List.mem_cons_self) c z
theorem okS_repr {x : Str} (h : okS x) : okS (reprText x) := fun c hc => by
  have hq : reprQuote x < 16 ^ 8 := by
    unfold reprQuote
    split <;> decide
  unfold reprText at hc
  have hc : c ∈ ((x.cps.foldl (fun out c => out ++ (reprChar (reprQuote x) c).toArray) #[reprQuote x]).push (reprQuote x)).toList := hc
  rw [Array.toList_push, ← Array.foldl_toList] at hc
  rcases List.mem_append.mp hc with z | z
  · exact okS_fold _ hq _ _ h (fun c h => by simp at h; rw [h]; exact hq) c z
  · simp at z; rw [z]; exact hq
theorem okS_join {s : Str} (hs : okS s) : ∀ {ts : List Str}, (∀ t ∈ ts, okS t) → okS (Str.join s ts)
  | [], _ => okS_nil
  | [x], h => h x (by simp)
  | x :: y :: r, h => by
    show okS (x ++ s ++ Str.join s (y :: r))
    exact okS_app (okS_app (h x (by simp)) hs) (okS_join hs fun t ht => h t (List.mem_cons_of_mem _ ht))
theorem okS_from : ∀ (ts : List Str) (k : Nat) {acc : Str}, okS acc → (∀ t ∈ ts, okS t) → okS (textFrom k acc ts)
  | [], _, _, h, _ => h
  | t :: r, k, acc, h, ht => okS_from r (k + 1) (okS_app (okS_app h (okS_str _)) (ht t (by simp))) fun u hu => ht u (List.mem_cons_of_mem _ hu)
def lenL : List Str → Nat
  | [] => 0
  | t :: r => t.length + 2 + lenL r
theorem join_len {s : Str} (hs : s.length = 2) : ∀ ts : List Str, (Str.join s ts).length ≤ lenL ts
  | [] => Nat.le_refl 0
  | [x] => by show x.length ≤ x.length + 2 + 0; omega
  | x :: y :: r => by
    show (x ++ s ++ Str.join s (y :: r)).length ≤ _
    rw [strLen_append, strLen_append, hs]
    have := join_len hs (y :: r)
    simp only [lenL] at this ⊢
    omega
theorem from_len : ∀ (ts : List Str) (k : Nat) (acc : Str), (textFrom k acc ts).length ≤ acc.length + lenL ts
  | [], _, acc => by simp only [textFrom, lenL]; omega
  | t :: r, k, acc => by
    have ih := from_len r (k + 1) (acc ++ (if k > 0 then ", " else "" : String) ++ t)
    rw [strLen_append, strLen_append] at ih
    have : (Str.ofString (if k > 0 then ", " else "")).length ≤ 2 := by
      split
      · exact Nat.le_refl 2
      · exact Nat.zero_le 2
    simp only [textFrom, lenL]
    omega
mutual
/-- a bound of the shown text's length -/
def szP : PyData → Nat
  | .none => 4
  | .bool _ => 5
  | .int i => (Str.ofString (toString i)).length
  | .str x => 10 * x.length + 2
  | .list xs => szL xs + 2
  | .tuple xs => szL xs + 3
  | .dict kvs => szK kvs + 2
def szL : List PyData → Nat
  | [] => 0
  | x :: r => szP x + 2 + szL r
def szK : List (PyData × PyData) → Nat
  | [] => 0
  | (k, v) :: r => szP k + szP v + 4 + szK r
end
mutual
def strsOk : PyData → Prop
  | .none => True
  | .bool _ => True
  | .int _ => True
  | .str x => okS x
  | .list xs => strsOkL xs
  | .tuple xs => strsOkL xs
  | .dict kvs => strsOkK kvs
def strsOkL : List PyData → Prop
  | [] => True
  | x :: r => strsOk x ∧ strsOkL r
def strsOkK : List (PyData × PyData) → Prop
  | [] => True
  | (k, v) :: r => strsOk k ∧ strsOk v ∧ strsOkK r
end
mutual
theorem shown_sz : ∀ {p : PyData}, strsOk p → p.shown.length ≤ szP p ∧ okS p.shown
  | .none, _ => by
    simp only [PyData.shown, szP]
    exact ⟨Nat.le_refl 4, okS_str _⟩
  | .bool b, _ => by
    simp only [PyData.shown, szP]
    cases b
    · exact ⟨Nat.le_refl 5, okS_str _⟩
    · exact ⟨(by decide : 4 ≤ 5), okS_str _⟩
  | .int i, _ => by
    simp only [PyData.shown, szP]
    exact ⟨Nat.le_refl _, okS_str _⟩
  | .str x, h => by
    simp only [strsOk] at h
    simp only [PyData.shown, szP]
    exact ⟨PySem.StrLaws.reprText_len x h, okS_repr h⟩
  | .list xs, h => by
    simp only [strsOk] at h
    obtain ⟨h1, h2⟩ := shown_szL h
    simp only [PyData.shown, szP]
    refine ⟨?_, okS_app (okS_from _ 0 (okS_str _) h2) (okS_str _)⟩
    unfold listText
    rw [strLen_append]
    have := from_len (PyData.shownAll xs) 0 (Str.ofString "[")
    have e1 : (Str.ofString "[").length = 1 := rfl
    have e2 : (Str.ofString "]").length = 1 := rfl
    omega
  | .tuple xs, h => by
    simp only [strsOk] at h
    obtain ⟨h1, h2⟩ := shown_szL h
    simp only [PyData.shown, szP]
    refine ⟨?_, okS_app (okS_app (okS_str _) (okS_join (okS_str _) h2)) (okS_str _)⟩
    unfold tupleText
    rw [strLen_append,
          strLen_append]
    have := join_len (s := Str.ofString ", ") rfl (PyData.shownAll xs)
    have e1 : (Str.ofString "(").length = 1 := rfl
    have e2 : (Str.ofString (if (PyData.shownAll xs).length == 1 then ",)" else ")")).length ≤ 2 := by
      split
      · exact Nat.le_refl 2
      · exact (by decide : 1 ≤ 2)
    omega
  | .dict kvs, h => by
    simp only [strsOk] at h
    obtain ⟨h1, h2⟩ := shown_szK h
    simp only [PyData.shown, szP]
    refine ⟨?_, okS_app (okS_app (okS_str _) (okS_join (okS_str _) h2)) (okS_str _)⟩
    unfold dictText
    rw [strLen_append,
          strLen_append]
    have := join_len (s := Str.ofString ", ") rfl (PyData.shownKv kvs)
    have e1 : (Str.ofString "{").length = 1 := rfl
    have e2 : (Str.ofString "}").length = 1 := rfl
    omega
theorem shown_szL : ∀ {ps : List PyData}, strsOkL ps → lenL (PyData.shownAll ps) ≤ szL ps ∧ ∀ t ∈ PyData.shownAll ps, okS t
  | [], _ => ⟨Nat.le_refl 0, fun t h => by simp [PyData.shownAll] at h⟩
  | x :: r, h => by
    simp only [strsOkL] at h
    obtain ⟨h1, h2⟩ := shown_sz h.1
    obtain ⟨h3, h4⟩ := shown_szL h.2
    simp only [PyData.shownAll, lenL, szL]
    refine ⟨by omega, fun t ht => ?_⟩
    rcases List.mem_cons.mp ht with z | z
    · rw [z]; exact h2
    · exact h4 t z
theorem shown_szK : ∀ {ps : List (PyData × PyData)}, strsOkK ps → lenL (PyData.shownKv ps) ≤ szK ps ∧ ∀ t ∈ PyData.shownKv ps, okS t
  | [], _ => ⟨Nat.le_refl 0, fun t h => by simp [PyData.shownKv] at h⟩
  | (k, v) :: r, h => by
    simp only [strsOkK] at h
    obtain ⟨h1, h2⟩ := shown_sz h.1
    obtain ⟨h5, h6⟩ := shown_sz h.2.1
    obtain ⟨h3, h4⟩ := shown_szK h.2.2
    simp only [PyData.shownKv, lenL, szK]
    rw [strLen_append,
          strLen_append]
    have e1 : (Str.ofString ": ").length = 2 := rfl
    refine ⟨by omega, fun t ht => ?_⟩
    rcases List.mem_cons.mp ht with z | z
    · rw [z]; exact okS_app (okS_app h2 (okS_str _)) h6
    · exact h4 t z
end
/-- an int's text -/
theorem int_len {i : Int} (h1 : -18446744073709551616 < i) (h2 : i < 18446744073709551616) : (Str.ofString (toString i)).length ≤ 65 := by
  have : (toString i).length ≤ 64 + 1 := int_text_length_le (by decide) (by
    by_cases z : i.natAbs = 0
    · rw [z]; decide
    · exact (Nat.log2_lt z).mpr (by omega))
  rw [Str.ofString_eq_toList]
  show ((toString i).toList.map Char.toNat).toArray.size ≤ 65
  rw [List.size_toArray,
        List.length_map]
  have e : (toString i).toList.length = (toString i).length := by first | exact String.length_toList | rfl | simp [String.length]
  omega
theorem kRepr_of {d : D} {μ : Mem} {p : PyData} (h : toRv μ d = some p) (hs : p.showable = true) (hd : p.depth < 60) (ho : strsOk p) (hz : szP p ≤ 16777216) : kRepr [d] μ = some (.str p.shown) := by
  have h1 : szB p.shown.length = true := Nat.ble_eq_true_of_le (by rw [sizeLine_eq]; exact Nat.le_trans (shown_sz ho).1 hz)
  simp only [kRepr, h, hs, blt_iff.mpr hd, h1, Bool.and_self, if_true]
theorem callH_s (B : Bd) (k c : Nat) (fs : List (Str × D)) (f : Nat) (ds : List D) (b : Nat) (μ : Mem) : callH B (k + 1) c fs f ds b μ = fin (B.kp f) μ.length (B.b f { g := callH B k c fs, base := μ.length, h := fun _ _ => noG, ex := some (c, fs) } (startE (B.n f) ds) μ) := rfl
theorem callN_s (B : Bd) (k : Nat) (f : Nat) (ds : List D) (b : Nat) (μ : Mem) : callN B (k + 1) f ds b μ = fin (B.kp f) μ.length (B.b f { g := callN B k, base := μ.length, h := callH B k, ex := none } (startE (B.n f) ds) μ) := rfl
/-- a call's answer from its body's -/
theorem call_rt {B : Bd} {k f b : Nat} {ds : List D} {μ μ' : Mem} {d : D} (hk : B.kp f = false) (h : B.b f { g := callN B k, base := μ.length, h := callH B k, ex := none } (startE (B.n f) ds) μ = .rt d μ') (hb : below μ.length d = true) : callN B (k + 1) f ds b μ = .ok d (μ'.take μ.length) := by
  rw [callN_s, h]
  have : frz 100 μ.length μ' d = some d := by
    cases d <;> simp only [frz, hb, if_true]
  simp only [fin, hk, Bool.false_eq_true, if_false, this]
theorem ofS_inj {a b : String} : (Str.ofString a = Str.ofString b) ↔ a = b := by
  refine ⟨fun h => ?_, fun h => by rw [h]⟩
  rw [Str.ofString_eq_toList, Str.ofString_eq_toList] at h
  have h1 : (a.toList.map Char.toNat) = b.toList.map Char.toNat := by simpa using congrArg (fun x : Str => x.cps.toList) h
  have h2 : a.toList = b.toList := List.map_inj_right (fun x y e => Char.ext (UInt32.toNat.inj e)) |>.mp h1
  exact String.toList_inj.mp h2
/-- a draw, called -/
theorem draw_call {B : Bd} {fd : Nat} (hB : B.b fd = drawSM) (hn : B.n fd = 5) (hk : B.kp fd = false) {cs : List Int} {a g n f m : Int} {rest : Mem} (k b : Nat) (h0 : 0 ≤ a) (hg : 0 ≤ g) (hm : 0 < m) (hm2 : m < 1099511627776) : ∃ (r a' g' n' f' : Int), 0 ≤ r ∧ r < m ∧ 0 ≤ a' ∧ 0 ≤ g' ∧
    callN B (k + 1) fd [.ref 0, .int m] b (penO cs a g n f :: rest) = .ok (.int r) (penO cs a' g' n' f' :: rest) := by
  obtain ⟨r, a', g', n', f', h1, h2, h3, h4, e⟩ := draw_sem (cs := cs) (n := n) (f := f) (rest := rest) (ar := { g := callN B k, base := (penO cs a g n f :: rest).length, h := callH B k, ex := none }) h0 hg hm hm2
  refine ⟨r, a', g', n', f', h1, h2, h3, h4, ?_⟩
  rw [call_rt hk (by rw [hB, hn]; exact e) rfl]
  simp
theorem pen_loop {a : Ar} {ns : List Int} {μ : Mem} : ∀ (m i : Nat) (f : Int) (c : Option D), i + m = ns.length → ∃ (f' : Int) (c' : Option D), forGo (fun _ i => some ((ns[i]?).map .int)) (gVar 2) (sAsg (mBin kMod (mOps kInt (mCons (mBin kAdd (mBin kMul (mVar 1) (mC (.int 47))) (mVar 2)) (mNil))) (mC (.int 1000000007))) (gVar 1)) a (m + 1) i [some (.scr ns), some (.int f), c] μ = .nx [some (.scr ns), some (.int f'), c'] μ
  | 0, i, f, c, h => by
    refine ⟨f, c, ?_⟩
    have : ns[i]? = none := List.getElem?_eq_none_iff.mpr (by omega)
    simp only [forGo, this, Option.map_none]
  | m + 1, i, f, c, h => by
    have hi : i < ns.length := by omega
    obtain ⟨f', c', e⟩ := pen_loop (a := a) (ns := ns) (μ := μ) m (i + 1) ((f * 47 + ns[i]) % 1000000007) (some (.int ns[i])) (by omega)
    refine ⟨f', c', ?_⟩
    rw [forGo]
    have h1 : ns[i]? = some ns[i] := by simp [hi]
    have hs : sAsg (mBin kMod (mOps kInt (mCons (mBin kAdd (mBin kMul (mVar 1) (mC (.int 47))) (mVar 2)) (mNil))) (mC (.int 1000000007))) (gVar 1) a [some (.scr ns), some (.int f), some (.int ns[i])] μ = .nx [some (.scr ns), some (.int ((f * 47 + ns[i]) % 1000000007)), some (.int ns[i])] μ :=
      w_set (w_bin (w_int1 (w_bin (w_bin (w_var rfl) w_c (kMul_r _ (by decide) (by decide))) (w_var rfl) rfl)) w_c (kMod_pos _ (by decide))) rfl
    simp only [h1, Option.map_some, gVar, isExn, Bool.false_eq_true, if_false, List.set_cons_succ, List.set_cons_zero]
    rw [hs]
    exact e
/-- the pen is made -/
theorem pen_call {B : Bd} {fp : Nat} (hB : B.b fp = penSM) (hn : B.n fp = 3) (hk : B.kp fp = true) (k b : Nat) (ns : List Int) : ∃ f : Int, callN B (k + 1) fp [.scr ns] b [] = .ok (.ref 0) [penO ns 0 0 0 f] := by
  obtain ⟨f, c, e⟩ := pen_loop (a := { g := callN B k, base := 0, h := callH B k, ex := none }) (ns := ns) (μ := []) ns.length 0 0 none (by simp)
  refine ⟨f, ?_⟩
  rw [callN_s, hB, hn, hk]
  have e1 : sAsg (mC (.int 0)) (gVar 1) { g := callN B k, base := 0, h := callH B k, ex := none } [some (.scr ns), none, none] [] = .nx [some (.scr ns), some (.int 0), none] [] := w_set w_c rfl
  have e2 : sFor (iSeq (mVar 0)) (gVar 2) (sAsg (mBin kMod (mOps kInt (mCons (mBin kAdd (mBin kMul (mVar 1) (mC (.int 47))) (mVar 2)) (mNil))) (mC (.int 1000000007))) (gVar 1)) { g := callN B k, base := 0, h := callH B k, ex := none } [some (.scr ns), some (.int 0), none] [] = .nx [some (.scr ns), some (.int f), c] [] := e
  have e3 : sRet (mDictN [(mC (.str "cells"), mOps kList (mCons (mVar 0) (mNil))), (mC (.str "at"), mC (.int 0)), (mC (.str "digits"), mC (.int 0)), (mC (.str "count"), mC (.int 0)), (mC (.str "fold"), mVar 1)]) { g := callN B k, base := 0, h := callH B k, ex := none } [some (.scr ns), some (.int f), c] [] = .rt (.ref 0) [penO ns 0 0 0 f] := rfl
  show fin true 0 (penSM { g := callN B k, base := 0, h := callH B k, ex := none } [some (.scr ns), none, none] []) = _
  have e4 : penSM { g := callN B k, base := 0, h := callH B k, ex := none } [some (.scr ns), none, none] [] = .rt (.ref 0) [penO ns 0 0 0 f] := w_seq e1 (w_seq e2 e3)
  rw [e4]
  rfl
section
variable {ar : Ar} {ρ ρ1 : Env} {μ μ1 : Mem} {d e g : D} {ds : List D} {fl : LM}
theorem w_call {f n : Nat} {r : R D} (hl : fl ar ρ μ = .ok ds μ1) (hn : ds.length = n ∧ noExn ds = true) (hc : ar.g f ds ar.base μ1 = r) : mCallN f n fl ar ρ μ = r := by
  simp only [mCallN, hl, R.bind, hn, and_self, if_true, hc]
theorem w_par3 {i j l : Nat} (hl : fl ar ρ μ = .ok [d, e, g] μ1) (h : isExn d = false ∧ isExn e = false ∧ isExn g = false) : sPar3 i j l fl ar ρ μ = .nx (((ρ.set i (some d)).set j (some e)).set l (some g)) μ1 := by
  simp only [sPar3, hl, sOf, h, Bool.or_self, Bool.false_eq_true, if_false]
theorem w_par2 {i j : Nat} (hl : fl ar ρ μ = .ok [d, e] μ1) (h : isExn d = false ∧ isExn e = false) : sPar2 i j fl ar ρ μ = .nx ((ρ.set i (some d)).set j (some e)) μ1 := by
  simp only [sPar2, hl, sOf, h, Bool.or_self, Bool.false_eq_true, if_false]
end
theorem kNe_self (s : Str) (μ : Mem) : kNe (.str s) (.str s) μ = some (.bl false) := by
  simp only [kNe, beq_self_eq_true, Bool.not_true]
end Mi

namespace Lw
open PySem PySem.Spec
open PyProof.Rows hiding St
open L2 Mi
/-! ### the text -/
abbrev top (i : Nat) : Stmt := PySem.Challenge.pw_carryrows_k01_errors.main.body.getD i (.Pass ⟨0, 0, 0, 0⟩)
abbrev st0 : Stmt := top 19
abbrev st1 : Stmt := top 20
abbrev st2 : Stmt := top 21
abbrev st3 : Stmt := top 22
abbrev st4 : Stmt := top 23
abbrev st5 : Stmt := top 24
abbrev st6 : Stmt := top 25
abbrev st7 : Stmt := top 26
abbrev st8 : Stmt := top 27
abbrev st9 : Stmt := top 28
abbrev st10 : Stmt := top 29
abbrev st11 : Stmt := top 30
abbrev si1 : Stmt := inClass (top 2) 0
abbrev si2 : Stmt := inClass (top 3) 0
abbrev si3 : Stmt := inClass (top 4) 0
abbrev si4 : Stmt := inClass (top 5) 0
abbrev si5 : Stmt := inClass (top 6) 0
abbrev si6 : Stmt := inClass (top 7) 0
abbrev si7 : Stmt := inClass (top 8) 0
abbrev si8 : Stmt := inClass (top 9) 0
abbrev si9 : Stmt := inClass (top 10) 0
abbrev si10 : Stmt := inClass (top 11) 0
abbrev si11 : Stmt := inClass (top 12) 0
abbrev si12 : Stmt := inClass (top 13) 0
abbrev si13 : Stmt := inClass (top 14) 0
abbrev si14 : Stmt := inClass (top 15) 0
def cnms : List Str := ["RowError", "BadNumber", "BadRow", "BadRules", "BadTable", "BadBook", "BadName", "BadText", "NoPlace", "NoName", "TakenName", "Unlike", "NotThere", "TooMany", "NotKept", "NothingToUndo", "NothingToRedo"]
def cnmF (c : Nat) : Str := cnms.getD c ""
def exl : List (Nat × List Str) := [(1, ["what", "number"]), (2, ["what", "row"]), (3, ["what"]), (4, ["what"]), (5, ["what"]), (6, ["name"]), (7, ["line", "word"]), (8, ["what", "index"]), (9, ["name"]), (10, ["name"]), (11, ["what"]), (12, ["paper"]), (13, ["what", "many", "limit"]), (14, ["promise", "witness"]), (15, []), (16, [])]
def gl0 : List Str := ["_law_pen", "_law_draw", "_law_pick", "_law_kinds", "_law_more_kinds", "_law_any_field", "_law_raised", "_law_raised_too", "_law_raised_last", "_law_told", "_law_due_fields", "law"]
def gl1 : List Str := ["RowError", "BadNumber", "BadRow", "BadRules", "BadTable", "BadBook", "BadName", "BadText", "NoPlace", "NoName", "TakenName", "Unlike"]
def gl2 : List Str := ["NotThere", "TooMany", "NotKept", "NothingToUndo", "NothingToRedo"]
def fnms : List (Str × Option Str) := [("_law_pen", none), ("_law_draw", none), ("_law_pick", none), ("_law_kinds", none), ("_law_more_kinds", none), ("_law_any_field", none), ("_law_raised", none), ("_law_raised_too", none), ("_law_raised_last", none), ("_law_told", none), ("_law_due_fields", none), ("law", none)]
def pg : Pg where
  glo := gl0 ++ gl1 ++ gl2
  fre := ["int", "list", "len", "isinstance", "repr", "ValueError", "range"]
  fnm := fun f => fnms.getD f ("", none)
  cnm := cnmF
  ari := fun f => [1, 2, 2, 1, 1, 1, 4, 4, 4, 4, 4, 1].getD f 0
  hots := [3, 4]
  fa := [excF "BadNumber",
    excF "BadRow",
    excF "BadRules",
    excF "BadTable",
    excF "BadBook",
    excF "BadName",
    excF "BadText",
    excF "NoPlace",
    excF "NoName",
    excF "TakenName",
    excF "Unlike",
    excF "NotThere",
    excF "TooMany",
    excF "NotKept",
    excF "NothingToUndo",
    excF "NothingToRedo",
    noatF "BadNumber" ["what", "number"],
    initF "BadNumber",
    noatF "BadRow" ["what", "row"],
    initF "BadRow",
    noatF "BadRules" ["what"],
    initF "BadRules",
    noatF "BadTable" ["what"],
    initF "BadTable",
    noatF "BadBook" ["what"],
    initF "BadBook",
    noatF "BadName" ["name"],
    initF "BadName",
    noatF "BadText" ["line", "word"],
    initF "BadText",
    noatF "NoPlace" ["what", "index"],
    initF "NoPlace",
    noatF "NoName" ["name"],
    initF "NoName",
    noatF "TakenName" ["name"],
    initF "TakenName",
    noatF "Unlike" ["what"],
    initF "Unlike",
    noatF "NotThere" ["paper"],
    initF "NotThere",
    noatF "TooMany" ["what", "many", "limit"],
    initF "TooMany",
    noatF "NotKept" ["promise", "witness"],
    initF "NotKept",
    isF cnmF (fun K => .ref (He.ga K "BadNumber")) [(1, true), (2, false), (3, false), (4, false), (5, false), (6, false), (7, false), (8, false), (9, false), (10, false), (11, false), (12, false), (13, false), (14, false), (15, false), (16, false)],
    isF cnmF (fun K => .ref (He.ga K "BadRow")) [(1, false), (2, true), (3, false), (4, false), (5, false), (6, false), (7, false), (8, false), (9, false), (10, false), (11, false), (12, false), (13, false), (14, false), (15, false), (16, false)],
    isF cnmF (fun K => .ref (He.ga K "BadTable")) [(1, false), (2, false), (3, false), (4, true), (5, false), (6, false), (7, false), (8, false), (9, false), (10, false), (11, false), (12, false), (13, false), (14, false), (15, false), (16, false)],
    isF cnmF (fun K => .ref (He.ga K "BadRules")) [(1, false), (2, false), (3, true), (4, false), (5, false), (6, false), (7, false), (8, false), (9, false), (10, false), (11, false), (12, false), (13, false), (14, false), (15, false), (16, false)],
    isF cnmF (fun K => .ref (He.ga K "BadBook")) [(1, false), (2, false), (3, false), (4, false), (5, true), (6, false), (7, false), (8, false), (9, false), (10, false), (11, false), (12, false), (13, false), (14, false), (15, false), (16, false)],
    isF cnmF (fun K => .ref (He.ga K "BadName")) [(1, false), (2, false), (3, false), (4, false), (5, false), (6, true), (7, false), (8, false), (9, false), (10, false), (11, false), (12, false), (13, false), (14, false), (15, false), (16, false)],
    isF cnmF (fun K => .ref (He.ga K "BadText")) [(1, false), (2, false), (3, false), (4, false), (5, false), (6, false), (7, true), (8, false), (9, false), (10, false), (11, false), (12, false), (13, false), (14, false), (15, false), (16, false)],
    isF cnmF (fun K => .ref (He.ga K "NoPlace")) [(1, false), (2, false), (3, false), (4, false), (5, false), (6, false), (7, false), (8, true), (9, false), (10, false), (11, false), (12, false), (13, false), (14, false), (15, false), (16, false)],
    isF cnmF (fun K => .ref (He.ga K "NoName")) [(1, false), (2, false), (3, false), (4, false), (5, false), (6, false), (7, false), (8, false), (9, true), (10, false), (11, false), (12, false), (13, false), (14, false), (15, false), (16, false)],
    isF cnmF (fun K => .ref (He.ga K "TakenName")) [(1, false), (2, false), (3, false), (4, false), (5, false), (6, false), (7, false), (8, false), (9, false), (10, true), (11, false), (12, false), (13, false), (14, false), (15, false), (16, false)],
    isF cnmF (fun K => .ref (He.ga K "Unlike")) [(1, false), (2, false), (3, false), (4, false), (5, false), (6, false), (7, false), (8, false), (9, false), (10, false), (11, true), (12, false), (13, false), (14, false), (15, false), (16, false)],
    isF cnmF (fun K => .ref (He.ga K "NotThere")) [(1, false), (2, false), (3, false), (4, false), (5, false), (6, false), (7, false), (8, false), (9, false), (10, false), (11, false), (12, true), (13, false), (14, false), (15, false), (16, false)],
    isF cnmF (fun K => .ref (He.ga K "TooMany")) [(1, false), (2, false), (3, false), (4, false), (5, false), (6, false), (7, false), (8, false), (9, false), (10, false), (11, false), (12, false), (13, true), (14, false), (15, false), (16, false)],
    isF cnmF (fun K => .ref (He.ga K "NotKept")) [(1, false), (2, false), (3, false), (4, false), (5, false), (6, false), (7, false), (8, false), (9, false), (10, false), (11, false), (12, false), (13, false), (14, true), (15, false), (16, false)],
    isF cnmF (fun K => .ref (He.ga K "NothingToUndo")) [(1, false), (2, false), (3, false), (4, false), (5, false), (6, false), (7, false), (8, false), (9, false), (10, false), (11, false), (12, false), (13, false), (14, false), (15, true), (16, false)],
    isF cnmF (fun K => .ref (He.ga K "NothingToRedo")) [(1, false), (2, false), (3, false), (4, false), (5, false), (6, false), (7, false), (8, false), (9, false), (10, false), (11, false), (12, false), (13, false), (14, false), (15, false), (16, true)],
    exmF cnmF "RowError" [(1, true), (2, true), (3, true), (4, true), (5, true), (6, true), (7, true), (8, true), (9, true), (10, true), (11, true), (12, true), (13, true), (14, true), (15, true), (16, true)],
    isF cnmF (fun _ => .type "ValueError") [(1, true), (2, true), (3, true), (4, true), (5, true), (6, true), (7, true), (8, true), (9, true), (10, true), (11, true), (12, true), (13, true), (14, true), (15, true), (16, true)],
    fun K => PySem.W.excIn K (He.ga K "NothingToUndo") He.veBase "ValueError.__new__",
    fun K => PySem.W.excIn K (He.ga K "NothingToRedo") He.veBase "ValueError.__new__"]
def all : List Nat := [0, 1, 2, 5, 6, 7, 8, 9, 10, 11]
/-! ### what the bodies do -/
/-- _law_pen -/
def b0 : SM :=
   sSeq (sAsg (mC (.int 0)) (gVar 1))
   (sSeq (sFor (iSeq (mVar 0)) (gVar 2) (sAsg (mBin kMod (mOps kInt (mCons (mBin kAdd (mBin kMul (mVar 1) (mC (.int 47))) (mVar 2)) (mNil))) (mC (.int 1000000007))) (gVar 1)))
   (sRet (mDictN [(mC (.str "cells"), mOps kList (mCons (mVar 0) (mNil))), (mC (.str "at"), mC (.int 0)), (mC (.str "digits"), mC (.int 0)), (mC (.str "count"), mC (.int 0)), (mC (.str "fold"), mVar 1)])))
/-- _law_draw -/
def b1 : SM :=
   sSeq (sAsg (mBin kAdd (mBin kDGet (mVar 0) (mC (.str "count"))) (mC (.int 1))) (gSubM (mVar 0) (mC (.str "count"))))
   (sSeq (sIf (mAnd (mTst (mBin kEq (mBin kDGet (mVar 0) (mC (.str "digits"))) (mC (.int 0)))) (mTst (mBin kLt (mBin kDGet (mVar 0) (mC (.str "at"))) (mOps kLen (mCons (mBin kDGet (mVar 0) (mC (.str "cells"))) (mNil)))))) (sSeq (sAsg (mBin kSub2 (mBin kDGet (mVar 0) (mC (.str "cells"))) (mBin kDGet (mVar 0) (mC (.str "at")))) (gVar 3))
   (sSeq (sAsg (mBin kAdd (mBin kDGet (mVar 0) (mC (.str "at"))) (mC (.int 1))) (gSubM (mVar 0) (mC (.str "at"))))
   (sIf (mTst (mBin kGe (mVar 3) (mBin kPow (mC (.int 10)) (mC (.int 18))))) (sAsg (mBin kSub (mVar 3) (mBin kPow (mC (.int 10)) (mC (.int 18)))) (gSubM (mVar 0) (mC (.str "digits")))) (sAsg (mBin kMod (mOps kInt (mCons (mBin kAdd (mBin kMul (mBin kDGet (mVar 0) (mC (.str "fold"))) (mC (.int 69069))) (mVar 3)) (mNil))) (mC (.int 2147483587))) (gSubM (mVar 0) (mC (.str "fold"))))))) (sNil))
   (sSeq (sIf (mTst (mBin kGt (mBin kDGet (mVar 0) (mC (.str "digits"))) (mC (.int 0)))) (sSeq (sAsg (mBin kMod (mOps kInt (mCons (mBin kDGet (mVar 0) (mC (.str "digits"))) (mNil))) (mVar 1)) (gVar 4))
   (sSeq (sAsg (mBin kDiv (mBin kDGet (mVar 0) (mC (.str "digits"))) (mVar 1)) (gSubM (mVar 0) (mC (.str "digits"))))
   (sRet (mVar 4)))) (sNil))
   (sSeq (sAsg (mBin kMod (mOps kInt (mCons (mBin kAdd (mBin kAdd (mBin kMul (mBin kDGet (mVar 0) (mC (.str "fold"))) (mC (.int 48271))) (mBin kMul (mBin kDGet (mVar 0) (mC (.str "count"))) (mC (.int 7919)))) (mC (.int 13))) (mNil))) (mC (.int 2147483647))) (gVar 2))
   (sSeq (sAsg (mBin kMod (mOps kInt (mCons (mBin kAdd (mBin kAdd (mBin kMul (mVar 2) (mVar 2)) (mBin kMul (mC (.int 31)) (mVar 2))) (mBin kDGet (mVar 0) (mC (.str "count")))) (mNil))) (mC (.int 2147483629))) (gVar 2))
   (sSeq (sAsg (mBin kMod (mOps kInt (mCons (mBin kAdd (mBin kMul (mVar 2) (mC (.int 16807))) (mC (.int 7))) (mNil))) (mC (.int 2147483647))) (gSubM (mVar 0) (mC (.str "fold"))))
   (sRet (mBin kMod (mOps kInt (mCons (mBin kDiv (mVar 2) (mC (.int 64))) (mNil))) (mVar 1))))))))
/-- _law_pick -/
def b2 : SM :=
   sRet (mBin kSub2 (mVar 1) (mCallN 1 2 (mCons (mVar 0) (mCons (mOps kLen (mCons (mVar 1) (mNil))) (mNil)))))
/-- _law_kinds -/
def b3 : SM :=
   sSeq (sAsg (mNew (mOps kLst (mNil))) (gVar 1))
   (sSeq (sIf (mTru (mIsE 0 [(1, true), (2, false), (3, false), (4, false), (5, false), (6, false), (7, false), (8, false), (9, false), (10, false), (11, false), (12, false), (13, false), (14, false), (15, false), (16, false)])) (sDrop (mMut kApp (mVar 1) (mOps kTup (mCons (mC (.str "number")) (mCons (mXf 0 "what" [1, 2, 3, 4, 5, 8, 11, 13]) (mCons (mOps kRepr (mCons (mXf 0 "number" [1]) (mNil))) (mNil))))))) (sNil))
   (sSeq (sIf (mTru (mIsE 0 [(1, false), (2, true), (3, false), (4, false), (5, false), (6, false), (7, false), (8, false), (9, false), (10, false), (11, false), (12, false), (13, false), (14, false), (15, false), (16, false)])) (sDrop (mMut kApp (mVar 1) (mOps kTup (mCons (mC (.str "row")) (mCons (mXf 0 "what" [1, 2, 3, 4, 5, 8, 11, 13]) (mCons (mOps kRepr (mCons (mXf 0 "row" [2]) (mNil))) (mNil))))))) (sNil))
   (sSeq (sIf (mTru (mIsE 0 [(1, false), (2, false), (3, false), (4, true), (5, false), (6, false), (7, false), (8, false), (9, false), (10, false), (11, false), (12, false), (13, false), (14, false), (15, false), (16, false)])) (sDrop (mMut kApp (mVar 1) (mOps kTup (mCons (mC (.str "table")) (mCons (mXf 0 "what" [1, 2, 3, 4, 5, 8, 11, 13]) (mNil)))))) (sNil))
   (sSeq (sIf (mTru (mIsE 0 [(1, false), (2, false), (3, true), (4, false), (5, false), (6, false), (7, false), (8, false), (9, false), (10, false), (11, false), (12, false), (13, false), (14, false), (15, false), (16, false)])) (sDrop (mMut kApp (mVar 1) (mOps kTup (mCons (mC (.str "rules")) (mCons (mXf 0 "what" [1, 2, 3, 4, 5, 8, 11, 13]) (mNil)))))) (sNil))
   (sSeq (sIf (mTru (mIsE 0 [(1, false), (2, false), (3, false), (4, false), (5, true), (6, false), (7, false), (8, false), (9, false), (10, false), (11, false), (12, false), (13, false), (14, false), (15, false), (16, false)])) (sDrop (mMut kApp (mVar 1) (mOps kTup (mCons (mC (.str "book")) (mCons (mXf 0 "what" [1, 2, 3, 4, 5, 8, 11, 13]) (mNil)))))) (sNil))
   (sSeq (sIf (mTru (mIsE 0 [(1, false), (2, false), (3, false), (4, false), (5, false), (6, true), (7, false), (8, false), (9, false), (10, false), (11, false), (12, false), (13, false), (14, false), (15, false), (16, false)])) (sDrop (mMut kApp (mVar 1) (mOps kTup (mCons (mC (.str "badname")) (mCons (mOps kRepr (mCons (mXf 0 "name" [6, 9, 10]) (mNil))) (mNil)))))) (sNil))
   (sSeq (sIf (mTru (mIsE 0 [(1, false), (2, false), (3, false), (4, false), (5, false), (6, false), (7, true), (8, false), (9, false), (10, false), (11, false), (12, false), (13, false), (14, false), (15, false), (16, false)])) (sDrop (mMut kApp (mVar 1) (mOps kTup (mCons (mC (.str "text")) (mCons (mXf 0 "line" [7]) (mCons (mXf 0 "word" [7]) (mNil))))))) (sNil))
   (sRet (mBin kAdd (mVar 1) (mCallX 4 0))))))))))
/-- _law_more_kinds -/
def b4 : SM :=
   sSeq (sAsg (mNew (mOps kLst (mNil))) (gVar 1))
   (sSeq (sIf (mTru (mIsE 0 [(1, false), (2, false), (3, false), (4, false), (5, false), (6, false), (7, false), (8, true), (9, false), (10, false), (11, false), (12, false), (13, false), (14, false), (15, false), (16, false)])) (sDrop (mMut kApp (mVar 1) (mOps kTup (mCons (mC (.str "place")) (mCons (mXf 0 "what" [1, 2, 3, 4, 5, 8, 11, 13]) (mCons (mOps kRepr (mCons (mXf 0 "index" [8]) (mNil))) (mNil))))))) (sNil))
   (sSeq (sIf (mTru (mIsE 0 [(1, false), (2, false), (3, false), (4, false), (5, false), (6, false), (7, false), (8, false), (9, true), (10, false), (11, false), (12, false), (13, false), (14, false), (15, false), (16, false)])) (sDrop (mMut kApp (mVar 1) (mOps kTup (mCons (mC (.str "noname")) (mCons (mOps kRepr (mCons (mXf 0 "name" [6, 9, 10]) (mNil))) (mNil)))))) (sNil))
   (sSeq (sIf (mTru (mIsE 0 [(1, false), (2, false), (3, false), (4, false), (5, false), (6, false), (7, false), (8, false), (9, false), (10, true), (11, false), (12, false), (13, false), (14, false), (15, false), (16, false)])) (sDrop (mMut kApp (mVar 1) (mOps kTup (mCons (mC (.str "taken")) (mCons (mOps kRepr (mCons (mXf 0 "name" [6, 9, 10]) (mNil))) (mNil)))))) (sNil))
   (sSeq (sIf (mTru (mIsE 0 [(1, false), (2, false), (3, false), (4, false), (5, false), (6, false), (7, false), (8, false), (9, false), (10, false), (11, true), (12, false), (13, false), (14, false), (15, false), (16, false)])) (sDrop (mMut kApp (mVar 1) (mOps kTup (mCons (mC (.str "unlike")) (mCons (mXf 0 "what" [1, 2, 3, 4, 5, 8, 11, 13]) (mNil)))))) (sNil))
   (sSeq (sIf (mTru (mIsE 0 [(1, false), (2, false), (3, false), (4, false), (5, false), (6, false), (7, false), (8, false), (9, false), (10, false), (11, false), (12, true), (13, false), (14, false), (15, false), (16, false)])) (sDrop (mMut kApp (mVar 1) (mOps kTup (mCons (mC (.str "notthere")) (mCons (mXf 0 "paper" [12]) (mNil)))))) (sNil))
   (sSeq (sIf (mTru (mIsE 0 [(1, false), (2, false), (3, false), (4, false), (5, false), (6, false), (7, false), (8, false), (9, false), (10, false), (11, false), (12, false), (13, true), (14, false), (15, false), (16, false)])) (sDrop (mMut kApp (mVar 1) (mOps kTup (mCons (mC (.str "many")) (mCons (mXf 0 "what" [1, 2, 3, 4, 5, 8, 11, 13]) (mCons (mXf 0 "many" [13]) (mCons (mXf 0 "limit" [13]) (mNil)))))))) (sNil))
   (sSeq (sIf (mTru (mIsE 0 [(1, false), (2, false), (3, false), (4, false), (5, false), (6, false), (7, false), (8, false), (9, false), (10, false), (11, false), (12, false), (13, false), (14, true), (15, false), (16, false)])) (sDrop (mMut kApp (mVar 1) (mOps kTup (mCons (mC (.str "kept")) (mCons (mXf 0 "promise" [14]) (mCons (mXf 0 "witness" [14]) (mNil))))))) (sNil))
   (sSeq (sIf (mTru (mIsE 0 [(1, false), (2, false), (3, false), (4, false), (5, false), (6, false), (7, false), (8, false), (9, false), (10, false), (11, false), (12, false), (13, false), (14, false), (15, true), (16, false)])) (sDrop (mMut kApp (mVar 1) (mOps kTup (mCons (mC (.str "undo")) (mNil))))) (sNil))
   (sSeq (sIf (mTru (mIsE 0 [(1, false), (2, false), (3, false), (4, false), (5, false), (6, false), (7, false), (8, false), (9, false), (10, false), (11, false), (12, false), (13, false), (14, false), (15, false), (16, true)])) (sDrop (mMut kApp (mVar 1) (mOps kTup (mCons (mC (.str "redo")) (mNil))))) (sNil))
   (sRet (mVar 1)))))))))))
/-- _law_any_field -/
def b5 : SM :=
   sSeq (sAsg (mCallN 1 2 (mCons (mVar 0) (mCons (mC (.int 8)) (mNil)))) (gVar 1))
   (sSeq (sIf (mTst (mBin kEq (mVar 1) (mC (.int 0)))) (sRet (mOps kLst (mCons (mCallN 1 2 (mCons (mVar 0) (mCons (mC (.int 100)) (mNil)))) (mCons (mOps kLst (mNil)) (mNil))))) (sNil))
   (sSeq (sIf (mTst (mBin kEq (mVar 1) (mC (.int 1)))) (sRet (mOps kTup (mCons (mC (.str "a")) (mCons (mOps kTup (mCons (mCallN 1 2 (mCons (mVar 0) (mCons (mBin kPow (mC (.int 10)) (mC (.int 6))) (mNil)))) (mNil))) (mNil))))) (sNil))
   (sRet (mCallN 2 2 (mCons (mVar 0) (mCons (mOps kLst (mCons (mC .non) (mCons (mC (.bl true)) (mCons (mC (.bl false)) (mCons (mC (.int 0)) (mCons (mUn kNeg (mC (.int 1))) (mCons (mC (.str "x")) (mCons (mC (.str "")) (mCons (mBin kPow (mC (.int 10)) (mC (.int 40))) (mCons (mFrz (mDictN [(mC (.str "k"), mC (.int 1))])) (mNil))))))))))) (mNil)))))))
/-- _law_raised -/
def b6 : SM :=
   sSeq (sIf (mTst (mBin kEq (mVar 0) (mC (.int 0)))) (sRaise 1 ["what", "number"] (mCons (mVar 1) (mCons (mVar 2) (mNil)))) (sNil))
   (sSeq (sIf (mTst (mBin kEq (mVar 0) (mC (.int 1)))) (sRaise 2 ["what", "row"] (mCons (mVar 1) (mCons (mVar 2) (mNil)))) (sNil))
   (sSeq (sIf (mTst (mBin kEq (mVar 0) (mC (.int 2)))) (sRaise 4 ["what"] (mCons (mVar 1) (mNil))) (sNil))
   (sSeq (sIf (mTst (mBin kEq (mVar 0) (mC (.int 3)))) (sRaise 5 ["what"] (mCons (mVar 1) (mNil))) (sNil))
   (sSeq (sIf (mTst (mBin kEq (mVar 0) (mC (.int 4)))) (sRaise 6 ["name"] (mCons (mVar 1) (mNil))) (sNil))
   (sSeq (sIf (mTst (mBin kEq (mVar 0) (mC (.int 5)))) (sRaise 7 ["line", "word"] (mCons (mVar 1) (mCons (mVar 2) (mNil)))) (sNil))
   (sIf (mTst (mBin kEq (mVar 0) (mC (.int 6)))) (sRaise 8 ["what", "index"] (mCons (mVar 1) (mCons (mVar 2) (mNil)))) (sNil)))))))
/-- _law_raised_too -/
def b7 : SM :=
   sSeq (sIf (mTst (mBin kEq (mVar 0) (mC (.int 7)))) (sRaise 9 ["name"] (mCons (mVar 1) (mNil))) (sNil))
   (sSeq (sIf (mTst (mBin kEq (mVar 0) (mC (.int 8)))) (sRaise 10 ["name"] (mCons (mVar 1) (mNil))) (sNil))
   (sSeq (sIf (mTst (mBin kEq (mVar 0) (mC (.int 9)))) (sRaise 11 ["what"] (mCons (mVar 1) (mNil))) (sNil))
   (sSeq (sIf (mTst (mBin kEq (mVar 0) (mC (.int 10)))) (sRaise 12 ["paper"] (mCons (mVar 1) (mNil))) (sNil))
   (sSeq (sIf (mTst (mBin kEq (mVar 0) (mC (.int 11)))) (sRaise 13 ["what", "many", "limit"] (mCons (mVar 1) (mCons (mVar 2) (mCons (mVar 3) (mNil))))) (sNil))
   (sSeq (sIf (mTst (mBin kEq (mVar 0) (mC (.int 12)))) (sRaise 14 ["promise", "witness"] (mCons (mVar 1) (mCons (mVar 2) (mNil)))) (sNil))
   (sIf (mTst (mBin kEq (mVar 0) (mC (.int 13)))) (sRaise 15 [] mNil) (sNil)))))))
/-- _law_raised_last -/
def b8 : SM :=
   sSeq (sIf (mTst (mBin kEq (mVar 0) (mC (.int 14)))) (sRaise 16 [] mNil) (sNil))
   (sIf (mTst (mBin kEq (mVar 0) (mC (.int 15)))) (sRaise 3 ["what"] (mCons (mVar 1) (mNil))) (sNil))
/-- _law_told -/
def b9 : SM :=
   sSeq (sAsg (mC .non) (gVar 4))
   (sSeq (sTry (sSeq (sDrop (mCallN 6 4 (mCons (mVar 0) (mCons (mVar 1) (mCons (mVar 2) (mCons (mVar 3) (mNil)))))))
   (sSeq (sDrop (mCallN 7 4 (mCons (mVar 0) (mCons (mVar 1) (mCons (mVar 2) (mCons (mVar 3) (mNil)))))))
   (sDrop (mCallN 8 4 (mCons (mVar 0) (mCons (mVar 1) (mCons (mVar 2) (mCons (mVar 3) (mNil))))))))) (sIf (mTru (mIsE 5 [(1, true), (2, true), (3, true), (4, true), (5, true), (6, true), (7, true), (8, true), (9, true), (10, true), (11, true), (12, true), (13, true), (14, true), (15, true), (16, true)])) (sAsg (mCallX 3 5) (gVar 4)) (sNil)) 5 [(1, true), (2, true), (3, true), (4, true), (5, true), (6, true), (7, true), (8, true), (9, true), (10, true), (11, true), (12, true), (13, true), (14, true), (15, true), (16, true)])
   (sRet (mVar 4)))
/-- _law_due_fields -/
def b10 : SM :=
   sSeq (sAsg (mOps kLst (mCons (mC (.str "number")) (mCons (mC (.str "row")) (mCons (mC (.str "table")) (mCons (mC (.str "book")) (mCons (mC (.str "badname")) (mCons (mC (.str "text")) (mCons (mC (.str "place")) (mCons (mC (.str "noname")) (mNil)))))))))) (gVar 4))
   (sSeq (sAsg (mBin kAdd (mVar 4) (mOps kLst (mCons (mC (.str "taken")) (mCons (mC (.str "unlike")) (mCons (mC (.str "notthere")) (mCons (mC (.str "many")) (mCons (mC (.str "kept")) (mCons (mC (.str "undo")) (mCons (mC (.str "redo")) (mCons (mC (.str "rules")) (mNil))))))))))) (gVar 4))
   (sSeq (sIf (mTst (mBin kIn (mVar 0) (mOps kTup (mCons (mC (.int 0)) (mCons (mC (.int 1)) (mCons (mC (.int 6)) (mNil))))))) (sRet (mOps kTup (mCons (mBin kSub2 (mVar 4) (mVar 0)) (mCons (mVar 1) (mCons (mOps kRepr (mCons (mVar 2) (mNil))) (mNil)))))) (sNil))
   (sSeq (sIf (mTst (mBin kIn (mVar 0) (mOps kTup (mCons (mC (.int 2)) (mCons (mC (.int 3)) (mCons (mC (.int 9)) (mCons (mC (.int 10)) (mCons (mC (.int 15)) (mNil))))))))) (sRet (mOps kTup (mCons (mBin kSub2 (mVar 4) (mVar 0)) (mCons (mVar 1) (mNil))))) (sNil))
   (sSeq (sIf (mTst (mBin kIn (mVar 0) (mOps kTup (mCons (mC (.int 4)) (mCons (mC (.int 7)) (mCons (mC (.int 8)) (mNil))))))) (sRet (mOps kTup (mCons (mBin kSub2 (mVar 4) (mVar 0)) (mCons (mOps kRepr (mCons (mVar 1) (mNil))) (mNil))))) (sNil))
   (sSeq (sIf (mTst (mBin kIn (mVar 0) (mOps kTup (mCons (mC (.int 5)) (mCons (mC (.int 12)) (mNil)))))) (sRet (mOps kTup (mCons (mBin kSub2 (mVar 4) (mVar 0)) (mCons (mVar 1) (mCons (mVar 2) (mNil)))))) (sNil))
   (sRet (mIf (mTst (mBin kEq (mVar 0) (mC (.int 11)))) (mOps kTup (mCons (mBin kSub2 (mVar 4) (mVar 0)) (mCons (mVar 1) (mCons (mVar 2) (mCons (mVar 3) (mNil)))))) (mOps kTup (mCons (mBin kSub2 (mVar 4) (mVar 0)) (mNil))))))))))
/-- law -/
def b11 : SM :=
   sSeq (sAsg (mCallN 0 1 (mCons (mVar 0) (mNil))) (gVar 1))
   (sSeq (sFor (iRange1 (mCons (mC (.int 16)) (mNil))) (gVar 2) (sSeq (sPar3 3 4 5 (mCons (mCallN 5 1 (mCons (mVar 1) (mNil))) (mCons (mCallN 5 1 (mCons (mVar 1) (mNil))) (mCons (mCallN 5 1 (mCons (mVar 1) (mNil))) (mNil)))))
   (sSeq (sAsg (mCallN 9 4 (mCons (mVar 2) (mCons (mVar 3) (mCons (mVar 4) (mCons (mVar 5) (mNil)))))) (gVar 6))
   (sIf (mOr (mTst (mBin kIsN (mVar 6) (mC .non))) (mOr (mTst (mBin kNe (mOps kLen (mCons (mVar 6) (mNil))) (mC (.int 1)))) (mTst (mBin kNe (mOps kRepr (mCons (mBin kSub2 (mVar 6) (mC (.int 0))) (mNil))) (mOps kRepr (mCons (mCallN 10 4 (mCons (mVar 2) (mCons (mVar 3) (mCons (mVar 4) (mCons (mVar 5) (mNil)))))) (mNil))))))) (sRet (mC (.bl false))) (sNil)))))
   (sRet (mC (.bl true))))
def bd : Bd where
  n := fun f => [3, 5, 2, 2, 2, 2, 4, 4, 4, 6, 5, 7].getD f 0
  b := fun f => [b0, b1, b2, b3, b4, b5, b6, b7, b8, b9, b10, b11].getD f sNil
  kp := fun f => [true, false, false, false, false, false, false, false, false, false, false, false].getD f false
/-! ### facts of names -/
def N0 : List Str := ["script", "fold", "cell"]
theorem h0_l_fold : lnB (defScope st0) "fold" = true := by decide +kernel
theorem h0_v_script : vnB (defScope st0) "script" = true := by decide +kernel
theorem h0_l_cell : lnB (defScope st0) "cell" = true := by decide +kernel
theorem h0_v_fold : vnB (defScope st0) "fold" = true := by decide +kernel
theorem h0_v_cell : vnB (defScope st0) "cell" = true := by decide +kernel
theorem h0_g_int : gnB (defScope st0) "int" = true := by decide +kernel
theorem h0_g_list : gnB (defScope st0) "list" = true := by decide +kernel
def N1 : List Str := ["pen", "many", "blend", "cell", "digit"]
theorem h1_v_pen : vnB (defScope st1) "pen" = true := by decide +kernel
theorem h1_g_len : gnB (defScope st1) "len" = true := by decide +kernel
theorem h1_l_cell : lnB (defScope st1) "cell" = true := by decide +kernel
theorem h1_v_cell : vnB (defScope st1) "cell" = true := by decide +kernel
theorem h1_g_int : gnB (defScope st1) "int" = true := by decide +kernel
theorem h1_v_many : vnB (defScope st1) "many" = true := by decide +kernel
theorem h1_l_digit : lnB (defScope st1) "digit" = true := by decide +kernel
theorem h1_v_digit : vnB (defScope st1) "digit" = true := by decide +kernel
theorem h1_l_blend : lnB (defScope st1) "blend" = true := by decide +kernel
theorem h1_v_blend : vnB (defScope st1) "blend" = true := by decide +kernel
def N2 : List Str := ["pen", "some"]
theorem h2_v_some : vnB (defScope st2) "some" = true := by decide +kernel
theorem h2_g_len : gnB (defScope st2) "len" = true := by decide +kernel
theorem h2_v_pen : vnB (defScope st2) "pen" = true := by decide +kernel
theorem h2_g__law_draw : gnB (defScope st2) "_law_draw" = true := by decide +kernel
def N3 : List Str := ["e", "found"]
theorem h3_l_found : lnB (defScope st3) "found" = true := by decide +kernel
theorem h3_g_BadNumber : gnB (defScope st3) "BadNumber" = true := by decide +kernel
theorem h3_g_isinstance : gnB (defScope st3) "isinstance" = true := by decide +kernel
theorem h3_v_e : vnB (defScope st3) "e" = true := by decide +kernel
theorem h3_v_found : vnB (defScope st3) "found" = true := by decide +kernel
theorem h3_g_repr : gnB (defScope st3) "repr" = true := by decide +kernel
theorem h3_g_BadRow : gnB (defScope st3) "BadRow" = true := by decide +kernel
theorem h3_g_BadTable : gnB (defScope st3) "BadTable" = true := by decide +kernel
theorem h3_g_BadRules : gnB (defScope st3) "BadRules" = true := by decide +kernel
theorem h3_g_BadBook : gnB (defScope st3) "BadBook" = true := by decide +kernel
theorem h3_g_BadName : gnB (defScope st3) "BadName" = true := by decide +kernel
theorem h3_g_BadText : gnB (defScope st3) "BadText" = true := by decide +kernel
theorem h3_g__law_more_kinds : gnB (defScope st3) "_law_more_kinds" = true := by decide +kernel
def N4 : List Str := ["e", "found"]
theorem h4_l_found : lnB (defScope st4) "found" = true := by decide +kernel
theorem h4_g_NoPlace : gnB (defScope st4) "NoPlace" = true := by decide +kernel
theorem h4_g_isinstance : gnB (defScope st4) "isinstance" = true := by decide +kernel
theorem h4_v_e : vnB (defScope st4) "e" = true := by decide +kernel
theorem h4_v_found : vnB (defScope st4) "found" = true := by decide +kernel
theorem h4_g_repr : gnB (defScope st4) "repr" = true := by decide +kernel
theorem h4_g_NoName : gnB (defScope st4) "NoName" = true := by decide +kernel
theorem h4_g_TakenName : gnB (defScope st4) "TakenName" = true := by decide +kernel
theorem h4_g_Unlike : gnB (defScope st4) "Unlike" = true := by decide +kernel
theorem h4_g_NotThere : gnB (defScope st4) "NotThere" = true := by decide +kernel
theorem h4_g_TooMany : gnB (defScope st4) "TooMany" = true := by decide +kernel
theorem h4_g_NotKept : gnB (defScope st4) "NotKept" = true := by decide +kernel
theorem h4_g_NothingToUndo : gnB (defScope st4) "NothingToUndo" = true := by decide +kernel
theorem h4_g_NothingToRedo : gnB (defScope st4) "NothingToRedo" = true := by decide +kernel
def N5 : List Str := ["pen", "way"]
theorem h5_v_pen : vnB (defScope st5) "pen" = true := by decide +kernel
theorem h5_g__law_draw : gnB (defScope st5) "_law_draw" = true := by decide +kernel
theorem h5_l_way : lnB (defScope st5) "way" = true := by decide +kernel
theorem h5_v_way : vnB (defScope st5) "way" = true := by decide +kernel
theorem h5_g__law_pick : gnB (defScope st5) "_law_pick" = true := by decide +kernel
def N6 : List Str := ["kind", "one", "two", "three"]
theorem h6_v_kind : vnB (defScope st6) "kind" = true := by decide +kernel
theorem h6_v_two : vnB (defScope st6) "two" = true := by decide +kernel
theorem h6_v_one : vnB (defScope st6) "one" = true := by decide +kernel
theorem h6_g_BadNumber : gnB (defScope st6) "BadNumber" = true := by decide +kernel
theorem h6_g_BadRow : gnB (defScope st6) "BadRow" = true := by decide +kernel
theorem h6_g_BadTable : gnB (defScope st6) "BadTable" = true := by decide +kernel
theorem h6_g_BadBook : gnB (defScope st6) "BadBook" = true := by decide +kernel
theorem h6_g_BadName : gnB (defScope st6) "BadName" = true := by decide +kernel
theorem h6_g_BadText : gnB (defScope st6) "BadText" = true := by decide +kernel
theorem h6_g_NoPlace : gnB (defScope st6) "NoPlace" = true := by decide +kernel
def N7 : List Str := ["kind", "one", "two", "three"]
theorem h7_v_kind : vnB (defScope st7) "kind" = true := by decide +kernel
theorem h7_v_one : vnB (defScope st7) "one" = true := by decide +kernel
theorem h7_g_NoName : gnB (defScope st7) "NoName" = true := by decide +kernel
theorem h7_g_TakenName : gnB (defScope st7) "TakenName" = true := by decide +kernel
theorem h7_g_Unlike : gnB (defScope st7) "Unlike" = true := by decide +kernel
theorem h7_g_NotThere : gnB (defScope st7) "NotThere" = true := by decide +kernel
theorem h7_v_three : vnB (defScope st7) "three" = true := by decide +kernel
theorem h7_v_two : vnB (defScope st7) "two" = true := by decide +kernel
theorem h7_g_TooMany : gnB (defScope st7) "TooMany" = true := by decide +kernel
theorem h7_g_NotKept : gnB (defScope st7) "NotKept" = true := by decide +kernel
theorem h7_g_NothingToUndo : gnB (defScope st7) "NothingToUndo" = true := by decide +kernel
def N8 : List Str := ["kind", "one", "two", "three"]
theorem h8_v_kind : vnB (defScope st8) "kind" = true := by decide +kernel
theorem h8_g_NothingToRedo : gnB (defScope st8) "NothingToRedo" = true := by decide +kernel
theorem h8_v_one : vnB (defScope st8) "one" = true := by decide +kernel
theorem h8_g_BadRules : gnB (defScope st8) "BadRules" = true := by decide +kernel
def N9 : List Str := ["kind", "one", "two", "three", "found", "e"]
theorem h9_l_found : lnB (defScope st9) "found" = true := by decide +kernel
theorem h9_v_three : vnB (defScope st9) "three" = true := by decide +kernel
theorem h9_v_two : vnB (defScope st9) "two" = true := by decide +kernel
theorem h9_v_one : vnB (defScope st9) "one" = true := by decide +kernel
theorem h9_v_kind : vnB (defScope st9) "kind" = true := by decide +kernel
theorem h9_g__law_raised : gnB (defScope st9) "_law_raised" = true := by decide +kernel
theorem h9_g__law_raised_too : gnB (defScope st9) "_law_raised_too" = true := by decide +kernel
theorem h9_g__law_raised_last : gnB (defScope st9) "_law_raised_last" = true := by decide +kernel
theorem h9_g_ValueError : gnB (defScope st9) "ValueError" = true := by decide +kernel
theorem h9_g_isinstance : gnB (defScope st9) "isinstance" = true := by decide +kernel
theorem h9_v_e : vnB (defScope st9) "e" = true := by decide +kernel
theorem h9_g__law_kinds : gnB (defScope st9) "_law_kinds" = true := by decide +kernel
theorem h9_l_e : lnB (defScope st9) "e" = true := by decide +kernel
theorem h9_g_RowError : gnB (defScope st9) "RowError" = true := by decide +kernel
theorem h9_v_found : vnB (defScope st9) "found" = true := by decide +kernel
def N10 : List Str := ["kind", "one", "two", "three", "words"]
theorem h10_l_words : lnB (defScope st10) "words" = true := by decide +kernel
theorem h10_v_words : vnB (defScope st10) "words" = true := by decide +kernel
theorem h10_v_kind : vnB (defScope st10) "kind" = true := by decide +kernel
theorem h10_v_two : vnB (defScope st10) "two" = true := by decide +kernel
theorem h10_g_repr : gnB (defScope st10) "repr" = true := by decide +kernel
theorem h10_v_one : vnB (defScope st10) "one" = true := by decide +kernel
theorem h10_v_three : vnB (defScope st10) "three" = true := by decide +kernel
def N11 : List Str := ["script", "pen", "kind", "one", "two", "three", "told"]
theorem h11_v_script : vnB (defScope st11) "script" = true := by decide +kernel
theorem h11_g__law_pen : gnB (defScope st11) "_law_pen" = true := by decide +kernel
theorem h11_l_pen : lnB (defScope st11) "pen" = true := by decide +kernel
theorem h11_g_range : gnB (defScope st11) "range" = true := by decide +kernel
theorem h11_l_kind : lnB (defScope st11) "kind" = true := by decide +kernel
theorem h11_v_pen : vnB (defScope st11) "pen" = true := by decide +kernel
theorem h11_g__law_any_field : gnB (defScope st11) "_law_any_field" = true := by decide +kernel
theorem h11_l_one : lnB (defScope st11) "one" = true := by decide +kernel
theorem h11_l_two : lnB (defScope st11) "two" = true := by decide +kernel
theorem h11_l_three : lnB (defScope st11) "three" = true := by decide +kernel
theorem h11_v_three : vnB (defScope st11) "three" = true := by decide +kernel
theorem h11_v_two : vnB (defScope st11) "two" = true := by decide +kernel
theorem h11_v_one : vnB (defScope st11) "one" = true := by decide +kernel
theorem h11_v_kind : vnB (defScope st11) "kind" = true := by decide +kernel
theorem h11_g__law_told : gnB (defScope st11) "_law_told" = true := by decide +kernel
theorem h11_l_told : lnB (defScope st11) "told" = true := by decide +kernel
theorem h11_v_told : vnB (defScope st11) "told" = true := by decide +kernel
theorem h11_g_len : gnB (defScope st11) "len" = true := by decide +kernel
theorem h11_g_repr : gnB (defScope st11) "repr" = true := by decide +kernel
theorem h11_g__law_due_fields : gnB (defScope st11) "_law_due_fields" = true := by decide +kernel
theorem aux_0 : ∀ c ∈ ([1] : List Nat), (∃ j : Nat, pg.fa[j]? = some (excF (pg.cnm c))) ∧ ∃ (j : Nat) (ns : List Str), pg.fa[j]? = some (noatF (pg.cnm c) ns) ∧ ("number" : Str) ∈ ns := (by
    intro c hc
    simp only [List.mem_cons, List.not_mem_nil, or_false] at hc
    subst hc
    · exact ⟨⟨0, rfl⟩, 16, _, rfl, by simp⟩)
theorem aux_1 : ∀ c ∈ ([1, 2, 3, 4, 5, 8, 11, 13] : List Nat), (∃ j : Nat, pg.fa[j]? = some (excF (pg.cnm c))) ∧ ∃ (j : Nat) (ns : List Str), pg.fa[j]? = some (noatF (pg.cnm c) ns) ∧ ("what" : Str) ∈ ns := (by
    intro c hc
    simp only [List.mem_cons, List.not_mem_nil, or_false] at hc
    rcases hc with rfl | rfl | rfl | rfl | rfl | rfl | rfl | rfl
    · exact ⟨⟨0, rfl⟩, 16, _, rfl, by simp⟩
    · exact ⟨⟨1, rfl⟩, 18, _, rfl, by simp⟩
    · exact ⟨⟨2, rfl⟩, 20, _, rfl, by simp⟩
    · exact ⟨⟨3, rfl⟩, 22, _, rfl, by simp⟩
    · exact ⟨⟨4, rfl⟩, 24, _, rfl, by simp⟩
    · exact ⟨⟨7, rfl⟩, 30, _, rfl, by simp⟩
    · exact ⟨⟨10, rfl⟩, 36, _, rfl, by simp⟩
    · exact ⟨⟨12, rfl⟩, 40, _, rfl, by simp⟩)
theorem aux_2 : ∀ c ∈ ([2] : List Nat), (∃ j : Nat, pg.fa[j]? = some (excF (pg.cnm c))) ∧ ∃ (j : Nat) (ns : List Str), pg.fa[j]? = some (noatF (pg.cnm c) ns) ∧ ("row" : Str) ∈ ns := (by
    intro c hc
    simp only [List.mem_cons, List.not_mem_nil, or_false] at hc
    subst hc
    · exact ⟨⟨1, rfl⟩, 18, _, rfl, by simp⟩)
theorem aux_3 : ∀ c ∈ ([6, 9, 10] : List Nat), (∃ j : Nat, pg.fa[j]? = some (excF (pg.cnm c))) ∧ ∃ (j : Nat) (ns : List Str), pg.fa[j]? = some (noatF (pg.cnm c) ns) ∧ ("name" : Str) ∈ ns := (by
    intro c hc
    simp only [List.mem_cons, List.not_mem_nil, or_false] at hc
    rcases hc with rfl | rfl | rfl
    · exact ⟨⟨5, rfl⟩, 26, _, rfl, by simp⟩
    · exact ⟨⟨8, rfl⟩, 32, _, rfl, by simp⟩
    · exact ⟨⟨9, rfl⟩, 34, _, rfl, by simp⟩)
theorem aux_4 : ∀ c ∈ ([7] : List Nat), (∃ j : Nat, pg.fa[j]? = some (excF (pg.cnm c))) ∧ ∃ (j : Nat) (ns : List Str), pg.fa[j]? = some (noatF (pg.cnm c) ns) ∧ ("word" : Str) ∈ ns := (by
    intro c hc
    simp only [List.mem_cons, List.not_mem_nil, or_false] at hc
    subst hc
    · exact ⟨⟨6, rfl⟩, 28, _, rfl, by simp⟩)
theorem aux_5 : ∀ c ∈ ([7] : List Nat), (∃ j : Nat, pg.fa[j]? = some (excF (pg.cnm c))) ∧ ∃ (j : Nat) (ns : List Str), pg.fa[j]? = some (noatF (pg.cnm c) ns) ∧ ("line" : Str) ∈ ns := (by
    intro c hc
    simp only [List.mem_cons, List.not_mem_nil, or_false] at hc
    subst hc
    · exact ⟨⟨6, rfl⟩, 28, _, rfl, by simp⟩)
theorem aux_6 : ∀ c ∈ ([8] : List Nat), (∃ j : Nat, pg.fa[j]? = some (excF (pg.cnm c))) ∧ ∃ (j : Nat) (ns : List Str), pg.fa[j]? = some (noatF (pg.cnm c) ns) ∧ ("index" : Str) ∈ ns := (by
    intro c hc
    simp only [List.mem_cons, List.not_mem_nil, or_false] at hc
    subst hc
    · exact ⟨⟨7, rfl⟩, 30, _, rfl, by simp⟩)
theorem aux_7 : ∀ c ∈ ([12] : List Nat), (∃ j : Nat, pg.fa[j]? = some (excF (pg.cnm c))) ∧ ∃ (j : Nat) (ns : List Str), pg.fa[j]? = some (noatF (pg.cnm c) ns) ∧ ("paper" : Str) ∈ ns := (by
    intro c hc
    simp only [List.mem_cons, List.not_mem_nil, or_false] at hc
    subst hc
    · exact ⟨⟨11, rfl⟩, 38, _, rfl, by simp⟩)
theorem aux_8 : ∀ c ∈ ([13] : List Nat), (∃ j : Nat, pg.fa[j]? = some (excF (pg.cnm c))) ∧ ∃ (j : Nat) (ns : List Str), pg.fa[j]? = some (noatF (pg.cnm c) ns) ∧ ("limit" : Str) ∈ ns := (by
    intro c hc
    simp only [List.mem_cons, List.not_mem_nil, or_false] at hc
    subst hc
    · exact ⟨⟨12, rfl⟩, 40, _, rfl, by simp⟩)
theorem aux_9 : ∀ c ∈ ([13] : List Nat), (∃ j : Nat, pg.fa[j]? = some (excF (pg.cnm c))) ∧ ∃ (j : Nat) (ns : List Str), pg.fa[j]? = some (noatF (pg.cnm c) ns) ∧ ("many" : Str) ∈ ns := (by
    intro c hc
    simp only [List.mem_cons, List.not_mem_nil, or_false] at hc
    subst hc
    · exact ⟨⟨12, rfl⟩, 40, _, rfl, by simp⟩)
theorem aux_10 : ∀ c ∈ ([14] : List Nat), (∃ j : Nat, pg.fa[j]? = some (excF (pg.cnm c))) ∧ ∃ (j : Nat) (ns : List Str), pg.fa[j]? = some (noatF (pg.cnm c) ns) ∧ ("witness" : Str) ∈ ns := (by
    intro c hc
    simp only [List.mem_cons, List.not_mem_nil, or_false] at hc
    subst hc
    · exact ⟨⟨13, rfl⟩, 42, _, rfl, by simp⟩)
theorem aux_11 : ∀ c ∈ ([14] : List Nat), (∃ j : Nat, pg.fa[j]? = some (excF (pg.cnm c))) ∧ ∃ (j : Nat) (ns : List Str), pg.fa[j]? = some (noatF (pg.cnm c) ns) ∧ ("promise" : Str) ∈ ns := (by
    intro c hc
    simp only [List.mem_cons, List.not_mem_nil, or_false] at hc
    subst hc
    · exact ⟨⟨13, rfl⟩, 42, _, rfl, by simp⟩)
theorem exc_known {tab : List (Nat × Bool)} (c : Nat) (b : Bool) (h : tabAt tab c = some b) (hk : tab.all (fun t => exl.any fun e => decide (e.1 = t.1)) = true := by decide) : ∃ j : Nat, pg.fa[j]? = some (excF (pg.cnm c)) := by
  have h2 := List.all_eq_true.mp hk _ (tabAt_mem h)
  simp only [exl, List.any_cons, List.any_nil, Bool.or_false, Bool.or_eq_true, decide_eq_true_eq] at h2
  rcases h2 with h2 | h2 | h2 | h2 | h2 | h2 | h2 | h2 | h2 | h2 | h2 | h2 | h2 | h2 | h2 | h2
  · subst h2; exact ⟨0, rfl⟩
  · subst h2; exact ⟨1, rfl⟩
  · subst h2; exact ⟨2, rfl⟩
  · subst h2; exact ⟨3, rfl⟩
  · subst h2; exact ⟨4, rfl⟩
  · subst h2; exact ⟨5, rfl⟩
  · subst h2; exact ⟨6, rfl⟩
  · subst h2; exact ⟨7, rfl⟩
  · subst h2; exact ⟨8, rfl⟩
  · subst h2; exact ⟨9, rfl⟩
  · subst h2; exact ⟨10, rfl⟩
  · subst h2; exact ⟨11, rfl⟩
  · subst h2; exact ⟨12, rfl⟩
  · subst h2; exact ⟨13, rfl⟩
  · subst h2; exact ⟨14, rfl⟩
  · subst h2; exact ⟨15, rfl⟩
/-! ### the readings -/
section
variable {X : Cx} {q : Cn} {k : Nat} {z : ExI}
theorem d0 (S : Sc X N0 (defScope st0)) (C : Ctx none X pg q k all) (T : Tr X) (E : Exs X pg exl) : PSs X (defBody st0) (sM q b0) :=
   (mb_cons (ms_set S (i := 1) rfl h0_l_fold pm_int)
   (mb_cons (ms_for S C (mi_seq C (pm_var S (i := 0) rfl h0_v_script)) (mg_var S (i := 2) rfl h0_l_cell) (mb_one (ms_set S (i := 1) rfl h0_l_fold (pm_bin ki_mod (pm_ty S C kb_int h0_g_int (by rfl) (by decide +kernel) (pm_cons (pm_bin (ki_add C) (pm_bin ki_mul (pm_var S (i := 1) rfl h0_v_fold) pm_int) (pm_var S (i := 2) rfl h0_v_cell)) pm_nil)) pm_int))))
   (mb_one (ms_ret (pm_dict C (pps_cons pm_str (pm_ty S C (kb_list C) h0_g_list (by rfl) (by decide +kernel) (pm_cons (pm_var S (i := 0) rfl h0_v_script) pm_nil)) (pps_cons pm_str pm_int (pps_cons pm_str pm_int (pps_cons pm_str pm_int (pps_cons pm_str (pm_var S (i := 1) rfl h0_v_fold) pps_nil))))) rfl rfl (by simp) (by decide))))))
theorem d1 (S : Sc X N1 (defScope st1)) (C : Ctx none X pg q k all) (T : Tr X) (E : Exs X pg exl) : PSs X (defBody st1) (sM q b1) :=
   (mb_cons (ms_asg (pm_bin (ki_add C) (pm_dget C (pm_var S (i := 0) rfl h1_v_pen) pm_str (fun _ _ => rfl)) pm_int) (mg_sub C (pm_var S (i := 0) rfl h1_v_pen) pm_str))
   (mb_cons (ms_if (mw_and (mt_cmp (ki_eq C) (pm_dget C (pm_var S (i := 0) rfl h1_v_pen) pm_str (fun _ _ => rfl)) pm_int (nomark _)) (mw_and1 (mt_cmp ki_lt (pm_dget C (pm_var S (i := 0) rfl h1_v_pen) pm_str (fun _ _ => rfl)) (pm_bi S C (kb_len C) h1_g_len (by rfl) (by decide +kernel) (pm_cons (pm_dget C (pm_var S (i := 0) rfl h1_v_pen) pm_str (fun _ _ => rfl)) pm_nil)) (nomark _)))).pt (mb_cons (ms_set S (i := 3) rfl h1_l_cell (pm_sub C (pm_dget C (pm_var S (i := 0) rfl h1_v_pen) pm_str (fun _ _ => rfl)) (pm_dget C (pm_var S (i := 0) rfl h1_v_pen) pm_str (fun _ _ => rfl)) (fun _ _ => rfl) (fun _ _ => rfl)))
   (mb_cons (ms_asg (pm_bin (ki_add C) (pm_dget C (pm_var S (i := 0) rfl h1_v_pen) pm_str (fun _ _ => rfl)) pm_int) (mg_sub C (pm_var S (i := 0) rfl h1_v_pen) pm_str))
   (mb_one (ms_if (mt_cmp ki_ge (pm_var S (i := 3) rfl h1_v_cell) (pm_bin ki_pow pm_int pm_int) (nomark _)) (mb_one (ms_asg (pm_bin ki_sub (pm_var S (i := 3) rfl h1_v_cell) (pm_bin ki_pow pm_int pm_int)) (mg_sub C (pm_var S (i := 0) rfl h1_v_pen) pm_str))) (mb_one (ms_asg (pm_bin ki_mod (pm_ty S C kb_int h1_g_int (by rfl) (by decide +kernel) (pm_cons (pm_bin (ki_add C) (pm_bin ki_mul (pm_dget C (pm_var S (i := 0) rfl h1_v_pen) pm_str (fun _ _ => rfl)) pm_int) (pm_var S (i := 3) rfl h1_v_cell)) pm_nil)) pm_int) (mg_sub C (pm_var S (i := 0) rfl h1_v_pen) pm_str))))))) mb_nil)
   (mb_cons (ms_if (mt_cmp ki_gt (pm_dget C (pm_var S (i := 0) rfl h1_v_pen) pm_str (fun _ _ => rfl)) pm_int (nomark _)) (mb_cons (ms_set S (i := 4) rfl h1_l_digit (pm_bin ki_mod (pm_ty S C kb_int h1_g_int (by rfl) (by decide +kernel) (pm_cons (pm_dget C (pm_var S (i := 0) rfl h1_v_pen) pm_str (fun _ _ => rfl)) pm_nil)) (pm_var S (i := 1) rfl h1_v_many)))
   (mb_cons (ms_asg (pm_bin ki_div (pm_dget C (pm_var S (i := 0) rfl h1_v_pen) pm_str (fun _ _ => rfl)) (pm_var S (i := 1) rfl h1_v_many)) (mg_sub C (pm_var S (i := 0) rfl h1_v_pen) pm_str))
   (mb_one (ms_ret (pm_var S (i := 4) rfl h1_v_digit))))) mb_nil)
   (mb_cons (ms_set S (i := 2) rfl h1_l_blend (pm_bin ki_mod (pm_ty S C kb_int h1_g_int (by rfl) (by decide +kernel) (pm_cons (pm_bin (ki_add C) (pm_bin (ki_add C) (pm_bin ki_mul (pm_dget C (pm_var S (i := 0) rfl h1_v_pen) pm_str (fun _ _ => rfl)) pm_int) (pm_bin ki_mul (pm_dget C (pm_var S (i := 0) rfl h1_v_pen) pm_str (fun _ _ => rfl)) pm_int)) pm_int) pm_nil)) pm_int))
   (mb_cons (ms_set S (i := 2) rfl h1_l_blend (pm_bin ki_mod (pm_ty S C kb_int h1_g_int (by rfl) (by decide +kernel) (pm_cons (pm_bin (ki_add C) (pm_bin (ki_add C) (pm_bin ki_mul (pm_var S (i := 2) rfl h1_v_blend) (pm_var S (i := 2) rfl h1_v_blend)) (pm_bin ki_mul pm_int (pm_var S (i := 2) rfl h1_v_blend))) (pm_dget C (pm_var S (i := 0) rfl h1_v_pen) pm_str (fun _ _ => rfl))) pm_nil)) pm_int))
   (mb_cons (ms_asg (pm_bin ki_mod (pm_ty S C kb_int h1_g_int (by rfl) (by decide +kernel) (pm_cons (pm_bin (ki_add C) (pm_bin ki_mul (pm_var S (i := 2) rfl h1_v_blend) pm_int) pm_int) pm_nil)) pm_int) (mg_sub C (pm_var S (i := 0) rfl h1_v_pen) pm_str))
   (mb_one (ms_ret (pm_bin ki_mod (pm_ty S C kb_int h1_g_int (by rfl) (by decide +kernel) (pm_cons (pm_bin ki_div (pm_var S (i := 2) rfl h1_v_blend) pm_int) pm_nil)) (pm_var S (i := 1) rfl h1_v_many))))))))))
theorem d2 (S : Sc X N2 (defScope st2)) (C : Ctx none X pg q k all) (T : Tr X) (E : Exs X pg exl) : PSs X (defBody st2) (sM q b2) :=
   (mb_one (ms_ret (pm_sub C (pm_var S (i := 1) rfl h2_v_some) (pm_call S C (f := 1) (by decide) rfl h2_g__law_draw (by rfl) (pm_cons (pm_var S (i := 0) rfl h2_v_pen) (pm_cons (pm_bi S C (kb_len C) h2_g_len (by rfl) (by decide +kernel) (pm_cons (pm_var S (i := 1) rfl h2_v_some) pm_nil)) pm_nil))) (fun _ _ => rfl) (fun _ _ => rfl))))
theorem d3 (S : Sc X N3 (defScope st3)) (C : Ctx (some z) X pg q k pg.hots) : PSs X (defBody st3) (sM q b3) :=
   (mb_cons (ms_set S (i := 1) rfl h3_l_found (pm_lstN pm_nil))
   (mb_cons (ms_if (mt_tru C (pm_isE S C (i := 0) (j1 := 44) (j2 := 0) (tab := [(1, true), (2, false), (3, false), (4, false), (5, false), (6, false), (7, false), (8, false), (9, false), (10, false), (11, false), (12, false), (13, false), (14, false), (15, false), (16, false)]) (Dv := (fun K => .ref (He.ga K "BadNumber"))) h3_g_isinstance (by rfl) rfl h3_v_e (pm_gcl S C (c := 1) h3_g_BadNumber (by rfl) rfl) (is_cls C rfl) rfl exc_known) (fun _ => rfl)) (mb_one (ms_expr (pm_app C (pm_var S (i := 1) rfl h3_v_found) (pm_tup (pm_cons pm_str (pm_cons (pm_xf S C (i := 0) (tab := [1, 2, 3, 4, 5, 8, 11, 13]) rfl h3_v_e aux_1) (pm_cons (pm_bi S C (kb_repr C) h3_g_repr (by rfl) (by decide +kernel) (pm_cons (pm_xf S C (i := 0) (tab := [1]) rfl h3_v_e aux_0) pm_nil)) pm_nil))))))) mb_nil)
   (mb_cons (ms_if (mt_tru C (pm_isE S C (i := 0) (j1 := 45) (j2 := 0) (tab := [(1, false), (2, true), (3, false), (4, false), (5, false), (6, false), (7, false), (8, false), (9, false), (10, false), (11, false), (12, false), (13, false), (14, false), (15, false), (16, false)]) (Dv := (fun K => .ref (He.ga K "BadRow"))) h3_g_isinstance (by rfl) rfl h3_v_e (pm_gcl S C (c := 2) h3_g_BadRow (by rfl) rfl) (is_cls C rfl) rfl exc_known) (fun _ => rfl)) (mb_one (ms_expr (pm_app C (pm_var S (i := 1) rfl h3_v_found) (pm_tup (pm_cons pm_str (pm_cons (pm_xf S C (i := 0) (tab := [1, 2, 3, 4, 5, 8, 11, 13]) rfl h3_v_e aux_1) (pm_cons (pm_bi S C (kb_repr C) h3_g_repr (by rfl) (by decide +kernel) (pm_cons (pm_xf S C (i := 0) (tab := [2]) rfl h3_v_e aux_2) pm_nil)) pm_nil))))))) mb_nil)
   (mb_cons (ms_if (mt_tru C (pm_isE S C (i := 0) (j1 := 46) (j2 := 0) (tab := [(1, false), (2, false), (3, false), (4, true), (5, false), (6, false), (7, false), (8, false), (9, false), (10, false), (11, false), (12, false), (13, false), (14, false), (15, false), (16, false)]) (Dv := (fun K => .ref (He.ga K "BadTable"))) h3_g_isinstance (by rfl) rfl h3_v_e (pm_gcl S C (c := 4) h3_g_BadTable (by rfl) rfl) (is_cls C rfl) rfl exc_known) (fun _ => rfl)) (mb_one (ms_expr (pm_app C (pm_var S (i := 1) rfl h3_v_found) (pm_tup (pm_cons pm_str (pm_cons (pm_xf S C (i := 0) (tab := [1, 2, 3, 4, 5, 8, 11, 13]) rfl h3_v_e aux_1) pm_nil)))))) mb_nil)
   (mb_cons (ms_if (mt_tru C (pm_isE S C (i := 0) (j1 := 47) (j2 := 0) (tab := [(1, false), (2, false), (3, true), (4, false), (5, false), (6, false), (7, false), (8, false), (9, false), (10, false), (11, false), (12, false), (13, false), (14, false), (15, false), (16, false)]) (Dv := (fun K => .ref (He.ga K "BadRules"))) h3_g_isinstance (by rfl) rfl h3_v_e (pm_gcl S C (c := 3) h3_g_BadRules (by rfl) rfl) (is_cls C rfl) rfl exc_known) (fun _ => rfl)) (mb_one (ms_expr (pm_app C (pm_var S (i := 1) rfl h3_v_found) (pm_tup (pm_cons pm_str (pm_cons (pm_xf S C (i := 0) (tab := [1, 2, 3, 4, 5, 8, 11, 13]) rfl h3_v_e aux_1) pm_nil)))))) mb_nil)
   (mb_cons (ms_if (mt_tru C (pm_isE S C (i := 0) (j1 := 48) (j2 := 0) (tab := [(1, false), (2, false), (3, false), (4, false), (5, true), (6, false), (7, false), (8, false), (9, false), (10, false), (11, false), (12, false), (13, false), (14, false), (15, false), (16, false)]) (Dv := (fun K => .ref (He.ga K "BadBook"))) h3_g_isinstance (by rfl) rfl h3_v_e (pm_gcl S C (c := 5) h3_g_BadBook (by rfl) rfl) (is_cls C rfl) rfl exc_known) (fun _ => rfl)) (mb_one (ms_expr (pm_app C (pm_var S (i := 1) rfl h3_v_found) (pm_tup (pm_cons pm_str (pm_cons (pm_xf S C (i := 0) (tab := [1, 2, 3, 4, 5, 8, 11, 13]) rfl h3_v_e aux_1) pm_nil)))))) mb_nil)
   (mb_cons (ms_if (mt_tru C (pm_isE S C (i := 0) (j1 := 49) (j2 := 0) (tab := [(1, false), (2, false), (3, false), (4, false), (5, false), (6, true), (7, false), (8, false), (9, false), (10, false), (11, false), (12, false), (13, false), (14, false), (15, false), (16, false)]) (Dv := (fun K => .ref (He.ga K "BadName"))) h3_g_isinstance (by rfl) rfl h3_v_e (pm_gcl S C (c := 6) h3_g_BadName (by rfl) rfl) (is_cls C rfl) rfl exc_known) (fun _ => rfl)) (mb_one (ms_expr (pm_app C (pm_var S (i := 1) rfl h3_v_found) (pm_tup (pm_cons pm_str (pm_cons (pm_bi S C (kb_repr C) h3_g_repr (by rfl) (by decide +kernel) (pm_cons (pm_xf S C (i := 0) (tab := [6, 9, 10]) rfl h3_v_e aux_3) pm_nil)) pm_nil)))))) mb_nil)
   (mb_cons (ms_if (mt_tru C (pm_isE S C (i := 0) (j1 := 50) (j2 := 0) (tab := [(1, false), (2, false), (3, false), (4, false), (5, false), (6, false), (7, true), (8, false), (9, false), (10, false), (11, false), (12, false), (13, false), (14, false), (15, false), (16, false)]) (Dv := (fun K => .ref (He.ga K "BadText"))) h3_g_isinstance (by rfl) rfl h3_v_e (pm_gcl S C (c := 7) h3_g_BadText (by rfl) rfl) (is_cls C rfl) rfl exc_known) (fun _ => rfl)) (mb_one (ms_expr (pm_app C (pm_var S (i := 1) rfl h3_v_found) (pm_tup (pm_cons pm_str (pm_cons (pm_xf S C (i := 0) (tab := [7]) rfl h3_v_e aux_5) (pm_cons (pm_xf S C (i := 0) (tab := [7]) rfl h3_v_e aux_4) pm_nil))))))) mb_nil)
   (mb_one (ms_ret (pm_bin (ki_add C) (pm_var S (i := 1) rfl h3_v_found) (pm_callX S C (f := 4) (i := 0) (by decide) rfl rfl h3_g__law_more_kinds (by rfl) rfl h3_v_e))))))))))))
theorem d4 (S : Sc X N4 (defScope st4)) (C : Ctx (some z) X pg q k pg.hots) : PSs X (defBody st4) (sM q b4) :=
   (mb_cons (ms_set S (i := 1) rfl h4_l_found (pm_lstN pm_nil))
   (mb_cons (ms_if (mt_tru C (pm_isE S C (i := 0) (j1 := 51) (j2 := 0) (tab := [(1, false), (2, false), (3, false), (4, false), (5, false), (6, false), (7, false), (8, true), (9, false), (10, false), (11, false), (12, false), (13, false), (14, false), (15, false), (16, false)]) (Dv := (fun K => .ref (He.ga K "NoPlace"))) h4_g_isinstance (by rfl) rfl h4_v_e (pm_gcl S C (c := 8) h4_g_NoPlace (by rfl) rfl) (is_cls C rfl) rfl exc_known) (fun _ => rfl)) (mb_one (ms_expr (pm_app C (pm_var S (i := 1) rfl h4_v_found) (pm_tup (pm_cons pm_str (pm_cons (pm_xf S C (i := 0) (tab := [1, 2, 3, 4, 5, 8, 11, 13]) rfl h4_v_e aux_1) (pm_cons (pm_bi S C (kb_repr C) h4_g_repr (by rfl) (by decide +kernel) (pm_cons (pm_xf S C (i := 0) (tab := [8]) rfl h4_v_e aux_6) pm_nil)) pm_nil))))))) mb_nil)
   (mb_cons (ms_if (mt_tru C (pm_isE S C (i := 0) (j1 := 52) (j2 := 0) (tab := [(1, false), (2, false), (3, false), (4, false), (5, false), (6, false), (7, false), (8, false), (9, true), (10, false), (11, false), (12, false), (13, false), (14, false), (15, false), (16, false)]) (Dv := (fun K => .ref (He.ga K "NoName"))) h4_g_isinstance (by rfl) rfl h4_v_e (pm_gcl S C (c := 9) h4_g_NoName (by rfl) rfl) (is_cls C rfl) rfl exc_known) (fun _ => rfl)) (mb_one (ms_expr (pm_app C (pm_var S (i := 1) rfl h4_v_found) (pm_tup (pm_cons pm_str (pm_cons (pm_bi S C (kb_repr C) h4_g_repr (by rfl) (by decide +kernel) (pm_cons (pm_xf S C (i := 0) (tab := [6, 9, 10]) rfl h4_v_e aux_3) pm_nil)) pm_nil)))))) mb_nil)
   (mb_cons (ms_if (mt_tru C (pm_isE S C (i := 0) (j1 := 53) (j2 := 0) (tab := [(1, false), (2, false), (3, false), (4, false), (5, false), (6, false), (7, false), (8, false), (9, false), (10, true), (11, false), (12, false), (13, false), (14, false), (15, false), (16, false)]) (Dv := (fun K => .ref (He.ga K "TakenName"))) h4_g_isinstance (by rfl) rfl h4_v_e (pm_gcl S C (c := 10) h4_g_TakenName (by rfl) rfl) (is_cls C rfl) rfl exc_known) (fun _ => rfl)) (mb_one (ms_expr (pm_app C (pm_var S (i := 1) rfl h4_v_found) (pm_tup (pm_cons pm_str (pm_cons (pm_bi S C (kb_repr C) h4_g_repr (by rfl) (by decide +kernel) (pm_cons (pm_xf S C (i := 0) (tab := [6, 9, 10]) rfl h4_v_e aux_3) pm_nil)) pm_nil)))))) mb_nil)
   (mb_cons (ms_if (mt_tru C (pm_isE S C (i := 0) (j1 := 54) (j2 := 0) (tab := [(1, false), (2, false), (3, false), (4, false), (5, false), (6, false), (7, false), (8, false), (9, false), (10, false), (11, true), (12, false), (13, false), (14, false), (15, false), (16, false)]) (Dv := (fun K => .ref (He.ga K "Unlike"))) h4_g_isinstance (by rfl) rfl h4_v_e (pm_gcl S C (c := 11) h4_g_Unlike (by rfl) rfl) (is_cls C rfl) rfl exc_known) (fun _ => rfl)) (mb_one (ms_expr (pm_app C (pm_var S (i := 1) rfl h4_v_found) (pm_tup (pm_cons pm_str (pm_cons (pm_xf S C (i := 0) (tab := [1, 2, 3, 4, 5, 8, 11, 13]) rfl h4_v_e aux_1) pm_nil)))))) mb_nil)
   (mb_cons (ms_if (mt_tru C (pm_isE S C (i := 0) (j1 := 55) (j2 := 0) (tab := [(1, false), (2, false), (3, false), (4, false), (5, false), (6, false), (7, false), (8, false), (9, false), (10, false), (11, false), (12, true), (13, false), (14, false), (15, false), (16, false)]) (Dv := (fun K => .ref (He.ga K "NotThere"))) h4_g_isinstance (by rfl) rfl h4_v_e (pm_gcl S C (c := 12) h4_g_NotThere (by rfl) rfl) (is_cls C rfl) rfl exc_known) (fun _ => rfl)) (mb_one (ms_expr (pm_app C (pm_var S (i := 1) rfl h4_v_found) (pm_tup (pm_cons pm_str (pm_cons (pm_xf S C (i := 0) (tab := [12]) rfl h4_v_e aux_7) pm_nil)))))) mb_nil)
   (mb_cons (ms_if (mt_tru C (pm_isE S C (i := 0) (j1 := 56) (j2 := 0) (tab := [(1, false), (2, false), (3, false), (4, false), (5, false), (6, false), (7, false), (8, false), (9, false), (10, false), (11, false), (12, false), (13, true), (14, false), (15, false), (16, false)]) (Dv := (fun K => .ref (He.ga K "TooMany"))) h4_g_isinstance (by rfl) rfl h4_v_e (pm_gcl S C (c := 13) h4_g_TooMany (by rfl) rfl) (is_cls C rfl) rfl exc_known) (fun _ => rfl)) (mb_one (ms_expr (pm_app C (pm_var S (i := 1) rfl h4_v_found) (pm_tup (pm_cons pm_str (pm_cons (pm_xf S C (i := 0) (tab := [1, 2, 3, 4, 5, 8, 11, 13]) rfl h4_v_e aux_1) (pm_cons (pm_xf S C (i := 0) (tab := [13]) rfl h4_v_e aux_9) (pm_cons (pm_xf S C (i := 0) (tab := [13]) rfl h4_v_e aux_8) pm_nil)))))))) mb_nil)
   (mb_cons (ms_if (mt_tru C (pm_isE S C (i := 0) (j1 := 57) (j2 := 0) (tab := [(1, false), (2, false), (3, false), (4, false), (5, false), (6, false), (7, false), (8, false), (9, false), (10, false), (11, false), (12, false), (13, false), (14, true), (15, false), (16, false)]) (Dv := (fun K => .ref (He.ga K "NotKept"))) h4_g_isinstance (by rfl) rfl h4_v_e (pm_gcl S C (c := 14) h4_g_NotKept (by rfl) rfl) (is_cls C rfl) rfl exc_known) (fun _ => rfl)) (mb_one (ms_expr (pm_app C (pm_var S (i := 1) rfl h4_v_found) (pm_tup (pm_cons pm_str (pm_cons (pm_xf S C (i := 0) (tab := [14]) rfl h4_v_e aux_11) (pm_cons (pm_xf S C (i := 0) (tab := [14]) rfl h4_v_e aux_10) pm_nil))))))) mb_nil)
   (mb_cons (ms_if (mt_tru C (pm_isE S C (i := 0) (j1 := 58) (j2 := 0) (tab := [(1, false), (2, false), (3, false), (4, false), (5, false), (6, false), (7, false), (8, false), (9, false), (10, false), (11, false), (12, false), (13, false), (14, false), (15, true), (16, false)]) (Dv := (fun K => .ref (He.ga K "NothingToUndo"))) h4_g_isinstance (by rfl) rfl h4_v_e (pm_gcl S C (c := 15) h4_g_NothingToUndo (by rfl) rfl) (is_cls C rfl) rfl exc_known) (fun _ => rfl)) (mb_one (ms_expr (pm_app C (pm_var S (i := 1) rfl h4_v_found) (pm_tup (pm_cons pm_str pm_nil))))) mb_nil)
   (mb_cons (ms_if (mt_tru C (pm_isE S C (i := 0) (j1 := 59) (j2 := 0) (tab := [(1, false), (2, false), (3, false), (4, false), (5, false), (6, false), (7, false), (8, false), (9, false), (10, false), (11, false), (12, false), (13, false), (14, false), (15, false), (16, true)]) (Dv := (fun K => .ref (He.ga K "NothingToRedo"))) h4_g_isinstance (by rfl) rfl h4_v_e (pm_gcl S C (c := 16) h4_g_NothingToRedo (by rfl) rfl) (is_cls C rfl) rfl exc_known) (fun _ => rfl)) (mb_one (ms_expr (pm_app C (pm_var S (i := 1) rfl h4_v_found) (pm_tup (pm_cons pm_str pm_nil))))) mb_nil)
   (mb_one (ms_ret (pm_var S (i := 1) rfl h4_v_found)))))))))))))
theorem d5 (S : Sc X N5 (defScope st5)) (C : Ctx none X pg q k all) (T : Tr X) (E : Exs X pg exl) : PSs X (defBody st5) (sM q b5) :=
   (mb_cons (ms_set S (i := 1) rfl h5_l_way (pm_call S C (f := 1) (by decide) rfl h5_g__law_draw (by rfl) (pm_cons (pm_var S (i := 0) rfl h5_v_pen) (pm_cons pm_int pm_nil))))
   (mb_cons (ms_if (mt_cmp (ki_eq C) (pm_var S (i := 1) rfl h5_v_way) pm_int (nomark _)) (mb_one (ms_ret (pm_lst (pm_cons (pm_call S C (f := 1) (by decide) rfl h5_g__law_draw (by rfl) (pm_cons (pm_var S (i := 0) rfl h5_v_pen) (pm_cons pm_int pm_nil))) (pm_cons (pm_lst pm_nil) pm_nil))))) mb_nil)
   (mb_cons (ms_if (mt_cmp (ki_eq C) (pm_var S (i := 1) rfl h5_v_way) pm_int (nomark _)) (mb_one (ms_ret (pm_tup (pm_cons pm_str (pm_cons (pm_tup (pm_cons (pm_call S C (f := 1) (by decide) rfl h5_g__law_draw (by rfl) (pm_cons (pm_var S (i := 0) rfl h5_v_pen) (pm_cons (pm_bin ki_pow pm_int pm_int) pm_nil))) pm_nil)) pm_nil))))) mb_nil)
   (mb_one (ms_ret (pm_call S C (f := 2) (by decide) rfl h5_g__law_pick (by rfl) (pm_cons (pm_var S (i := 0) rfl h5_v_pen) (pm_cons (pm_lst (pm_cons pm_non (pm_cons pm_bl (pm_cons pm_bl (pm_cons pm_int (pm_cons (pm_un ki_neg pm_int) (pm_cons pm_str (pm_cons pm_str (pm_cons (pm_bin ki_pow pm_int pm_int) (pm_cons (pm_frz C (pm_dict C (pps_cons pm_str pm_int pps_nil) rfl rfl (by simp) (by decide))) pm_nil)))))))))) pm_nil))))))))
theorem d6 (S : Sc X N6 (defScope st6)) (C : Ctx none X pg q k all) (T : Tr X) (E : Exs X pg exl) : PSs X (defBody st6) (sM q b6) :=
   (mb_cons (ms_if (mt_cmp (ki_eq C) (pm_var S (i := 0) rfl h6_v_kind) pm_int (nomark _)) (mb_one (ms_raise S C E (c := 1) (ns := ["what", "number"]) (by simp [exl]) rfl (by simp) h6_g_BadNumber (by rfl) (pm_cons (pm_var S (i := 1) rfl h6_v_one) (pm_cons (pm_var S (i := 2) rfl h6_v_two) pm_nil)) (by simp))) mb_nil)
   (mb_cons (ms_if (mt_cmp (ki_eq C) (pm_var S (i := 0) rfl h6_v_kind) pm_int (nomark _)) (mb_one (ms_raise S C E (c := 2) (ns := ["what", "row"]) (by simp [exl]) rfl (by simp) h6_g_BadRow (by rfl) (pm_cons (pm_var S (i := 1) rfl h6_v_one) (pm_cons (pm_var S (i := 2) rfl h6_v_two) pm_nil)) (by simp))) mb_nil)
   (mb_cons (ms_if (mt_cmp (ki_eq C) (pm_var S (i := 0) rfl h6_v_kind) pm_int (nomark _)) (mb_one (ms_raise S C E (c := 4) (ns := ["what"]) (by simp [exl]) rfl (by simp) h6_g_BadTable (by rfl) (pm_cons (pm_var S (i := 1) rfl h6_v_one) pm_nil) (by simp))) mb_nil)
   (mb_cons (ms_if (mt_cmp (ki_eq C) (pm_var S (i := 0) rfl h6_v_kind) pm_int (nomark _)) (mb_one (ms_raise S C E (c := 5) (ns := ["what"]) (by simp [exl]) rfl (by simp) h6_g_BadBook (by rfl) (pm_cons (pm_var S (i := 1) rfl h6_v_one) pm_nil) (by simp))) mb_nil)
   (mb_cons (ms_if (mt_cmp (ki_eq C) (pm_var S (i := 0) rfl h6_v_kind) pm_int (nomark _)) (mb_one (ms_raise S C E (c := 6) (ns := ["name"]) (by simp [exl]) rfl (by simp) h6_g_BadName (by rfl) (pm_cons (pm_var S (i := 1) rfl h6_v_one) pm_nil) (by simp))) mb_nil)
   (mb_cons (ms_if (mt_cmp (ki_eq C) (pm_var S (i := 0) rfl h6_v_kind) pm_int (nomark _)) (mb_one (ms_raise S C E (c := 7) (ns := ["line", "word"]) (by simp [exl]) rfl (by simp) h6_g_BadText (by rfl) (pm_cons (pm_var S (i := 1) rfl h6_v_one) (pm_cons (pm_var S (i := 2) rfl h6_v_two) pm_nil)) (by simp))) mb_nil)
   (mb_one (ms_if (mt_cmp (ki_eq C) (pm_var S (i := 0) rfl h6_v_kind) pm_int (nomark _)) (mb_one (ms_raise S C E (c := 8) (ns := ["what", "index"]) (by simp [exl]) rfl (by simp) h6_g_NoPlace (by rfl) (pm_cons (pm_var S (i := 1) rfl h6_v_one) (pm_cons (pm_var S (i := 2) rfl h6_v_two) pm_nil)) (by simp))) mb_nil))))))))
theorem d7 (S : Sc X N7 (defScope st7)) (C : Ctx none X pg q k all) (T : Tr X) (E : Exs X pg exl) : PSs X (defBody st7) (sM q b7) :=
   (mb_cons (ms_if (mt_cmp (ki_eq C) (pm_var S (i := 0) rfl h7_v_kind) pm_int (nomark _)) (mb_one (ms_raise S C E (c := 9) (ns := ["name"]) (by simp [exl]) rfl (by simp) h7_g_NoName (by rfl) (pm_cons (pm_var S (i := 1) rfl h7_v_one) pm_nil) (by simp))) mb_nil)
   (mb_cons (ms_if (mt_cmp (ki_eq C) (pm_var S (i := 0) rfl h7_v_kind) pm_int (nomark _)) (mb_one (ms_raise S C E (c := 10) (ns := ["name"]) (by simp [exl]) rfl (by simp) h7_g_TakenName (by rfl) (pm_cons (pm_var S (i := 1) rfl h7_v_one) pm_nil) (by simp))) mb_nil)
   (mb_cons (ms_if (mt_cmp (ki_eq C) (pm_var S (i := 0) rfl h7_v_kind) pm_int (nomark _)) (mb_one (ms_raise S C E (c := 11) (ns := ["what"]) (by simp [exl]) rfl (by simp) h7_g_Unlike (by rfl) (pm_cons (pm_var S (i := 1) rfl h7_v_one) pm_nil) (by simp))) mb_nil)
   (mb_cons (ms_if (mt_cmp (ki_eq C) (pm_var S (i := 0) rfl h7_v_kind) pm_int (nomark _)) (mb_one (ms_raise S C E (c := 12) (ns := ["paper"]) (by simp [exl]) rfl (by simp) h7_g_NotThere (by rfl) (pm_cons (pm_var S (i := 1) rfl h7_v_one) pm_nil) (by simp))) mb_nil)
   (mb_cons (ms_if (mt_cmp (ki_eq C) (pm_var S (i := 0) rfl h7_v_kind) pm_int (nomark _)) (mb_one (ms_raise S C E (c := 13) (ns := ["what", "many", "limit"]) (by simp [exl]) rfl (by simp) h7_g_TooMany (by rfl) (pm_cons (pm_var S (i := 1) rfl h7_v_one) (pm_cons (pm_var S (i := 2) rfl h7_v_two) (pm_cons (pm_var S (i := 3) rfl h7_v_three) pm_nil))) (by simp))) mb_nil)
   (mb_cons (ms_if (mt_cmp (ki_eq C) (pm_var S (i := 0) rfl h7_v_kind) pm_int (nomark _)) (mb_one (ms_raise S C E (c := 14) (ns := ["promise", "witness"]) (by simp [exl]) rfl (by simp) h7_g_NotKept (by rfl) (pm_cons (pm_var S (i := 1) rfl h7_v_one) (pm_cons (pm_var S (i := 2) rfl h7_v_two) pm_nil)) (by simp))) mb_nil)
   (mb_one (ms_if (mt_cmp (ki_eq C) (pm_var S (i := 0) rfl h7_v_kind) pm_int (nomark _)) (mb_one (ms_raise0 S C E (c := 15) (by simp [exl]) rfl h7_g_NothingToUndo (by rfl))) mb_nil))))))))
theorem d8 (S : Sc X N8 (defScope st8)) (C : Ctx none X pg q k all) (T : Tr X) (E : Exs X pg exl) : PSs X (defBody st8) (sM q b8) :=
   (mb_cons (ms_if (mt_cmp (ki_eq C) (pm_var S (i := 0) rfl h8_v_kind) pm_int (nomark _)) (mb_one (ms_raise0 S C E (c := 16) (by simp [exl]) rfl h8_g_NothingToRedo (by rfl))) mb_nil)
   (mb_one (ms_if (mt_cmp (ki_eq C) (pm_var S (i := 0) rfl h8_v_kind) pm_int (nomark _)) (mb_one (ms_raise S C E (c := 3) (ns := ["what"]) (by simp [exl]) rfl (by simp) h8_g_BadRules (by rfl) (pm_cons (pm_var S (i := 1) rfl h8_v_one) pm_nil) (by simp))) mb_nil)))
theorem d9 (S : Sc X N9 (defScope st9)) (C : Ctx none X pg q k all) (T : Tr X) (E : Exs X pg exl) : PSs X (defBody st9) (sM q b9) :=
   (mb_cons (ms_set S (i := 4) rfl h9_l_found pm_non)
   (mb_cons (ms_try S C T (i := 5) (j := 60) (tab := [(1, true), (2, true), (3, true), (4, true), (5, true), (6, true), (7, true), (8, true), (9, true), (10, true), (11, true), (12, true), (13, true), (14, true), (15, true), (16, true)]) rfl h9_l_e h9_g_RowError (by rfl) rfl (fun X' q' S' C' _ => (mb_cons (ms_expr (pm_call S' C' (f := 6) (by decide) rfl h9_g__law_raised (by rfl) (pm_cons (pm_var S' (i := 0) rfl h9_v_kind) (pm_cons (pm_var S' (i := 1) rfl h9_v_one) (pm_cons (pm_var S' (i := 2) rfl h9_v_two) (pm_cons (pm_var S' (i := 3) rfl h9_v_three) pm_nil))))))
   (mb_cons (ms_expr (pm_call S' C' (f := 7) (by decide) rfl h9_g__law_raised_too (by rfl) (pm_cons (pm_var S' (i := 0) rfl h9_v_kind) (pm_cons (pm_var S' (i := 1) rfl h9_v_one) (pm_cons (pm_var S' (i := 2) rfl h9_v_two) (pm_cons (pm_var S' (i := 3) rfl h9_v_three) pm_nil))))))
   (mb_one (ms_expr (pm_call S' C' (f := 8) (by decide) rfl h9_g__law_raised_last (by rfl) (pm_cons (pm_var S' (i := 0) rfl h9_v_kind) (pm_cons (pm_var S' (i := 1) rfl h9_v_one) (pm_cons (pm_var S' (i := 2) rfl h9_v_two) (pm_cons (pm_var S' (i := 3) rfl h9_v_three) pm_nil)))))))))) (fun X'' q'' z S'' C'' _ => (mb_one (ms_if (mt_tru C'' (pm_isE S'' C'' (i := 5) (j1 := 61) (j2 := 0) (tab := [(1, true), (2, true), (3, true), (4, true), (5, true), (6, true), (7, true), (8, true), (9, true), (10, true), (11, true), (12, true), (13, true), (14, true), (15, true), (16, true)]) (Dv := (fun _ => .type "ValueError")) h9_g_isinstance (by rfl) rfl h9_v_e (pm_tyN S'' C'' h9_g_ValueError (by rfl) (by decide +kernel)) (is_ty C'') rfl exc_known) (fun _ => rfl)) (mb_one (ms_set S'' (i := 4) rfl h9_l_found (pm_callX S'' C'' (f := 3) (i := 5) (by decide) rfl rfl h9_g__law_kinds (by rfl) rfl h9_v_e))) mb_nil))))
   (mb_one (ms_ret (pm_var S (i := 4) rfl h9_v_found)))))
theorem d10 (S : Sc X N10 (defScope st10)) (C : Ctx none X pg q k all) (T : Tr X) (E : Exs X pg exl) : PSs X (defBody st10) (sM q b10) :=
   (mb_cons (ms_set S (i := 4) rfl h10_l_words (pm_lst (pm_cons pm_str (pm_cons pm_str (pm_cons pm_str (pm_cons pm_str (pm_cons pm_str (pm_cons pm_str (pm_cons pm_str (pm_cons pm_str pm_nil))))))))))
   (mb_cons (ms_set S (i := 4) rfl h10_l_words (pm_bin (ki_add C) (pm_var S (i := 4) rfl h10_v_words) (pm_lst (pm_cons pm_str (pm_cons pm_str (pm_cons pm_str (pm_cons pm_str (pm_cons pm_str (pm_cons pm_str (pm_cons pm_str (pm_cons pm_str pm_nil)))))))))))
   (mb_cons (ms_if (mt_cmp (ki_in C) (pm_var S (i := 0) rfl h10_v_kind) (pm_tup (pm_cons pm_int (pm_cons pm_int (pm_cons pm_int pm_nil)))) (by with_unfolding_all rfl)) (mb_one (ms_ret (pm_tup (pm_cons (pm_sub C (pm_var S (i := 4) rfl h10_v_words) (pm_var S (i := 0) rfl h10_v_kind) (fun _ _ => rfl) (fun _ _ => rfl)) (pm_cons (pm_var S (i := 1) rfl h10_v_one) (pm_cons (pm_bi S C (kb_repr C) h10_g_repr (by rfl) (by decide +kernel) (pm_cons (pm_var S (i := 2) rfl h10_v_two) pm_nil)) pm_nil)))))) mb_nil)
   (mb_cons (ms_if (mt_cmp (ki_in C) (pm_var S (i := 0) rfl h10_v_kind) (pm_tup (pm_cons pm_int (pm_cons pm_int (pm_cons pm_int (pm_cons pm_int (pm_cons pm_int pm_nil)))))) (by with_unfolding_all rfl)) (mb_one (ms_ret (pm_tup (pm_cons (pm_sub C (pm_var S (i := 4) rfl h10_v_words) (pm_var S (i := 0) rfl h10_v_kind) (fun _ _ => rfl) (fun _ _ => rfl)) (pm_cons (pm_var S (i := 1) rfl h10_v_one) pm_nil))))) mb_nil)
   (mb_cons (ms_if (mt_cmp (ki_in C) (pm_var S (i := 0) rfl h10_v_kind) (pm_tup (pm_cons pm_int (pm_cons pm_int (pm_cons pm_int pm_nil)))) (by with_unfolding_all rfl)) (mb_one (ms_ret (pm_tup (pm_cons (pm_sub C (pm_var S (i := 4) rfl h10_v_words) (pm_var S (i := 0) rfl h10_v_kind) (fun _ _ => rfl) (fun _ _ => rfl)) (pm_cons (pm_bi S C (kb_repr C) h10_g_repr (by rfl) (by decide +kernel) (pm_cons (pm_var S (i := 1) rfl h10_v_one) pm_nil)) pm_nil))))) mb_nil)
   (mb_cons (ms_if (mt_cmp (ki_in C) (pm_var S (i := 0) rfl h10_v_kind) (pm_tup (pm_cons pm_int (pm_cons pm_int pm_nil))) (by with_unfolding_all rfl)) (mb_one (ms_ret (pm_tup (pm_cons (pm_sub C (pm_var S (i := 4) rfl h10_v_words) (pm_var S (i := 0) rfl h10_v_kind) (fun _ _ => rfl) (fun _ _ => rfl)) (pm_cons (pm_var S (i := 1) rfl h10_v_one) (pm_cons (pm_var S (i := 2) rfl h10_v_two) pm_nil)))))) mb_nil)
   (mb_one (ms_ret (pm_if (mt_cmp (ki_eq C) (pm_var S (i := 0) rfl h10_v_kind) pm_int (nomark _)) (pm_tup (pm_cons (pm_sub C (pm_var S (i := 4) rfl h10_v_words) (pm_var S (i := 0) rfl h10_v_kind) (fun _ _ => rfl) (fun _ _ => rfl)) (pm_cons (pm_var S (i := 1) rfl h10_v_one) (pm_cons (pm_var S (i := 2) rfl h10_v_two) (pm_cons (pm_var S (i := 3) rfl h10_v_three) pm_nil))))) (pm_tup (pm_cons (pm_sub C (pm_var S (i := 4) rfl h10_v_words) (pm_var S (i := 0) rfl h10_v_kind) (fun _ _ => rfl) (fun _ _ => rfl)) pm_nil)))))))))))
theorem d11 (S : Sc X N11 (defScope st11)) (C : Ctx none X pg q k all) (T : Tr X) (E : Exs X pg exl) : PSs X (defBody st11) (sM q b11) :=
   (mb_cons (ms_set S (i := 1) rfl h11_l_pen (pm_call S C (f := 0) (by decide) rfl h11_g__law_pen (by rfl) (pm_cons (pm_var S (i := 0) rfl h11_v_script) pm_nil)))
   (mb_cons (ms_for S C (mi_range1 S C h11_g_range (by rfl) (pm_cons pm_int pm_nil)) (mg_var S (i := 2) rfl h11_l_kind) (mb_cons (ms_par3 S (C.calm rfl) (i := 3) (j := 4) (l := 5) rfl rfl rfl (by decide) (by decide) (by decide) h11_l_one h11_l_two h11_l_three (pm_cons (pm_call S C (f := 5) (by decide) rfl h11_g__law_any_field (by rfl) (pm_cons (pm_var S (i := 1) rfl h11_v_pen) pm_nil)) (pm_cons (pm_call S C (f := 5) (by decide) rfl h11_g__law_any_field (by rfl) (pm_cons (pm_var S (i := 1) rfl h11_v_pen) pm_nil)) (pm_cons (pm_call S C (f := 5) (by decide) rfl h11_g__law_any_field (by rfl) (pm_cons (pm_var S (i := 1) rfl h11_v_pen) pm_nil)) pm_nil))) (sw_of S.sco (by first | rfl | with_unfolding_all rfl | kernel_rfl)))
   (mb_cons (ms_set S (i := 6) rfl h11_l_told (pm_call S C (f := 9) (by decide) rfl h11_g__law_told (by rfl) (pm_cons (pm_var S (i := 2) rfl h11_v_kind) (pm_cons (pm_var S (i := 3) rfl h11_v_one) (pm_cons (pm_var S (i := 4) rfl h11_v_two) (pm_cons (pm_var S (i := 5) rfl h11_v_three) pm_nil))))))
   (mb_one (ms_if (mw_or (mt_cmp ki_isN (pm_var S (i := 6) rfl h11_v_told) pm_non (nomark _)) (mw_or (mt_cmp (ki_ne C) (pm_bi S C (kb_len C) h11_g_len (by rfl) (by decide +kernel) (pm_cons (pm_var S (i := 6) rfl h11_v_told) pm_nil)) pm_int (nomark _)) (mw_or1 (mt_cmp (ki_ne C) (pm_bi S C (kb_repr C) h11_g_repr (by rfl) (by decide +kernel) (pm_cons (pm_sub C (pm_var S (i := 6) rfl h11_v_told) pm_int (fun _ _ => rfl) (fun _ _ => rfl)) pm_nil)) (pm_bi S C (kb_repr C) h11_g_repr (by rfl) (by decide +kernel) (pm_cons (pm_call S C (f := 10) (by decide) rfl h11_g__law_due_fields (by rfl) (pm_cons (pm_var S (i := 2) rfl h11_v_kind) (pm_cons (pm_var S (i := 3) rfl h11_v_one) (pm_cons (pm_var S (i := 4) rfl h11_v_two) (pm_cons (pm_var S (i := 5) rfl h11_v_three) pm_nil))))) pm_nil)) (nomark _))))).pt (mb_one (ms_ret pm_bl)) mb_nil)))))
   (mb_one (ms_ret pm_bl))))
end
/-! ### the defs, the exceptions -/
def fnl : List He.DefD := [dfn "_law_pen" st0, dfn "_law_draw" st1, dfn "_law_pick" st2, dfn "_law_kinds" st3, dfn "_law_more_kinds" st4, dfn "_law_any_field" st5, dfn "_law_raised" st6, dfn "_law_raised_too" st7, dfn "_law_raised_last" st8, dfn "_law_told" st9, dfn "_law_due_fields" st10, dfn "law" st11, dinit "BadNumber" "BadNumber.__init__" si1, dinit "BadRow" "BadRow.__init__" si2, dinit "BadRules" "BadRules.__init__" si3, dinit "BadTable" "BadTable.__init__" si4, dinit "BadBook" "BadBook.__init__" si5, dinit "BadName" "BadName.__init__" si6, dinit "BadText" "BadText.__init__" si7, dinit "NoPlace" "NoPlace.__init__" si8, dinit "NoName" "NoName.__init__" si9, dinit "TakenName" "TakenName.__init__" si10, dinit "Unlike" "Unlike.__init__" si11, dinit "NotThere" "NotThere.__init__" si12, dinit "TooMany" "TooMany.__init__" si13, dinit "NotKept" "NotKept.__init__" si14]
theorem sc0 : FnScope N0 ["script"] (defScope st0) := ⟨rfl, rfl, rfl, by decide +kernel, rfl, by decide +kernel, by decide +kernel⟩
theorem sc1 : FnScope N1 ["pen", "many"] (defScope st1) := ⟨rfl, rfl, rfl, by decide +kernel, rfl, by decide +kernel, by decide +kernel⟩
theorem sc2 : FnScope N2 ["pen", "some"] (defScope st2) := ⟨rfl, rfl, rfl, by decide +kernel, rfl, by decide +kernel, by decide +kernel⟩
theorem sc3 : FnScope N3 ["e"] (defScope st3) := ⟨rfl, rfl, rfl, by decide +kernel, rfl, by decide +kernel, by decide +kernel⟩
theorem sc4 : FnScope N4 ["e"] (defScope st4) := ⟨rfl, rfl, rfl, by decide +kernel, rfl, by decide +kernel, by decide +kernel⟩
theorem sc5 : FnScope N5 ["pen"] (defScope st5) := ⟨rfl, rfl, rfl, by decide +kernel, rfl, by decide +kernel, by decide +kernel⟩
theorem sc6 : FnScope N6 ["kind", "one", "two", "three"] (defScope st6) := ⟨rfl, rfl, rfl, by decide +kernel, rfl, by decide +kernel, by decide +kernel⟩
theorem sc7 : FnScope N7 ["kind", "one", "two", "three"] (defScope st7) := ⟨rfl, rfl, rfl, by decide +kernel, rfl, by decide +kernel, by decide +kernel⟩
theorem sc8 : FnScope N8 ["kind", "one", "two", "three"] (defScope st8) := ⟨rfl, rfl, rfl, by decide +kernel, rfl, by decide +kernel, by decide +kernel⟩
theorem sc9 : FnScope N9 ["kind", "one", "two", "three"] (defScope st9) := ⟨rfl, rfl, rfl, by decide +kernel, rfl, by decide +kernel, by decide +kernel⟩
theorem sc10 : FnScope N10 ["kind", "one", "two", "three"] (defScope st10) := ⟨rfl, rfl, rfl, by decide +kernel, rfl, by decide +kernel, by decide +kernel⟩
theorem sc11 : FnScope N11 ["script"] (defScope st11) := ⟨rfl, rfl, rfl, by decide +kernel, rfl, by decide +kernel, by decide +kernel⟩
theorem at0 {P : Program} {w : World} {K : PySem.W.Frag} {mg : Str → Option Value} {base : Heap} (c : SaysM pg fnl K) : DefAt P w K mg base pg bd exl all 0 := by
  obtain ⟨fd, F⟩ := c.fun_ (i := 0) rfl
  exact ⟨_, _, _, _, _, N0, ["script"], fd, F, sc0, F.bindsN fun _ _ _ _ _ _ us hl => match us, hl with | [_], _ => rfl, rfl, rfl, fun X q k S C T E => d0 S C T E⟩
theorem at1 {P : Program} {w : World} {K : PySem.W.Frag} {mg : Str → Option Value} {base : Heap} (c : SaysM pg fnl K) : DefAt P w K mg base pg bd exl all 1 := by
  obtain ⟨fd, F⟩ := c.fun_ (i := 1) rfl
  exact ⟨_, _, _, _, _, N1, ["pen", "many"], fd, F, sc1, F.bindsN fun _ _ _ _ _ _ us hl => match us, hl with | [_, _], _ => rfl, rfl, rfl, fun X q k S C T E => d1 S C T E⟩
theorem at2 {P : Program} {w : World} {K : PySem.W.Frag} {mg : Str → Option Value} {base : Heap} (c : SaysM pg fnl K) : DefAt P w K mg base pg bd exl all 2 := by
  obtain ⟨fd, F⟩ := c.fun_ (i := 2) rfl
  exact ⟨_, _, _, _, _, N2, ["pen", "some"], fd, F, sc2, F.bindsN fun _ _ _ _ _ _ us hl => match us, hl with | [_, _], _ => rfl, rfl, rfl, fun X q k S C T E => d2 S C T E⟩
theorem at3 {K : PySem.W.Frag} (c : SaysM pg fnl K) : HotAt K pg bd 3 := by
  obtain ⟨fd, F⟩ := c.fun_ (i := 3) rfl
  exact ⟨_, _, _, _, _, N3, ["e"], fd, F, sc3, F.bindsN fun _ _ _ _ _ _ us hl => match us, hl with | [_], _ => rfl, rfl, rfl, fun X q k z S C => d3 S C⟩
theorem at4 {K : PySem.W.Frag} (c : SaysM pg fnl K) : HotAt K pg bd 4 := by
  obtain ⟨fd, F⟩ := c.fun_ (i := 4) rfl
  exact ⟨_, _, _, _, _, N4, ["e"], fd, F, sc4, F.bindsN fun _ _ _ _ _ _ us hl => match us, hl with | [_], _ => rfl, rfl, rfl, fun X q k z S C => d4 S C⟩
theorem at5 {P : Program} {w : World} {K : PySem.W.Frag} {mg : Str → Option Value} {base : Heap} (c : SaysM pg fnl K) : DefAt P w K mg base pg bd exl all 5 := by
  obtain ⟨fd, F⟩ := c.fun_ (i := 5) rfl
  exact ⟨_, _, _, _, _, N5, ["pen"], fd, F, sc5, F.bindsN fun _ _ _ _ _ _ us hl => match us, hl with | [_], _ => rfl, rfl, rfl, fun X q k S C T E => d5 S C T E⟩
theorem at6 {P : Program} {w : World} {K : PySem.W.Frag} {mg : Str → Option Value} {base : Heap} (c : SaysM pg fnl K) : DefAt P w K mg base pg bd exl all 6 := by
  obtain ⟨fd, F⟩ := c.fun_ (i := 6) rfl
  exact ⟨_, _, _, _, _, N6, ["kind", "one", "two", "three"], fd, F, sc6, F.bindsN fun _ _ _ _ _ _ us hl => match us, hl with | [_, _, _, _], _ => rfl, rfl, rfl, fun X q k S C T E => d6 S C T E⟩
theorem at7 {P : Program} {w : World} {K : PySem.W.Frag} {mg : Str → Option Value} {base : Heap} (c : SaysM pg fnl K) : DefAt P w K mg base pg bd exl all 7 := by
  obtain ⟨fd, F⟩ := c.fun_ (i := 7) rfl
  exact ⟨_, _, _, _, _, N7, ["kind", "one", "two", "three"], fd, F, sc7, F.bindsN fun _ _ _ _ _ _ us hl => match us, hl with | [_, _, _, _], _ => rfl, rfl, rfl, fun X q k S C T E => d7 S C T E⟩
theorem at8 {P : Program} {w : World} {K : PySem.W.Frag} {mg : Str → Option Value} {base : Heap} (c : SaysM pg fnl K) : DefAt P w K mg base pg bd exl all 8 := by
  obtain ⟨fd, F⟩ := c.fun_ (i := 8) rfl
  exact ⟨_, _, _, _, _, N8, ["kind", "one", "two", "three"], fd, F, sc8, F.bindsN fun _ _ _ _ _ _ us hl => match us, hl with | [_, _, _, _], _ => rfl, rfl, rfl, fun X q k S C T E => d8 S C T E⟩
theorem at9 {P : Program} {w : World} {K : PySem.W.Frag} {mg : Str → Option Value} {base : Heap} (c : SaysM pg fnl K) : DefAt P w K mg base pg bd exl all 9 := by
  obtain ⟨fd, F⟩ := c.fun_ (i := 9) rfl
  exact ⟨_, _, _, _, _, N9, ["kind", "one", "two", "three"], fd, F, sc9, F.bindsN fun _ _ _ _ _ _ us hl => match us, hl with | [_, _, _, _], _ => rfl, rfl, rfl, fun X q k S C T E => d9 S C T E⟩
theorem at10 {P : Program} {w : World} {K : PySem.W.Frag} {mg : Str → Option Value} {base : Heap} (c : SaysM pg fnl K) : DefAt P w K mg base pg bd exl all 10 := by
  obtain ⟨fd, F⟩ := c.fun_ (i := 10) rfl
  exact ⟨_, _, _, _, _, N10, ["kind", "one", "two", "three"], fd, F, sc10, F.bindsN fun _ _ _ _ _ _ us hl => match us, hl with | [_, _, _, _], _ => rfl, rfl, rfl, fun X q k S C T E => d10 S C T E⟩
theorem at11 {P : Program} {w : World} {K : PySem.W.Frag} {mg : Str → Option Value} {base : Heap} (c : SaysM pg fnl K) : DefAt P w K mg base pg bd exl all 11 := by
  obtain ⟨fd, F⟩ := c.fun_ (i := 11) rfl
  exact ⟨_, _, _, _, _, N11, ["script"], fd, F, sc11, F.bindsN fun _ _ _ _ _ _ us hl => match us, hl with | [_], _ => rfl, rfl, rfl, fun X q k S C T E => d11 S C T E⟩
theorem ex1 {P : Program} {w : World} {K : PySem.W.Frag} {mg : Str → Option Value} {base : Heap} (c : SaysM pg fnl K) : ExcAt P w K mg base (He.ga K "BadNumber") ["what", "number"] := by
  obtain ⟨fd, F⟩ := c.fun_ (i := 12) rfl
  have f1 : ExcFacts K (He.ga K "BadNumber") := excF_ok (c.all.2.2.1 0 _ rfl)
  have f2 : noatF "BadNumber" ["what", "number"] K = true := c.all.2.2.1 16 _ rfl
  have f3 : initF "BadNumber" K = true := c.all.2.2.1 17 _ rfl
  obtain ⟨f4, f5⟩ := He.ba f3
  exact ⟨f1, .inr ⟨by simp, _, fd, ["self", "what", "number"], He.eqO_ok f4, of_decide_eq_true f5, init2 F (⟨rfl, rfl, rfl, by decide +kernel, rfl, by decide +kernel, by decide +kernel⟩ : FnScope ["self", "what", "number"] ["self", "what", "number"] (defScope si1)) ⟨f1.oex, fun n hn => He.eqO_ok (List.all_eq_true.mp f2 n hn)⟩ (by decide +kernel) (by decide +kernel) (by decide +kernel), F.bindsN fun _ _ _ _ _ _ us hl => match us, hl with | [_, _, _], _ => rfl⟩⟩
theorem ex2 {P : Program} {w : World} {K : PySem.W.Frag} {mg : Str → Option Value} {base : Heap} (c : SaysM pg fnl K) : ExcAt P w K mg base (He.ga K "BadRow") ["what", "row"] := by
  obtain ⟨fd, F⟩ := c.fun_ (i := 13) rfl
  have f1 : ExcFacts K (He.ga K "BadRow") := excF_ok (c.all.2.2.1 1 _ rfl)
  have f2 : noatF "BadRow" ["what", "row"] K = true := c.all.2.2.1 18 _ rfl
  have f3 : initF "BadRow" K = true := c.all.2.2.1 19 _ rfl
  obtain ⟨f4, f5⟩ := He.ba f3
  exact ⟨f1, .inr ⟨by simp, _, fd, ["self", "what", "row"], He.eqO_ok f4, of_decide_eq_true f5, init2 F (⟨rfl, rfl, rfl, by decide +kernel, rfl, by decide +kernel, by decide +kernel⟩ : FnScope ["self", "what", "row"] ["self", "what", "row"] (defScope si2)) ⟨f1.oex, fun n hn => He.eqO_ok (List.all_eq_true.mp f2 n hn)⟩ (by decide +kernel) (by decide +kernel) (by decide +kernel), F.bindsN fun _ _ _ _ _ _ us hl => match us, hl with | [_, _, _], _ => rfl⟩⟩
theorem ex3 {P : Program} {w : World} {K : PySem.W.Frag} {mg : Str → Option Value} {base : Heap} (c : SaysM pg fnl K) : ExcAt P w K mg base (He.ga K "BadRules") ["what"] := by
  obtain ⟨fd, F⟩ := c.fun_ (i := 14) rfl
  have f1 : ExcFacts K (He.ga K "BadRules") := excF_ok (c.all.2.2.1 2 _ rfl)
  have f2 : noatF "BadRules" ["what"] K = true := c.all.2.2.1 20 _ rfl
  have f3 : initF "BadRules" K = true := c.all.2.2.1 21 _ rfl
  obtain ⟨f4, f5⟩ := He.ba f3
  exact ⟨f1, .inr ⟨by simp, _, fd, ["self", "what"], He.eqO_ok f4, of_decide_eq_true f5, init1 F (⟨rfl, rfl, rfl, by decide +kernel, rfl, by decide +kernel, by decide +kernel⟩ : FnScope ["self", "what"] ["self", "what"] (defScope si3)) ⟨f1.oex, fun n hn => He.eqO_ok (List.all_eq_true.mp f2 n hn)⟩ (by decide +kernel) (by decide +kernel), F.bindsN fun _ _ _ _ _ _ us hl => match us, hl with | [_, _], _ => rfl⟩⟩
theorem ex4 {P : Program} {w : World} {K : PySem.W.Frag} {mg : Str → Option Value} {base : Heap} (c : SaysM pg fnl K) : ExcAt P w K mg base (He.ga K "BadTable") ["what"] := by
  obtain ⟨fd, F⟩ := c.fun_ (i := 15) rfl
  have f1 : ExcFacts K (He.ga K "BadTable") := excF_ok (c.all.2.2.1 3 _ rfl)
  have f2 : noatF "BadTable" ["what"] K = true := c.all.2.2.1 22 _ rfl
  have f3 : initF "BadTable" K = true := c.all.2.2.1 23 _ rfl
  obtain ⟨f4, f5⟩ := He.ba f3
  exact ⟨f1, .inr ⟨by simp, _, fd, ["self", "what"], He.eqO_ok f4, of_decide_eq_true f5, init1 F (⟨rfl, rfl, rfl, by decide +kernel, rfl, by decide +kernel, by decide +kernel⟩ : FnScope ["self", "what"] ["self", "what"] (defScope si4)) ⟨f1.oex, fun n hn => He.eqO_ok (List.all_eq_true.mp f2 n hn)⟩ (by decide +kernel) (by decide +kernel), F.bindsN fun _ _ _ _ _ _ us hl => match us, hl with | [_, _], _ => rfl⟩⟩
theorem ex5 {P : Program} {w : World} {K : PySem.W.Frag} {mg : Str → Option Value} {base : Heap} (c : SaysM pg fnl K) : ExcAt P w K mg base (He.ga K "BadBook") ["what"] := by
  obtain ⟨fd, F⟩ := c.fun_ (i := 16) rfl
  have f1 : ExcFacts K (He.ga K "BadBook") := excF_ok (c.all.2.2.1 4 _ rfl)
  have f2 : noatF "BadBook" ["what"] K = true := c.all.2.2.1 24 _ rfl
  have f3 : initF "BadBook" K = true := c.all.2.2.1 25 _ rfl
  obtain ⟨f4, f5⟩ := He.ba f3
  exact ⟨f1, .inr ⟨by simp, _, fd, ["self", "what"], He.eqO_ok f4, of_decide_eq_true f5, init1 F (⟨rfl, rfl, rfl, by decide +kernel, rfl, by decide +kernel, by decide +kernel⟩ : FnScope ["self", "what"] ["self", "what"] (defScope si5)) ⟨f1.oex, fun n hn => He.eqO_ok (List.all_eq_true.mp f2 n hn)⟩ (by decide +kernel) (by decide +kernel), F.bindsN fun _ _ _ _ _ _ us hl => match us, hl with | [_, _], _ => rfl⟩⟩
theorem ex6 {P : Program} {w : World} {K : PySem.W.Frag} {mg : Str → Option Value} {base : Heap} (c : SaysM pg fnl K) : ExcAt P w K mg base (He.ga K "BadName") ["name"] := by
  obtain ⟨fd, F⟩ := c.fun_ (i := 17) rfl
  have f1 : ExcFacts K (He.ga K "BadName") := excF_ok (c.all.2.2.1 5 _ rfl)
  have f2 : noatF "BadName" ["name"] K = true := c.all.2.2.1 26 _ rfl
  have f3 : initF "BadName" K = true := c.all.2.2.1 27 _ rfl
  obtain ⟨f4, f5⟩ := He.ba f3
  exact ⟨f1, .inr ⟨by simp, _, fd, ["self", "name"], He.eqO_ok f4, of_decide_eq_true f5, init1 F (⟨rfl, rfl, rfl, by decide +kernel, rfl, by decide +kernel, by decide +kernel⟩ : FnScope ["self", "name"] ["self", "name"] (defScope si6)) ⟨f1.oex, fun n hn => He.eqO_ok (List.all_eq_true.mp f2 n hn)⟩ (by decide +kernel) (by decide +kernel), F.bindsN fun _ _ _ _ _ _ us hl => match us, hl with | [_, _], _ => rfl⟩⟩
theorem ex7 {P : Program} {w : World} {K : PySem.W.Frag} {mg : Str → Option Value} {base : Heap} (c : SaysM pg fnl K) : ExcAt P w K mg base (He.ga K "BadText") ["line", "word"] := by
  obtain ⟨fd, F⟩ := c.fun_ (i := 18) rfl
  have f1 : ExcFacts K (He.ga K "BadText") := excF_ok (c.all.2.2.1 6 _ rfl)
  have f2 : noatF "BadText" ["line", "word"] K = true := c.all.2.2.1 28 _ rfl
  have f3 : initF "BadText" K = true := c.all.2.2.1 29 _ rfl
  obtain ⟨f4, f5⟩ := He.ba f3
  exact ⟨f1, .inr ⟨by simp, _, fd, ["self", "line", "word"], He.eqO_ok f4, of_decide_eq_true f5, init2 F (⟨rfl, rfl, rfl, by decide +kernel, rfl, by decide +kernel, by decide +kernel⟩ : FnScope ["self", "line", "word"] ["self", "line", "word"] (defScope si7)) ⟨f1.oex, fun n hn => He.eqO_ok (List.all_eq_true.mp f2 n hn)⟩ (by decide +kernel) (by decide +kernel) (by decide +kernel), F.bindsN fun _ _ _ _ _ _ us hl => match us, hl with | [_, _, _], _ => rfl⟩⟩
theorem ex8 {P : Program} {w : World} {K : PySem.W.Frag} {mg : Str → Option Value} {base : Heap} (c : SaysM pg fnl K) : ExcAt P w K mg base (He.ga K "NoPlace") ["what", "index"] := by
  obtain ⟨fd, F⟩ := c.fun_ (i := 19) rfl
  have f1 : ExcFacts K (He.ga K "NoPlace") := excF_ok (c.all.2.2.1 7 _ rfl)
  have f2 : noatF "NoPlace" ["what", "index"] K = true := c.all.2.2.1 30 _ rfl
  have f3 : initF "NoPlace" K = true := c.all.2.2.1 31 _ rfl
  obtain ⟨f4, f5⟩ := He.ba f3
  exact ⟨f1, .inr ⟨by simp, _, fd, ["self", "what", "index"], He.eqO_ok f4, of_decide_eq_true f5, init2 F (⟨rfl, rfl, rfl, by decide +kernel, rfl, by decide +kernel, by decide +kernel⟩ : FnScope ["self", "what", "index"] ["self", "what", "index"] (defScope si8)) ⟨f1.oex, fun n hn => He.eqO_ok (List.all_eq_true.mp f2 n hn)⟩ (by decide +kernel) (by decide +kernel) (by decide +kernel), F.bindsN fun _ _ _ _ _ _ us hl => match us, hl with | [_, _, _], _ => rfl⟩⟩
theorem ex9 {P : Program} {w : World} {K : PySem.W.Frag} {mg : Str → Option Value} {base : Heap} (c : SaysM pg fnl K) : ExcAt P w K mg base (He.ga K "NoName") ["name"] := by
  obtain ⟨fd, F⟩ := c.fun_ (i := 20) rfl
  have f1 : ExcFacts K (He.ga K "NoName") := excF_ok (c.all.2.2.1 8 _ rfl)
  have f2 : noatF "NoName" ["name"] K = true := c.all.2.2.1 32 _ rfl
  have f3 : initF "NoName" K = true := c.all.2.2.1 33 _ rfl
  obtain ⟨f4, f5⟩ := He.ba f3
  exact ⟨f1, .inr ⟨by simp, _, fd, ["self", "name"], He.eqO_ok f4, of_decide_eq_true f5, init1 F (⟨rfl, rfl, rfl, by decide +kernel, rfl, by decide +kernel, by decide +kernel⟩ : FnScope ["self", "name"] ["self", "name"] (defScope si9)) ⟨f1.oex, fun n hn => He.eqO_ok (List.all_eq_true.mp f2 n hn)⟩ (by decide +kernel) (by decide +kernel), F.bindsN fun _ _ _ _ _ _ us hl => match us, hl with | [_, _], _ => rfl⟩⟩
theorem ex10 {P : Program} {w : World} {K : PySem.W.Frag} {mg : Str → Option Value} {base : Heap} (c : SaysM pg fnl K) : ExcAt P w K mg base (He.ga K "TakenName") ["name"] := by
  obtain ⟨fd, F⟩ := c.fun_ (i := 21) rfl
  have f1 : ExcFacts K (He.ga K "TakenName") := excF_ok (c.all.2.2.1 9 _ rfl)
  have f2 : noatF "TakenName" ["name"] K = true := c.all.2.2.1 34 _ rfl
  have f3 : initF "TakenName" K = true := c.all.2.2.1 35 _ rfl
  obtain ⟨f4, f5⟩ := He.ba f3
  exact ⟨f1, .inr ⟨by simp, _, fd, ["self", "name"], He.eqO_ok f4, of_decide_eq_true f5, init1 F (⟨rfl, rfl, rfl, by decide +kernel, rfl, by decide +kernel, by decide +kernel⟩ : FnScope ["self", "name"] ["self", "name"] (defScope si10)) ⟨f1.oex, fun n hn => He.eqO_ok (List.all_eq_true.mp f2 n hn)⟩ (by decide +kernel) (by decide +kernel), F.bindsN fun _ _ _ _ _ _ us hl => match us, hl with | [_, _], _ => rfl⟩⟩
theorem ex11 {P : Program} {w : World} {K : PySem.W.Frag} {mg : Str → Option Value} {base : Heap} (c : SaysM pg fnl K) : ExcAt P w K mg base (He.ga K "Unlike") ["what"] := by
  obtain ⟨fd, F⟩ := c.fun_ (i := 22) rfl
  have f1 : ExcFacts K (He.ga K "Unlike") := excF_ok (c.all.2.2.1 10 _ rfl)
  have f2 : noatF "Unlike" ["what"] K = true := c.all.2.2.1 36 _ rfl
  have f3 : initF "Unlike" K = true := c.all.2.2.1 37 _ rfl
  obtain ⟨f4, f5⟩ := He.ba f3
  exact ⟨f1, .inr ⟨by simp, _, fd, ["self", "what"], He.eqO_ok f4, of_decide_eq_true f5, init1 F (⟨rfl, rfl, rfl, by decide +kernel, rfl, by decide +kernel, by decide +kernel⟩ : FnScope ["self", "what"] ["self", "what"] (defScope si11)) ⟨f1.oex, fun n hn => He.eqO_ok (List.all_eq_true.mp f2 n hn)⟩ (by decide +kernel) (by decide +kernel), F.bindsN fun _ _ _ _ _ _ us hl => match us, hl with | [_, _], _ => rfl⟩⟩
theorem ex12 {P : Program} {w : World} {K : PySem.W.Frag} {mg : Str → Option Value} {base : Heap} (c : SaysM pg fnl K) : ExcAt P w K mg base (He.ga K "NotThere") ["paper"] := by
  obtain ⟨fd, F⟩ := c.fun_ (i := 23) rfl
  have f1 : ExcFacts K (He.ga K "NotThere") := excF_ok (c.all.2.2.1 11 _ rfl)
  have f2 : noatF "NotThere" ["paper"] K = true := c.all.2.2.1 38 _ rfl
  have f3 : initF "NotThere" K = true := c.all.2.2.1 39 _ rfl
  obtain ⟨f4, f5⟩ := He.ba f3
  exact ⟨f1, .inr ⟨by simp, _, fd, ["self", "paper"], He.eqO_ok f4, of_decide_eq_true f5, init1 F (⟨rfl, rfl, rfl, by decide +kernel, rfl, by decide +kernel, by decide +kernel⟩ : FnScope ["self", "paper"] ["self", "paper"] (defScope si12)) ⟨f1.oex, fun n hn => He.eqO_ok (List.all_eq_true.mp f2 n hn)⟩ (by decide +kernel) (by decide +kernel), F.bindsN fun _ _ _ _ _ _ us hl => match us, hl with | [_, _], _ => rfl⟩⟩
theorem ex13 {P : Program} {w : World} {K : PySem.W.Frag} {mg : Str → Option Value} {base : Heap} (c : SaysM pg fnl K) : ExcAt P w K mg base (He.ga K "TooMany") ["what", "many", "limit"] := by
  obtain ⟨fd, F⟩ := c.fun_ (i := 24) rfl
  have f1 : ExcFacts K (He.ga K "TooMany") := excF_ok (c.all.2.2.1 12 _ rfl)
  have f2 : noatF "TooMany" ["what", "many", "limit"] K = true := c.all.2.2.1 40 _ rfl
  have f3 : initF "TooMany" K = true := c.all.2.2.1 41 _ rfl
  obtain ⟨f4, f5⟩ := He.ba f3
  exact ⟨f1, .inr ⟨by simp, _, fd, ["self", "what", "many", "limit"], He.eqO_ok f4, of_decide_eq_true f5, init3 F (⟨rfl, rfl, rfl, by decide +kernel, rfl, by decide +kernel, by decide +kernel⟩ : FnScope ["self", "what", "many", "limit"] ["self", "what", "many", "limit"] (defScope si13)) ⟨f1.oex, fun n hn => He.eqO_ok (List.all_eq_true.mp f2 n hn)⟩ (by decide +kernel) (by decide +kernel) (by decide +kernel) (by decide +kernel), F.bindsN fun _ _ _ _ _ _ us hl => match us, hl with | [_, _, _, _], _ => rfl⟩⟩
theorem ex14 {P : Program} {w : World} {K : PySem.W.Frag} {mg : Str → Option Value} {base : Heap} (c : SaysM pg fnl K) : ExcAt P w K mg base (He.ga K "NotKept") ["promise", "witness"] := by
  obtain ⟨fd, F⟩ := c.fun_ (i := 25) rfl
  have f1 : ExcFacts K (He.ga K "NotKept") := excF_ok (c.all.2.2.1 13 _ rfl)
  have f2 : noatF "NotKept" ["promise", "witness"] K = true := c.all.2.2.1 42 _ rfl
  have f3 : initF "NotKept" K = true := c.all.2.2.1 43 _ rfl
  obtain ⟨f4, f5⟩ := He.ba f3
  exact ⟨f1, .inr ⟨by simp, _, fd, ["self", "promise", "witness"], He.eqO_ok f4, of_decide_eq_true f5, init2 F (⟨rfl, rfl, rfl, by decide +kernel, rfl, by decide +kernel, by decide +kernel⟩ : FnScope ["self", "promise", "witness"] ["self", "promise", "witness"] (defScope si14)) ⟨f1.oex, fun n hn => He.eqO_ok (List.all_eq_true.mp f2 n hn)⟩ (by decide +kernel) (by decide +kernel) (by decide +kernel), F.bindsN fun _ _ _ _ _ _ us hl => match us, hl with | [_, _, _], _ => rfl⟩⟩
theorem lawM {P : Program} : LawM P pg fnl bd exl all where
  exs := fun w K mg base c T e he => by
    simp only [exl, List.mem_cons, List.not_mem_nil, or_false] at he
    rcases he with rfl | rfl | rfl | rfl | rfl | rfl | rfl | rfl | rfl | rfl | rfl | rfl | rfl | rfl | rfl | rfl
    · exact ex1 c
    · exact ex2 c
    · exact ex3 c
    · exact ex4 c
    · exact ex5 c
    · exact ex6 c
    · exact ex7 c
    · exact ex8 c
    · exact ex9 c
    · exact ex10 c
    · exact ex11 c
    · exact ex12 c
    · exact ex13 c
    · exact ex14 c
    · exact ⟨excF_ok (c.all.2.2.1 14 _ rfl), .inl ⟨rfl, c.all.2.2.1 62 _ rfl⟩⟩
    · exact ⟨excF_ok (c.all.2.2.1 15 _ rfl), .inl ⟨rfl, c.all.2.2.1 63 _ rfl⟩⟩
  hot := fun K c f hf => by
    simp only [pg, List.mem_cons, List.not_mem_nil, or_false] at hf
    rcases hf with rfl | rfl
    · exact at3 c
    · exact at4 c
  defs := fun w K mg base c f hf => by
    simp only [all, List.mem_cons, List.not_mem_nil, or_false] at hf
    rcases hf with rfl | rfl | rfl | rfl | rfl | rfl | rfl | rfl | rfl | rfl
    · exact at0 c
    · exact at1 c
    · exact at2 c
    · exact at5 c
    · exact at6 c
    · exact at7 c
    · exact at8 c
    · exact at9 c
    · exact at10 c
    · exact at11 c
end Lw

set_option maxHeartbeats 0
namespace Lw
open PySem PySem.Spec
open PyProof.Rows hiding St
open L2 Mi
/-! ### the head -/
def ls0 : List PySem.Str := ["_law_pen", "_law_draw", "_law_pick", "_law_kinds", "_law_more_kinds", "_law_any_field", "_law_raised", "_law_raised_too", "_law_raised_last", "_law_told", "_law_due_fields", "RowError"]
def ls1 : List PySem.Str := ["BadNumber", "BadRow", "BadRules", "BadTable", "BadBook", "BadName", "BadText", "NoPlace", "NoName", "TakenName", "Unlike", "NotThere"]
def ls2 : List PySem.Str := ["TooMany", "NotKept", "NothingToUndo", "NothingToRedo"]
def loose : List PySem.Str := ls0 ++ ls1 ++ ls2
abbrev R : PySem.W.OpenRow := PySem.W.OpenLaw.row PySem.Challenge.rw_carryrows_k01_errors
theorem run (w : World) : HandSHeadRun.RunEq R (PySem.W.view R.prog [30]) (hookM 5 pg fnl) (obM 5 pg fnl) 30000 loose w := by
  intro os
  kernel_rfl
end Lw

namespace Lw
open PySem Mi
/-- data of a field, shown as p -/
structure Fv (d : D) (p : PyData) : Prop where
  nx : isExn d = false
  be : ∀ n, below n d = true
  tr : toR d = some p
  nr : ∀ i, d ≠ .ref i
  sh : p.showable = true
  dp : p.depth ≤ 5
  ok : Mi.strsOk p
  sz : szP p ≤ 200
theorem Fv.tv {d : D} {p : PyData} (h : Fv d p) (μ : Mem) : toRv μ d = some p := by
  unfold toRv
  split
  · exact absurd rfl (h.nr _)
  · exact h.tr
theorem Fv.rp {d : D} {p : PyData} (h : Fv d p) (μ : Mem) : kRepr [d] μ = some (.str p.shown) := kRepr_of (h.tv μ) h.sh (by have := h.dp; omega) h.ok (by have := h.sz; omega)

theorem xInt {i} : isExn (.int i) = false := rfl
theorem xStr {i} : isExn (.str i) = false := rfl
theorem xTup {i} : isExn (.tup i) = false := rfl
theorem xLst {i} : isExn (.lst i) = false := rfl
theorem xBl {i} : isExn (.bl i) = false := rfl
theorem xRef {i} : isExn (.ref i) = false := rfl
theorem xNon : isExn .non = false := rfl
theorem xExn : isExn .exn = true := rfl
theorem bb0 : bd.b 0 = b0 := rfl
theorem bn0 : bd.n 0 = 3 := rfl
theorem bk0 : bd.kp 0 = true := rfl
theorem bb1 : bd.b 1 = b1 := rfl
theorem bn1 : bd.n 1 = 5 := rfl
theorem bk1 : bd.kp 1 = false := rfl
theorem bb2 : bd.b 2 = b2 := rfl
theorem bn2 : bd.n 2 = 2 := rfl
theorem bk2 : bd.kp 2 = false := rfl
theorem bb3 : bd.b 3 = b3 := rfl
theorem bn3 : bd.n 3 = 2 := rfl
theorem bk3 : bd.kp 3 = false := rfl
theorem bb4 : bd.b 4 = b4 := rfl
theorem bn4 : bd.n 4 = 2 := rfl
theorem bk4 : bd.kp 4 = false := rfl
theorem bb5 : bd.b 5 = b5 := rfl
theorem bn5 : bd.n 5 = 2 := rfl
theorem bk5 : bd.kp 5 = false := rfl
theorem bb6 : bd.b 6 = b6 := rfl
theorem bn6 : bd.n 6 = 4 := rfl
theorem bk6 : bd.kp 6 = false := rfl
theorem bb7 : bd.b 7 = b7 := rfl
theorem bn7 : bd.n 7 = 4 := rfl
theorem bk7 : bd.kp 7 = false := rfl
theorem bb8 : bd.b 8 = b8 := rfl
theorem bn8 : bd.n 8 = 4 := rfl
theorem bk8 : bd.kp 8 = false := rfl
theorem bb9 : bd.b 9 = b9 := rfl
theorem bn9 : bd.n 9 = 6 := rfl
theorem bk9 : bd.kp 9 = false := rfl
theorem bb10 : bd.b 10 = b10 := rfl
theorem bn10 : bd.n 10 = 5 := rfl
theorem bk10 : bd.kp 10 = false := rfl
theorem bb11 : bd.b 11 = b11 := rfl
theorem bn11 : bd.n 11 = 7 := rfl
theorem bk11 : bd.kp 11 = false := rfl
section
variable {m : MO} {one two three : D} {p1 p2 p3 : PyData}
theorem kinds0 (k b : Nat) (h1 : Fv one p1) (h2 : Fv two p2) (h3 : Fv three p3) : callH bd (k + 2) 1 [("number", two), ("what", one)] 3 [.exn] b [m] = .ok (.lst [.tup [.str "number", one, .str p2.shown]]) [m] := by
  have a1 := h1.be
  have a2 := h2.be
  have a3 := h3.be
  have c1 := h1.rp
  have c2 := h2.rp
  have n1 := h1.nx
  have n2 := h2.nx
  have n3 := h3.nx
  simp [b3, b4, a1, a2, a3, c1, c2, ofS_inj, sizeLine_eq, callH_s, callN_s, fin, sNil, sSeq, sAsg, sOf, sIf, sRet, sDrop, mBin, mUn, mOps, mCons, mNil, mVar, mC, mNew, mTst, mTru, mMut, mIsE, mXf, mCallX, mCallN, mIf, R.bind, gVar, xInt, xStr, xTup, xLst, xBl, xNon, xRef, xExn, startE, kLst, kTup, szB, kApp, Mi.listOf, tabAt, hasN, lookF, tru, okW, kAdd, below, belowL, belowF, belowK, frz, frzL, frzK, frzF, noExn, sTry, sRaise, noExnE, kEq_int, kIn, vD, vDL, itemsOf, L2.inV, L2.eqV, kSub2, dictOf, kIx, L2.atI, L2.ixN, bb0, bn0, bk0, bb1, bn1, bk1, bb2, bn2, bk2, bb3, bn3, bk3, bb4, bn4, bk4, bb5, bn5, bk5, bb6, bn6, bk6, bb7, bn7, bk7, bb8, bn8, bk8, bb9, bn9, bk9, bb10, bn10, bk10, bb11, bn11, bk11]
theorem told0 (k b : Nat) (h1 : Fv one p1) (h2 : Fv two p2) (h3 : Fv three p3) : callN bd (k + 3) 9 [.int 0, one, two, three] b [m] = .ok (.lst [.tup [.str "number", one, .str p2.shown]]) [m] := by
  have a1 := h1.be
  have a2 := h2.be
  have a3 := h3.be
  have c1 := h1.rp
  have c2 := h2.rp
  have n1 := h1.nx
  have n2 := h2.nx
  have n3 := h3.nx
  have e := fun b => kinds0 (m := m) k b h1 h2 h3
  simp [b9, b6, b7, b8, a1, a2, a3, n1, n2, n3, ofS_inj, sizeLine_eq, e, callN_s, fin, sNil, sSeq, sAsg, sOf, sIf, sRet, sDrop, mBin, mUn, mOps, mCons, mNil, mVar, mC, mNew, mTst, mTru, mMut, mIsE, mXf, mCallX, mCallN, mIf, R.bind, gVar, xInt, xStr, xTup, xLst, xBl, xNon, xRef, xExn, startE, kLst, kTup, szB, kApp, Mi.listOf, tabAt, hasN, lookF, tru, okW, kAdd, below, belowL, belowF, belowK, frz, frzL, frzK, frzF, noExn, sTry, sRaise, noExnE, kEq_int, kIn, vD, vDL, itemsOf, L2.inV, L2.eqV, kSub2, dictOf, kIx, L2.atI, L2.ixN, bb0, bn0, bk0, bb1, bn1, bk1, bb2, bn2, bk2, bb3, bn3, bk3, bb4, bn4, bk4, bb5, bn5, bk5, bb6, bn6, bk6, bb7, bn7, bk7, bb8, bn8, bk8, bb9, bn9, bk9, bb10, bn10, bk10, bb11, bn11, bk11]
theorem due0 (k b : Nat) (h1 : Fv one p1) (h2 : Fv two p2) (h3 : Fv three p3) : callN bd (k + 1) 10 [.int 0, one, two, three] b [m] = .ok (.tup [.str "number", one, .str p2.shown]) [m] := by
  have a1 := h1.be
  have a2 := h2.be
  have a3 := h3.be
  have c1 := h1.rp
  have c2 := h2.rp
  have n1 := h1.nx
  have n2 := h2.nx
  have n3 := h3.nx
  simp [b10, a1, a2, a3, c1, c2, n1, n2, n3, ofS_inj, sizeLine_eq, callH_s, callN_s, fin, sNil, sSeq, sAsg, sOf, sIf, sRet, sDrop, mBin, mUn, mOps, mCons, mNil, mVar, mC, mNew, mTst, mTru, mMut, mIsE, mXf, mCallX, mCallN, mIf, R.bind, gVar, xInt, xStr, xTup, xLst, xBl, xNon, xRef, xExn, startE, kLst, kTup, szB, kApp, Mi.listOf, tabAt, hasN, lookF, tru, okW, kAdd, below, belowL, belowF, belowK, frz, frzL, frzK, frzF, noExn, sTry, sRaise, noExnE, kEq_int, kIn, vD, vDL, itemsOf, L2.inV, L2.eqV, kSub2, dictOf, kIx, L2.atI, L2.ixN, bb0, bn0, bk0, bb1, bn1, bk1, bb2, bn2, bk2, bb3, bn3, bk3, bb4, bn4, bk4, bb5, bn5, bk5, bb6, bn6, bk6, bb7, bn7, bk7, bb8, bn8, bk8, bb9, bn9, bk9, bb10, bn10, bk10, bb11, bn11, bk11]
theorem kinds1 (k b : Nat) (h1 : Fv one p1) (h2 : Fv two p2) (h3 : Fv three p3) : callH bd (k + 2) 2 [("row", two), ("what", one)] 3 [.exn] b [m] = .ok (.lst [.tup [.str "row", one, .str p2.shown]]) [m] := by
  have a1 := h1.be
  have a2 := h2.be
  have a3 := h3.be
  have c1 := h1.rp
  have c2 := h2.rp
  have n1 := h1.nx
  have n2 := h2.nx
  have n3 := h3.nx
  simp [b3, b4, a1, a2, a3, c1, c2, ofS_inj, sizeLine_eq, callH_s, callN_s, fin, sNil, sSeq, sAsg, sOf, sIf, sRet, sDrop, mBin, mUn, mOps, mCons, mNil, mVar, mC, mNew, mTst, mTru, mMut, mIsE, mXf, mCallX, mCallN, mIf, R.bind, gVar, xInt, xStr, xTup, xLst, xBl, xNon, xRef, xExn, startE, kLst, kTup, szB, kApp, Mi.listOf, tabAt, hasN, lookF, tru, okW, kAdd, below, belowL, belowF, belowK, frz, frzL, frzK, frzF, noExn, sTry, sRaise, noExnE, kEq_int, kIn, vD, vDL, itemsOf, L2.inV, L2.eqV, kSub2, dictOf, kIx, L2.atI, L2.ixN, bb0, bn0, bk0, bb1, bn1, bk1, bb2, bn2, bk2, bb3, bn3, bk3, bb4, bn4, bk4, bb5, bn5, bk5, bb6, bn6, bk6, bb7, bn7, bk7, bb8, bn8, bk8, bb9, bn9, bk9, bb10, bn10, bk10, bb11, bn11, bk11]
theorem told1 (k b : Nat) (h1 : Fv one p1) (h2 : Fv two p2) (h3 : Fv three p3) : callN bd (k + 3) 9 [.int 1, one, two, three] b [m] = .ok (.lst [.tup [.str "row", one, .str p2.shown]]) [m] := by
  have a1 := h1.be
  have a2 := h2.be
  have a3 := h3.be
  have c1 := h1.rp
  have c2 := h2.rp
  have n1 := h1.nx
  have n2 := h2.nx
  have n3 := h3.nx
  have e := fun b => kinds1 (m := m) k b h1 h2 h3
  simp [b9, b6, b7, b8, a1, a2, a3, n1, n2, n3, ofS_inj, sizeLine_eq, e, callN_s, fin, sNil, sSeq, sAsg, sOf, sIf, sRet, sDrop, mBin, mUn, mOps, mCons, mNil, mVar, mC, mNew, mTst, mTru, mMut, mIsE, mXf, mCallX, mCallN, mIf, R.bind, gVar, xInt, xStr, xTup, xLst, xBl, xNon, xRef, xExn, startE, kLst, kTup, szB, kApp, Mi.listOf, tabAt, hasN, lookF, tru, okW, kAdd, below, belowL, belowF, belowK, frz, frzL, frzK, frzF, noExn, sTry, sRaise, noExnE, kEq_int, kIn, vD, vDL, itemsOf, L2.inV, L2.eqV, kSub2, dictOf, kIx, L2.atI, L2.ixN, bb0, bn0, bk0, bb1, bn1, bk1, bb2, bn2, bk2, bb3, bn3, bk3, bb4, bn4, bk4, bb5, bn5, bk5, bb6, bn6, bk6, bb7, bn7, bk7, bb8, bn8, bk8, bb9, bn9, bk9, bb10, bn10, bk10, bb11, bn11, bk11]
theorem due1 (k b : Nat) (h1 : Fv one p1) (h2 : Fv two p2) (h3 : Fv three p3) : callN bd (k + 1) 10 [.int 1, one, two, three] b [m] = .ok (.tup [.str "row", one, .str p2.shown]) [m] := by
  have a1 := h1.be
  have a2 := h2.be
  have a3 := h3.be
  have c1 := h1.rp
  have c2 := h2.rp
  have n1 := h1.nx
  have n2 := h2.nx
  have n3 := h3.nx
  simp [b10, a1, a2, a3, c1, c2, n1, n2, n3, ofS_inj, sizeLine_eq, callH_s, callN_s, fin, sNil, sSeq, sAsg, sOf, sIf, sRet, sDrop, mBin, mUn, mOps, mCons, mNil, mVar, mC, mNew, mTst, mTru, mMut, mIsE, mXf, mCallX, mCallN, mIf, R.bind, gVar, xInt, xStr, xTup, xLst, xBl, xNon, xRef, xExn, startE, kLst, kTup, szB, kApp, Mi.listOf, tabAt, hasN, lookF, tru, okW, kAdd, below, belowL, belowF, belowK, frz, frzL, frzK, frzF, noExn, sTry, sRaise, noExnE, kEq_int, kIn, vD, vDL, itemsOf, L2.inV, L2.eqV, kSub2, dictOf, kIx, L2.atI, L2.ixN, bb0, bn0, bk0, bb1, bn1, bk1, bb2, bn2, bk2, bb3, bn3, bk3, bb4, bn4, bk4, bb5, bn5, bk5, bb6, bn6, bk6, bb7, bn7, bk7, bb8, bn8, bk8, bb9, bn9, bk9, bb10, bn10, bk10, bb11, bn11, bk11]
theorem kinds2 (k b : Nat) (h1 : Fv one p1) (h2 : Fv two p2) (h3 : Fv three p3) : callH bd (k + 2) 4 [("what", one)] 3 [.exn] b [m] = .ok (.lst [.tup [.str "table", one]]) [m] := by
  have a1 := h1.be
  have a2 := h2.be
  have a3 := h3.be
  have c1 := h1.rp
  have c2 := h2.rp
  have n1 := h1.nx
  have n2 := h2.nx
  have n3 := h3.nx
  simp [b3, b4, a1, a2, a3, c1, c2, ofS_inj, sizeLine_eq, callH_s, callN_s, fin, sNil, sSeq, sAsg, sOf, sIf, sRet, sDrop, mBin, mUn, mOps, mCons, mNil, mVar, mC, mNew, mTst, mTru, mMut, mIsE, mXf, mCallX, mCallN, mIf, R.bind, gVar, xInt, xStr, xTup, xLst, xBl, xNon, xRef, xExn, startE, kLst, kTup, szB, kApp, Mi.listOf, tabAt, hasN, lookF, tru, okW, kAdd, below, belowL, belowF, belowK, frz, frzL, frzK, frzF, noExn, sTry, sRaise, noExnE, kEq_int, kIn, vD, vDL, itemsOf, L2.inV, L2.eqV, kSub2, dictOf, kIx, L2.atI, L2.ixN, bb0, bn0, bk0, bb1, bn1, bk1, bb2, bn2, bk2, bb3, bn3, bk3, bb4, bn4, bk4, bb5, bn5, bk5, bb6, bn6, bk6, bb7, bn7, bk7, bb8, bn8, bk8, bb9, bn9, bk9, bb10, bn10, bk10, bb11, bn11, bk11]
theorem told2 (k b : Nat) (h1 : Fv one p1) (h2 : Fv two p2) (h3 : Fv three p3) : callN bd (k + 3) 9 [.int 2, one, two, three] b [m] = .ok (.lst [.tup [.str "table", one]]) [m] := by
  have a1 := h1.be
  have a2 := h2.be
  have a3 := h3.be
  have c1 := h1.rp
  have c2 := h2.rp
  have n1 := h1.nx
  have n2 := h2.nx
  have n3 := h3.nx
  have e := fun b => kinds2 (m := m) k b h1 h2 h3
  simp [b9, b6, b7, b8, a1, a2, a3, n1, n2, n3, ofS_inj, sizeLine_eq, e, callN_s, fin, sNil, sSeq, sAsg, sOf, sIf, sRet, sDrop, mBin, mUn, mOps, mCons, mNil, mVar, mC, mNew, mTst, mTru, mMut, mIsE, mXf, mCallX, mCallN, mIf, R.bind, gVar, xInt, xStr, xTup, xLst, xBl, xNon, xRef, xExn, startE, kLst, kTup, szB, kApp, Mi.listOf, tabAt, hasN, lookF, tru, okW, kAdd, below, belowL, belowF, belowK, frz, frzL, frzK, frzF, noExn, sTry, sRaise, noExnE, kEq_int, kIn, vD, vDL, itemsOf, L2.inV, L2.eqV, kSub2, dictOf, kIx, L2.atI, L2.ixN, bb0, bn0, bk0, bb1, bn1, bk1, bb2, bn2, bk2, bb3, bn3, bk3, bb4, bn4, bk4, bb5, bn5, bk5, bb6, bn6, bk6, bb7, bn7, bk7, bb8, bn8, bk8, bb9, bn9, bk9, bb10, bn10, bk10, bb11, bn11, bk11]
theorem due2 (k b : Nat) (h1 : Fv one p1) (h2 : Fv two p2) (h3 : Fv three p3) : callN bd (k + 1) 10 [.int 2, one, two, three] b [m] = .ok (.tup [.str "table", one]) [m] := by
  have a1 := h1.be
  have a2 := h2.be
  have a3 := h3.be
  have c1 := h1.rp
  have c2 := h2.rp
  have n1 := h1.nx
  have n2 := h2.nx
  have n3 := h3.nx
  simp [b10, a1, a2, a3, c1, c2, n1, n2, n3, ofS_inj, sizeLine_eq, callH_s, callN_s, fin, sNil, sSeq, sAsg, sOf, sIf, sRet, sDrop, mBin, mUn, mOps, mCons, mNil, mVar, mC, mNew, mTst, mTru, mMut, mIsE, mXf, mCallX, mCallN, mIf, R.bind, gVar, xInt, xStr, xTup, xLst, xBl, xNon, xRef, xExn, startE, kLst, kTup, szB, kApp, Mi.listOf, tabAt, hasN, lookF, tru, okW, kAdd, below, belowL, belowF, belowK, frz, frzL, frzK, frzF, noExn, sTry, sRaise, noExnE, kEq_int, kIn, vD, vDL, itemsOf, L2.inV, L2.eqV, kSub2, dictOf, kIx, L2.atI, L2.ixN, bb0, bn0, bk0, bb1, bn1, bk1, bb2, bn2, bk2, bb3, bn3, bk3, bb4, bn4, bk4, bb5, bn5, bk5, bb6, bn6, bk6, bb7, bn7, bk7, bb8, bn8, bk8, bb9, bn9, bk9, bb10, bn10, bk10, bb11, bn11, bk11]
theorem kinds3 (k b : Nat) (h1 : Fv one p1) (h2 : Fv two p2) (h3 : Fv three p3) : callH bd (k + 2) 5 [("what", one)] 3 [.exn] b [m] = .ok (.lst [.tup [.str "book", one]]) [m] := by
  have a1 := h1.be
  have a2 := h2.be
  have a3 := h3.be
  have c1 := h1.rp
  have c2 := h2.rp
  have n1 := h1.nx
  have n2 := h2.nx
  have n3 := h3.nx
  simp [b3, b4, a1, a2, a3, c1, c2, ofS_inj, sizeLine_eq, callH_s, callN_s, fin, sNil, sSeq, sAsg, sOf, sIf, sRet, sDrop, mBin, mUn, mOps, mCons, mNil, mVar, mC, mNew, mTst, mTru, mMut, mIsE, mXf, mCallX, mCallN, mIf, R.bind, gVar, xInt, xStr, xTup, xLst, xBl, xNon, xRef, xExn, startE, kLst, kTup, szB, kApp, Mi.listOf, tabAt, hasN, lookF, tru, okW, kAdd, below, belowL, belowF, belowK, frz, frzL, frzK, frzF, noExn, sTry, sRaise, noExnE, kEq_int, kIn, vD, vDL, itemsOf, L2.inV, L2.eqV, kSub2, dictOf, kIx, L2.atI, L2.ixN, bb0, bn0, bk0, bb1, bn1, bk1, bb2, bn2, bk2, bb3, bn3, bk3, bb4, bn4, bk4, bb5, bn5, bk5, bb6, bn6, bk6, bb7, bn7, bk7, bb8, bn8, bk8, bb9, bn9, bk9, bb10, bn10, bk10, bb11, bn11, bk11]
theorem told3 (k b : Nat) (h1 : Fv one p1) (h2 : Fv two p2) (h3 : Fv three p3) : callN bd (k + 3) 9 [.int 3, one, two, three] b [m] = .ok (.lst [.tup [.str "book", one]]) [m] := by
  have a1 := h1.be
  have a2 := h2.be
  have a3 := h3.be
  have c1 := h1.rp
  have c2 := h2.rp
  have n1 := h1.nx
  have n2 := h2.nx
  have n3 := h3.nx
  have e := fun b => kinds3 (m := m) k b h1 h2 h3
  simp [b9, b6, b7, b8, a1, a2, a3, n1, n2, n3, ofS_inj, sizeLine_eq, e, callN_s, fin, sNil, sSeq, sAsg, sOf, sIf, sRet, sDrop, mBin, mUn, mOps, mCons, mNil, mVar, mC, mNew, mTst, mTru, mMut, mIsE, mXf, mCallX, mCallN, mIf, R.bind, gVar, xInt, xStr, xTup, xLst, xBl, xNon, xRef, xExn, startE, kLst, kTup, szB, kApp, Mi.listOf, tabAt, hasN, lookF, tru, okW, kAdd, below, belowL, belowF, belowK, frz, frzL, frzK, frzF, noExn, sTry, sRaise, noExnE, kEq_int, kIn, vD, vDL, itemsOf, L2.inV, L2.eqV, kSub2, dictOf, kIx, L2.atI, L2.ixN, bb0, bn0, bk0, bb1, bn1, bk1, bb2, bn2, bk2, bb3, bn3, bk3, bb4, bn4, bk4, bb5, bn5, bk5, bb6, bn6, bk6, bb7, bn7, bk7, bb8, bn8, bk8, bb9, bn9, bk9, bb10, bn10, bk10, bb11, bn11, bk11]
theorem due3 (k b : Nat) (h1 : Fv one p1) (h2 : Fv two p2) (h3 : Fv three p3) : callN bd (k + 1) 10 [.int 3, one, two, three] b [m] = .ok (.tup [.str "book", one]) [m] := by
  have a1 := h1.be
  have a2 := h2.be
  have a3 := h3.be
  have c1 := h1.rp
  have c2 := h2.rp
  have n1 := h1.nx
  have n2 := h2.nx
  have n3 := h3.nx
  simp [b10, a1, a2, a3, c1, c2, n1, n2, n3, ofS_inj, sizeLine_eq, callH_s, callN_s, fin, sNil, sSeq, sAsg, sOf, sIf, sRet, sDrop, mBin, mUn, mOps, mCons, mNil, mVar, mC, mNew, mTst, mTru, mMut, mIsE, mXf, mCallX, mCallN, mIf, R.bind, gVar, xInt, xStr, xTup, xLst, xBl, xNon, xRef, xExn, startE, kLst, kTup, szB, kApp, Mi.listOf, tabAt, hasN, lookF, tru, okW, kAdd, below, belowL, belowF, belowK, frz, frzL, frzK, frzF, noExn, sTry, sRaise, noExnE, kEq_int, kIn, vD, vDL, itemsOf, L2.inV, L2.eqV, kSub2, dictOf, kIx, L2.atI, L2.ixN, bb0, bn0, bk0, bb1, bn1, bk1, bb2, bn2, bk2, bb3, bn3, bk3, bb4, bn4, bk4, bb5, bn5, bk5, bb6, bn6, bk6, bb7, bn7, bk7, bb8, bn8, bk8, bb9, bn9, bk9, bb10, bn10, bk10, bb11, bn11, bk11]
theorem kinds4 (k b : Nat) (h1 : Fv one p1) (h2 : Fv two p2) (h3 : Fv three p3) : callH bd (k + 2) 6 [("name", one)] 3 [.exn] b [m] = .ok (.lst [.tup [.str "badname", .str p1.shown]]) [m] := by
  have a1 := h1.be
  have a2 := h2.be
  have a3 := h3.be
  have c1 := h1.rp
  have c2 := h2.rp
  have n1 := h1.nx
  have n2 := h2.nx
  have n3 := h3.nx
  simp [b3, b4, a1, a2, a3, c1, c2, ofS_inj, sizeLine_eq, callH_s, callN_s, fin, sNil, sSeq, sAsg, sOf, sIf, sRet, sDrop, mBin, mUn, mOps, mCons, mNil, mVar, mC, mNew, mTst, mTru, mMut, mIsE, mXf, mCallX, mCallN, mIf, R.bind, gVar, xInt, xStr, xTup, xLst, xBl, xNon, xRef, xExn, startE, kLst, kTup, szB, kApp, Mi.listOf, tabAt, hasN, lookF, tru, okW, kAdd, below, belowL, belowF, belowK, frz, frzL, frzK, frzF, noExn, sTry, sRaise, noExnE, kEq_int, kIn, vD, vDL, itemsOf, L2.inV, L2.eqV, kSub2, dictOf, kIx, L2.atI, L2.ixN, bb0, bn0, bk0, bb1, bn1, bk1, bb2, bn2, bk2, bb3, bn3, bk3, bb4, bn4, bk4, bb5, bn5, bk5, bb6, bn6, bk6, bb7, bn7, bk7, bb8, bn8, bk8, bb9, bn9, bk9, bb10, bn10, bk10, bb11, bn11, bk11]
theorem told4 (k b : Nat) (h1 : Fv one p1) (h2 : Fv two p2) (h3 : Fv three p3) : callN bd (k + 3) 9 [.int 4, one, two, three] b [m] = .ok (.lst [.tup [.str "badname", .str p1.shown]]) [m] := by
  have a1 := h1.be
  have a2 := h2.be
  have a3 := h3.be
  have c1 := h1.rp
  have c2 := h2.rp
  have n1 := h1.nx
  have n2 := h2.nx
  have n3 := h3.nx
  have e := fun b => kinds4 (m := m) k b h1 h2 h3
  simp [b9, b6, b7, b8, a1, a2, a3, n1, n2, n3, ofS_inj, sizeLine_eq, e, callN_s, fin, sNil, sSeq, sAsg, sOf, sIf, sRet, sDrop, mBin, mUn, mOps, mCons, mNil, mVar, mC, mNew, mTst, mTru, mMut, mIsE, mXf, mCallX, mCallN, mIf, R.bind, gVar, xInt, xStr, xTup, xLst, xBl, xNon, xRef, xExn, startE, kLst, kTup, szB, kApp, Mi.listOf, tabAt, hasN, lookF, tru, okW, kAdd, below, belowL, belowF, belowK, frz, frzL, frzK, frzF, noExn, sTry, sRaise, noExnE, kEq_int, kIn, vD, vDL, itemsOf, L2.inV, L2.eqV, kSub2, dictOf, kIx, L2.atI, L2.ixN, bb0, bn0, bk0, bb1, bn1, bk1, bb2, bn2, bk2, bb3, bn3, bk3, bb4, bn4, bk4, bb5, bn5, bk5, bb6, bn6, bk6, bb7, bn7, bk7, bb8, bn8, bk8, bb9, bn9, bk9, bb10, bn10, bk10, bb11, bn11, bk11]
theorem due4 (k b : Nat) (h1 : Fv one p1) (h2 : Fv two p2) (h3 : Fv three p3) : callN bd (k + 1) 10 [.int 4, one, two, three] b [m] = .ok (.tup [.str "badname", .str p1.shown]) [m] := by
  have a1 := h1.be
  have a2 := h2.be
  have a3 := h3.be
  have c1 := h1.rp
  have c2 := h2.rp
  have n1 := h1.nx
  have n2 := h2.nx
  have n3 := h3.nx
  simp [b10, a1, a2, a3, c1, c2, n1, n2, n3, ofS_inj, sizeLine_eq, callH_s, callN_s, fin, sNil, sSeq, sAsg, sOf, sIf, sRet, sDrop, mBin, mUn, mOps, mCons, mNil, mVar, mC, mNew, mTst, mTru, mMut, mIsE, mXf, mCallX, mCallN, mIf, R.bind, gVar, xInt, xStr, xTup, xLst, xBl, xNon, xRef, xExn, startE, kLst, kTup, szB, kApp, Mi.listOf, tabAt, hasN, lookF, tru, okW, kAdd, below, belowL, belowF, belowK, frz, frzL, frzK, frzF, noExn, sTry, sRaise, noExnE, kEq_int, kIn, vD, vDL, itemsOf, L2.inV, L2.eqV, kSub2, dictOf, kIx, L2.atI, L2.ixN, bb0, bn0, bk0, bb1, bn1, bk1, bb2, bn2, bk2, bb3, bn3, bk3, bb4, bn4, bk4, bb5, bn5, bk5, bb6, bn6, bk6, bb7, bn7, bk7, bb8, bn8, bk8, bb9, bn9, bk9, bb10, bn10, bk10, bb11, bn11, bk11]
theorem kinds5 (k b : Nat) (h1 : Fv one p1) (h2 : Fv two p2) (h3 : Fv three p3) : callH bd (k + 2) 7 [("word", two), ("line", one)] 3 [.exn] b [m] = .ok (.lst [.tup [.str "text", one, two]]) [m] := by
  have a1 := h1.be
  have a2 := h2.be
  have a3 := h3.be
  have c1 := h1.rp
  have c2 := h2.rp
  have n1 := h1.nx
  have n2 := h2.nx
  have n3 := h3.nx
  simp [b3, b4, a1, a2, a3, c1, c2, ofS_inj, sizeLine_eq, callH_s, callN_s, fin, sNil, sSeq, sAsg, sOf, sIf, sRet, sDrop, mBin, mUn, mOps, mCons, mNil, mVar, mC, mNew, mTst, mTru, mMut, mIsE, mXf, mCallX, mCallN, mIf, R.bind, gVar, xInt, xStr, xTup, xLst, xBl, xNon, xRef, xExn, startE, kLst, kTup, szB, kApp, Mi.listOf, tabAt, hasN, lookF, tru, okW, kAdd, below, belowL, belowF, belowK, frz, frzL, frzK, frzF, noExn, sTry, sRaise, noExnE, kEq_int, kIn, vD, vDL, itemsOf, L2.inV, L2.eqV, kSub2, dictOf, kIx, L2.atI, L2.ixN, bb0, bn0, bk0, bb1, bn1, bk1, bb2, bn2, bk2, bb3, bn3, bk3, bb4, bn4, bk4, bb5, bn5, bk5, bb6, bn6, bk6, bb7, bn7, bk7, bb8, bn8, bk8, bb9, bn9, bk9, bb10, bn10, bk10, bb11, bn11, bk11]
theorem told5 (k b : Nat) (h1 : Fv one p1) (h2 : Fv two p2) (h3 : Fv three p3) : callN bd (k + 3) 9 [.int 5, one, two, three] b [m] = .ok (.lst [.tup [.str "text", one, two]]) [m] := by
  have a1 := h1.be
  have a2 := h2.be
  have a3 := h3.be
  have c1 := h1.rp
  have c2 := h2.rp
  have n1 := h1.nx
  have n2 := h2.nx
  have n3 := h3.nx
  have e := fun b => kinds5 (m := m) k b h1 h2 h3
  simp [b9, b6, b7, b8, a1, a2, a3, n1, n2, n3, ofS_inj, sizeLine_eq, e, callN_s, fin, sNil, sSeq, sAsg, sOf, sIf, sRet, sDrop, mBin, mUn, mOps, mCons, mNil, mVar, mC, mNew, mTst, mTru, mMut, mIsE, mXf, mCallX, mCallN, mIf, R.bind, gVar, xInt, xStr, xTup, xLst, xBl, xNon, xRef, xExn, startE, kLst, kTup, szB, kApp, Mi.listOf, tabAt, hasN, lookF, tru, okW, kAdd, below, belowL, belowF, belowK, frz, frzL, frzK, frzF, noExn, sTry, sRaise, noExnE, kEq_int, kIn, vD, vDL, itemsOf, L2.inV, L2.eqV, kSub2, dictOf, kIx, L2.atI, L2.ixN, bb0, bn0, bk0, bb1, bn1, bk1, bb2, bn2, bk2, bb3, bn3, bk3, bb4, bn4, bk4, bb5, bn5, bk5, bb6, bn6, bk6, bb7, bn7, bk7, bb8, bn8, bk8, bb9, bn9, bk9, bb10, bn10, bk10, bb11, bn11, bk11]
theorem due5 (k b : Nat) (h1 : Fv one p1) (h2 : Fv two p2) (h3 : Fv three p3) : callN bd (k + 1) 10 [.int 5, one, two, three] b [m] = .ok (.tup [.str "text", one, two]) [m] := by
  have a1 := h1.be
  have a2 := h2.be
  have a3 := h3.be
  have c1 := h1.rp
  have c2 := h2.rp
  have n1 := h1.nx
  have n2 := h2.nx
  have n3 := h3.nx
  simp [b10, a1, a2, a3, c1, c2, n1, n2, n3, ofS_inj, sizeLine_eq, callH_s, callN_s, fin, sNil, sSeq, sAsg, sOf, sIf, sRet, sDrop, mBin, mUn, mOps, mCons, mNil, mVar, mC, mNew, mTst, mTru, mMut, mIsE, mXf, mCallX, mCallN, mIf, R.bind, gVar, xInt, xStr, xTup, xLst, xBl, xNon, xRef, xExn, startE, kLst, kTup, szB, kApp, Mi.listOf, tabAt, hasN, lookF, tru, okW, kAdd, below, belowL, belowF, belowK, frz, frzL, frzK, frzF, noExn, sTry, sRaise, noExnE, kEq_int, kIn, vD, vDL, itemsOf, L2.inV, L2.eqV, kSub2, dictOf, kIx, L2.atI, L2.ixN, bb0, bn0, bk0, bb1, bn1, bk1, bb2, bn2, bk2, bb3, bn3, bk3, bb4, bn4, bk4, bb5, bn5, bk5, bb6, bn6, bk6, bb7, bn7, bk7, bb8, bn8, bk8, bb9, bn9, bk9, bb10, bn10, bk10, bb11, bn11, bk11]
theorem kinds6 (k b : Nat) (h1 : Fv one p1) (h2 : Fv two p2) (h3 : Fv three p3) : callH bd (k + 2) 8 [("index", two), ("what", one)] 3 [.exn] b [m] = .ok (.lst [.tup [.str "place", one, .str p2.shown]]) [m] := by
  have a1 := h1.be
  have a2 := h2.be
  have a3 := h3.be
  have c1 := h1.rp
  have c2 := h2.rp
  have n1 := h1.nx
  have n2 := h2.nx
  have n3 := h3.nx
  simp [b3, b4, a1, a2, a3, c1, c2, ofS_inj, sizeLine_eq, callH_s, callN_s, fin, sNil, sSeq, sAsg, sOf, sIf, sRet, sDrop, mBin, mUn, mOps, mCons, mNil, mVar, mC, mNew, mTst, mTru, mMut, mIsE, mXf, mCallX, mCallN, mIf, R.bind, gVar, xInt, xStr, xTup, xLst, xBl, xNon, xRef, xExn, startE, kLst, kTup, szB, kApp, Mi.listOf, tabAt, hasN, lookF, tru, okW, kAdd, below, belowL, belowF, belowK, frz, frzL, frzK, frzF, noExn, sTry, sRaise, noExnE, kEq_int, kIn, vD, vDL, itemsOf, L2.inV, L2.eqV, kSub2, dictOf, kIx, L2.atI, L2.ixN, bb0, bn0, bk0, bb1, bn1, bk1, bb2, bn2, bk2, bb3, bn3, bk3, bb4, bn4, bk4, bb5, bn5, bk5, bb6, bn6, bk6, bb7, bn7, bk7, bb8, bn8, bk8, bb9, bn9, bk9, bb10, bn10, bk10, bb11, bn11, bk11]
theorem told6 (k b : Nat) (h1 : Fv one p1) (h2 : Fv two p2) (h3 : Fv three p3) : callN bd (k + 3) 9 [.int 6, one, two, three] b [m] = .ok (.lst [.tup [.str "place", one, .str p2.shown]]) [m] := by
  have a1 := h1.be
  have a2 := h2.be
  have a3 := h3.be
  have c1 := h1.rp
  have c2 := h2.rp
  have n1 := h1.nx
  have n2 := h2.nx
  have n3 := h3.nx
  have e := fun b => kinds6 (m := m) k b h1 h2 h3
  simp [b9, b6, b7, b8, a1, a2, a3, n1, n2, n3, ofS_inj, sizeLine_eq, e, callN_s, fin, sNil, sSeq, sAsg, sOf, sIf, sRet, sDrop, mBin, mUn, mOps, mCons, mNil, mVar, mC, mNew, mTst, mTru, mMut, mIsE, mXf, mCallX, mCallN, mIf, R.bind, gVar, xInt, xStr, xTup, xLst, xBl, xNon, xRef, xExn, startE, kLst, kTup, szB, kApp, Mi.listOf, tabAt, hasN, lookF, tru, okW, kAdd, below, belowL, belowF, belowK, frz, frzL, frzK, frzF, noExn, sTry, sRaise, noExnE, kEq_int, kIn, vD, vDL, itemsOf, L2.inV, L2.eqV, kSub2, dictOf, kIx, L2.atI, L2.ixN, bb0, bn0, bk0, bb1, bn1, bk1, bb2, bn2, bk2, bb3, bn3, bk3, bb4, bn4, bk4, bb5, bn5, bk5, bb6, bn6, bk6, bb7, bn7, bk7, bb8, bn8, bk8, bb9, bn9, bk9, bb10, bn10, bk10, bb11, bn11, bk11]
theorem due6 (k b : Nat) (h1 : Fv one p1) (h2 : Fv two p2) (h3 : Fv three p3) : callN bd (k + 1) 10 [.int 6, one, two, three] b [m] = .ok (.tup [.str "place", one, .str p2.shown]) [m] := by
  have a1 := h1.be
  have a2 := h2.be
  have a3 := h3.be
  have c1 := h1.rp
  have c2 := h2.rp
  have n1 := h1.nx
  have n2 := h2.nx
  have n3 := h3.nx
  simp [b10, a1, a2, a3, c1, c2, n1, n2, n3, ofS_inj, sizeLine_eq, callH_s, callN_s, fin, sNil, sSeq, sAsg, sOf, sIf, sRet, sDrop, mBin, mUn, mOps, mCons, mNil, mVar, mC, mNew, mTst, mTru, mMut, mIsE, mXf, mCallX, mCallN, mIf, R.bind, gVar, xInt, xStr, xTup, xLst, xBl, xNon, xRef, xExn, startE, kLst, kTup, szB, kApp, Mi.listOf, tabAt, hasN, lookF, tru, okW, kAdd, below, belowL, belowF, belowK, frz, frzL, frzK, frzF, noExn, sTry, sRaise, noExnE, kEq_int, kIn, vD, vDL, itemsOf, L2.inV, L2.eqV, kSub2, dictOf, kIx, L2.atI, L2.ixN, bb0, bn0, bk0, bb1, bn1, bk1, bb2, bn2, bk2, bb3, bn3, bk3, bb4, bn4, bk4, bb5, bn5, bk5, bb6, bn6, bk6, bb7, bn7, bk7, bb8, bn8, bk8, bb9, bn9, bk9, bb10, bn10, bk10, bb11, bn11, bk11]
theorem kinds7 (k b : Nat) (h1 : Fv one p1) (h2 : Fv two p2) (h3 : Fv three p3) : callH bd (k + 2) 9 [("name", one)] 3 [.exn] b [m] = .ok (.lst [.tup [.str "noname", .str p1.shown]]) [m] := by
  have a1 := h1.be
  have a2 := h2.be
  have a3 := h3.be
  have c1 := h1.rp
  have c2 := h2.rp
  have n1 := h1.nx
  have n2 := h2.nx
  have n3 := h3.nx
  simp [b3, b4, a1, a2, a3, c1, c2, ofS_inj, sizeLine_eq, callH_s, callN_s, fin, sNil, sSeq, sAsg, sOf, sIf, sRet, sDrop, mBin, mUn, mOps, mCons, mNil, mVar, mC, mNew, mTst, mTru, mMut, mIsE, mXf, mCallX, mCallN, mIf, R.bind, gVar, xInt, xStr, xTup, xLst, xBl, xNon, xRef, xExn, startE, kLst, kTup, szB, kApp, Mi.listOf, tabAt, hasN, lookF, tru, okW, kAdd, below, belowL, belowF, belowK, frz, frzL, frzK, frzF, noExn, sTry, sRaise, noExnE, kEq_int, kIn, vD, vDL, itemsOf, L2.inV, L2.eqV, kSub2, dictOf, kIx, L2.atI, L2.ixN, bb0, bn0, bk0, bb1, bn1, bk1, bb2, bn2, bk2, bb3, bn3, bk3, bb4, bn4, bk4, bb5, bn5, bk5, bb6, bn6, bk6, bb7, bn7, bk7, bb8, bn8, bk8, bb9, bn9, bk9, bb10, bn10, bk10, bb11, bn11, bk11]
theorem told7 (k b : Nat) (h1 : Fv one p1) (h2 : Fv two p2) (h3 : Fv three p3) : callN bd (k + 3) 9 [.int 7, one, two, three] b [m] = .ok (.lst [.tup [.str "noname", .str p1.shown]]) [m] := by
  have a1 := h1.be
  have a2 := h2.be
  have a3 := h3.be
  have c1 := h1.rp
  have c2 := h2.rp
  have n1 := h1.nx
  have n2 := h2.nx
  have n3 := h3.nx
  have e := fun b => kinds7 (m := m) k b h1 h2 h3
  simp [b9, b6, b7, b8, a1, a2, a3, n1, n2, n3, ofS_inj, sizeLine_eq, e, callN_s, fin, sNil, sSeq, sAsg, sOf, sIf, sRet, sDrop, mBin, mUn, mOps, mCons, mNil, mVar, mC, mNew, mTst, mTru, mMut, mIsE, mXf, mCallX, mCallN, mIf, R.bind, gVar, xInt, xStr, xTup, xLst, xBl, xNon, xRef, xExn, startE, kLst, kTup, szB, kApp, Mi.listOf, tabAt, hasN, lookF, tru, okW, kAdd, below, belowL, belowF, belowK, frz, frzL, frzK, frzF, noExn, sTry, sRaise, noExnE, kEq_int, kIn, vD, vDL, itemsOf, L2.inV, L2.eqV, kSub2, dictOf, kIx, L2.atI, L2.ixN, bb0, bn0, bk0, bb1, bn1, bk1, bb2, bn2, bk2, bb3, bn3, bk3, bb4, bn4, bk4, bb5, bn5, bk5, bb6, bn6, bk6, bb7, bn7, bk7, bb8, bn8, bk8, bb9, bn9, bk9, bb10, bn10, bk10, bb11, bn11, bk11]
theorem due7 (k b : Nat) (h1 : Fv one p1) (h2 : Fv two p2) (h3 : Fv three p3) : callN bd (k + 1) 10 [.int 7, one, two, three] b [m] = .ok (.tup [.str "noname", .str p1.shown]) [m] := by
  have a1 := h1.be
  have a2 := h2.be
  have a3 := h3.be
  have c1 := h1.rp
  have c2 := h2.rp
  have n1 := h1.nx
  have n2 := h2.nx
  have n3 := h3.nx
  simp [b10, a1, a2, a3, c1, c2, n1, n2, n3, ofS_inj, sizeLine_eq, callH_s, callN_s, fin, sNil, sSeq, sAsg, sOf, sIf, sRet, sDrop, mBin, mUn, mOps, mCons, mNil, mVar, mC, mNew, mTst, mTru, mMut, mIsE, mXf, mCallX, mCallN, mIf, R.bind, gVar, xInt, xStr, xTup, xLst, xBl, xNon, xRef, xExn, startE, kLst, kTup, szB, kApp, Mi.listOf, tabAt, hasN, lookF, tru, okW, kAdd, below, belowL, belowF, belowK, frz, frzL, frzK, frzF, noExn, sTry, sRaise, noExnE, kEq_int, kIn, vD, vDL, itemsOf, L2.inV, L2.eqV, kSub2, dictOf, kIx, L2.atI, L2.ixN, bb0, bn0, bk0, bb1, bn1, bk1, bb2, bn2, bk2, bb3, bn3, bk3, bb4, bn4, bk4, bb5, bn5, bk5, bb6, bn6, bk6, bb7, bn7, bk7, bb8, bn8, bk8, bb9, bn9, bk9, bb10, bn10, bk10, bb11, bn11, bk11]
theorem kinds8 (k b : Nat) (h1 : Fv one p1) (h2 : Fv two p2) (h3 : Fv three p3) : callH bd (k + 2) 10 [("name", one)] 3 [.exn] b [m] = .ok (.lst [.tup [.str "taken", .str p1.shown]]) [m] := by
  have a1 := h1.be
  have a2 := h2.be
  have a3 := h3.be
  have c1 := h1.rp
  have c2 := h2.rp
  have n1 := h1.nx
  have n2 := h2.nx
  have n3 := h3.nx
  simp [b3, b4, a1, a2, a3, c1, c2, ofS_inj, sizeLine_eq, callH_s, callN_s, fin, sNil, sSeq, sAsg, sOf, sIf, sRet, sDrop, mBin, mUn, mOps, mCons, mNil, mVar, mC, mNew, mTst, mTru, mMut, mIsE, mXf, mCallX, mCallN, mIf, R.bind, gVar, xInt, xStr, xTup, xLst, xBl, xNon, xRef, xExn, startE, kLst, kTup, szB, kApp, Mi.listOf, tabAt, hasN, lookF, tru, okW, kAdd, below, belowL, belowF, belowK, frz, frzL, frzK, frzF, noExn, sTry, sRaise, noExnE, kEq_int, kIn, vD, vDL, itemsOf, L2.inV, L2.eqV, kSub2, dictOf, kIx, L2.atI, L2.ixN, bb0, bn0, bk0, bb1, bn1, bk1, bb2, bn2, bk2, bb3, bn3, bk3, bb4, bn4, bk4, bb5, bn5, bk5, bb6, bn6, bk6, bb7, bn7, bk7, bb8, bn8, bk8, bb9, bn9, bk9, bb10, bn10, bk10, bb11, bn11, bk11]
theorem told8 (k b : Nat) (h1 : Fv one p1) (h2 : Fv two p2) (h3 : Fv three p3) : callN bd (k + 3) 9 [.int 8, one, two, three] b [m] = .ok (.lst [.tup [.str "taken", .str p1.shown]]) [m] := by
  have a1 := h1.be
  have a2 := h2.be
  have a3 := h3.be
  have c1 := h1.rp
  have c2 := h2.rp
  have n1 := h1.nx
  have n2 := h2.nx
  have n3 := h3.nx
  have e := fun b => kinds8 (m := m) k b h1 h2 h3
  simp [b9, b6, b7, b8, a1, a2, a3, n1, n2, n3, ofS_inj, sizeLine_eq, e, callN_s, fin, sNil, sSeq, sAsg, sOf, sIf, sRet, sDrop, mBin, mUn, mOps, mCons, mNil, mVar, mC, mNew, mTst, mTru, mMut, mIsE, mXf, mCallX, mCallN, mIf, R.bind, gVar, xInt, xStr, xTup, xLst, xBl, xNon, xRef, xExn, startE, kLst, kTup, szB, kApp, Mi.listOf, tabAt, hasN, lookF, tru, okW, kAdd, below, belowL, belowF, belowK, frz, frzL, frzK, frzF, noExn, sTry, sRaise, noExnE, kEq_int, kIn, vD, vDL, itemsOf, L2.inV, L2.eqV, kSub2, dictOf, kIx, L2.atI, L2.ixN, bb0, bn0, bk0, bb1, bn1, bk1, bb2, bn2, bk2, bb3, bn3, bk3, bb4, bn4, bk4, bb5, bn5, bk5, bb6, bn6, bk6, bb7, bn7, bk7, bb8, bn8, bk8, bb9, bn9, bk9, bb10, bn10, bk10, bb11, bn11, bk11]
theorem due8 (k b : Nat) (h1 : Fv one p1) (h2 : Fv two p2) (h3 : Fv three p3) : callN bd (k + 1) 10 [.int 8, one, two, three] b [m] = .ok (.tup [.str "taken", .str p1.shown]) [m] := by
  have a1 := h1.be
  have a2 := h2.be
  have a3 := h3.be
  have c1 := h1.rp
  have c2 := h2.rp
  have n1 := h1.nx
  have n2 := h2.nx
  have n3 := h3.nx
  simp [b10, a1, a2, a3, c1, c2, n1, n2, n3, ofS_inj, sizeLine_eq, callH_s, callN_s, fin, sNil, sSeq, sAsg, sOf, sIf, sRet, sDrop, mBin, mUn, mOps, mCons, mNil, mVar, mC, mNew, mTst, mTru, mMut, mIsE, mXf, mCallX, mCallN, mIf, R.bind, gVar, xInt, xStr, xTup, xLst, xBl, xNon, xRef, xExn, startE, kLst, kTup, szB, kApp, Mi.listOf, tabAt, hasN, lookF, tru, okW, kAdd, below, belowL, belowF, belowK, frz, frzL, frzK, frzF, noExn, sTry, sRaise, noExnE, kEq_int, kIn, vD, vDL, itemsOf, L2.inV, L2.eqV, kSub2, dictOf, kIx, L2.atI, L2.ixN, bb0, bn0, bk0, bb1, bn1, bk1, bb2, bn2, bk2, bb3, bn3, bk3, bb4, bn4, bk4, bb5, bn5, bk5, bb6, bn6, bk6, bb7, bn7, bk7, bb8, bn8, bk8, bb9, bn9, bk9, bb10, bn10, bk10, bb11, bn11, bk11]
theorem kinds9 (k b : Nat) (h1 : Fv one p1) (h2 : Fv two p2) (h3 : Fv three p3) : callH bd (k + 2) 11 [("what", one)] 3 [.exn] b [m] = .ok (.lst [.tup [.str "unlike", one]]) [m] := by
  have a1 := h1.be
  have a2 := h2.be
  have a3 := h3.be
  have c1 := h1.rp
  have c2 := h2.rp
  have n1 := h1.nx
  have n2 := h2.nx
  have n3 := h3.nx
  simp [b3, b4, a1, a2, a3, c1, c2, ofS_inj, sizeLine_eq, callH_s, callN_s, fin, sNil, sSeq, sAsg, sOf, sIf, sRet, sDrop, mBin, mUn, mOps, mCons, mNil, mVar, mC, mNew, mTst, mTru, mMut, mIsE, mXf, mCallX, mCallN, mIf, R.bind, gVar, xInt, xStr, xTup, xLst, xBl, xNon, xRef, xExn, startE, kLst, kTup, szB, kApp, Mi.listOf, tabAt, hasN, lookF, tru, okW, kAdd, below, belowL, belowF, belowK, frz, frzL, frzK, frzF, noExn, sTry, sRaise, noExnE, kEq_int, kIn, vD, vDL, itemsOf, L2.inV, L2.eqV, kSub2, dictOf, kIx, L2.atI, L2.ixN, bb0, bn0, bk0, bb1, bn1, bk1, bb2, bn2, bk2, bb3, bn3, bk3, bb4, bn4, bk4, bb5, bn5, bk5, bb6, bn6, bk6, bb7, bn7, bk7, bb8, bn8, bk8, bb9, bn9, bk9, bb10, bn10, bk10, bb11, bn11, bk11]
theorem told9 (k b : Nat) (h1 : Fv one p1) (h2 : Fv two p2) (h3 : Fv three p3) : callN bd (k + 3) 9 [.int 9, one, two, three] b [m] = .ok (.lst [.tup [.str "unlike", one]]) [m] := by
  have a1 := h1.be
  have a2 := h2.be
  have a3 := h3.be
  have c1 := h1.rp
  have c2 := h2.rp
  have n1 := h1.nx
  have n2 := h2.nx
  have n3 := h3.nx
  have e := fun b => kinds9 (m := m) k b h1 h2 h3
  simp [b9, b6, b7, b8, a1, a2, a3, n1, n2, n3, ofS_inj, sizeLine_eq, e, callN_s, fin, sNil, sSeq, sAsg, sOf, sIf, sRet, sDrop, mBin, mUn, mOps, mCons, mNil, mVar, mC, mNew, mTst, mTru, mMut, mIsE, mXf, mCallX, mCallN, mIf, R.bind, gVar, xInt, xStr, xTup, xLst, xBl, xNon, xRef, xExn, startE, kLst, kTup, szB, kApp, Mi.listOf, tabAt, hasN, lookF, tru, okW, kAdd, below, belowL, belowF, belowK, frz, frzL, frzK, frzF, noExn, sTry, sRaise, noExnE, kEq_int, kIn, vD, vDL, itemsOf, L2.inV, L2.eqV, kSub2, dictOf, kIx, L2.atI, L2.ixN, bb0, bn0, bk0, bb1, bn1, bk1, bb2, bn2, bk2, bb3, bn3, bk3, bb4, bn4, bk4, bb5, bn5, bk5, bb6, bn6, bk6, bb7, bn7, bk7, bb8, bn8, bk8, bb9, bn9, bk9, bb10, bn10, bk10, bb11, bn11, bk11]
theorem due9 (k b : Nat) (h1 : Fv one p1) (h2 : Fv two p2) (h3 : Fv three p3) : callN bd (k + 1) 10 [.int 9, one, two, three] b [m] = .ok (.tup [.str "unlike", one]) [m] := by
  have a1 := h1.be
  have a2 := h2.be
  have a3 := h3.be
  have c1 := h1.rp
  have c2 := h2.rp
  have n1 := h1.nx
  have n2 := h2.nx
  have n3 := h3.nx
  simp [b10, a1, a2, a3, c1, c2, n1, n2, n3, ofS_inj, sizeLine_eq, callH_s, callN_s, fin, sNil, sSeq, sAsg, sOf, sIf, sRet, sDrop, mBin, mUn, mOps, mCons, mNil, mVar, mC, mNew, mTst, mTru, mMut, mIsE, mXf, mCallX, mCallN, mIf, R.bind, gVar, xInt, xStr, xTup, xLst, xBl, xNon, xRef, xExn, startE, kLst, kTup, szB, kApp, Mi.listOf, tabAt, hasN, lookF, tru, okW, kAdd, below, belowL, belowF, belowK, frz, frzL, frzK, frzF, noExn, sTry, sRaise, noExnE, kEq_int, kIn, vD, vDL, itemsOf, L2.inV, L2.eqV, kSub2, dictOf, kIx, L2.atI, L2.ixN, bb0, bn0, bk0, bb1, bn1, bk1, bb2, bn2, bk2, bb3, bn3, bk3, bb4, bn4, bk4, bb5, bn5, bk5, bb6, bn6, bk6, bb7, bn7, bk7, bb8, bn8, bk8, bb9, bn9, bk9, bb10, bn10, bk10, bb11, bn11, bk11]
theorem kinds10 (k b : Nat) (h1 : Fv one p1) (h2 : Fv two p2) (h3 : Fv three p3) : callH bd (k + 2) 12 [("paper", one)] 3 [.exn] b [m] = .ok (.lst [.tup [.str "notthere", one]]) [m] := by
  have a1 := h1.be
  have a2 := h2.be
  have a3 := h3.be
  have c1 := h1.rp
  have c2 := h2.rp
  have n1 := h1.nx
  have n2 := h2.nx
  have n3 := h3.nx
  simp [b3, b4, a1, a2, a3, c1, c2, ofS_inj, sizeLine_eq, callH_s, callN_s, fin, sNil, sSeq, sAsg, sOf, sIf, sRet, sDrop, mBin, mUn, mOps, mCons, mNil, mVar, mC, mNew, mTst, mTru, mMut, mIsE, mXf, mCallX, mCallN, mIf, R.bind, gVar, xInt, xStr, xTup, xLst, xBl, xNon, xRef, xExn, startE, kLst, kTup, szB, kApp, Mi.listOf, tabAt, hasN, lookF, tru, okW, kAdd, below, belowL, belowF, belowK, frz, frzL, frzK, frzF, noExn, sTry, sRaise, noExnE, kEq_int, kIn, vD, vDL, itemsOf, L2.inV, L2.eqV, kSub2, dictOf, kIx, L2.atI, L2.ixN, bb0, bn0, bk0, bb1, bn1, bk1, bb2, bn2, bk2, bb3, bn3, bk3, bb4, bn4, bk4, bb5, bn5, bk5, bb6, bn6, bk6, bb7, bn7, bk7, bb8, bn8, bk8, bb9, bn9, bk9, bb10, bn10, bk10, bb11, bn11, bk11]
theorem told10 (k b : Nat) (h1 : Fv one p1) (h2 : Fv two p2) (h3 : Fv three p3) : callN bd (k + 3) 9 [.int 10, one, two, three] b [m] = .ok (.lst [.tup [.str "notthere", one]]) [m] := by
  have a1 := h1.be
  have a2 := h2.be
  have a3 := h3.be
  have c1 := h1.rp
  have c2 := h2.rp
  have n1 := h1.nx
  have n2 := h2.nx
  have n3 := h3.nx
  have e := fun b => kinds10 (m := m) k b h1 h2 h3
  simp [b9, b6, b7, b8, a1, a2, a3, n1, n2, n3, ofS_inj, sizeLine_eq, e, callN_s, fin, sNil, sSeq, sAsg, sOf, sIf, sRet, sDrop, mBin, mUn, mOps, mCons, mNil, mVar, mC, mNew, mTst, mTru, mMut, mIsE, mXf, mCallX, mCallN, mIf, R.bind, gVar, xInt, xStr, xTup, xLst, xBl, xNon, xRef, xExn, startE, kLst, kTup, szB, kApp, Mi.listOf, tabAt, hasN, lookF, tru, okW, kAdd, below, belowL, belowF, belowK, frz, frzL, frzK, frzF, noExn, sTry, sRaise, noExnE, kEq_int, kIn, vD, vDL, itemsOf, L2.inV, L2.eqV, kSub2, dictOf, kIx, L2.atI, L2.ixN, bb0, bn0, bk0, bb1, bn1, bk1, bb2, bn2, bk2, bb3, bn3, bk3, bb4, bn4, bk4, bb5, bn5, bk5, bb6, bn6, bk6, bb7, bn7, bk7, bb8, bn8, bk8, bb9, bn9, bk9, bb10, bn10, bk10, bb11, bn11, bk11]
theorem due10 (k b : Nat) (h1 : Fv one p1) (h2 : Fv two p2) (h3 : Fv three p3) : callN bd (k + 1) 10 [.int 10, one, two, three] b [m] = .ok (.tup [.str "notthere", one]) [m] := by
  have a1 := h1.be
  have a2 := h2.be
  have a3 := h3.be
  have c1 := h1.rp
  have c2 := h2.rp
  have n1 := h1.nx
  have n2 := h2.nx
  have n3 := h3.nx
  simp [b10, a1, a2, a3, c1, c2, n1, n2, n3, ofS_inj, sizeLine_eq, callH_s, callN_s, fin, sNil, sSeq, sAsg, sOf, sIf, sRet, sDrop, mBin, mUn, mOps, mCons, mNil, mVar, mC, mNew, mTst, mTru, mMut, mIsE, mXf, mCallX, mCallN, mIf, R.bind, gVar, xInt, xStr, xTup, xLst, xBl, xNon, xRef, xExn, startE, kLst, kTup, szB, kApp, Mi.listOf, tabAt, hasN, lookF, tru, okW, kAdd, below, belowL, belowF, belowK, frz, frzL, frzK, frzF, noExn, sTry, sRaise, noExnE, kEq_int, kIn, vD, vDL, itemsOf, L2.inV, L2.eqV, kSub2, dictOf, kIx, L2.atI, L2.ixN, bb0, bn0, bk0, bb1, bn1, bk1, bb2, bn2, bk2, bb3, bn3, bk3, bb4, bn4, bk4, bb5, bn5, bk5, bb6, bn6, bk6, bb7, bn7, bk7, bb8, bn8, bk8, bb9, bn9, bk9, bb10, bn10, bk10, bb11, bn11, bk11]
theorem kinds11 (k b : Nat) (h1 : Fv one p1) (h2 : Fv two p2) (h3 : Fv three p3) : callH bd (k + 2) 13 [("limit", three), ("many", two), ("what", one)] 3 [.exn] b [m] = .ok (.lst [.tup [.str "many", one, two, three]]) [m] := by
  have a1 := h1.be
  have a2 := h2.be
  have a3 := h3.be
  have c1 := h1.rp
  have c2 := h2.rp
  have n1 := h1.nx
  have n2 := h2.nx
  have n3 := h3.nx
  simp [b3, b4, a1, a2, a3, c1, c2, ofS_inj, sizeLine_eq, callH_s, callN_s, fin, sNil, sSeq, sAsg, sOf, sIf, sRet, sDrop, mBin, mUn, mOps, mCons, mNil, mVar, mC, mNew, mTst, mTru, mMut, mIsE, mXf, mCallX, mCallN, mIf, R.bind, gVar, xInt, xStr, xTup, xLst, xBl, xNon, xRef, xExn, startE, kLst, kTup, szB, kApp, Mi.listOf, tabAt, hasN, lookF, tru, okW, kAdd, below, belowL, belowF, belowK, frz, frzL, frzK, frzF, noExn, sTry, sRaise, noExnE, kEq_int, kIn, vD, vDL, itemsOf, L2.inV, L2.eqV, kSub2, dictOf, kIx, L2.atI, L2.ixN, bb0, bn0, bk0, bb1, bn1, bk1, bb2, bn2, bk2, bb3, bn3, bk3, bb4, bn4, bk4, bb5, bn5, bk5, bb6, bn6, bk6, bb7, bn7, bk7, bb8, bn8, bk8, bb9, bn9, bk9, bb10, bn10, bk10, bb11, bn11, bk11]
theorem told11 (k b : Nat) (h1 : Fv one p1) (h2 : Fv two p2) (h3 : Fv three p3) : callN bd (k + 3) 9 [.int 11, one, two, three] b [m] = .ok (.lst [.tup [.str "many", one, two, three]]) [m] := by
  have a1 := h1.be
  have a2 := h2.be
  have a3 := h3.be
  have c1 := h1.rp
  have c2 := h2.rp
  have n1 := h1.nx
  have n2 := h2.nx
  have n3 := h3.nx
  have e := fun b => kinds11 (m := m) k b h1 h2 h3
  simp [b9, b6, b7, b8, a1, a2, a3, n1, n2, n3, ofS_inj, sizeLine_eq, e, callN_s, fin, sNil, sSeq, sAsg, sOf, sIf, sRet, sDrop, mBin, mUn, mOps, mCons, mNil, mVar, mC, mNew, mTst, mTru, mMut, mIsE, mXf, mCallX, mCallN, mIf, R.bind, gVar, xInt, xStr, xTup, xLst, xBl, xNon, xRef, xExn, startE, kLst, kTup, szB, kApp, Mi.listOf, tabAt, hasN, lookF, tru, okW, kAdd, below, belowL, belowF, belowK, frz, frzL, frzK, frzF, noExn, sTry, sRaise, noExnE, kEq_int, kIn, vD, vDL, itemsOf, L2.inV, L2.eqV, kSub2, dictOf, kIx, L2.atI, L2.ixN, bb0, bn0, bk0, bb1, bn1, bk1, bb2, bn2, bk2, bb3, bn3, bk3, bb4, bn4, bk4, bb5, bn5, bk5, bb6, bn6, bk6, bb7, bn7, bk7, bb8, bn8, bk8, bb9, bn9, bk9, bb10, bn10, bk10, bb11, bn11, bk11]
theorem due11 (k b : Nat) (h1 : Fv one p1) (h2 : Fv two p2) (h3 : Fv three p3) : callN bd (k + 1) 10 [.int 11, one, two, three] b [m] = .ok (.tup [.str "many", one, two, three]) [m] := by
  have a1 := h1.be
  have a2 := h2.be
  have a3 := h3.be
  have c1 := h1.rp
  have c2 := h2.rp
  have n1 := h1.nx
  have n2 := h2.nx
  have n3 := h3.nx
  simp [b10, a1, a2, a3, c1, c2, n1, n2, n3, ofS_inj, sizeLine_eq, callH_s, callN_s, fin, sNil, sSeq, sAsg, sOf, sIf, sRet, sDrop, mBin, mUn, mOps, mCons, mNil, mVar, mC, mNew, mTst, mTru, mMut, mIsE, mXf, mCallX, mCallN, mIf, R.bind, gVar, xInt, xStr, xTup, xLst, xBl, xNon, xRef, xExn, startE, kLst, kTup, szB, kApp, Mi.listOf, tabAt, hasN, lookF, tru, okW, kAdd, below, belowL, belowF, belowK, frz, frzL, frzK, frzF, noExn, sTry, sRaise, noExnE, kEq_int, kIn, vD, vDL, itemsOf, L2.inV, L2.eqV, kSub2, dictOf, kIx, L2.atI, L2.ixN, bb0, bn0, bk0, bb1, bn1, bk1, bb2, bn2, bk2, bb3, bn3, bk3, bb4, bn4, bk4, bb5, bn5, bk5, bb6, bn6, bk6, bb7, bn7, bk7, bb8, bn8, bk8, bb9, bn9, bk9, bb10, bn10, bk10, bb11, bn11, bk11]
theorem kinds12 (k b : Nat) (h1 : Fv one p1) (h2 : Fv two p2) (h3 : Fv three p3) : callH bd (k + 2) 14 [("witness", two), ("promise", one)] 3 [.exn] b [m] = .ok (.lst [.tup [.str "kept", one, two]]) [m] := by
  have a1 := h1.be
  have a2 := h2.be
  have a3 := h3.be
  have c1 := h1.rp
  have c2 := h2.rp
  have n1 := h1.nx
  have n2 := h2.nx
  have n3 := h3.nx
  simp [b3, b4, a1, a2, a3, c1, c2, ofS_inj, sizeLine_eq, callH_s, callN_s, fin, sNil, sSeq, sAsg, sOf, sIf, sRet, sDrop, mBin, mUn, mOps, mCons, mNil, mVar, mC, mNew, mTst, mTru, mMut, mIsE, mXf, mCallX, mCallN, mIf, R.bind, gVar, xInt, xStr, xTup, xLst, xBl, xNon, xRef, xExn, startE, kLst, kTup, szB, kApp, Mi.listOf, tabAt, hasN, lookF, tru, okW, kAdd, below, belowL, belowF, belowK, frz, frzL, frzK, frzF, noExn, sTry, sRaise, noExnE, kEq_int, kIn, vD, vDL, itemsOf, L2.inV, L2.eqV, kSub2, dictOf, kIx, L2.atI, L2.ixN, bb0, bn0, bk0, bb1, bn1, bk1, bb2, bn2, bk2, bb3, bn3, bk3, bb4, bn4, bk4, bb5, bn5, bk5, bb6, bn6, bk6, bb7, bn7, bk7, bb8, bn8, bk8, bb9, bn9, bk9, bb10, bn10, bk10, bb11, bn11, bk11]
theorem told12 (k b : Nat) (h1 : Fv one p1) (h2 : Fv two p2) (h3 : Fv three p3) : callN bd (k + 3) 9 [.int 12, one, two, three] b [m] = .ok (.lst [.tup [.str "kept", one, two]]) [m] := by
  have a1 := h1.be
  have a2 := h2.be
  have a3 := h3.be
  have c1 := h1.rp
  have c2 := h2.rp
  have n1 := h1.nx
  have n2 := h2.nx
  have n3 := h3.nx
  have e := fun b => kinds12 (m := m) k b h1 h2 h3
  simp [b9, b6, b7, b8, a1, a2, a3, n1, n2, n3, ofS_inj, sizeLine_eq, e, callN_s, fin, sNil, sSeq, sAsg, sOf, sIf, sRet, sDrop, mBin, mUn, mOps, mCons, mNil, mVar, mC, mNew, mTst, mTru, mMut, mIsE, mXf, mCallX, mCallN, mIf, R.bind, gVar, xInt, xStr, xTup, xLst, xBl, xNon, xRef, xExn, startE, kLst, kTup, szB, kApp, Mi.listOf, tabAt, hasN, lookF, tru, okW, kAdd, below, belowL, belowF, belowK, frz, frzL, frzK, frzF, noExn, sTry, sRaise, noExnE, kEq_int, kIn, vD, vDL, itemsOf, L2.inV, L2.eqV, kSub2, dictOf, kIx, L2.atI, L2.ixN, bb0, bn0, bk0, bb1, bn1, bk1, bb2, bn2, bk2, bb3, bn3, bk3, bb4, bn4, bk4, bb5, bn5, bk5, bb6, bn6, bk6, bb7, bn7, bk7, bb8, bn8, bk8, bb9, bn9, bk9, bb10, bn10, bk10, bb11, bn11, bk11]
theorem due12 (k b : Nat) (h1 : Fv one p1) (h2 : Fv two p2) (h3 : Fv three p3) : callN bd (k + 1) 10 [.int 12, one, two, three] b [m] = .ok (.tup [.str "kept", one, two]) [m] := by
  have a1 := h1.be
  have a2 := h2.be
  have a3 := h3.be
  have c1 := h1.rp
  have c2 := h2.rp
  have n1 := h1.nx
  have n2 := h2.nx
  have n3 := h3.nx
  simp [b10, a1, a2, a3, c1, c2, n1, n2, n3, ofS_inj, sizeLine_eq, callH_s, callN_s, fin, sNil, sSeq, sAsg, sOf, sIf, sRet, sDrop, mBin, mUn, mOps, mCons, mNil, mVar, mC, mNew, mTst, mTru, mMut, mIsE, mXf, mCallX, mCallN, mIf, R.bind, gVar, xInt, xStr, xTup, xLst, xBl, xNon, xRef, xExn, startE, kLst, kTup, szB, kApp, Mi.listOf, tabAt, hasN, lookF, tru, okW, kAdd, below, belowL, belowF, belowK, frz, frzL, frzK, frzF, noExn, sTry, sRaise, noExnE, kEq_int, kIn, vD, vDL, itemsOf, L2.inV, L2.eqV, kSub2, dictOf, kIx, L2.atI, L2.ixN, bb0, bn0, bk0, bb1, bn1, bk1, bb2, bn2, bk2, bb3, bn3, bk3, bb4, bn4, bk4, bb5, bn5, bk5, bb6, bn6, bk6, bb7, bn7, bk7, bb8, bn8, bk8, bb9, bn9, bk9, bb10, bn10, bk10, bb11, bn11, bk11]
theorem kinds13 (k b : Nat) (h1 : Fv one p1) (h2 : Fv two p2) (h3 : Fv three p3) : callH bd (k + 2) 15 [] 3 [.exn] b [m] = .ok (.lst [.tup [.str "undo"]]) [m] := by
  have a1 := h1.be
  have a2 := h2.be
  have a3 := h3.be
  have c1 := h1.rp
  have c2 := h2.rp
  have n1 := h1.nx
  have n2 := h2.nx
  have n3 := h3.nx
  simp [b3, b4, a1, a2, a3, c1, c2, ofS_inj, sizeLine_eq, callH_s, callN_s, fin, sNil, sSeq, sAsg, sOf, sIf, sRet, sDrop, mBin, mUn, mOps, mCons, mNil, mVar, mC, mNew, mTst, mTru, mMut, mIsE, mXf, mCallX, mCallN, mIf, R.bind, gVar, xInt, xStr, xTup, xLst, xBl, xNon, xRef, xExn, startE, kLst, kTup, szB, kApp, Mi.listOf, tabAt, hasN, lookF, tru, okW, kAdd, below, belowL, belowF, belowK, frz, frzL, frzK, frzF, noExn, sTry, sRaise, noExnE, kEq_int, kIn, vD, vDL, itemsOf, L2.inV, L2.eqV, kSub2, dictOf, kIx, L2.atI, L2.ixN, bb0, bn0, bk0, bb1, bn1, bk1, bb2, bn2, bk2, bb3, bn3, bk3, bb4, bn4, bk4, bb5, bn5, bk5, bb6, bn6, bk6, bb7, bn7, bk7, bb8, bn8, bk8, bb9, bn9, bk9, bb10, bn10, bk10, bb11, bn11, bk11]
theorem told13 (k b : Nat) (h1 : Fv one p1) (h2 : Fv two p2) (h3 : Fv three p3) : callN bd (k + 3) 9 [.int 13, one, two, three] b [m] = .ok (.lst [.tup [.str "undo"]]) [m] := by
  have a1 := h1.be
  have a2 := h2.be
  have a3 := h3.be
  have c1 := h1.rp
  have c2 := h2.rp
  have n1 := h1.nx
  have n2 := h2.nx
  have n3 := h3.nx
  have e := fun b => kinds13 (m := m) k b h1 h2 h3
  simp [b9, b6, b7, b8, a1, a2, a3, n1, n2, n3, ofS_inj, sizeLine_eq, e, callN_s, fin, sNil, sSeq, sAsg, sOf, sIf, sRet, sDrop, mBin, mUn, mOps, mCons, mNil, mVar, mC, mNew, mTst, mTru, mMut, mIsE, mXf, mCallX, mCallN, mIf, R.bind, gVar, xInt, xStr, xTup, xLst, xBl, xNon, xRef, xExn, startE, kLst, kTup, szB, kApp, Mi.listOf, tabAt, hasN, lookF, tru, okW, kAdd, below, belowL, belowF, belowK, frz, frzL, frzK, frzF, noExn, sTry, sRaise, noExnE, kEq_int, kIn, vD, vDL, itemsOf, L2.inV, L2.eqV, kSub2, dictOf, kIx, L2.atI, L2.ixN, bb0, bn0, bk0, bb1, bn1, bk1, bb2, bn2, bk2, bb3, bn3, bk3, bb4, bn4, bk4, bb5, bn5, bk5, bb6, bn6, bk6, bb7, bn7, bk7, bb8, bn8, bk8, bb9, bn9, bk9, bb10, bn10, bk10, bb11, bn11, bk11]
theorem due13 (k b : Nat) (h1 : Fv one p1) (h2 : Fv two p2) (h3 : Fv three p3) : callN bd (k + 1) 10 [.int 13, one, two, three] b [m] = .ok (.tup [.str "undo"]) [m] := by
  have a1 := h1.be
  have a2 := h2.be
  have a3 := h3.be
  have c1 := h1.rp
  have c2 := h2.rp
  have n1 := h1.nx
  have n2 := h2.nx
  have n3 := h3.nx
  simp [b10, a1, a2, a3, c1, c2, n1, n2, n3, ofS_inj, sizeLine_eq, callH_s, callN_s, fin, sNil, sSeq, sAsg, sOf, sIf, sRet, sDrop, mBin, mUn, mOps, mCons, mNil, mVar, mC, mNew, mTst, mTru, mMut, mIsE, mXf, mCallX, mCallN, mIf, R.bind, gVar, xInt, xStr, xTup, xLst, xBl, xNon, xRef, xExn, startE, kLst, kTup, szB, kApp, Mi.listOf, tabAt, hasN, lookF, tru, okW, kAdd, below, belowL, belowF, belowK, frz, frzL, frzK, frzF, noExn, sTry, sRaise, noExnE, kEq_int, kIn, vD, vDL, itemsOf, L2.inV, L2.eqV, kSub2, dictOf, kIx, L2.atI, L2.ixN, bb0, bn0, bk0, bb1, bn1, bk1, bb2, bn2, bk2, bb3, bn3, bk3, bb4, bn4, bk4, bb5, bn5, bk5, bb6, bn6, bk6, bb7, bn7, bk7, bb8, bn8, bk8, bb9, bn9, bk9, bb10, bn10, bk10, bb11, bn11, bk11]
theorem kinds14 (k b : Nat) (h1 : Fv one p1) (h2 : Fv two p2) (h3 : Fv three p3) : callH bd (k + 2) 16 [] 3 [.exn] b [m] = .ok (.lst [.tup [.str "redo"]]) [m] := by
  have a1 := h1.be
  have a2 := h2.be
  have a3 := h3.be
  have c1 := h1.rp
  have c2 := h2.rp
  have n1 := h1.nx
  have n2 := h2.nx
  have n3 := h3.nx
  simp [b3, b4, a1, a2, a3, c1, c2, ofS_inj, sizeLine_eq, callH_s, callN_s, fin, sNil, sSeq, sAsg, sOf, sIf, sRet, sDrop, mBin, mUn, mOps, mCons, mNil, mVar, mC, mNew, mTst, mTru, mMut, mIsE, mXf, mCallX, mCallN, mIf, R.bind, gVar, xInt, xStr, xTup, xLst, xBl, xNon, xRef, xExn, startE, kLst, kTup, szB, kApp, Mi.listOf, tabAt, hasN, lookF, tru, okW, kAdd, below, belowL, belowF, belowK, frz, frzL, frzK, frzF, noExn, sTry, sRaise, noExnE, kEq_int, kIn, vD, vDL, itemsOf, L2.inV, L2.eqV, kSub2, dictOf, kIx, L2.atI, L2.ixN, bb0, bn0, bk0, bb1, bn1, bk1, bb2, bn2, bk2, bb3, bn3, bk3, bb4, bn4, bk4, bb5, bn5, bk5, bb6, bn6, bk6, bb7, bn7, bk7, bb8, bn8, bk8, bb9, bn9, bk9, bb10, bn10, bk10, bb11, bn11, bk11]
theorem told14 (k b : Nat) (h1 : Fv one p1) (h2 : Fv two p2) (h3 : Fv three p3) : callN bd (k + 3) 9 [.int 14, one, two, three] b [m] = .ok (.lst [.tup [.str "redo"]]) [m] := by
  have a1 := h1.be
  have a2 := h2.be
  have a3 := h3.be
  have c1 := h1.rp
  have c2 := h2.rp
  have n1 := h1.nx
  have n2 := h2.nx
  have n3 := h3.nx
  have e := fun b => kinds14 (m := m) k b h1 h2 h3
  simp [b9, b6, b7, b8, a1, a2, a3, n1, n2, n3, ofS_inj, sizeLine_eq, e, callN_s, fin, sNil, sSeq, sAsg, sOf, sIf, sRet, sDrop, mBin, mUn, mOps, mCons, mNil, mVar, mC, mNew, mTst, mTru, mMut, mIsE, mXf, mCallX, mCallN, mIf, R.bind, gVar, xInt, xStr, xTup, xLst, xBl, xNon, xRef, xExn, startE, kLst, kTup, szB, kApp, Mi.listOf, tabAt, hasN, lookF, tru, okW, kAdd, below, belowL, belowF, belowK, frz, frzL, frzK, frzF, noExn, sTry, sRaise, noExnE, kEq_int, kIn, vD, vDL, itemsOf, L2.inV, L2.eqV, kSub2, dictOf, kIx, L2.atI, L2.ixN, bb0, bn0, bk0, bb1, bn1, bk1, bb2, bn2, bk2, bb3, bn3, bk3, bb4, bn4, bk4, bb5, bn5, bk5, bb6, bn6, bk6, bb7, bn7, bk7, bb8, bn8, bk8, bb9, bn9, bk9, bb10, bn10, bk10, bb11, bn11, bk11]
theorem due14 (k b : Nat) (h1 : Fv one p1) (h2 : Fv two p2) (h3 : Fv three p3) : callN bd (k + 1) 10 [.int 14, one, two, three] b [m] = .ok (.tup [.str "redo"]) [m] := by
  have a1 := h1.be
  have a2 := h2.be
  have a3 := h3.be
  have c1 := h1.rp
  have c2 := h2.rp
  have n1 := h1.nx
  have n2 := h2.nx
  have n3 := h3.nx
  simp [b10, a1, a2, a3, c1, c2, n1, n2, n3, ofS_inj, sizeLine_eq, callH_s, callN_s, fin, sNil, sSeq, sAsg, sOf, sIf, sRet, sDrop, mBin, mUn, mOps, mCons, mNil, mVar, mC, mNew, mTst, mTru, mMut, mIsE, mXf, mCallX, mCallN, mIf, R.bind, gVar, xInt, xStr, xTup, xLst, xBl, xNon, xRef, xExn, startE, kLst, kTup, szB, kApp, Mi.listOf, tabAt, hasN, lookF, tru, okW, kAdd, below, belowL, belowF, belowK, frz, frzL, frzK, frzF, noExn, sTry, sRaise, noExnE, kEq_int, kIn, vD, vDL, itemsOf, L2.inV, L2.eqV, kSub2, dictOf, kIx, L2.atI, L2.ixN, bb0, bn0, bk0, bb1, bn1, bk1, bb2, bn2, bk2, bb3, bn3, bk3, bb4, bn4, bk4, bb5, bn5, bk5, bb6, bn6, bk6, bb7, bn7, bk7, bb8, bn8, bk8, bb9, bn9, bk9, bb10, bn10, bk10, bb11, bn11, bk11]
theorem kinds15 (k b : Nat) (h1 : Fv one p1) (h2 : Fv two p2) (h3 : Fv three p3) : callH bd (k + 2) 3 [("what", one)] 3 [.exn] b [m] = .ok (.lst [.tup [.str "rules", one]]) [m] := by
  have a1 := h1.be
  have a2 := h2.be
  have a3 := h3.be
  have c1 := h1.rp
  have c2 := h2.rp
  have n1 := h1.nx
  have n2 := h2.nx
  have n3 := h3.nx
  simp [b3, b4, a1, a2, a3, c1, c2, ofS_inj, sizeLine_eq, callH_s, callN_s, fin, sNil, sSeq, sAsg, sOf, sIf, sRet, sDrop, mBin, mUn, mOps, mCons, mNil, mVar, mC, mNew, mTst, mTru, mMut, mIsE, mXf, mCallX, mCallN, mIf, R.bind, gVar, xInt, xStr, xTup, xLst, xBl, xNon, xRef, xExn, startE, kLst, kTup, szB, kApp, Mi.listOf, tabAt, hasN, lookF, tru, okW, kAdd, below, belowL, belowF, belowK, frz, frzL, frzK, frzF, noExn, sTry, sRaise, noExnE, kEq_int, kIn, vD, vDL, itemsOf, L2.inV, L2.eqV, kSub2, dictOf, kIx, L2.atI, L2.ixN, bb0, bn0, bk0, bb1, bn1, bk1, bb2, bn2, bk2, bb3, bn3, bk3, bb4, bn4, bk4, bb5, bn5, bk5, bb6, bn6, bk6, bb7, bn7, bk7, bb8, bn8, bk8, bb9, bn9, bk9, bb10, bn10, bk10, bb11, bn11, bk11]
theorem told15 (k b : Nat) (h1 : Fv one p1) (h2 : Fv two p2) (h3 : Fv three p3) : callN bd (k + 3) 9 [.int 15, one, two, three] b [m] = .ok (.lst [.tup [.str "rules", one]]) [m] := by
  have a1 := h1.be
  have a2 := h2.be
  have a3 := h3.be
  have c1 := h1.rp
  have c2 := h2.rp
  have n1 := h1.nx
  have n2 := h2.nx
  have n3 := h3.nx
  have e := fun b => kinds15 (m := m) k b h1 h2 h3
  simp [b9, b6, b7, b8, a1, a2, a3, n1, n2, n3, ofS_inj, sizeLine_eq, e, callN_s, fin, sNil, sSeq, sAsg, sOf, sIf, sRet, sDrop, mBin, mUn, mOps, mCons, mNil, mVar, mC, mNew, mTst, mTru, mMut, mIsE, mXf, mCallX, mCallN, mIf, R.bind, gVar, xInt, xStr, xTup, xLst, xBl, xNon, xRef, xExn, startE, kLst, kTup, szB, kApp, Mi.listOf, tabAt, hasN, lookF, tru, okW, kAdd, below, belowL, belowF, belowK, frz, frzL, frzK, frzF, noExn, sTry, sRaise, noExnE, kEq_int, kIn, vD, vDL, itemsOf, L2.inV, L2.eqV, kSub2, dictOf, kIx, L2.atI, L2.ixN, bb0, bn0, bk0, bb1, bn1, bk1, bb2, bn2, bk2, bb3, bn3, bk3, bb4, bn4, bk4, bb5, bn5, bk5, bb6, bn6, bk6, bb7, bn7, bk7, bb8, bn8, bk8, bb9, bn9, bk9, bb10, bn10, bk10, bb11, bn11, bk11]
theorem due15 (k b : Nat) (h1 : Fv one p1) (h2 : Fv two p2) (h3 : Fv three p3) : callN bd (k + 1) 10 [.int 15, one, two, three] b [m] = .ok (.tup [.str "rules", one]) [m] := by
  have a1 := h1.be
  have a2 := h2.be
  have a3 := h3.be
  have c1 := h1.rp
  have c2 := h2.rp
  have n1 := h1.nx
  have n2 := h2.nx
  have n3 := h3.nx
  simp [b10, a1, a2, a3, c1, c2, n1, n2, n3, ofS_inj, sizeLine_eq, callH_s, callN_s, fin, sNil, sSeq, sAsg, sOf, sIf, sRet, sDrop, mBin, mUn, mOps, mCons, mNil, mVar, mC, mNew, mTst, mTru, mMut, mIsE, mXf, mCallX, mCallN, mIf, R.bind, gVar, xInt, xStr, xTup, xLst, xBl, xNon, xRef, xExn, startE, kLst, kTup, szB, kApp, Mi.listOf, tabAt, hasN, lookF, tru, okW, kAdd, below, belowL, belowF, belowK, frz, frzL, frzK, frzF, noExn, sTry, sRaise, noExnE, kEq_int, kIn, vD, vDL, itemsOf, L2.inV, L2.eqV, kSub2, dictOf, kIx, L2.atI, L2.ixN, bb0, bn0, bk0, bb1, bn1, bk1, bb2, bn2, bk2, bb3, bn3, bk3, bb4, bn4, bk4, bb5, bn5, bk5, bb6, bn6, bk6, bb7, bn7, bk7, bb8, bn8, bk8, bb9, bn9, bk9, bb10, bn10, bk10, bb11, bn11, bk11]
theorem tup_rp {ds : List D} {ps : List PyData} (h : toRL ds = some ps) (hs : PyData.showableAll ps = true) (hd : PyData.depthAll ps ≤ 50) (ho : strsOkL ps) (hz : szL ps ≤ 16777000) (μ : Mem) : kRepr [.tup ds] μ = some (.str (PyData.tuple ps).shown) := by
  refine kRepr_of (p := .tuple ps) ?_ ?_ ?_ ?_ ?_
  · simp only [toRv, toR, h, Option.map_some]
  · simpa only [PyData.showable] using hs
  · simp only [PyData.depth]; omega
  · simpa only [Mi.strsOk] using ho
  · simp only [szP]; omega
def shP (p : PyData) : PyData := .str p.shown
theorem Fv.z2 {d : D} {p : PyData} (h : Fv d p) : p.shown.length ≤ 200 := Nat.le_trans (shown_sz h.ok).1 h.sz
theorem Fv.o2 {d : D} {p : PyData} (h : Fv d p) : okS p.shown := (shown_sz h.ok).2
theorem rp0 (h1 : Fv one p1) (h2 : Fv two p2) (h3 : Fv three p3) : ∃ s, ∀ μ, kRepr [.tup [.str "number", one, .str p2.shown]] μ = some (.str s) := by
  have t1 := h1.tr
  have t2 := h2.tr
  have t3 := h3.tr
  have s1 := h1.sh
  have s2 := h2.sh
  have s3 := h3.sh
  have d1 := h1.dp
  have d2 := h2.dp
  have d3 := h3.dp
  have o1 := h1.ok
  have o2 := h2.ok
  have o3 := h3.ok
  have z1 := h1.sz
  have z2 := h2.sz
  have z3 := h3.sz
  have l1 := h1.z2
  have l2 := h2.z2
  have q1 := h1.o2
  have q2 := h2.o2
  have w1 : okS (Str.ofString "number") := okS_str _
  have w2 : (Str.ofString "number").length = 6 := rfl
  refine ⟨_, fun μ => tup_rp (ps := [.str "number", p1, .str p2.shown]) ?_ ?_ ?_ ?_ ?_ μ⟩
  · simp [toRL, toR, t1, t2, t3]
  · simp [PyData.showableAll, PyData.showable, s1, s2, s3]
  · simp only [PyData.depthAll, PyData.depth]; omega
  · simp [strsOkL, Mi.strsOk, o1, o2, o3, q1, q2, w1]
  · simp only [szL, szP, w2]; omega
theorem all0 (k b : Nat) (h1 : Fv one p1) (h2 : Fv two p2) (h3 : Fv three p3) : ∃ t s, (∀ b, callN bd (k + 3) 9 [.int 0, one, two, three] b [m] = .ok (.lst [t]) [m]) ∧ (∀ b, callN bd (k + 3) 10 [.int 0, one, two, three] b [m] = .ok t [m]) ∧ ∀ μ, kRepr [t] μ = some (.str s) := by
  obtain ⟨s, hs⟩ := rp0 h1 h2 h3
  exact ⟨_, s, fun b => told0 k b h1 h2 h3, fun b => due0 (k + 2) b h1 h2 h3, hs⟩
theorem rp1 (h1 : Fv one p1) (h2 : Fv two p2) (h3 : Fv three p3) : ∃ s, ∀ μ, kRepr [.tup [.str "row", one, .str p2.shown]] μ = some (.str s) := by
  have t1 := h1.tr
  have t2 := h2.tr
  have t3 := h3.tr
  have s1 := h1.sh
  have s2 := h2.sh
  have s3 := h3.sh
  have d1 := h1.dp
  have d2 := h2.dp
  have d3 := h3.dp
  have o1 := h1.ok
  have o2 := h2.ok
  have o3 := h3.ok
  have z1 := h1.sz
  have z2 := h2.sz
  have z3 := h3.sz
  have l1 := h1.z2
  have l2 := h2.z2
  have q1 := h1.o2
  have q2 := h2.o2
  have w1 : okS (Str.ofString "row") := okS_str _
  have w2 : (Str.ofString "row").length = 3 := rfl
  refine ⟨_, fun μ => tup_rp (ps := [.str "row", p1, .str p2.shown]) ?_ ?_ ?_ ?_ ?_ μ⟩
  · simp [toRL, toR, t1, t2, t3]
  · simp [PyData.showableAll, PyData.showable, s1, s2, s3]
  · simp only [PyData.depthAll, PyData.depth]; omega
  · simp [strsOkL, Mi.strsOk, o1, o2, o3, q1, q2, w1]
  · simp only [szL, szP, w2]; omega
theorem all1 (k b : Nat) (h1 : Fv one p1) (h2 : Fv two p2) (h3 : Fv three p3) : ∃ t s, (∀ b, callN bd (k + 3) 9 [.int 1, one, two, three] b [m] = .ok (.lst [t]) [m]) ∧ (∀ b, callN bd (k + 3) 10 [.int 1, one, two, three] b [m] = .ok t [m]) ∧ ∀ μ, kRepr [t] μ = some (.str s) := by
  obtain ⟨s, hs⟩ := rp1 h1 h2 h3
  exact ⟨_, s, fun b => told1 k b h1 h2 h3, fun b => due1 (k + 2) b h1 h2 h3, hs⟩
theorem rp2 (h1 : Fv one p1) (h2 : Fv two p2) (h3 : Fv three p3) : ∃ s, ∀ μ, kRepr [.tup [.str "table", one]] μ = some (.str s) := by
  have t1 := h1.tr
  have t2 := h2.tr
  have t3 := h3.tr
  have s1 := h1.sh
  have s2 := h2.sh
  have s3 := h3.sh
  have d1 := h1.dp
  have d2 := h2.dp
  have d3 := h3.dp
  have o1 := h1.ok
  have o2 := h2.ok
  have o3 := h3.ok
  have z1 := h1.sz
  have z2 := h2.sz
  have z3 := h3.sz
  have l1 := h1.z2
  have l2 := h2.z2
  have q1 := h1.o2
  have q2 := h2.o2
  have w1 : okS (Str.ofString "table") := okS_str _
  have w2 : (Str.ofString "table").length = 5 := rfl
  refine ⟨_, fun μ => tup_rp (ps := [.str "table", p1]) ?_ ?_ ?_ ?_ ?_ μ⟩
  · simp [toRL, toR, t1, t2, t3]
  · simp [PyData.showableAll, PyData.showable, s1, s2, s3]
  · simp only [PyData.depthAll, PyData.depth]; omega
  · simp [strsOkL, Mi.strsOk, o1, o2, o3, q1, q2, w1]
  · simp only [szL, szP, w2]; omega
theorem all2 (k b : Nat) (h1 : Fv one p1) (h2 : Fv two p2) (h3 : Fv three p3) : ∃ t s, (∀ b, callN bd (k + 3) 9 [.int 2, one, two, three] b [m] = .ok (.lst [t]) [m]) ∧ (∀ b, callN bd (k + 3) 10 [.int 2, one, two, three] b [m] = .ok t [m]) ∧ ∀ μ, kRepr [t] μ = some (.str s) := by
  obtain ⟨s, hs⟩ := rp2 h1 h2 h3
  exact ⟨_, s, fun b => told2 k b h1 h2 h3, fun b => due2 (k + 2) b h1 h2 h3, hs⟩
theorem rp3 (h1 : Fv one p1) (h2 : Fv two p2) (h3 : Fv three p3) : ∃ s, ∀ μ, kRepr [.tup [.str "book", one]] μ = some (.str s) := by
  have t1 := h1.tr
  have t2 := h2.tr
  have t3 := h3.tr
  have s1 := h1.sh
  have s2 := h2.sh
  have s3 := h3.sh
  have d1 := h1.dp
  have d2 := h2.dp
  have d3 := h3.dp
  have o1 := h1.ok
  have o2 := h2.ok
  have o3 := h3.ok
  have z1 := h1.sz
  have z2 := h2.sz
  have z3 := h3.sz
  have l1 := h1.z2
  have l2 := h2.z2
  have q1 := h1.o2
  have q2 := h2.o2
  have w1 : okS (Str.ofString "book") := okS_str _
  have w2 : (Str.ofString "book").length = 4 := rfl
  refine ⟨_, fun μ => tup_rp (ps := [.str "book", p1]) ?_ ?_ ?_ ?_ ?_ μ⟩
  · simp [toRL, toR, t1, t2, t3]
  · simp [PyData.showableAll, PyData.showable, s1, s2, s3]
  · simp only [PyData.depthAll, PyData.depth]; omega
  · simp [strsOkL, Mi.strsOk, o1, o2, o3, q1, q2, w1]
  · simp only [szL, szP, w2]; omega
theorem all3 (k b : Nat) (h1 : Fv one p1) (h2 : Fv two p2) (h3 : Fv three p3) : ∃ t s, (∀ b, callN bd (k + 3) 9 [.int 3, one, two, three] b [m] = .ok (.lst [t]) [m]) ∧ (∀ b, callN bd (k + 3) 10 [.int 3, one, two, three] b [m] = .ok t [m]) ∧ ∀ μ, kRepr [t] μ = some (.str s) := by
  obtain ⟨s, hs⟩ := rp3 h1 h2 h3
  exact ⟨_, s, fun b => told3 k b h1 h2 h3, fun b => due3 (k + 2) b h1 h2 h3, hs⟩
theorem rp4 (h1 : Fv one p1) (h2 : Fv two p2) (h3 : Fv three p3) : ∃ s, ∀ μ, kRepr [.tup [.str "badname", .str p1.shown]] μ = some (.str s) := by
  have t1 := h1.tr
  have t2 := h2.tr
  have t3 := h3.tr
  have s1 := h1.sh
  have s2 := h2.sh
  have s3 := h3.sh
  have d1 := h1.dp
  have d2 := h2.dp
  have d3 := h3.dp
  have o1 := h1.ok
  have o2 := h2.ok
  have o3 := h3.ok
  have z1 := h1.sz
  have z2 := h2.sz
  have z3 := h3.sz
  have l1 := h1.z2
  have l2 := h2.z2
  have q1 := h1.o2
  have q2 := h2.o2
  have w1 : okS (Str.ofString "badname") := okS_str _
  have w2 : (Str.ofString "badname").length = 7 := rfl
  refine ⟨_, fun μ => tup_rp (ps := [.str "badname", .str p1.shown]) ?_ ?_ ?_ ?_ ?_ μ⟩
  · simp [toRL, toR, t1, t2, t3]
  · simp [PyData.showableAll, PyData.showable, s1, s2, s3]
  · simp only [PyData.depthAll, PyData.depth]; omega
  · simp [strsOkL, Mi.strsOk, o1, o2, o3, q1, q2, w1]
  · simp only [szL, szP, w2]; omega
theorem all4 (k b : Nat) (h1 : Fv one p1) (h2 : Fv two p2) (h3 : Fv three p3) : ∃ t s, (∀ b, callN bd (k + 3) 9 [.int 4, one, two, three] b [m] = .ok (.lst [t]) [m]) ∧ (∀ b, callN bd (k + 3) 10 [.int 4, one, two, three] b [m] = .ok t [m]) ∧ ∀ μ, kRepr [t] μ = some (.str s) := by
  obtain ⟨s, hs⟩ := rp4 h1 h2 h3
  exact ⟨_, s, fun b => told4 k b h1 h2 h3, fun b => due4 (k + 2) b h1 h2 h3, hs⟩
theorem rp5 (h1 : Fv one p1) (h2 : Fv two p2) (h3 : Fv three p3) : ∃ s, ∀ μ, kRepr [.tup [.str "text", one, two]] μ = some (.str s) := by
  have t1 := h1.tr
  have t2 := h2.tr
  have t3 := h3.tr
  have s1 := h1.sh
  have s2 := h2.sh
  have s3 := h3.sh
  have d1 := h1.dp
  have d2 := h2.dp
  have d3 := h3.dp
  have o1 := h1.ok
  have o2 := h2.ok
  have o3 := h3.ok
  have z1 := h1.sz
  have z2 := h2.sz
  have z3 := h3.sz
  have l1 := h1.z2
  have l2 := h2.z2
  have q1 := h1.o2
  have q2 := h2.o2
  have w1 : okS (Str.ofString "text") := okS_str _
  have w2 : (Str.ofString "text").length = 4 := rfl
  refine ⟨_, fun μ => tup_rp (ps := [.str "text", p1, p2]) ?_ ?_ ?_ ?_ ?_ μ⟩
  · simp [toRL, toR, t1, t2, t3]
  · simp [PyData.showableAll, PyData.showable, s1, s2, s3]
  · simp only [PyData.depthAll, PyData.depth]; omega
  · simp [strsOkL, Mi.strsOk, o1, o2, o3, q1, q2, w1]
  · simp only [szL, szP, w2]; omega
theorem all5 (k b : Nat) (h1 : Fv one p1) (h2 : Fv two p2) (h3 : Fv three p3) : ∃ t s, (∀ b, callN bd (k + 3) 9 [.int 5, one, two, three] b [m] = .ok (.lst [t]) [m]) ∧ (∀ b, callN bd (k + 3) 10 [.int 5, one, two, three] b [m] = .ok t [m]) ∧ ∀ μ, kRepr [t] μ = some (.str s) := by
  obtain ⟨s, hs⟩ := rp5 h1 h2 h3
  exact ⟨_, s, fun b => told5 k b h1 h2 h3, fun b => due5 (k + 2) b h1 h2 h3, hs⟩
theorem rp6 (h1 : Fv one p1) (h2 : Fv two p2) (h3 : Fv three p3) : ∃ s, ∀ μ, kRepr [.tup [.str "place", one, .str p2.shown]] μ = some (.str s) := by
  have t1 := h1.tr
  have t2 := h2.tr
  have t3 := h3.tr
  have s1 := h1.sh
  have s2 := h2.sh
  have s3 := h3.sh
  have d1 := h1.dp
  have d2 := h2.dp
  have d3 := h3.dp
  have o1 := h1.ok
  have o2 := h2.ok
  have o3 := h3.ok
  have z1 := h1.sz
  have z2 := h2.sz
  have z3 := h3.sz
  have l1 := h1.z2
  have l2 := h2.z2
  have q1 := h1.o2
  have q2 := h2.o2
  have w1 : okS (Str.ofString "place") := okS_str _
  have w2 : (Str.ofString "place").length = 5 := rfl
  refine ⟨_, fun μ => tup_rp (ps := [.str "place", p1, .str p2.shown]) ?_ ?_ ?_ ?_ ?_ μ⟩
  · simp [toRL, toR, t1, t2, t3]
  · simp [PyData.showableAll, PyData.showable, s1, s2, s3]
  · simp only [PyData.depthAll, PyData.depth]; omega
  · simp [strsOkL, Mi.strsOk, o1, o2, o3, q1, q2, w1]
  · simp only [szL, szP, w2]; omega
theorem all6 (k b : Nat) (h1 : Fv one p1) (h2 : Fv two p2) (h3 : Fv three p3) : ∃ t s, (∀ b, callN bd (k + 3) 9 [.int 6, one, two, three] b [m] = .ok (.lst [t]) [m]) ∧ (∀ b, callN bd (k + 3) 10 [.int 6, one, two, three] b [m] = .ok t [m]) ∧ ∀ μ, kRepr [t] μ = some (.str s) := by
  obtain ⟨s, hs⟩ := rp6 h1 h2 h3
  exact ⟨_, s, fun b => told6 k b h1 h2 h3, fun b => due6 (k + 2) b h1 h2 h3, hs⟩
theorem rp7 (h1 : Fv one p1) (h2 : Fv two p2) (h3 : Fv three p3) : ∃ s, ∀ μ, kRepr [.tup [.str "noname", .str p1.shown]] μ = some (.str s) := by
  have t1 := h1.tr
  have t2 := h2.tr
  have t3 := h3.tr
  have s1 := h1.sh
  have s2 := h2.sh
  have s3 := h3.sh
  have d1 := h1.dp
  have d2 := h2.dp
  have d3 := h3.dp
  have o1 := h1.ok
  have o2 := h2.ok
  have o3 := h3.ok
  have z1 := h1.sz
  have z2 := h2.sz
  have z3 := h3.sz
  have l1 := h1.z2
  have l2 := h2.z2
  have q1 := h1.o2
  have q2 := h2.o2
  have w1 : okS (Str.ofString "noname") := okS_str _
  have w2 : (Str.ofString "noname").length = 6 := rfl
  refine ⟨_, fun μ => tup_rp (ps := [.str "noname", .str p1.shown]) ?_ ?_ ?_ ?_ ?_ μ⟩
  · simp [toRL, toR, t1, t2, t3]
  · simp [PyData.showableAll, PyData.showable, s1, s2, s3]
  · simp only [PyData.depthAll, PyData.depth]; omega
  · simp [strsOkL, Mi.strsOk, o1, o2, o3, q1, q2, w1]
  · simp only [szL, szP, w2]; omega
theorem all7 (k b : Nat) (h1 : Fv one p1) (h2 : Fv two p2) (h3 : Fv three p3) : ∃ t s, (∀ b, callN bd (k + 3) 9 [.int 7, one, two, three] b [m] = .ok (.lst [t]) [m]) ∧ (∀ b, callN bd (k + 3) 10 [.int 7, one, two, three] b [m] = .ok t [m]) ∧ ∀ μ, kRepr [t] μ = some (.str s) := by
  obtain ⟨s, hs⟩ := rp7 h1 h2 h3
  exact ⟨_, s, fun b => told7 k b h1 h2 h3, fun b => due7 (k + 2) b h1 h2 h3, hs⟩
theorem rp8 (h1 : Fv one p1) (h2 : Fv two p2) (h3 : Fv three p3) : ∃ s, ∀ μ, kRepr [.tup [.str "taken", .str p1.shown]] μ = some (.str s) := by
  have t1 := h1.tr
  have t2 := h2.tr
  have t3 := h3.tr
  have s1 := h1.sh
  have s2 := h2.sh
  have s3 := h3.sh
  have d1 := h1.dp
  have d2 := h2.dp
  have d3 := h3.dp
  have o1 := h1.ok
  have o2 := h2.ok
  have o3 := h3.ok
  have z1 := h1.sz
  have z2 := h2.sz
  have z3 := h3.sz
  have l1 := h1.z2
  have l2 := h2.z2
  have q1 := h1.o2
  have q2 := h2.o2
  have w1 : okS (Str.ofString "taken") := okS_str _
  have w2 : (Str.ofString "taken").length = 5 := rfl
  refine ⟨_, fun μ => tup_rp (ps := [.str "taken", .str p1.shown]) ?_ ?_ ?_ ?_ ?_ μ⟩
  · simp [toRL, toR, t1, t2, t3]
  · simp [PyData.showableAll, PyData.showable, s1, s2, s3]
  · simp only [PyData.depthAll, PyData.depth]; omega
  · simp [strsOkL, Mi.strsOk, o1, o2, o3, q1, q2, w1]
  · simp only [szL, szP, w2]; omega
theorem all8 (k b : Nat) (h1 : Fv one p1) (h2 : Fv two p2) (h3 : Fv three p3) : ∃ t s, (∀ b, callN bd (k + 3) 9 [.int 8, one, two, three] b [m] = .ok (.lst [t]) [m]) ∧ (∀ b, callN bd (k + 3) 10 [.int 8, one, two, three] b [m] = .ok t [m]) ∧ ∀ μ, kRepr [t] μ = some (.str s) := by
  obtain ⟨s, hs⟩ := rp8 h1 h2 h3
  exact ⟨_, s, fun b => told8 k b h1 h2 h3, fun b => due8 (k + 2) b h1 h2 h3, hs⟩
theorem rp9 (h1 : Fv one p1) (h2 : Fv two p2) (h3 : Fv three p3) : ∃ s, ∀ μ, kRepr [.tup [.str "unlike", one]] μ = some (.str s) := by
  have t1 := h1.tr
  have t2 := h2.tr
  have t3 := h3.tr
  have s1 := h1.sh
  have s2 := h2.sh
  have s3 := h3.sh
  have d1 := h1.dp
  have d2 := h2.dp
  have d3 := h3.dp
  have o1 := h1.ok
  have o2 := h2.ok
  have o3 := h3.ok
  have z1 := h1.sz
  have z2 := h2.sz
  have z3 := h3.sz
  have l1 := h1.z2
  have l2 := h2.z2
  have q1 := h1.o2
  have q2 := h2.o2
  have w1 : okS (Str.ofString "unlike") := okS_str _
  have w2 : (Str.ofString "unlike").length = 6 := rfl
  refine ⟨_, fun μ => tup_rp (ps := [.str "unlike", p1]) ?_ ?_ ?_ ?_ ?_ μ⟩
  · simp [toRL, toR, t1, t2, t3]
  · simp [PyData.showableAll, PyData.showable, s1, s2, s3]
  · simp only [PyData.depthAll, PyData.depth]; omega
  · simp [strsOkL, Mi.strsOk, o1, o2, o3, q1, q2, w1]
  · simp only [szL, szP, w2]; omega
theorem all9 (k b : Nat) (h1 : Fv one p1) (h2 : Fv two p2) (h3 : Fv three p3) : ∃ t s, (∀ b, callN bd (k + 3) 9 [.int 9, one, two, three] b [m] = .ok (.lst [t]) [m]) ∧ (∀ b, callN bd (k + 3) 10 [.int 9, one, two, three] b [m] = .ok t [m]) ∧ ∀ μ, kRepr [t] μ = some (.str s) := by
  obtain ⟨s, hs⟩ := rp9 h1 h2 h3
  exact ⟨_, s, fun b => told9 k b h1 h2 h3, fun b => due9 (k + 2) b h1 h2 h3, hs⟩
theorem rp10 (h1 : Fv one p1) (h2 : Fv two p2) (h3 : Fv three p3) : ∃ s, ∀ μ, kRepr [.tup [.str "notthere", one]] μ = some (.str s) := by
  have t1 := h1.tr
  have t2 := h2.tr
  have t3 := h3.tr
  have s1 := h1.sh
  have s2 := h2.sh
  have s3 := h3.sh
  have d1 := h1.dp
  have d2 := h2.dp
  have d3 := h3.dp
  have o1 := h1.ok
  have o2 := h2.ok
  have o3 := h3.ok
  have z1 := h1.sz
  have z2 := h2.sz
  have z3 := h3.sz
  have l1 := h1.z2
  have l2 := h2.z2
  have q1 := h1.o2
  have q2 := h2.o2
  have w1 : okS (Str.ofString "notthere") := okS_str _
  have w2 : (Str.ofString "notthere").length = 8 := rfl
  refine ⟨_, fun μ => tup_rp (ps := [.str "notthere", p1]) ?_ ?_ ?_ ?_ ?_ μ⟩
  · simp [toRL, toR, t1, t2, t3]
  · simp [PyData.showableAll, PyData.showable, s1, s2, s3]
  · simp only [PyData.depthAll, PyData.depth]; omega
  · simp [strsOkL, Mi.strsOk, o1, o2, o3, q1, q2, w1]
  · simp only [szL, szP, w2]; omega
theorem all10 (k b : Nat) (h1 : Fv one p1) (h2 : Fv two p2) (h3 : Fv three p3) : ∃ t s, (∀ b, callN bd (k + 3) 9 [.int 10, one, two, three] b [m] = .ok (.lst [t]) [m]) ∧ (∀ b, callN bd (k + 3) 10 [.int 10, one, two, three] b [m] = .ok t [m]) ∧ ∀ μ, kRepr [t] μ = some (.str s) := by
  obtain ⟨s, hs⟩ := rp10 h1 h2 h3
  exact ⟨_, s, fun b => told10 k b h1 h2 h3, fun b => due10 (k + 2) b h1 h2 h3, hs⟩
theorem rp11 (h1 : Fv one p1) (h2 : Fv two p2) (h3 : Fv three p3) : ∃ s, ∀ μ, kRepr [.tup [.str "many", one, two, three]] μ = some (.str s) := by
  have t1 := h1.tr
  have t2 := h2.tr
  have t3 := h3.tr
  have s1 := h1.sh
  have s2 := h2.sh
  have s3 := h3.sh
  have d1 := h1.dp
  have d2 := h2.dp
  have d3 := h3.dp
  have o1 := h1.ok
  have o2 := h2.ok
  have o3 := h3.ok
  have z1 := h1.sz
  have z2 := h2.sz
  have z3 := h3.sz
  have l1 := h1.z2
  have l2 := h2.z2
  have q1 := h1.o2
  have q2 := h2.o2
  have w1 : okS (Str.ofString "many") := okS_str _
  have w2 : (Str.ofString "many").length = 4 := rfl
  refine ⟨_, fun μ => tup_rp (ps := [.str "many", p1, p2, p3]) ?_ ?_ ?_ ?_ ?_ μ⟩
  · simp [toRL, toR, t1, t2, t3]
  · simp [PyData.showableAll, PyData.showable, s1, s2, s3]
  · simp only [PyData.depthAll, PyData.depth]; omega
  · simp [strsOkL, Mi.strsOk, o1, o2, o3, q1, q2, w1]
  · simp only [szL, szP, w2]; omega
theorem all11 (k b : Nat) (h1 : Fv one p1) (h2 : Fv two p2) (h3 : Fv three p3) : ∃ t s, (∀ b, callN bd (k + 3) 9 [.int 11, one, two, three] b [m] = .ok (.lst [t]) [m]) ∧ (∀ b, callN bd (k + 3) 10 [.int 11, one, two, three] b [m] = .ok t [m]) ∧ ∀ μ, kRepr [t] μ = some (.str s) := by
  obtain ⟨s, hs⟩ := rp11 h1 h2 h3
  exact ⟨_, s, fun b => told11 k b h1 h2 h3, fun b => due11 (k + 2) b h1 h2 h3, hs⟩
theorem rp12 (h1 : Fv one p1) (h2 : Fv two p2) (h3 : Fv three p3) : ∃ s, ∀ μ, kRepr [.tup [.str "kept", one, two]] μ = some (.str s) := by
  have t1 := h1.tr
  have t2 := h2.tr
  have t3 := h3.tr
  have s1 := h1.sh
  have s2 := h2.sh
  have s3 := h3.sh
  have d1 := h1.dp
  have d2 := h2.dp
  have d3 := h3.dp
  have o1 := h1.ok
  have o2 := h2.ok
  have o3 := h3.ok
  have z1 := h1.sz
  have z2 := h2.sz
  have z3 := h3.sz
  have l1 := h1.z2
  have l2 := h2.z2
  have q1 := h1.o2
  have q2 := h2.o2
  have w1 : okS (Str.ofString "kept") := okS_str _
  have w2 : (Str.ofString "kept").length = 4 := rfl
  refine ⟨_, fun μ => tup_rp (ps := [.str "kept", p1, p2]) ?_ ?_ ?_ ?_ ?_ μ⟩
  · simp [toRL, toR, t1, t2, t3]
  · simp [PyData.showableAll, PyData.showable, s1, s2, s3]
  · simp only [PyData.depthAll, PyData.depth]; omega
  · simp [strsOkL, Mi.strsOk, o1, o2, o3, q1, q2, w1]
  · simp only [szL, szP, w2]; omega
theorem all12 (k b : Nat) (h1 : Fv one p1) (h2 : Fv two p2) (h3 : Fv three p3) : ∃ t s, (∀ b, callN bd (k + 3) 9 [.int 12, one, two, three] b [m] = .ok (.lst [t]) [m]) ∧ (∀ b, callN bd (k + 3) 10 [.int 12, one, two, three] b [m] = .ok t [m]) ∧ ∀ μ, kRepr [t] μ = some (.str s) := by
  obtain ⟨s, hs⟩ := rp12 h1 h2 h3
  exact ⟨_, s, fun b => told12 k b h1 h2 h3, fun b => due12 (k + 2) b h1 h2 h3, hs⟩
theorem rp13 (h1 : Fv one p1) (h2 : Fv two p2) (h3 : Fv three p3) : ∃ s, ∀ μ, kRepr [.tup [.str "undo"]] μ = some (.str s) := by
  have t1 := h1.tr
  have t2 := h2.tr
  have t3 := h3.tr
  have s1 := h1.sh
  have s2 := h2.sh
  have s3 := h3.sh
  have d1 := h1.dp
  have d2 := h2.dp
  have d3 := h3.dp
  have o1 := h1.ok
  have o2 := h2.ok
  have o3 := h3.ok
  have z1 := h1.sz
  have z2 := h2.sz
  have z3 := h3.sz
  have l1 := h1.z2
  have l2 := h2.z2
  have q1 := h1.o2
  have q2 := h2.o2
  have w1 : okS (Str.ofString "undo") := okS_str _
  have w2 : (Str.ofString "undo").length = 4 := rfl
  refine ⟨_, fun μ => tup_rp (ps := [.str "undo"]) ?_ ?_ ?_ ?_ ?_ μ⟩
  · simp [toRL, toR, t1, t2, t3]
  · simp [PyData.showableAll, PyData.showable, s1, s2, s3]
  · simp only [PyData.depthAll, PyData.depth]; omega
  · simp [strsOkL, Mi.strsOk, o1, o2, o3, q1, q2, w1]
  · simp only [szL, szP, w2]; omega
theorem all13 (k b : Nat) (h1 : Fv one p1) (h2 : Fv two p2) (h3 : Fv three p3) : ∃ t s, (∀ b, callN bd (k + 3) 9 [.int 13, one, two, three] b [m] = .ok (.lst [t]) [m]) ∧ (∀ b, callN bd (k + 3) 10 [.int 13, one, two, three] b [m] = .ok t [m]) ∧ ∀ μ, kRepr [t] μ = some (.str s) := by
  obtain ⟨s, hs⟩ := rp13 h1 h2 h3
  exact ⟨_, s, fun b => told13 k b h1 h2 h3, fun b => due13 (k + 2) b h1 h2 h3, hs⟩
theorem rp14 (h1 : Fv one p1) (h2 : Fv two p2) (h3 : Fv three p3) : ∃ s, ∀ μ, kRepr [.tup [.str "redo"]] μ = some (.str s) := by
  have t1 := h1.tr
  have t2 := h2.tr
  have t3 := h3.tr
  have s1 := h1.sh
  have s2 := h2.sh
  have s3 := h3.sh
  have d1 := h1.dp
  have d2 := h2.dp
  have d3 := h3.dp
  have o1 := h1.ok
  have o2 := h2.ok
  have o3 := h3.ok
  have z1 := h1.sz
  have z2 := h2.sz
  have z3 := h3.sz
  have l1 := h1.z2
  have l2 := h2.z2
  have q1 := h1.o2
  have q2 := h2.o2
  have w1 : okS (Str.ofString "redo") := okS_str _
  have w2 : (Str.ofString "redo").length = 4 := rfl
  refine ⟨_, fun μ => tup_rp (ps := [.str "redo"]) ?_ ?_ ?_ ?_ ?_ μ⟩
  · simp [toRL, toR, t1, t2, t3]
  · simp [PyData.showableAll, PyData.showable, s1, s2, s3]
  · simp only [PyData.depthAll, PyData.depth]; omega
  · simp [strsOkL, Mi.strsOk, o1, o2, o3, q1, q2, w1]
  · simp only [szL, szP, w2]; omega
theorem all14 (k b : Nat) (h1 : Fv one p1) (h2 : Fv two p2) (h3 : Fv three p3) : ∃ t s, (∀ b, callN bd (k + 3) 9 [.int 14, one, two, three] b [m] = .ok (.lst [t]) [m]) ∧ (∀ b, callN bd (k + 3) 10 [.int 14, one, two, three] b [m] = .ok t [m]) ∧ ∀ μ, kRepr [t] μ = some (.str s) := by
  obtain ⟨s, hs⟩ := rp14 h1 h2 h3
  exact ⟨_, s, fun b => told14 k b h1 h2 h3, fun b => due14 (k + 2) b h1 h2 h3, hs⟩
theorem rp15 (h1 : Fv one p1) (h2 : Fv two p2) (h3 : Fv three p3) : ∃ s, ∀ μ, kRepr [.tup [.str "rules", one]] μ = some (.str s) := by
  have t1 := h1.tr
  have t2 := h2.tr
  have t3 := h3.tr
  have s1 := h1.sh
  have s2 := h2.sh
  have s3 := h3.sh
  have d1 := h1.dp
  have d2 := h2.dp
  have d3 := h3.dp
  have o1 := h1.ok
  have o2 := h2.ok
  have o3 := h3.ok
  have z1 := h1.sz
  have z2 := h2.sz
  have z3 := h3.sz
  have l1 := h1.z2
  have l2 := h2.z2
  have q1 := h1.o2
  have q2 := h2.o2
  have w1 : okS (Str.ofString "rules") := okS_str _
  have w2 : (Str.ofString "rules").length = 5 := rfl
  refine ⟨_, fun μ => tup_rp (ps := [.str "rules", p1]) ?_ ?_ ?_ ?_ ?_ μ⟩
  · simp [toRL, toR, t1, t2, t3]
  · simp [PyData.showableAll, PyData.showable, s1, s2, s3]
  · simp only [PyData.depthAll, PyData.depth]; omega
  · simp [strsOkL, Mi.strsOk, o1, o2, o3, q1, q2, w1]
  · simp only [szL, szP, w2]; omega
theorem all15 (k b : Nat) (h1 : Fv one p1) (h2 : Fv two p2) (h3 : Fv three p3) : ∃ t s, (∀ b, callN bd (k + 3) 9 [.int 15, one, two, three] b [m] = .ok (.lst [t]) [m]) ∧ (∀ b, callN bd (k + 3) 10 [.int 15, one, two, three] b [m] = .ok t [m]) ∧ ∀ μ, kRepr [t] μ = some (.str s) := by
  obtain ⟨s, hs⟩ := rp15 h1 h2 h3
  exact ⟨_, s, fun b => told15 k b h1 h2 h3, fun b => due15 (k + 2) b h1 h2 h3, hs⟩
theorem all_kinds (k b i : Nat) (hi : i < 16) (h1 : Fv one p1) (h2 : Fv two p2) (h3 : Fv three p3) : ∃ t s, (∀ b, callN bd (k + 3) 9 [.int i, one, two, three] b [m] = .ok (.lst [t]) [m]) ∧ (∀ b, callN bd (k + 3) 10 [.int i, one, two, three] b [m] = .ok t [m]) ∧ ∀ μ, kRepr [t] μ = some (.str s) := by
  match i, hi with
  | 0, _ => exact all0 k b h1 h2 h3
  | 1, _ => exact all1 k b h1 h2 h3
  | 2, _ => exact all2 k b h1 h2 h3
  | 3, _ => exact all3 k b h1 h2 h3
  | 4, _ => exact all4 k b h1 h2 h3
  | 5, _ => exact all5 k b h1 h2 h3
  | 6, _ => exact all6 k b h1 h2 h3
  | 7, _ => exact all7 k b h1 h2 h3
  | 8, _ => exact all8 k b h1 h2 h3
  | 9, _ => exact all9 k b h1 h2 h3
  | 10, _ => exact all10 k b h1 h2 h3
  | 11, _ => exact all11 k b h1 h2 h3
  | 12, _ => exact all12 k b h1 h2 h3
  | 13, _ => exact all13 k b h1 h2 h3
  | 14, _ => exact all14 k b h1 h2 h3
  | 15, _ => exact all15 k b h1 h2 h3
  | n + 16, h => exact absurd h (by omega)
end
end Lw

namespace Lw
open PySem Mi
/-! ### a drawn field -/
theorem w_un {k : D → Mem → Option D} {fa : EM} {ar : Ar} {ρ : Mi.Env} {μ μ1 : Mem} {d r : D} (ha : fa ar ρ μ = .ok d μ1) (hk : k d μ1 = some r) : mUn k fa ar ρ μ = .ok r μ1 := by
  simp only [mUn, ha, R.bind, hk]
theorem frz_k (ar : Ar) {ρ : Mi.Env} {m : MO} (hb : ar.base = 1) (hm : m.below 1 = true) : mFrz (mDictN [(mC (.str "k"), mC (.int 1))]) ar ρ [m] = .ok (.dct [(.inr "k", .int 1)]) [m] := by
  have e : mDictN [(mC (.str "k"), mC (.int 1))] ar ρ [m] = .ok (.ref 1) [m, .dK [(.inr "k", .int 1)]] := by
    simp [mDictN, flatP, mCons, mC, mNil, R.bind, pairsD, toKey, mergeD, putD, okW, hb, MO.below, belowK, below]
  simp [mFrz, e, hb, memBelow, hm, belowK, below]
theorem drw {cs : List Int} {a g n f m : Int} {rest : Mem} (k b : Nat) (h0 : 0 ≤ a) (hg : 0 ≤ g) (hm : 0 < m) (hm2 : m < 1099511627776) : ∃ (r a' g' n' f' : Int), 0 ≤ r ∧ r < m ∧ 0 ≤ a' ∧ 0 ≤ g' ∧
    ∀ b, callN bd (k + 1) 1 [.ref 0, .int m] b (penO cs a g n f :: rest) = .ok (.int r) (penO cs a' g' n' f' :: rest) := by
  obtain ⟨r, a', g', n', f', h1, h2, h3, h4, e⟩ := draw_call (B := bd) (fd := 1) (cs := cs) (n := n) (f := f) (rest := rest) rfl rfl rfl k b h0 hg hm hm2
  exact ⟨r, a', g', n', f', h1, h2, h3, h4, fun b => e⟩
theorem fv_c {d : D} {p : PyData} (h : toR d = some p) (h2 : (∀ i, d ≠ .ref i) ∧ isExn d = false ∧ (∀ n, below n d = true)) (h3 : p.showable = true ∧ p.depth ≤ 5 ∧ Mi.strsOk p ∧ szP p ≤ 200) : Fv d p := ⟨h2.2.1, h2.2.2, h, h2.1, h3.1, h3.2.1, h3.2.2.1, h3.2.2.2⟩
theorem log_small {r : Int} (h1 : 0 ≤ r) (h2 : r < 1000001) : r.natAbs.log2 < 1920 := by
  by_cases z : r.natAbs = 0
  · rw [z]; decide
  · have : r.natAbs.log2 < 20 := (Nat.log2_lt z).mpr (by omega)
    omega
theorem fv_lst {r : Int} (h1 : 0 ≤ r) (h2 : r < 100) : Fv (.lst [.int r, .lst []]) (.list [.int r, .list []]) := by
  refine fv_c rfl ⟨fun i => (by simp), rfl, fun n => rfl⟩ ⟨?_, ?_, ?_, ?_⟩
  · simp [PyData.showable, PyData.showableAll, log_small h1 (by omega)]
  · simp [PyData.depth, PyData.depthAll]
  · simp [Mi.strsOk, strsOkL]
  · have := int_len (i := r) (by omega) (by omega)
    simp only [szP, szL]; omega
theorem fv_tup {r : Int} (h1 : 0 ≤ r) (h2 : r < 1000000) : Fv (.tup [.str "a", .tup [.int r]]) (.tuple [.str "a", .tuple [.int r]]) := by
  refine fv_c rfl ⟨fun i => (by simp), rfl, fun n => rfl⟩ ⟨?_, ?_, ?_, ?_⟩
  · simp [PyData.showable, PyData.showableAll, log_small h1 (by omega)]
  · simp [PyData.depth, PyData.depthAll]
  · simp [Mi.strsOk, strsOkL, okS_str]
  · have := int_len (i := r) (by omega) (by omega)
    have e : (Str.ofString "a").length = 1 := rfl
    simp only [szP, szL, e]; omega
/-- the nine plain ones -/
def nine : List D := [.non, .bl true, .bl false, .int 0, .int (-1), .str "x", .str "", .int (10 ^ 40), .dct [(.inr "k", .int 1)]]
theorem fv_nine : ∀ (i : Nat), i < 9 → ∃ d p, nine[i]? = some d ∧ Fv d p := fun i hi => by
  match i, hi with
  | 0, _ => exact ⟨_, .none, rfl, fv_c rfl ⟨fun i => (by simp), rfl, fun n => rfl⟩ ⟨rfl, (by simp [PyData.depth]), trivial, (by simp [szP])⟩⟩
  | 1, _ => exact ⟨_, .bool true, rfl, fv_c rfl ⟨fun i => (by simp), rfl, fun n => rfl⟩ ⟨rfl, (by simp [PyData.depth]), trivial, (by simp [szP])⟩⟩
  | 2, _ => exact ⟨_, .bool false, rfl, fv_c rfl ⟨fun i => (by simp), rfl, fun n => rfl⟩ ⟨rfl, (by simp [PyData.depth]), trivial, (by simp [szP])⟩⟩
  | 3, _ => exact ⟨_, .int 0, rfl, fv_c rfl ⟨fun i => (by simp), rfl, fun n => rfl⟩ ⟨rfl, (by simp [PyData.depth]), trivial, (by decide +kernel)⟩⟩
  | 4, _ => exact ⟨_, .int (-1), rfl, fv_c rfl ⟨fun i => (by simp), rfl, fun n => rfl⟩ ⟨(by decide +kernel), (by simp [PyData.depth]), trivial, (by decide +kernel)⟩⟩
  | 5, _ => exact ⟨_, .str "x", rfl, fv_c rfl ⟨fun i => (by simp), rfl, fun n => rfl⟩ ⟨rfl, (by simp [PyData.depth]), okS_str _, (by decide +kernel)⟩⟩
  | 6, _ => exact ⟨_, .str "", rfl, fv_c rfl ⟨fun i => (by simp), rfl, fun n => rfl⟩ ⟨rfl, (by simp [PyData.depth]), okS_str _, (by decide +kernel)⟩⟩
  | 7, _ => exact ⟨_, .int (10 ^ 40), rfl, fv_c rfl ⟨fun i => (by simp), rfl, fun n => rfl⟩ ⟨(by decide +kernel), (by simp [PyData.depth]), trivial, (by decide +kernel)⟩⟩
  | 8, _ => exact ⟨_, .dict [(.str "k", .int 1)], rfl, fv_c rfl ⟨fun i => (by simp), rfl, fun n => rfl⟩ ⟨(by decide +kernel), (by simp [PyData.depth, PyData.depthKv]), (by simp [Mi.strsOk, strsOkK, okS_str]), (by decide +kernel)⟩⟩
theorem pick9 {cs : List Int} {a g n f : Int} (k b : Nat) (h0 : 0 ≤ a) (hg : 0 ≤ g) : ∃ (d : D) (p : PyData) (a' g' n' f' : Int), Fv d p ∧ 0 ≤ a' ∧ 0 ≤ g' ∧
    ∀ b, callN bd (k + 2) 2 [.ref 0, .lst nine] b [penO cs a g n f] = .ok d [penO cs a' g' n' f'] := by
  obtain ⟨r, a', g', n', f', h1, h2, h3, h4, e⟩ := drw (cs := cs) (n := n) (f := f) (rest := []) (m := 9) k 0 h0 hg (by decide) (by decide)
  obtain ⟨d, p, hd, hp⟩ := fv_nine r.toNat (by omega)
  refine ⟨d, p, a', g', n', f', hp, h3, h4, fun b => ?_⟩
  have hx : kSub2 (.lst nine) (.int r) [penO cs a' g' n' f'] = some d := by
    show (L2.atI nine r) = some d
    unfold L2.atI
    have : L2.ixN nine.length r = some r.toNat := by
      unfold L2.ixN
      rw [if_pos h1, if_pos (by show r < 9; exact h2)]
    rw [this]
    exact hd
  rw [call_rt (B := bd) (f := 2) (d := d) (μ' := [penO cs a' g' n' f']) rfl ?_ (hp.be _)]
  · rfl
  · show sRet _ _ _ _ = _
    refine w_ret (w_bin (w_var rfl) (d := .lst nine) ?_ hx)
    have hl : kLen [.lst nine] [penO cs a g n f] = some (.int 9) := rfl
    simp only [mCallN, mCons, mVar, mOps, mNil, R.bind, startE, List.map_cons, List.map_nil, List.getElem?_cons_zero, List.getElem?_cons_succ, List.cons_append, hl, List.length_cons, List.length_nil, noExn, isExn, Bool.not_false, Bool.and_self, and_self, if_true]
    exact e _
theorem field {cs : List Int} {a g n f : Int} (k b : Nat) (h0 : 0 ≤ a) (hg : 0 ≤ g) : ∃ (d : D) (p : PyData) (a' g' n' f' : Int), Fv d p ∧ 0 ≤ a' ∧ 0 ≤ g' ∧
    ∀ b, callN bd (k + 3) 5 [.ref 0] b [penO cs a g n f] = .ok d [penO cs a' g' n' f'] := by
  obtain ⟨w, a1, g1, n1, f1, w1, w2, w3, w4, e1⟩ := drw (cs := cs) (n := n) (f := f) (rest := []) (m := 8) (k + 1) 0 h0 hg (by decide) (by decide)
  have s1 : ∀ ar : Ar, ar.g = callN bd (k + 2) → sAsg (mCallN 1 2 (mCons (mVar 0) (mCons (mC (.int 8)) (mNil)))) (gVar 1) ar [some (.ref 0), none] [penO cs a g n f] = .nx [some (.ref 0), some (.int w)] [penO cs a1 g1 n1 f1] := fun ar har => by
    refine w_set (d := .int w) ?_ rfl
    simp only [mCallN, mCons, mVar, mC, mNil, R.bind, List.getElem?_cons_zero, List.length_cons, List.length_nil, noExn, isExn, Bool.not_false, Bool.and_self, and_self, if_true, har]
    exact e1 _
  by_cases c0 : w = 0
  · obtain ⟨r, a2, g2, n2, f2, r1, r2, r3, r4, e2⟩ := drw (cs := cs) (n := n1) (f := f1) (rest := []) (m := 100) (k + 1) 0 w3 w4 (by decide) (by decide)
    refine ⟨_, _, a2, g2, n2, f2, fv_lst r1 r2, r3, r4, fun b => ?_⟩
    rw [call_rt (B := bd) (f := 5) (d := .lst [.int r, .lst []]) (μ' := [penO cs a2 g2 n2 f2]) rfl ?_ rfl]
    · rfl
    · refine w_seq (s1 _ rfl) (w_seqR (w_yes (w_tst (w_bin (w_var rfl) w_c (by rw [kEq_int, c0]; rfl))) (w_ret (w_ops (w_cons (d := .int r) (μ1 := [penO cs a2 g2 n2 f2]) ?_ (w_cons (w_ops w_nil rfl) w_nil)) rfl))))
      simp only [mCallN, mCons, mVar, mC, mNil, R.bind, List.getElem?_cons_zero, List.length_cons, List.length_nil, noExn, isExn, Bool.not_false, Bool.and_self, and_self, if_true]
      exact e2 _
  · have f0 : ∀ (ar : Ar) (μ : Mem), mTst (mBin kEq (mVar 1) (mC (.int 0))) ar [some (.ref 0), some (.int w)] μ = .ok false μ := fun ar μ => w_tst (w_bin (w_var rfl) w_c (by rw [kEq_int]; simp [c0]))
    by_cases c1 : w = 1
    · obtain ⟨r, a2, g2, n2, f2, r1, r2, r3, r4, e2⟩ := drw (cs := cs) (n := n1) (f := f1) (rest := []) (m := 1000000) (k + 1) 0 w3 w4 (by decide) (by decide)
      refine ⟨_, _, a2, g2, n2, f2, fv_tup r1 r2, r3, r4, fun b => ?_⟩
      rw [call_rt (B := bd) (f := 5) (d := .tup [.str "a", .tup [.int r]]) (μ' := [penO cs a2 g2 n2 f2]) rfl ?_ rfl]
      · rfl
      · refine w_seq (s1 _ rfl) (w_seq (w_no (f0 _ _) rfl) (w_seqR (w_yes (w_tst (w_bin (w_var rfl) w_c (by rw [kEq_int, c1]; rfl))) (w_ret (w_ops (w_cons w_c (w_cons (w_ops (w_cons (d := .int r) (μ1 := [penO cs a2 g2 n2 f2]) ?_ w_nil) rfl) w_nil)) rfl)))))
        have hp : kPow (.int 10) (.int 6) [penO cs a1 g1 n1 f1] = some (.int 1000000) := rfl
        simp only [mCallN, mCons, mVar, mC, mNil, mBin, R.bind, List.getElem?_cons_zero, List.length_cons, List.length_nil, noExn, isExn, Bool.not_false, Bool.and_self, and_self, if_true, hp]
        exact e2 _
    · obtain ⟨d, p, a2, g2, n2, f2, hp, r3, r4, e2⟩ := pick9 (cs := cs) (n := n1) (f := f1) k 0 w3 w4
      refine ⟨d, p, a2, g2, n2, f2, hp, r3, r4, fun b => ?_⟩
      rw [call_rt (B := bd) (f := 5) (d := d) (μ' := [penO cs a2 g2 n2 f2]) rfl ?_ (hp.be _)]
      · rfl
      · refine w_seq (s1 _ rfl) (w_seq (w_no (f0 _ _) rfl) (w_seq (w_no (w_tst (w_bin (w_var rfl) w_c (by rw [kEq_int]; simp [c1]))) rfl) (w_ret ?_)))
        · refine w_call (ds := [.ref 0, .lst nine]) (w_cons (w_var rfl) (w_cons (w_ops (w_cons w_c (w_cons w_c (w_cons w_c (w_cons w_c (w_cons (w_un w_c rfl) (w_cons w_c (w_cons w_c (w_cons (w_bin w_c w_c rfl) (w_cons (frz_k _ rfl (penO_below 1)) w_nil))))))))) rfl) w_nil)) ⟨rfl, rfl⟩ (e2 1)
/-! ### the law -/
def body11 : SM := (sSeq (sPar3 3 4 5 (mCons (mCallN 5 1 (mCons (mVar 1) (mNil))) (mCons (mCallN 5 1 (mCons (mVar 1) (mNil))) (mCons (mCallN 5 1 (mCons (mVar 1) (mNil))) (mNil)))))
   (sSeq (sAsg (mCallN 9 4 (mCons (mVar 2) (mCons (mVar 3) (mCons (mVar 4) (mCons (mVar 5) (mNil)))))) (gVar 6))
   (sIf (mOr (mTst (mBin kIsN (mVar 6) (mC .non))) (mOr (mTst (mBin kNe (mOps kLen (mCons (mVar 6) (mNil))) (mC (.int 1)))) (mTst (mBin kNe (mOps kRepr (mCons (mBin kSub2 (mVar 6) (mC (.int 0))) (mNil))) (mOps kRepr (mCons (mCallN 10 4 (mCons (mVar 2) (mCons (mVar 3) (mCons (mVar 4) (mCons (mVar 5) (mNil)))))) (mNil))))))) (sRet (mC (.bl false))) (sNil))))
theorem law_loop {cs : List Int} {ar : Ar} (har : ar.g = callN bd 4) {x0 : D} : ∀ (m i : Nat) (x2 x3 x4 x5 x6 : Option D) (a g n f : Int), i + m = 16 → 0 ≤ a → 0 ≤ g → ∃ (ρ' : Mi.Env) (μ' : Mem), forGo (rgF 0 16) (gVar 2) body11 ar (m + 1) i [some x0, some (.ref 0), x2, x3, x4, x5, x6] [penO cs a g n f] = .nx ρ' μ'
  | 0, i, x2, x3, x4, x5, x6, a, g, n, f, h, h0, hg => by
    refine ⟨[some x0, some (.ref 0), x2, x3, x4, x5, x6], [penO cs a g n f], ?_⟩
    have : ¬ i < 16 := by omega
    simp only [forGo, rgF, this, if_false]
  | m + 1, i, x2, x3, x4, x5, x6, a, g, n, f, h, h0, hg => by
    have hi : i < 16 := by omega
    obtain ⟨d1, p1, a1, g1, n1, f1, v1, y1, z1, e1⟩ := field (cs := cs) (n := n) (f := f) 1 0 h0 hg
    obtain ⟨d2, p2, a2, g2, n2, f2, v2, y2, z2, e2⟩ := field (cs := cs) (n := n1) (f := f1) 1 0 y1 z1
    obtain ⟨d3, p3, a3, g3, n3, f3, v3, y3, z3, e3⟩ := field (cs := cs) (n := n2) (f := f2) 1 0 y2 z2
    obtain ⟨t, s, t1, t2, t3⟩ := all_kinds (m := penO cs a3 g3 n3 f3) 1 0 i hi v1 v2 v3
    obtain ⟨ρ', μ', e4⟩ := law_loop (cs := cs) har (x0 := x0) m (i + 1) (some (.int i)) (some d1) (some d2) (some d3) (some (.lst [t])) a3 g3 n3 f3 (by omega) y3 z3
    refine ⟨ρ', μ', ?_⟩
    rw [forGo]
    have hx : rgF 0 16 [penO cs a g n f] i = some (some (.int i)) := by
      simp only [rgF, hi, if_true, Int.zero_add]
    simp only [hx, gVar, isExn, Bool.false_eq_true, if_false, List.set_cons_succ, List.set_cons_zero]
    have hb : body11 ar [some x0, some (.ref 0), some (.int i), x3, x4, x5, x6] [penO cs a g n f] = .nx [some x0, some (.ref 0), some (.int i), some d1, some d2, some d3, some (.lst [t])] [penO cs a3 g3 n3 f3] := by
      have c1 : mCallN 5 1 (mCons (mVar 1) mNil) ar [some x0, some (.ref 0), some (.int i), x3, x4, x5, x6] [penO cs a g n f] = .ok d1 [penO cs a1 g1 n1 f1] := w_call (w_cons (w_var rfl) w_nil) ⟨rfl, rfl⟩ (by rw [har]; exact e1 ar.base)
      have c2 : mCallN 5 1 (mCons (mVar 1) mNil) ar [some x0, some (.ref 0), some (.int i), x3, x4, x5, x6] [penO cs a1 g1 n1 f1] = .ok d2 [penO cs a2 g2 n2 f2] := w_call (w_cons (w_var rfl) w_nil) ⟨rfl, rfl⟩ (by rw [har]; exact e2 ar.base)
      have c3 : mCallN 5 1 (mCons (mVar 1) mNil) ar [some x0, some (.ref 0), some (.int i), x3, x4, x5, x6] [penO cs a2 g2 n2 f2] = .ok d3 [penO cs a3 g3 n3 f3] := w_call (w_cons (w_var rfl) w_nil) ⟨rfl, rfl⟩ (by rw [har]; exact e3 ar.base)
      have ne : noExn [.int (i : Int), d1, d2, d3] = true := by simp only [noExn, v1.nx, v2.nx, v3.nx]; rfl
      refine w_seq (w_par3 (w_cons c1 (w_cons c2 (w_cons c3 w_nil))) ⟨v1.nx, v2.nx, v3.nx⟩) ?_
      refine w_seq (w_set (d := .lst [t]) (w_call (w_cons (w_var rfl) (w_cons (w_var rfl) (w_cons (w_var rfl) (w_cons (w_var rfl) w_nil)))) ⟨rfl, ne⟩ (by rw [har]; exact t1 ar.base)) rfl) ?_
      refine w_no (μ1 := [penO cs a3 g3 n3 f3]) ?_ rfl
      refine w_or (w_tst (b := false) (w_bin (w_var rfl) w_c rfl)) (fun _ => ?_) (fun z => nomatch z)
      refine w_or (w_tst (b := false) (w_bin (w_ops (r := .int 1) (w_cons (w_var rfl) w_nil) rfl) w_c rfl)) (fun _ => ?_) (fun z => nomatch z)
      refine w_tst (b := false) (w_bin (d := .str s) (e := .str s) (w_ops (w_cons (w_bin (w_var rfl) w_c (r := t) rfl) w_nil) (t3 _)) (w_ops (w_cons (w_call (w_cons (w_var rfl) (w_cons (w_var rfl) (w_cons (w_var rfl) (w_cons (w_var rfl) w_nil)))) ⟨rfl, ne⟩ (by rw [har]; exact t2 ar.base)) w_nil) (t3 _)) (kNe_self s _))
    rw [hb]
    exact e4
theorem law_ok (ns : List Int) : ∃ μ, callN bd 5 11 [.scr ns] 0 [] = .ok (.bl true) μ := by
  obtain ⟨f, e1⟩ := pen_call (B := bd) (fp := 0) rfl rfl rfl 3 0 ns
  obtain ⟨ρ', μ', e2⟩ := law_loop (cs := ns) (ar := { g := callN bd 4, base := 0, h := callH bd 4, ex := none }) rfl (x0 := .scr ns) 16 0 none none none none none 0 0 0 f (by omega) (by decide) (by decide)
  refine ⟨_, call_rt (B := bd) (f := 11) (d := .bl true) (μ' := μ') rfl ?_ rfl⟩
  show b11 _ [some (.scr ns), none, none, none, none, none, none] [] = _
  refine w_seq (w_set (d := .ref 0) (w_call (w_cons (w_var rfl) w_nil) ⟨rfl, rfl⟩ e1) rfl) (w_seq (ρ1 := ρ') (μ1 := μ') e2 (w_ret w_c))

end Lw

open PySem PySem.W
      PySem.Calls PyProof.Rows
theorem PySem.Challenge.cw_carryrows_k01_errors_holds : PySem.Challenge.rw_carryrows_k01_errors.Holds := by
  w_on; o_law
  refine HandSHeadRun.head_any (r := OpenLaw.row PySem.Challenge.rw_carryrows_k01_errors) (q := view (OpenLaw.row PySem.Challenge.rw_carryrows_k01_errors).prog [30]) (H := Mi.hookM 5 Lw.pg Lw.fnl) (ob := Mi.obM 5 Lw.pg Lw.fnl) (M := 30000) (loose := Lw.loose)
    (d := HandSHeadRun.topDef (OpenLaw.row PySem.Challenge.rw_carryrows_k01_errors).prog 30) (kwd := []) (Mi.obM_eq 5 Lw.pg Lw.fnl)
    (by kernel_rfl) (fun s => by kernel_rfl) Lw.run (by kernel_rfl) (by kernel_rfl) (by kernel_rfl) (by rfl) (by first | assumption | decide +kernel) (by decide +kernel) ⟨rfl, rfl, rfl, rfl, rfl, by decide +kernel⟩ ?hw ?hc
  case hw => w_witness2
  case hc =>
    exact Mi.LawM.walk (kk := 5) (fl := 11) Lw.lawM rfl (by rw [sizeLine_eq]; decide) (by kernel_rfl) ⟨rfl, by decide, by decide⟩ (by kernel_rfl) (by kernel_rfl) (by decide) rfl fun ns _ => Lw.law_ok ns

