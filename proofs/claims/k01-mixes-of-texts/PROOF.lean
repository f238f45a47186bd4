import PyProof.Rows.All
import Wide.All
import OpenK.AllK
import Wide.FinOn
import HandS.ForMost
import HandS.Exc
import HandS.ExcOwn
import HandS.TryOnly
import HandS.CallSlots
import HandS.Lambda
import HandS.AnyAll
import HandS.TupAny
import HandS.Flow
import HandS.Style
import HandS.NoneIn
import HandS.Small
import HandS.Comp
import HandS.DictComp
import HandS.Defaults
import HandS.More
import HandS.SortInts
import HandS.StrMore
import HandS.Conv
import HandS.WordsDict
import HandS.Sort
import KE.KTupSum
import HandS.Replace
import HandS.GenList
import PyProof.SumAny
import PyProof.CollectWalk
import PyProof.TupleOfGen
import PyProof.Rows.SortShellAny
import HandS.HeadHook4
import HandS.HeadWalk
import HandS.EndTab
import HandS.Head2
import PySem.Challenge.RW_hashstack_k01_mixes_of_texts
set_option Elab.async false
set_option linter.all false
set_option maxRecDepth 100000
/-! text Sm1 -/
/-! Sm: a law's text by values: what an expression, a statement, a def comes to, as plain functions over a store; and the rules that tie these functions to the text. -/
namespace Sm
open PySem PySem.Spec PyProof.Rows L2

/-! ### values, objects, the store -/
inductive U where
  | non | bl (b : Bool) | int (i : Int) | str (l : List Nat) | tup (ws : List U) | ref (n : Nat) | lam (j : Nat) | lsq (ws : List U)
  deriving Inhabited
/-- a key: an int, a text -/
inductive Ky where
  | i (n : Int) | s (l : List Nat)
  deriving DecidableEq
inductive Ob where
  | lst (ws : List U) | dK (kvs : List (Ky × U)) | dT (kvs : List (List Ky × U)) | ins (c : Str) (fs : List (Str × U))
/-- an object and how often it is held (walked) -/
structure Cell where
  o : Ob
  lk : Nat
inductive Tr where
  | nil | node (v : Option Cell) (l r : Tr)
def Tr.get : Tr → Nat → Option Cell
  | .nil, _ => none
  | .node v l r, k => match k with
    | 0 => v
    | k + 1 => match k % 2 with
      | 0 => l.get (k / 2)
      | _ => r.get (k / 2)
def Tr.setF : Nat → Tr → Nat → Cell → Tr
  | 0, t, _, _ => t
  | f + 1, t, k, c => match t with
    | .nil => (match k with
      | 0 => .node (some c) .nil .nil
      | k + 1 => match k % 2 with
        | 0 => .node none (Tr.setF f .nil (k / 2) c) .nil
        | _ => .node none .nil (Tr.setF f .nil (k / 2) c))
    | .node v l r => (match k with
      | 0 => .node (some c) l r
      | k + 1 => match k % 2 with
        | 0 => .node v (Tr.setF f l (k / 2) c) r
        | _ => .node v l (Tr.setF f r (k / 2) c))
theorem Tr.get_setF (c : Cell) : ∀ (f : Nat) (t : Tr) (k j : Nat), k < f → (Tr.setF f t k c).get j = if j = k then some c else t.get j := by
  intro f
  induction f with
  | zero => intro t k j h; omega
  | succ f ih =>
    intro t k j h
    cases k with
    | zero =>
      cases t with
      | nil =>
        cases j with
        | zero => simp [Tr.setF, Tr.get]
        | succ j =>
          simp only [Tr.setF, Tr.get]
          split <;> simp
      | node v l r => cases j <;> simp [Tr.setF, Tr.get]
    | succ k =>
      have hk : k / 2 < f := by omega
      cases t with
      | nil =>
        cases hm : k % 2 with
        | zero =>
          cases j with
          | zero => simp [Tr.setF, Tr.get, hm]
          | succ j =>
            cases hj : j % 2 with
            | zero =>
              simp only [Tr.setF, Tr.get, hm, hj, ih _ _ _ hk, Nat.add_right_cancel_iff]
              by_cases e : j = k
              · subst e; simp
              · have : ¬ j / 2 = k / 2 := by omega
                simp [this, e]
            | succ q =>
              simp only [Tr.setF, Tr.get, hm, hj, Nat.add_right_cancel_iff]
              have : ¬ j = k := by intro e; subst e; omega
              simp [this]
        | succ q =>
          cases j with
          | zero => simp [Tr.setF, Tr.get, hm]
          | succ j =>
            cases hj : j % 2 with
            | zero =>
              simp only [Tr.setF, Tr.get, hm, hj, Nat.add_right_cancel_iff]
              have : ¬ j = k := by intro e; subst e; omega
              simp [this]
            | succ q2 =>
              simp only [Tr.setF, Tr.get, hm, hj, ih _ _ _ hk, Nat.add_right_cancel_iff]
              by_cases e : j = k
              · subst e; simp
              · have : ¬ j / 2 = k / 2 := by omega
                simp [this, e]
      | node v l r =>
        cases hm : k % 2 with
        | zero =>
          cases j with
          | zero => simp [Tr.setF, Tr.get, hm]
          | succ j =>
            cases hj : j % 2 with
            | zero =>
              simp only [Tr.setF, Tr.get, hm, hj, ih _ _ _ hk, Nat.add_right_cancel_iff]
              by_cases e : j = k
              · subst e; simp
              · have : ¬ j / 2 = k / 2 := by omega
                simp [this, e]
            | succ q =>
              simp only [Tr.setF, Tr.get, hm, hj, Nat.add_right_cancel_iff]
              have : ¬ j = k := by intro e; subst e; omega
              simp [this]
        | succ q =>
          cases j with
          | zero => simp [Tr.setF, Tr.get, hm]
          | succ j =>
            cases hj : j % 2 with
            | zero =>
              simp only [Tr.setF, Tr.get, hm, hj, Nat.add_right_cancel_iff]
              have : ¬ j = k := by intro e; subst e; omega
              simp [this]
            | succ q2 =>
              simp only [Tr.setF, Tr.get, hm, hj, ih _ _ _ hk, Nat.add_right_cancel_iff]
              by_cases e : j = k
              · subst e; simp
              · have : ¬ j / 2 = k / 2 := by omega
                simp [this, e]
/-- the store: the next number, the objects -/
structure Store where
  n : Nat
  t : Tr
def Store.get (S : Store) (i : Nat) : Option Cell := S.t.get i
def Store.put (S : Store) (i : Nat) (c : Cell) : Store := ⟨S.n, S.t.setF (i + 1) i c⟩
def Store.new (S : Store) (o : Ob) : Store := ⟨S.n + 1, S.t.setF (S.n + 1) S.n ⟨o, 0⟩⟩
def Store.empty : Store := ⟨0, .nil⟩
theorem Tr.setF_eq {t : Tr} {i j : Nat} {c : Cell} : (t.setF (i + 1) i c).get j = if j = i then some c else t.get j := Tr.get_setF c _ _ _ _ (Nat.lt_succ_self i)
@[simp] theorem Store.get_put (S : Store) (i : Nat) (c : Cell) (j : Nat) : (S.put i c).get j = if j = i then some c else S.get j := Tr.setF_eq
@[simp] theorem Store.get_new (S : Store) (o : Ob) (j : Nat) : (S.new o).get j = if j = S.n then some ⟨o, 0⟩ else S.get j := Tr.setF_eq
@[simp] theorem Store.n_put (S : Store) (i : Nat) (c : Cell) : (S.put i c).n = S.n := rfl
@[simp] theorem Store.n_new (S : Store) (o : Ob) : (S.new o).n = S.n + 1 := rfl
@[simp] theorem Store.get_empty (i : Nat) : Store.empty.get i = none := rfl
abbrev Env := List (Option U)
/-- how an expression ends: a value, an exception of the class c, or what is not served -/
inductive Out (α : Type) where
  | ok (a : α) (S : Store) | exc (c : Str) (S : Store) | bad
@[inline] def Out.bind {α β : Type} : Out α → (α → Store → Out β) → Out β
  | .ok a S, k => k a S
  | .exc c S, _ => .exc c S
  | .bad, _ => .bad
@[simp] theorem Out.bind_ok {α β : Type} (a : α) (S : Store) (k : α → Store → Out β) : (Out.ok a S).bind k = k a S := rfl
@[simp] theorem Out.bind_exc {α β : Type} (c : Str) (S : Store) (k : α → Store → Out β) : (Out.exc c S : Out α).bind k = .exc c S := rfl
@[simp] theorem Out.bind_bad {α β : Type} (k : α → Store → Out β) : (Out.bad : Out α).bind k = .bad := rfl
abbrev ME := Env → Store → Out U
abbrev MT := Env → Store → Out Bool
abbrev MA := Env → Store → Out (List U)
/-- how a statement ends -/
inductive Fl where
  | nx | rt (w : U) | bk | ct
inductive OutS where
  | go (f : Fl) (ρ : Env) (S : Store) | exc (c : Str) (ρ : Env) (S : Store) | bad
abbrev MS := Env → Store → OutS

/-! ### what stands for what -/
/-- kept from H to H': tuples, held lists, and things known by their object alone -/
structure TW (H H' : Hp) : Prop where
  tup : ∀ a xs, Rd H a (.tup xs) → Rd H' a (.tup xs)
  ext : ∀ a ψ, H a = some (.ext ψ) → H' a = some (.ext ψ)
  pls : ∀ a o xs, H a = some (.frz o (.lst xs)) → H' a = some (.frz o (.lst xs))
/-- .. and all that is held -/
structure TX (H H' : Hp) : Prop extends TW H H' where
  frz : ∀ a o u, H a = some (.frz o u) → H' a = some (.frz o u)
theorem TX.of {H H' : Hp} (t : ∀ a xs, Rd H a (.tup xs) → Rd H' a (.tup xs)) (e : ∀ a ψ, H a = some (.ext ψ) → H' a = some (.ext ψ)) (f : ∀ a o u, H a = some (.frz o u) → H' a = some (.frz o u)) : TX H H' :=
  ⟨⟨t, e, fun a o xs h => f a o _ h⟩, f⟩
theorem TW.trans {H H1 H2 : Hp} (a : TW H H1) (b : TW H1 H2) : TW H H2 := ⟨fun x xs h => b.tup x xs (a.tup x xs h), fun x xs h => b.ext x xs (a.ext x xs h), fun x o u h => b.pls x o u (a.pls x o u h)⟩
theorem TX.refl (H : Hp) : TX H H := .of (fun _ _ h => h) (fun _ _ h => h) (fun _ _ _ h => h)
theorem TX.trans {H H1 H2 : Hp} (a : TX H H1) (b : TX H1 H2) : TX H H2 := .of (fun x xs h => b.tup x xs (a.tup x xs h)) (fun x xs h => b.ext x xs (a.ext x xs h)) fun x o u h => b.frz x o u (a.frz x o u h)
theorem TW.sq {K : PySem.W.Frag} {H H' : Hp} (t : TW H H') {a : Addr} {xs : List V} (h : SqT K H a xs) : SqT K H' a xs := by
  rcases h with h | h
  · exact .inl (t.tup _ _ h)
  · exact .inr h
theorem TX.sq {K : PySem.W.Frag} {H H' : Hp} (t : TX H H') {a : Addr} {xs : List V} (h : SqT K H a xs) : SqT K H' a xs := t.toTW.sq h
theorem TX.new {H : Hp} {p : Addr} {o : HO} (h : H p = none) : TX H (upd H p o) := by
  refine .of (fun a xs r => ?_) (fun a ψ r => ?_) (fun a ob u r => ?_)
  · rcases r with r | ⟨ob, r⟩
    · exact .inl (by rw [upd_ne (ne_of_none r h)]; exact r)
    · exact .inr ⟨ob, by rw [upd_ne (ne_of_none r h)]; exact r⟩
  · rw [upd_ne (ne_of_none r h)]; exact r
  · rw [upd_ne (ne_of_none r h)]; exact r
/-- an object that is no tuple and no known thing is written -/
def Soft : HO → Prop
  | .lst _ => True
  | .dK _ => True
  | .dT _ => True
  | .ins _ _ _ => True
  | .tbl _ => True
  | _ => False
theorem TX.put {H : Hp} {p : Addr} {o u : HO} (h : H p = some u) (hs : Soft u) : TX H (upd H p o) := by
  refine .of (fun a xs r => ?_) (fun a ψ r => ?_) (fun a ob w r => ?_)
  · rcases r with r | ⟨ob, r⟩
    · have : a ≠ p := fun e => by rw [e, h] at r; cases r; exact hs
      exact .inl (by rw [upd_ne this]; exact r)
    · have : a ≠ p := fun e => by rw [e, h] at r; cases r; exact hs
      exact .inr ⟨ob, by rw [upd_ne this]; exact r⟩
  · have : a ≠ p := fun e => by rw [e, h] at r; cases r; exact hs
    rw [upd_ne this]; exact r
  · have : a ≠ p := fun e => by rw [e, h] at r; cases r; exact hs
    rw [upd_ne this]; exact r
/-- what the lambdas of the frame stand for -/
structure Lam where
  at_ : Nat → Addr → Hp → Prop
  mono : ∀ {j a H H'}, TW H H' → at_ j a H → at_ j a H'
def Lam.none : Lam := ⟨fun _ _ _ => False, fun _ h => h⟩
abbrev Map := Nat → Option Addr
/-- a list that stands still: held, or written by the top -/
def PLs (K : PySem.W.Frag) (H : Hp) (a : Addr) (xs : List V) : Prop := (∃ o, H a = some (.frz o (.lst xs))) ∨
    ∃ (o : Obj) (its : Array Value) (n : Nat), K.lookup a = some o ∧ o.cls = .type "list" ∧ o.dict = none ∧ o.data = .seq its n ∧ its.size ≤ sizeLine ∧ Vals xs its.toList
theorem PLs.sq {K : PySem.W.Frag} {H : Hp} {a : Addr} {xs : List V} (h : PLs K H a xs) : SqL K H a xs := by
  rcases h with h | h
  · exact .inl (.inr h)
  · exact .inr h
theorem TW.pl {K : PySem.W.Frag} {H H' : Hp} (t : TW H H') {a : Addr} {xs : List V} (h : PLs K H a xs) : PLs K H' a xs := by
  rcases h with ⟨o, h⟩ | h
  · exact .inl ⟨o, t.pls _ _ _ h⟩
  · exact .inr h
theorem TX.pl {K : PySem.W.Frag} {H H' : Hp} (t : TX H H') {a : Addr} {xs : List V} (h : PLs K H a xs) : PLs K H' a xs := t.toTW.pl h
section
variable (K : PySem.W.Frag) (Λ : Lam) (φ : Map) (H : Hp)
mutual
def VR : U → V → Prop
  | .non, v => v = .non
  | .bl b, v => v = .bl b
  | .int i, v => v = .int i
  | .str l, v => v = .str ⟨l.toArray⟩
  | .tup ws, v => ∃ a vs, v = .ref a ∧ SqT K H a vs ∧ VRs ws vs
  | .ref n, v => ∃ a, v = .ref a ∧ φ n = some a
  | .lam j, v => ∃ a, v = .ref a ∧ Λ.at_ j a H
  | .lsq ws, v => ∃ a vs, v = .ref a ∧ PLs K H a vs ∧ VRs ws vs
def VRs : List U → List V → Prop
  | [], vs => vs = []
  | w :: ws, vs => ∃ v r, vs = v :: r ∧ VR w v ∧ VRs ws r
end
end
def Lt (φ φ' : Map) : Prop := ∀ n a, φ n = some a → φ' n = some a
theorem Lt.refl (φ : Map) : Lt φ φ := fun _ _ h => h
theorem Lt.trans {φ φ1 φ2 : Map} (a : Lt φ φ1) (b : Lt φ1 φ2) : Lt φ φ2 := fun n x h => b n x (a n x h)
section
variable {K : PySem.W.Frag} {Λ : Lam} {φ φ' : Map} {H H' : Hp}
mutual
theorem VR.monoW (l : Lt φ φ') (t : TW H H') : ∀ {w : U} {v : V}, VR K Λ φ H w v → VR K Λ φ' H' w v
  | .non, _, h => h
  | .bl _, _, h => h
  | .int _, _, h => h
  | .str _, _, h => h
  | .tup ws, v, h => by
    obtain ⟨a, vs, e, h1, h2⟩ := h
    exact ⟨a, vs, e, t.sq h1, VRs.monoW l t h2⟩
  | .ref n, v, h => by
    obtain ⟨a, e, h1⟩ := h
    exact ⟨a, e, l _ _ h1⟩
  | .lam j, v, h => by
    obtain ⟨a, e, h1⟩ := h
    exact ⟨a, e, Λ.mono t h1⟩
  | .lsq ws, v, h => by
    obtain ⟨a, vs, e, h1, h2⟩ := h
    exact ⟨a, vs, e, t.pl h1, VRs.monoW l t h2⟩
theorem VRs.monoW (l : Lt φ φ') (t : TW H H') : ∀ {ws : List U} {vs : List V}, VRs K Λ φ H ws vs → VRs K Λ φ' H' ws vs
  | [], _, h => h
  | w :: ws, vs, h => by
    obtain ⟨v, r, e, h1, h2⟩ := h
    exact ⟨v, r, e, VR.monoW l t h1, VRs.monoW l t h2⟩
end
theorem VR.mono (l : Lt φ φ') (t : TX H H') {w : U} {v : V} (h : VR K Λ φ H w v) : VR K Λ φ' H' w v := h.monoW l t.toTW
theorem VRs.mono (l : Lt φ φ') (t : TX H H') {ws : List U} {vs : List V} (h : VRs K Λ φ H ws vs) : VRs K Λ φ' H' ws vs := h.monoW l t.toTW
theorem VRs.nil : VRs K Λ φ H [] [] := rfl
theorem VRs.cons {w : U} {v : V} {ws : List U} {vs : List V} (h : VR K Λ φ H w v) (hs : VRs K Λ φ H ws vs) : VRs K Λ φ H (w :: ws) (v :: vs) := ⟨v, vs, rfl, h, hs⟩
theorem VRs.length : ∀ {ws : List U} {vs : List V}, VRs K Λ φ H ws vs → vs.length = ws.length
  | [], _, h => by subst h; rfl
  | w :: ws, _, h => by
    obtain ⟨v, r, rfl, _, h2⟩ := h
    simp [VRs.length h2]
theorem VRs.app : ∀ {ws ws' : List U} {vs vs' : List V}, VRs K Λ φ H ws vs → VRs K Λ φ H ws' vs' → VRs K Λ φ H (ws ++ ws') (vs ++ vs')
  | [], _, _, _, h, h' => by subst h; exact h'
  | w :: ws, _, _, _, h, h' => by
    obtain ⟨v, r, rfl, h1, h2⟩ := h
    exact ⟨v, _, rfl, h1, VRs.app h2 h'⟩
theorem VRs.get : ∀ {ws : List U} {vs : List V} {i : Nat} {w : U}, VRs K Λ φ H ws vs → ws[i]? = some w → ∃ v, vs[i]? = some v ∧ VR K Λ φ H w v
  | [], _, i, _, _, e => by simp at e
  | w :: ws, _, 0, _, h, e => by
    obtain ⟨v, r, rfl, h1, h2⟩ := h
    simp at e; subst e
    exact ⟨v, rfl, h1⟩
  | w :: ws, _, i + 1, w', h, e => by
    obtain ⟨v, r, rfl, h1, h2⟩ := h
    obtain ⟨v', e', h3⟩ := VRs.get (i := i) (w := w') h2 (by simpa using e)
    exact ⟨v', by simpa using e', h3⟩
theorem VRs.set : ∀ {ws : List U} {vs : List V} {w : U} {v : V} (i : Nat), VRs K Λ φ H ws vs → VR K Λ φ H w v → VRs K Λ φ H (ws.set i w) (vs.set i v)
  | [], _, _, _, i, h, _ => by subst h; exact rfl
  | w :: ws, _, _, _, 0, h, q => by
    obtain ⟨v, r, rfl, h1, h2⟩ := h
    exact ⟨_, _, rfl, q, h2⟩
  | w :: ws, _, _, _, i + 1, h, q => by
    obtain ⟨v, r, rfl, h1, h2⟩ := h
    exact ⟨_, _, rfl, h1, VRs.set i h2 q⟩
theorem VRs.drop : ∀ {ws : List U} {vs : List V} (i : Nat), VRs K Λ φ H ws vs → VRs K Λ φ H (ws.drop i) (vs.drop i)
  | _, _, 0, h => h
  | [], _, i + 1, h => by subst h; exact rfl
  | w :: ws, _, i + 1, h => by
    obtain ⟨v, r, rfl, h1, h2⟩ := h
    exact VRs.drop i h2
theorem VRs.take : ∀ {ws : List U} {vs : List V} (i : Nat), VRs K Λ φ H ws vs → VRs K Λ φ H (ws.take i) (vs.take i)
  | _, _, 0, _ => rfl
  | [], _, i + 1, h => by subst h; exact rfl
  | w :: ws, _, i + 1, h => by
    obtain ⟨v, r, rfl, h1, h2⟩ := h
    exact ⟨_, _, rfl, h1, VRs.take i h2⟩
theorem VRs.ints : ∀ {ns : List Int} {vs : List V}, VRs K Λ φ H (ns.map U.int) vs → vs = ns.map V.int
  | [], _, h => h
  | n :: ns, _, h => by
    obtain ⟨v, r, rfl, h1, h2⟩ := h
    rw [List.map_cons, VRs.ints h2, show v = V.int n from h1]
theorem VRs.of_ints : ∀ {ns : List Int}, VRs K Λ φ H (ns.map U.int) (ns.map V.int)
  | [] => rfl
  | n :: ns => ⟨_, _, rfl, rfl, VRs.of_ints⟩
theorem VRs.of_get : ∀ {ws : List U} {vs : List V}, vs.length = ws.length → (∀ (i : Nat) (w : U) (v : V), ws[i]? = some w → vs[i]? = some v → VR K Λ φ H w v) → VRs K Λ φ H ws vs
  | [], vs, hl, _ => by
    have : vs = [] := List.eq_nil_of_length_eq_zero hl
    exact this
  | w :: ws, [], hl, _ => by simp at hl
  | w :: ws, v :: vs, hl, h => ⟨v, vs, rfl, h 0 w v rfl rfl, VRs.of_get (by simpa using hl) fun i w' v' h1 h2 => h (i + 1) w' v' (by simpa using h1) (by simpa using h2)⟩
end
def Ky.k : Ky → Key
  | .i n => .inl n
  | .s l => .inr ⟨l.toArray⟩
theorem Ky.inj {a b : Ky} (h : a.k = b.k) : a = b := by
  cases a with
  | i n => cases b with
    | i m => exact congrArg Ky.i (Sum.inl.inj h)
    | s l => cases h
  | s l => cases b with
    | i m => cases h
    | s m =>
      have h1 := Sum.inr.inj h
      have h2 : l.toArray = m.toArray := congrArg Str.cps h1
      have h3 : l = m := by simpa using congrArg Array.toList h2
      exact congrArg Ky.s h3
def uKey : U → Option Ky
  | .int i => some (.i i)
  | .str l => some (.s l)
  | _ => none
def uKeys : List U → Option (List Ky)
  | [] => some []
  | w :: ws => match uKey w, uKeys ws with
    | some k, some ks => some (k :: ks)
    | _, _ => none
def kyU : Ky → U
  | .i n => .int n
  | .s l => .str l
/-- entries: attributes by name, a dict's by key -/
def KR {κ κ' : Type} (K : PySem.W.Frag) (Λ : Lam) (φ : Map) (H : Hp) (f : κ → κ') : List (κ × U) → List (κ' × V) → Prop
  | [], vs => vs = []
  | (x, w) :: r, vs => ∃ v r', vs = (f x, v) :: r' ∧ VR K Λ φ H w v ∧ KR K Λ φ H f r r'
section
variable {κ κ' : Type} {K : PySem.W.Frag} {Λ : Lam} {φ φ' : Map} {H H' : Hp} {f : κ → κ'}
theorem KR.monoW (l : Lt φ φ') (t : TW H H') : ∀ {kvs : List (κ × U)} {vs : List (κ' × V)}, KR K Λ φ H f kvs vs → KR K Λ φ' H' f kvs vs
  | [], _, h => h
  | (x, w) :: r, _, h => by
    obtain ⟨v, r', e, h1, h2⟩ := h
    exact ⟨v, r', e, h1.monoW l t, KR.monoW l t h2⟩
theorem KR.mono (l : Lt φ φ') (t : TX H H') {kvs : List (κ × U)} {vs : List (κ' × V)} (h : KR K Λ φ H f kvs vs) : KR K Λ φ' H' f kvs vs := h.monoW l t.toTW
theorem KR.length : ∀ {kvs : List (κ × U)} {vs : List (κ' × V)}, KR K Λ φ H f kvs vs → vs.length = kvs.length
  | [], _, h => by subst h; rfl
  | (x, w) :: r, _, h => by
    obtain ⟨v, r', rfl, h1, h2⟩ := h
    simp [KR.length h2]
theorem KR.app : ∀ {kvs kvs2 : List (κ × U)} {vs vs2 : List (κ' × V)}, KR K Λ φ H f kvs vs → KR K Λ φ H f kvs2 vs2 → KR K Λ φ H f (kvs ++ kvs2) (vs ++ vs2)
  | [], _, _, _, h, h' => by subst h; exact h'
  | (x, w) :: r, _, _, _, h, h' => by
    obtain ⟨v, r', rfl, h1, h2⟩ := h
    exact ⟨v, _, rfl, h1, KR.app h2 h'⟩
end
section
variable {κ : Type} [DecidableEq κ]
/-- the entry of a key -/
def getK : List (κ × U) → κ → Option U
  | [], _ => none
  | (x, w) :: r, k => if x = k then some w else getK r k
def repK : List (κ × U) → κ → U → List (κ × U)
  | [], _, _ => []
  | (x, w) :: r, k, v => if x = k then (x, v) :: repK r k v else (x, w) :: repK r k v
/-- put: in its place, or at the end -/
def setK (kvs : List (κ × U)) (k : κ) (v : U) : List (κ × U) := match getK kvs k with
  | some _ => repK kvs k v
  | none => kvs ++ [(k, v)]
def delK : List (κ × U) → κ → List (κ × U)
  | [], _ => []
  | (x, w) :: r, k => if x = k then delK r k else (x, w) :: delK r k
end
section
variable {κ κ' : Type} [DecidableEq κ] [DecidableEq κ'] {K : PySem.W.Frag} {Λ : Lam} {φ : Map} {H : Hp} {f : κ → κ'} (hf : ∀ a b, f a = f b → a = b)
include hf
theorem KR.getS {k : κ} : ∀ {kvs : List (κ × U)} {vs : List (κ' × V)}, KR K Λ φ H f kvs vs → (match getK kvs k with
    | some w => ∃ v, valV vs (f k) = some v ∧ VR K Λ φ H w v
    | none => valV vs (f k) = none)
  | [], _, h => by subst h; rfl
  | (x, w) :: r, _, h => by
    obtain ⟨v, r', rfl, h1, h2⟩ := h
    unfold getK
    by_cases e : x = k
    · rw [if_pos e]
      exact ⟨v, valV_pos (p := (f x, v)) (congrArg f e), h1⟩
    · rw [if_neg e]
      have e2 : ¬ f x = f k := fun z => e (hf _ _ z)
      rw [valV_neg (p := (f x, v)) e2]
      exact KR.getS h2
theorem KR.repS {k : κ} {u : U} {y : V} (q : VR K Λ φ H u y) : ∀ {kvs : List (κ × U)} {vs : List (κ' × V)}, KR K Λ φ H f kvs vs → KR K Λ φ H f (repK kvs k u) (vs.map fun kv => if kv.1 = f k then (kv.1, y) else kv)
  | [], _, h => by subst h; exact rfl
  | (x, w) :: r, _, h => by
    obtain ⟨v, r', rfl, h1, h2⟩ := h
    unfold repK
    by_cases e : x = k
    · rw [if_pos e, List.map_cons, if_pos (congrArg f e)]
      exact ⟨_, _, rfl, q, KR.repS q h2⟩
    · have e2 : ¬ f x = f k := fun z => e (hf _ _ z)
      rw [if_neg e, List.map_cons, if_neg e2]
      exact ⟨_, _, rfl, h1, KR.repS q h2⟩
theorem KR.setS {k : κ} {u : U} {y : V} {kvs : List (κ × U)} {vs : List (κ' × V)} (q : VR K Λ φ H u y) (h : KR K Λ φ H f kvs vs) : KR K Λ φ H f (setK kvs k u) (putK vs (f k) y) := by
  have g := KR.getS hf (k := k) h
  unfold setK putK
  rw [valV_any]
  cases e : getK kvs k with
  | some w =>
    rw [e] at g
    obtain ⟨v, e1, _⟩ := g
    rw [e1]
    exact KR.repS hf q h
  | none =>
    rw [e] at g
    rw [show valV vs (f k) = none from g]
    exact KR.app h ⟨_, _, rfl, q, rfl⟩
theorem KR.delS {k : κ} : ∀ {kvs : List (κ × U)} {vs : List (κ' × V)}, KR K Λ φ H f kvs vs → KR K Λ φ H f (delK kvs k) (dropK vs (f k))
  | [], _, h => by subst h; exact rfl
  | (x, w) :: r, _, h => by
    obtain ⟨v, r', rfl, h1, h2⟩ := h
    unfold delK dropK
    by_cases e : x = k
    · rw [if_pos e, List.filter_cons, if_neg (by simp [e])]
      exact KR.delS h2
    · have e2 : f x ≠ f k := fun z => e (hf _ _ z)
      rw [if_neg e, List.filter_cons, if_pos (by simp [e2])]
      exact ⟨_, _, rfl, h1, KR.delS h2⟩
end
/-- a tracked thing, perhaps held -/
def Hold (lk : Nat) (H : Hp) (a : Addr) (u : HO) : Prop := match lk with
  | 0 => H a = some u
  | _ => ∃ o, H a = some (.frz o u)
def OR (K : PySem.W.Frag) (mg : Str → Option Value) (Λ : Lam) (φ : Map) (H : Hp) (a : Addr) (c : Cell) : Prop := match c.o with
  | .lst ws => ∃ vs, Hold c.lk H a (.lst vs) ∧ VRs K Λ φ H ws vs
  | .dK kvs => ∃ vs, Hold c.lk H a (.dK vs) ∧ KR K Λ φ H Ky.k kvs vs
  | .dT kvs => ∃ vs, Hold c.lk H a (.dT vs) ∧ KR K Λ φ H (List.map Ky.k) kvs vs
  | .ins x fs => ∃ C dx vs, mg x = some (.ref C) ∧ H a = some (.ins C dx vs) ∧ KR K Λ φ H (id : Str → Str) fs vs
/-- a lambda without parameters and captured names -/
structure LamD where
  params : Arguments
  body : Expr
  scope : Scope
/-- the tables of code objects: of generator expressions, of lambdas (their name, the lambdas) -/
abbrev Tbs := List (Addr × Option (Str × List LamD))
/-- this function object stands at a -/
def FunO (a : Addr) (o : Obj) : HO := .ext fun h => h.get? a = some o
def FnAt (q : Str) (d : LamD) (a : Addr) (H : Hp) : Prop := ∃ (c' : Addr) (pm ctv : Value), H a = some (FunO a (PySem.W.kla_obj "<lambda>" q d.params d.body d.scope [] pm c' ctv)) ∧ H c' = some (LamX.CodeO c' q)
def lamsOf (Tb : Tbs) : List (Str × LamD) := Tb.flatMap fun p => match p.2 with
  | some (q, ds) => ds.map fun d => (q, d)
  | none => []
def lamOf (Tb : Tbs) : Lam := ⟨fun j a H => ∃ p, (lamsOf Tb)[j]? = some p ∧ FnAt p.1 p.2 a H, fun t ⟨p, h1, c', pm, ctv, h2, h3⟩ => ⟨p, h1, c', pm, ctv, t.ext _ _ h2, t.ext _ _ h3⟩⟩
def TbOk (H : Hp) (p : Addr × Option (Str × List LamD)) : Prop := match p.2 with
  | none => GxR.TabG H p.1
  | some (q, _) => LamX.TabS H p.1 q
structure SR (K : PySem.W.Frag) (mg : Str → Option Value) (Tb : Tbs) (Λ : Lam) (φ : Map) (S : Store) (H : Hp) : Prop where
  ob : ∀ n c, S.get n = some c → ∃ a, φ n = some a ∧ OR K mg Λ φ H a c
  inj : ∀ m n a, φ m = some a → φ n = some a → m = n
  dom : ∀ n a, φ n = some a → n < S.n
  trk : ∀ n a, φ n = some a → ∃ o, H a = some o ∧ (∀ xs, o ≠ .tup xs) ∧ (∀ ψ, o ≠ .ext ψ) ∧ ∀ ps, o ≠ .tbl ps
  tab : ∀ p ∈ Tb, TbOk H p
  lam : Λ = lamOf Tb
def ER (K : PySem.W.Frag) (Λ : Lam) (φ : Map) (H : Hp) (ρ : Env) (σ : L2.St) : Prop := ρ.length = σ.length ∧ ∀ (i : Nat) (w : U), ρ[i]? = some (some w) → ∃ v, σ[i]? = some (some v) ∧ VR K Λ φ H w v
theorem ER.monoW {K : PySem.W.Frag} {Λ : Lam} {φ φ' : Map} {H H' : Hp} {ρ : Env} {σ : L2.St} (l : Lt φ φ') (t : TW H H') (h : ER K Λ φ H ρ σ) : ER K Λ φ' H' ρ σ :=
  ⟨h.1, fun i w e => let ⟨v, e1, e2⟩ := h.2 i w e; ⟨v, e1, e2.monoW l t⟩⟩
theorem ER.mono {K : PySem.W.Frag} {Λ : Lam} {φ φ' : Map} {H H' : Hp} {ρ : Env} {σ : L2.St} (l : Lt φ φ') (t : TX H H') (h : ER K Λ φ H ρ σ) : ER K Λ φ' H' ρ σ := h.monoW l t.toTW
theorem ER.set {K : PySem.W.Frag} {Λ : Lam} {φ : Map} {H : Hp} {ρ : Env} {σ : L2.St} {w : U} {v : V} (i : Nat) (h : ER K Λ φ H ρ σ) (r : VR K Λ φ H w v) : ER K Λ φ H (ρ.set i (some w)) (σ.set i (some v)) := by
  refine ⟨by simp [h.1], fun j w' e => ?_⟩
  by_cases hj : i = j
  · subst hj
    by_cases hi : i < ρ.length
    · rw [List.getElem?_set_self hi] at e
      cases e
      exact ⟨v, by rw [List.getElem?_set_self (by rw [← h.1]; exact hi)], r⟩
    · rw [List.getElem?_eq_none (by simpa using hi)] at e
      cases e
  · rw [List.getElem?_set_ne hj] at e
    obtain ⟨v', e1, e2⟩ := h.2 j w' e
    exact ⟨v', by rw [List.getElem?_set_ne hj]; exact e1, e2⟩

/-! ### what is wanted behind an expression -/
section
variable (K : PySem.W.Frag) (mg : Str → Option Value) (Tb : Tbs) (Λ : Lam)
def Post {α β : Type} (rel : Map → Hp → α → β → Prop) (X : Value → Option Addr → Hp → Prop) (φ : Map) (H : Hp) (o : Out α) (Q : β → Hp → Prop) : Prop := match o with
  | .ok w S' => ∀ φ' v H', Lt φ φ' → TX H H' → SR K mg Tb Λ φ' S' H' → rel φ' H' w v → Q v H'
  | .exc c S' => ∀ φ' H' C, Lt φ φ' → TX H H' → SR K mg Tb Λ φ' S' H' → mg c = some (.ref C) → X (.ref C) none H'
  | .bad => False
end
abbrev relV (K : PySem.W.Frag) (Λ : Lam) : Map → Hp → U → V → Prop := fun φ H w v => VR K Λ φ H w v
abbrev relB : Map → Hp → Bool → Bool → Prop := fun _ _ a b => a = b
abbrev relA (K : PySem.W.Frag) (Λ : Lam) : Map → Hp → List U → List V → Prop := fun φ H w v => VRs K Λ φ H w v
section
variable {K : PySem.W.Frag} {mg : Str → Option Value} {Tb : Tbs} {Λ : Lam} {α β γ δ : Type} {rel : Map → Hp → α → β → Prop} {rel' : Map → Hp → γ → δ → Prop} {X : Value → Option Addr → Hp → Prop} {φ φ1 : Map} {H H1 : Hp}
theorem Post.mono {o : Out α} {Q : β → Hp → Prop} (l : Lt φ φ1) (t : TX H H1) (h : Post K mg Tb Λ rel X φ H o Q) : Post K mg Tb Λ rel X φ1 H1 o Q := by
  cases o with
  | ok w S' => exact fun φ' v H' l' t' s r => h φ' v H' (l.trans l') (t.trans t') s r
  | exc c S' => exact fun φ' H' C l' t' s r => h φ' H' C (l.trans l') (t.trans t') s r
  | bad => exact h
theorem Post.imp {o : Out α} {Q Q' : β → Hp → Prop} (h : Post K mg Tb Λ rel X φ H o Q) (q : ∀ v H, Q v H → Q' v H) : Post K mg Tb Λ rel X φ H o Q' := by
  cases o with
  | ok w S' => exact fun φ' v H' l' t' s r => q _ _ (h φ' v H' l' t' s r)
  | exc c S' => exact h
  | bad => exact h
/-- one after another -/
theorem Post.bind {o : Out α} {k : α → Store → Out γ} {Q : δ → Hp → Prop} (h : Post K mg Tb Λ rel' X φ H (o.bind k) Q) :
    Post K mg Tb Λ rel X φ H o fun v H1 => ∃ φ1 w S1, Lt φ φ1 ∧ TX H H1 ∧ SR K mg Tb Λ φ1 S1 H1 ∧ rel φ1 H1 w v ∧ Post K mg Tb Λ rel' X φ1 H1 (k w S1) Q := by
  cases o with
  | ok w S' => exact fun φ' v H' l t s r => ⟨φ', w, S', l, t, s, r, Post.mono l t h⟩
  | exc c S' => exact h
  | bad => exact h
end
/-- the readings: of an expression, a test, arguments. W: what is wished of an exception -/
def tS (K : PySem.W.Frag) (mg : Str → Option Value) (Tb : Tbs) (W : WX) (m : ME) : TE := fun σ H Q => ∃ Λ φ ρ S, SR K mg Tb Λ φ S H ∧ ER K Λ φ H ρ σ ∧ Post K mg Tb Λ (relV K Λ) (fun c d H => W c d σ H) φ H (m ρ S) Q
def tST (K : PySem.W.Frag) (mg : Str → Option Value) (Tb : Tbs) (W : WX) (m : MT) : TT := fun σ H Q => ∃ Λ φ ρ S, SR K mg Tb Λ φ S H ∧ ER K Λ φ H ρ σ ∧ Post K mg Tb Λ relB (fun c d H => W c d σ H) φ H (m ρ S) Q
def tSA (K : PySem.W.Frag) (mg : Str → Option Value) (Tb : Tbs) (W : WX) (m : MA) : TA := fun σ H Q => ∃ Λ φ ρ S, SR K mg Tb Λ φ S H ∧ ER K Λ φ H ρ σ ∧ Post K mg Tb Λ (relA K Λ) (fun c d H => W c d σ H) φ H (m ρ S) Q
def PostS (K : PySem.W.Frag) (mg : Str → Option Value) (Tb : Tbs) (Λ : Lam) (W : WX) (φ : Map) (H : Hp) (o : OutS) (D : Ends) : Prop := match o with
  | .go f ρ' S' => ∀ φ' σ' H', Lt φ φ' → TX H H' → SR K mg Tb Λ φ' S' H' → ER K Λ φ' H' ρ' σ' → (match f with
    | .nx => D.nx σ' H'
    | .bk => D.bk σ' H'
    | .ct => D.ct σ' H'
    | .rt w => ∀ v, VR K Λ φ' H' w v → D.rt v H')
  | .exc c ρ' S' => ∀ φ' σ' H' C, Lt φ φ' → TX H H' → SR K mg Tb Λ φ' S' H' → ER K Λ φ' H' ρ' σ' → mg c = some (.ref C) → W (.ref C) none σ' H'
  | .bad => False
def tSS (K : PySem.W.Frag) (mg : Str → Option Value) (Tb : Tbs) (W : WX) (m : MS) : TS := fun D σ H => ∃ Λ φ ρ S, SR K mg Tb Λ φ S H ∧ ER K Λ φ H ρ σ ∧ PostS K mg Tb Λ W φ H (m ρ S) D
/-- what ties a text to its function -/
structure SE (X : Cx) (Tb : Tbs) (W : WX) (e : Expr) (m : ME) : Prop where
  pe : PE X e (tS X.K X.mg Tb W m)
structure ST (X : Cx) (Tb : Tbs) (W : WX) (e : Expr) (m : MT) : Prop where
  pt : PT X e (tST X.K X.mg Tb W m)
structure SA (X : Cx) (Tb : Tbs) (W : WX) (e : List Expr) (m : MA) : Prop where
  pa : PA X e (tSA X.K X.mg Tb W m)
structure SS (X : Cx) (Tb : Tbs) (W : WX) (e : Stmt) (m : MS) : Prop where
  ps : PS X e (tSS X.K X.mg Tb W m)
structure SSs (X : Cx) (Tb : Tbs) (W : WX) (e : List Stmt) (m : MS) : Prop where
  pss : PSs X e (tSS X.K X.mg Tb W m)
theorem PE_weak {X : Cx} {e : Expr} {t t' : TE} (h : PE X e t) (q : ∀ σ H Q, t' σ H Q → t σ H Q) : PE X e t' := ⟨fun pins s σ H Q I x => h.run pins s σ H Q I (q σ H Q x)⟩
theorem PT_weak {X : Cx} {e : Expr} {t t' : TT} (h : PT X e t) (q : ∀ σ H Q, t' σ H Q → t σ H Q) : PT X e t' := ⟨fun pins s σ H Q I x => h.run pins s σ H Q I (q σ H Q x)⟩
theorem PA_weak {X : Cx} {e : List Expr} {t t' : TA} (h : PA X e t) (q : ∀ σ H Q, t' σ H Q → t σ H Q) : PA X e t' := ⟨fun pos pins s σ H Q I x => h.run pos pins s σ H Q I (q σ H Q x)⟩
theorem PS_weak {X : Cx} {e : Stmt} {t t' : TS} (h : PS X e t) (q : ∀ D σ H, t' D σ H → t D σ H) : PS X e t' := ⟨fun pins s σ H D I x => h.run pins s σ H D I (q D σ H x)⟩
theorem PSs_weak {X : Cx} {e : List Stmt} {t t' : TS} (h : PSs X e t) (q : ∀ D σ H, t' D σ H → t D σ H) : PSs X e t' := ⟨fun pins s σ H D I x => h.run pins s σ H D I (q D σ H x)⟩
end Sm
/-! text Sm2 -/
namespace Sm
open PySem PySem.Spec PyProof.Rows L2
/-! ### the store and the heap -/
section
variable {K : PySem.W.Frag} {mg : Str → Option Value} {Tb : Tbs} {Λ : Lam} {φ φ' : Map} {S : Store} {H H' : Hp} {a p : Addr} {c : Cell} {n : Nat}
theorem Hold.eq {lk : Nat} {u : HO} (e : H' a = H a) (h : Hold lk H a u) : Hold lk H' a u := by
  cases lk with
  | zero => exact e.trans h
  | succ k =>
    obtain ⟨o, h'⟩ := (show ∃ o, H a = some (.frz o u) from h)
    exact (show ∃ o, H' a = some (.frz o u) from ⟨o, e.trans h'⟩)
theorem OR.mono (l : Lt φ φ') (t : TW H H') (e : H' a = H a) (h : OR K mg Λ φ H a c) : OR K mg Λ φ' H' a c := by
  obtain ⟨o, lk⟩ := c
  cases o with
  | lst ws =>
    obtain ⟨vs, h1, h2⟩ := h
    exact ⟨vs, h1.eq e, h2.monoW l t⟩
  | dK kvs =>
    obtain ⟨vs, h1, h2⟩ := h
    exact ⟨vs, h1.eq e, h2.monoW l t⟩
  | dT kvs =>
    obtain ⟨vs, h1, h2⟩ := h
    exact ⟨vs, h1.eq e, h2.monoW l t⟩
  | ins x fs =>
    obtain ⟨C, dx, vs, h0, h1, h2⟩ := h
    exact ⟨C, dx, vs, h0, e.trans h1, h2.monoW l t⟩
theorem TbOk.eq {q : Addr × Option (Str × List LamD)} (t : TW H H') (e : H' q.1 = H q.1) (h : TbOk H q) : TbOk H' q := by
  obtain ⟨P, q⟩ := q
  cases q with
  | none =>
    obtain ⟨ps, h1, h2⟩ := (show GxR.TabG H P from h)
    exact (show GxR.TabG H' P from ⟨ps, e.trans h1, h2⟩)
  | some q =>
    obtain ⟨q, ds⟩ := q
    obtain ⟨ps, h1, h2, h3⟩ := (show LamX.TabS H P q from h)
    refine (show LamX.TabS H' P q from ⟨ps, e.trans h1, h2, fun pos cv hc => ?_⟩)
    obtain ⟨c, e1, e2⟩ := h3 pos cv hc
    exact ⟨c, e1, t.ext _ _ e2⟩
theorem TbOk.there {q : Addr × Option (Str × List LamD)} (h : TbOk H q) : ∃ ps, H q.1 = some (.tbl ps) := by
  obtain ⟨P, q⟩ := q
  cases q with
  | none =>
    obtain ⟨ps, h1, h2⟩ := (show GxR.TabG H P from h)
    exact ⟨ps, h1⟩
  | some q =>
    obtain ⟨q, ds⟩ := q
    obtain ⟨ps, h1, h2, h3⟩ := (show LamX.TabS H P q from h)
    exact ⟨ps, h1⟩
/-- the heap has more, or other things that the store does not tell -/
theorem SR.heap (s : SR K mg Tb Λ φ S H) (t : TW H H') (k : ∀ n a, φ n = some a → H' a = H a) (kt : ∀ p ∈ Tb, H' p.1 = H p.1) : SR K mg Tb Λ φ S H' where
  ob := fun n c e => let ⟨a, h1, h2⟩ := s.ob n c e; ⟨a, h1, h2.mono (Lt.refl _) t (k n a h1)⟩
  inj := s.inj
  dom := s.dom
  trk := fun n a e => by rw [k n a e]; exact s.trk n a e
  tab := fun q hq => (s.tab q hq).eq t (kt q hq)
  lam := s.lam
theorem SR.fresh (s : SR K mg Tb Λ φ S H) (hp : H p = none) : (∀ n a, φ n = some a → a ≠ p) ∧ ∀ q ∈ Tb, q.1 ≠ p := by
  refine ⟨fun n a e z => ?_, fun q hq z => ?_⟩
  · obtain ⟨o, h, _⟩ := s.trk n a e
    rw [z, hp] at h; cases h
  · obtain ⟨ps, h⟩ := (s.tab q hq).there
    rw [z, hp] at h; cases h
/-- a new thing that the store does not tell -/
theorem SR.gar (s : SR K mg Tb Λ φ S H) (hp : H p = none) (o : HO) : SR K mg Tb Λ φ S (upd H p o) :=
  s.heap (TX.new hp).toTW (fun n a e => upd_ne ((s.fresh hp).1 n a e)) fun q hq => upd_ne ((s.fresh hp).2 q hq)
def Map.at_ (φ : Map) (n : Nat) (p : Addr) : Map := fun m => if m = n then some p else φ m
theorem Map.lt_at (s : SR K mg Tb Λ φ S H) : Lt φ (φ.at_ S.n p) := fun m a e => by
  have := s.dom m a e
  unfold Map.at_
  rw [if_neg (by omega)]; exact e
/-- a new object -/
theorem SR.mkO (s : SR K mg Tb Λ φ S H) (hp : H p = none) {o : Ob} {u : HO} (hO : OR K mg Λ (φ.at_ S.n p) (upd H p u) p ⟨o, 0⟩) (h1 : ∀ xs, u ≠ .tup xs) (h2 : ∀ ψ, u ≠ .ext ψ) (h3 : ∀ ps, u ≠ .tbl ps) :
    SR K mg Tb Λ (φ.at_ S.n p) (S.new o) (upd H p u) where
  ob := fun n c e => by
    rw [Store.get_new] at e
    by_cases hn : n = S.n
    · rw [if_pos hn] at e
      cases e
      exact ⟨p, by unfold Map.at_; rw [if_pos hn], hO⟩
    · rw [if_neg hn] at e
      obtain ⟨a, e1, e2⟩ := s.ob n c e
      exact ⟨a, Map.lt_at s n a e1, e2.mono (Map.lt_at s) (TX.new hp).toTW (upd_ne ((s.fresh hp).1 n a e1))⟩
  inj := fun m n a e1 e2 => by
    unfold Map.at_ at e1 e2
    by_cases hm : m = S.n
    · by_cases hn : n = S.n
      · rw [hm, hn]
      · rw [if_pos hm] at e1
        rw [if_neg hn] at e2
        cases e1
        exact absurd rfl ((s.fresh hp).1 n p e2)
    · rw [if_neg hm] at e1
      by_cases hn : n = S.n
      · rw [if_pos hn] at e2
        cases e2
        exact absurd rfl ((s.fresh hp).1 m p e1)
      · rw [if_neg hn] at e2
        exact s.inj m n a e1 e2
  dom := fun n a e => by
    unfold Map.at_ at e
    show n < S.n + 1
    by_cases hn : n = S.n
    · omega
    · rw [if_neg hn] at e
      have := s.dom n a e
      omega
  trk := fun n a e => by
    unfold Map.at_ at e
    by_cases hn : n = S.n
    · rw [if_pos hn] at e
      cases e
      exact ⟨u, upd_same, h1, h2, h3⟩
    · rw [if_neg hn] at e
      rw [upd_ne ((s.fresh hp).1 n a e)]
      exact s.trk n a e
  tab := fun q hq => (s.tab q hq).eq (TX.new hp).toTW (upd_ne ((s.fresh hp).2 q hq))
  lam := s.lam
theorem SR.mk_lst (s : SR K mg Tb Λ φ S H) (hp : H p = none) {ws : List U} {vs : List V} (h : VRs K Λ φ H ws vs) : SR K mg Tb Λ (φ.at_ S.n p) (S.new (.lst ws)) (upd H p (.lst vs)) :=
  s.mkO hp ⟨vs, upd_same, h.mono (Map.lt_at s) (TX.new hp)⟩ (fun _ z => nomatch z) (fun _ z => nomatch z) fun _ z => nomatch z
theorem VR.new {Λ : Lam} : VR K Λ (φ.at_ S.n p) H (.ref S.n) (.ref p) := ⟨p, rfl, by unfold Map.at_; rw [if_pos rfl]⟩
/-- an object is written -/
theorem SR.wrW (s : SR K mg Tb Λ φ S H) (ha : φ n = some a) {u : HO} (hw : TW H (upd H a u)) {c : Cell} (hO : OR K mg Λ φ (upd H a u) a c) (h1 : ∀ xs, u ≠ .tup xs) (h2 : ∀ ψ, u ≠ .ext ψ) (h3 : ∀ ps, u ≠ .tbl ps) :
    SR K mg Tb Λ φ (S.put n c) (upd H a u) where
  ob := fun m c' e => by
    rw [Store.get_put] at e
    by_cases hm : m = n
    · rw [if_pos hm] at e
      cases e
      exact ⟨a, by rw [hm]; exact ha, hO⟩
    · rw [if_neg hm] at e
      obtain ⟨b, e1, e2⟩ := s.ob m c' e
      have hb : b ≠ a := fun z => hm (s.inj m n a (z ▸ e1) ha)
      exact ⟨b, e1, e2.mono (Lt.refl _) hw (upd_ne hb)⟩
  inj := s.inj
  dom := s.dom
  trk := fun m b e => by
    by_cases hb : b = a
    · rw [hb, upd_same]
      exact ⟨u, rfl, h1, h2, h3⟩
    · rw [upd_ne hb]
      exact s.trk m b e
  tab := fun q hq => by
    refine (s.tab q hq).eq hw (upd_ne fun z => ?_)
    obtain ⟨o, e1, _, _, e4⟩ := s.trk n a ha
    obtain ⟨ps, e5⟩ := (s.tab q hq).there
    rw [z, e1] at e5
    exact e4 ps (Option.some.inj e5)
  lam := s.lam
theorem SR.wr (s : SR K mg Tb Λ φ S H) (ha : φ n = some a) {u0 u : HO} (h0 : H a = some u0) (hs : Soft u0) {c : Cell} (hO : OR K mg Λ φ (upd H a u) a c) (h1 : ∀ xs, u ≠ .tup xs) (h2 : ∀ ψ, u ≠ .ext ψ) (h3 : ∀ ps, u ≠ .tbl ps) :
    SR K mg Tb Λ φ (S.put n c) (upd H a u) := s.wrW ha (TX.put h0 hs).toTW hO h1 h2 h3
theorem SR.lst (s : SR K mg Tb Λ φ S H) {ws : List U} {lk : Nat} (e : S.get n = some ⟨.lst ws, lk⟩) : ∃ a vs, φ n = some a ∧ SqL K H a vs ∧ VRs K Λ φ H ws vs ∧ (lk = 0 → H a = some (.lst vs)) := by
  obtain ⟨a, h1, vs, h2, h3⟩ := s.ob n _ e
  refine ⟨a, vs, h1, ?_, h3, fun z => by subst z; exact h2⟩
  cases lk with
  | zero => exact .inl (.inl h2)
  | succ k => exact .inl (.inr h2)
theorem SR.dK (s : SR K mg Tb Λ φ S H) {kvs : List (Ky × U)} {lk : Nat} (e : S.get n = some ⟨.dK kvs, lk⟩) : ∃ a vs, φ n = some a ∧ Rd H a (.dK vs) ∧ KR K Λ φ H Ky.k kvs vs ∧ (lk = 0 → H a = some (.dK vs)) := by
  obtain ⟨a, h1, vs, h2, h3⟩ := s.ob n _ e
  refine ⟨a, vs, h1, ?_, h3, fun z => by subst z; exact h2⟩
  cases lk with
  | zero => exact .inl h2
  | succ k => exact .inr h2
theorem SR.dT (s : SR K mg Tb Λ φ S H) {kvs : List (List Ky × U)} {lk : Nat} (e : S.get n = some ⟨.dT kvs, lk⟩) : ∃ a vs, φ n = some a ∧ Rd H a (.dT vs) ∧ KR K Λ φ H (List.map Ky.k) kvs vs ∧ (lk = 0 → H a = some (.dT vs)) := by
  obtain ⟨a, h1, vs, h2, h3⟩ := s.ob n _ e
  refine ⟨a, vs, h1, ?_, h3, fun z => by subst z; exact h2⟩
  cases lk with
  | zero => exact .inl h2
  | succ k => exact .inr h2
theorem SR.ins (s : SR K mg Tb Λ φ S H) {x : Str} {fs : List (Str × U)} {lk : Nat} (e : S.get n = some ⟨.ins x fs, lk⟩) : ∃ a C dx vs, φ n = some a ∧ mg x = some (.ref C) ∧ H a = some (.ins C dx vs) ∧ KR K Λ φ H (id : Str → Str) fs vs := by
  obtain ⟨a, h1, C, dx, vs, h2, h3, h4⟩ := s.ob n _ e
  exact ⟨a, C, dx, vs, h1, h2, h3, h4⟩
end

/-! ### names, constants -/
def mVar (i : Nat) : ME := fun ρ S => match ρ[i]? with
  | some (some w) => .ok w S
  | _ => .bad
def mC (w : U) : ME := fun _ S => .ok w S
section
variable {X : Cx} {Tb : Tbs} {W : WX} {pos : Pos} {a b : Expr} {ma mb : ME}
theorem se_weak {e : Expr} {m : ME} {t : TE} (h : PE X e t) (q : ∀ Λ φ ρ S σ H Q, SR X.K X.mg Tb Λ φ S H → ER X.K Λ φ H ρ σ → Post X.K X.mg Tb Λ (relV X.K Λ) (fun c d H => W c d σ H) φ H (m ρ S) Q → t σ H Q) : SE X Tb W e m :=
  ⟨PE_weak h fun σ H Q ⟨Λ, φ, ρ, S, s, e, p⟩ => q Λ φ ρ S σ H Q s e p⟩
theorem st_weak {e : Expr} {m : MT} {t : TT} (h : PT X e t) (q : ∀ Λ φ ρ S σ H Q, SR X.K X.mg Tb Λ φ S H → ER X.K Λ φ H ρ σ → Post X.K X.mg Tb Λ relB (fun c d H => W c d σ H) φ H (m ρ S) Q → t σ H Q) : ST X Tb W e m :=
  ⟨PT_weak h fun σ H Q ⟨Λ, φ, ρ, S, s, e, p⟩ => q Λ φ ρ S σ H Q s e p⟩
theorem se_var (i : Nat) {x : Str} {pos : Pos} (hN : X.N[i]? = some x := by rfl) (hv : Vis X.env.scope x := by first | exact Or.inl rfl | exact Or.inr (Or.inl rfl) | exact Or.inr (Or.inr rfl)) (hd : (x == ("__debug__" : Str)) = false := by decide)
    (hcd : (x == ("__classdict__" : Str)) = false := by decide) : SE X Tb W (.Name x pos) (mVar i) := by
  refine se_weak (pe_var hN hv hd hcd) fun Λ φ ρ S σ H Q s e p => ?_
  unfold mVar at p
  split at p
  · rename_i w hw
    obtain ⟨v, h1, h2⟩ := e.2 i w hw
    exact ⟨v, h1, p φ v H (Lt.refl _) (TX.refl _) s h2⟩
  · exact p.elim
theorem se_c {e : Expr} {v : V} {w : U} (h : PE X e (tC v)) (r : ∀ Λ φ H, VR X.K Λ φ H w v) : SE X Tb W e (mC w) :=
  se_weak h fun Λ φ ρ S σ H Q s e p => p φ v H (Lt.refl _) (TX.refl _) s (r Λ φ H)
theorem se_int {i j pos} : SE X Tb W (.Constant (.int i) j pos) (mC (.int i)) := se_c pe_int fun _ _ _ => rfl
theorem se_bl {i j pos} : SE X Tb W (.Constant (.bool i) j pos) (mC (.bl i)) := se_c pe_bl fun _ _ _ => rfl
theorem se_non {j pos} : SE X Tb W (.Constant .none j pos) (mC .non) := se_c pe_non fun _ _ _ => rfl
theorem str_eta (x : Str) : (⟨x.cps.toList.toArray⟩ : Str) = x := by cases x; simp
theorem se_str {x : Str} {j pos} {l : List Nat} (h : x.cps.toList = l) : SE X Tb W (.Constant (.str x) j pos) (mC (.str l)) := se_c pe_str fun _ _ _ => by
  subst h
  show V.str x = V.str _
  rw [str_eta]
/-- a module's constant -/
theorem se_glob {x : Str} {v : V} {u : Value} {w : U} (hg : Gl X x) (hm : X.mg x = some u) (r : RelV v u) (rw : ∀ Λ φ H, VR X.K Λ φ H w v) (hd : (x == ("__debug__" : Str)) = false := by decide) : SE X Tb W (.Name x pos) (mC w) :=
  se_c (pe_glob hg hm r hd) rw

/-! ### operators of two values -/
abbrev Op2 := U → U → Store → Out U
def OpS (X : Cx) (Tb : Tbs) (f : Value → Value → Sem Value) (g : Op2) : Prop := ∃ r : R2, OpR X f r ∧ ∀ Λ φ S H w u x y (E : Value → Option Addr → Hp → Prop) Q, SR X.K X.mg Tb Λ φ S H → VR X.K Λ φ H w x → VR X.K Λ φ H u y →
  Post X.K X.mg Tb Λ (relV X.K Λ) E φ H (g w u S) Q → r x y H Q
def mBin (g : Op2) (ma mb : ME) : ME := fun ρ S => (ma ρ S).bind fun w S => (mb ρ S).bind fun u S => g w u S
theorem bin_ok {g : Op2} {r : R2} {W : WX} (hr : ∀ Λ φ S H w u x y (E : Value → Option Addr → Hp → Prop) Q, SR X.K X.mg Tb Λ φ S H → VR X.K Λ φ H w x → VR X.K Λ φ H u y → Post X.K X.mg Tb Λ (relV X.K Λ) E φ H (g w u S) Q → r x y H Q)
    {Λ φ ρ S σ H Q} (s : SR X.K X.mg Tb Λ φ S H) (e : ER X.K Λ φ H ρ σ) (p : Post X.K X.mg Tb Λ (relV X.K Λ) (fun c d H => W c d σ H) φ H (mBin g ma mb ρ S) Q) : tOp r (tS X.K X.mg Tb W ma) (tS X.K X.mg Tb W mb) σ H Q := by
  refine ⟨Λ, φ, ρ, S, s, e, (Post.bind p).imp fun v H1 ⟨φ1, w, S1, l1, t1, s1, r1, p1⟩ => ?_⟩
  refine ⟨Λ, φ1, ρ, S1, s1, e.mono l1 t1, (Post.bind p1).imp fun v2 H2 ⟨φ2, w2, S2, l2, t2, s2, r2, p2⟩ => ?_⟩
  exact hr Λ φ2 S2 H2 w w2 v v2 _ Q s2 (r1.mono l2 t2) r2 p2
theorem se_bin {op : Operator} {g : Op2} (ho : OpS X Tb (binaryOp op) g) (ha : SE X Tb W a ma) (hb : SE X Tb W b mb) : SE X Tb W (.BinOp a op b pos) (mBin g ma mb) := by
  obtain ⟨r, ho, hr⟩ := ho
  exact se_weak (pe_op ho ha.pe hb.pe) fun Λ φ ρ S σ H Q s e p => bin_ok hr s e p
theorem se_cmp {op : CmpOp} {g : Op2} (ho : OpS X Tb (compareOp op) g) (ha : SE X Tb W a ma) (hb : SE X Tb W b mb) (hm : behindInMarks op b = false) : SE X Tb W (.Compare a [op] [b] pos) (mBin g ma mb) := by
  obtain ⟨r, ho, hr⟩ := ho
  exact se_weak (pe_cmpR ho ha.pe hb.pe hm) fun Λ φ ρ S σ H Q s e p => bin_ok hr s e p
/-- a value that is True or False, as a test -/
def mB (m : ME) : MT := fun ρ S => (m ρ S).bind fun w S => match w with
  | .bl b => .ok b S
  | _ => .bad
theorem mB_ok {m : ME} {Λ φ ρ S σ H Q} (s : SR X.K X.mg Tb Λ φ S H) (e : ER X.K Λ φ H ρ σ) (p : Post X.K X.mg Tb Λ relB (fun c d H => W c d σ H) φ H (mB m ρ S) Q) :
    Post X.K X.mg Tb Λ (relV X.K Λ) (fun c d H => W c d σ H) φ H (m ρ S) fun v H1 => ∃ k, v = .bl k ∧ Q k H1 := by
  refine (Post.bind p).imp fun v H1 ⟨φ1, w, S1, l1, t1, s1, r1, p1⟩ => ?_
  cases w with
  | bl b => exact ⟨b, r1, p1 φ1 b H1 (Lt.refl _) (TX.refl _) s1 rfl⟩
  | _ => exact p1.elim
theorem st_cmp {op : CmpOp} {g : Op2} (ho : OpS X Tb (compareOp op) g) (ha : SE X Tb W a ma) (hb : SE X Tb W b mb) (hm : behindInMarks op b = false) : ST X Tb W (.Compare a [op] [b] pos) (mB (mBin g ma mb)) := by
  obtain ⟨r, ho, hr⟩ := ho
  refine st_weak (pt_cmpR ho ha.pe hb.pe hm) fun Λ φ ρ S σ H Q s e p => ?_
  show tOp r _ _ σ H _
  exact bin_ok hr s e (mB_ok s e p)
/-- a test by a call that gives True or False, a constant -/
theorem st_val {e : Expr} {m : ME} (h : SE X Tb W e m) (he : ∀ whole, isTrue e X.env whole = (do let v ← whole; standAt e.pos; holding [v] (truthy v)) := by intro _; rfl) : ST X Tb W e (mB m) := by
  refine st_weak (pt_val h.pe he) fun Λ φ ρ S σ H Q s e p => ?_
  exact ⟨Λ, φ, ρ, S, s, e, mB_ok s e p⟩
end

/-! ### the operators -/
def lim : Nat := 1000000
theorem lim_le : lim ≤ sizeLine := by rw [sizeLine_eq]; decide
theorem lim_lt {n : Nat} (h : n < lim) : n < sizeLine := Nat.lt_of_lt_of_le h lim_le
theorem lim_le' {n : Nat} (h : n ≤ lim) : n ≤ sizeLine := Nat.le_trans h lim_le
def small (i : Int) : Bool := decide (-(2 ^ 64) < i) && decide (i < 2 ^ 64)
/-- + -/
def oAdd : Op2
  | .int i, .int j, S => .ok (.int (i + j)) S
  | .str a, .str b, S => if a.length + b.length ≤ lim then .ok (.str (a ++ b)) S else .bad
  | .tup a, .tup b, S => if a.length + b.length ≤ lim then .ok (.tup (a ++ b)) S else .bad
  | .ref m, .ref n, S => (match S.get m, S.get n with
    | some ⟨.lst a, 0⟩, some ⟨.lst b, 0⟩ => if a.length + b.length ≤ lim then .ok (.ref S.n) (S.new (.lst (a ++ b))) else .bad
    | _, _ => .bad)
  | _, _, _ => .bad
section
variable {X : Cx} {Tb : Tbs}
theorem str_app (a b : List Nat) : (⟨a.toArray⟩ : Str) ++ (⟨b.toArray⟩ : Str) = ⟨(a ++ b).toArray⟩ := by
  show Str.append _ _ = _
  unfold Str.append
  simp
theorem str_len (a : List Nat) : (⟨a.toArray⟩ : Str).length = a.length := by simp [Str.length]
theorem os_add : OpS X Tb (binaryOp .Add) oAdd := by
  refine ⟨_, op_add.or (op_add_str.or (op_catA.or op_cat)), fun Λ φ S H w u x y E Q s rw ru p => ?_⟩
  unfold oAdd at p
  split at p
  · rename_i i j
    exact .inl ⟨i, j, rw, ru, p φ _ H (Lt.refl _) (TX.refl _) s rfl⟩
  · rename_i a b
    split at p
    · rename_i hl
      refine .inr (.inl ⟨_, _, rw, ru, ?_, ?_⟩)
      · rw [str_len, str_len]; exact lim_le' hl
      · rw [str_app]
        exact p φ _ H (Lt.refl _) (TX.refl _) s rfl
    · exact p.elim
  · rename_i a b
    split at p
    · rename_i hl
      obtain ⟨pa, vs, e1, h1, h2⟩ := rw
      obtain ⟨pb, us, e2, h3, h4⟩ := ru
      have l1 := h2.length
      have l2 := h4.length
      refine .inr (.inr (.inl ⟨pa, pb, vs, us, e1, e2, h1, h3, by rw [l1, l2]; exact lim_le' hl, fun z => ?_, fun _ z => ?_, fun _ _ q hq => ?_⟩))
      · have e0 : a = [] := List.eq_nil_of_length_eq_zero (by rw [← l1, z]; rfl)
        exact p φ _ H (Lt.refl _) (TX.refl _) s ⟨pb, us, rfl, h3, by rw [e0]; exact h4⟩
      · have e0 : b = [] := List.eq_nil_of_length_eq_zero (by rw [← l2, z]; rfl)
        exact p φ _ H (Lt.refl _) (TX.refl _) s ⟨pa, vs, rfl, h1, by rw [e0, List.append_nil]; exact h2⟩
      · exact p φ _ _ (Lt.refl _) (TX.new hq) (s.gar hq _) ⟨q, vs ++ us, rfl, .inl (.inl upd_same), (h2.mono (Lt.refl _) (TX.new hq)).app (h4.mono (Lt.refl _) (TX.new hq))⟩
    · exact p.elim
  · rename_i m n
    split at p
    · rename_i a b h1 h2
      split at p
      · rename_i hl
        obtain ⟨p1, vs, f1, _, r1, q1⟩ := s.lst h1
        obtain ⟨p2, us, f2, _, r2, q2⟩ := s.lst h2
        obtain ⟨p1', e1, f1'⟩ := rw
        obtain ⟨p2', e2, f2'⟩ := ru
        rw [f1] at f1'; cases f1'
        rw [f2] at f2'; cases f2'
        have l1 := r1.length
        have l2 := r2.length
        refine .inr (.inr (.inr ⟨p1, p2, vs, us, e1, e2, q1 rfl, q2 rfl, by rw [l1, l2]; exact lim_le' hl, fun q hq => ?_⟩))
        exact p _ _ _ (Map.lt_at s) (TX.new hq) (s.mk_lst hq (r1.app r2)) VR.new
      · exact p.elim
    · exact p.elim
  · exact p.elim
def oSub : Op2
  | .int i, .int j, S => .ok (.int (i - j)) S
  | _, _, _ => .bad
theorem os_sub : OpS X Tb (binaryOp .Sub) oSub := by
  refine ⟨_, op_sub, fun Λ φ S H w u x y E Q s rw ru p => ?_⟩
  unfold oSub at p
  split at p
  · rename_i i j
    exact ⟨i, j, rw, ru, p φ _ H (Lt.refl _) (TX.refl _) s rfl⟩
  · exact p.elim
theorem small_ok {i : Int} (h : small i = true) : -(2 ^ 64) < i ∧ i < 2 ^ 64 := by
  unfold small at h
  simp only [Bool.and_eq_true, decide_eq_true_eq] at h
  exact h
def oMul : Op2
  | .int i, .int j, S => if (small i || small j) = true then .ok (.int (i * j)) S else .bad
  | .ref m, .int k, S => (match S.get m with
    | some ⟨.lst a, 0⟩ => if -(2 ^ 63) ≤ k ∧ k < 2 ^ 63 ∧ a.length * k.toNat ≤ lim then .ok (.ref S.n) (S.new (.lst (List.replicate k.toNat a).flatten)) else .bad
    | _ => .bad)
  | _, _, _ => .bad
theorem VRs.rep {K Λ φ H} {ws : List U} {vs : List V} (h : VRs K Λ φ H ws vs) : ∀ k : Nat, VRs K Λ φ H (List.replicate k ws).flatten (List.replicate k vs).flatten
  | 0 => rfl
  | k + 1 => by
    simp only [List.replicate_succ, List.flatten_cons]
    exact h.app (VRs.rep h k)
theorem os_mul : OpS X Tb (binaryOp .Mult) oMul := by
  refine ⟨_, op_mul.or op_rep, fun Λ φ S H w u x y E Q s rw ru p => ?_⟩
  unfold oMul at p
  split at p
  · rename_i i j
    split at p
    · rename_i h
      refine .inl ⟨i, j, rw, ru, ?_, p φ _ H (Lt.refl _) (TX.refl _) s rfl⟩
      rcases Bool.or_eq_true_iff.mp h with h | h
      · exact .inl (small_ok h)
      · exact .inr (small_ok h)
    · exact p.elim
  · rename_i m k
    split at p
    · rename_i a h1
      split at p
      · rename_i h
        obtain ⟨p1, vs, f1, _, r1, q1⟩ := s.lst h1
        obtain ⟨p1', e1, f1'⟩ := rw
        rw [f1] at f1'; cases f1'
        refine .inr ⟨p1, k, vs, e1, ru, q1 rfl, h.1, h.2.1, by rw [r1.length]; exact lim_le' h.2.2, fun q hq => ?_⟩
        exact p _ _ _ (Map.lt_at s) (TX.new hq) (s.mk_lst hq (r1.rep _)) VR.new
      · exact p.elim
    · exact p.elim
  · exact p.elim
def oDiv : Op2
  | .int i, .int j, S => if 0 < j ∧ j < 1073741824 then .ok (.int (i / j)) S else if j ≠ 0 ∧ j.natAbs < 1073741824 then .ok (.int (i.fdiv j)) S else .bad
  | _, _, _ => .bad
theorem os_div : OpS X Tb (binaryOp .FloorDiv) oDiv := by
  refine ⟨_, op_fdiv.or op_fdivN, fun Λ φ S H w u x y E Q s rw ru p => ?_⟩
  unfold oDiv at p
  split at p
  · rename_i i j
    split at p
    · rename_i h
      exact .inl ⟨i, j, rw, ru, h, p φ _ H (Lt.refl _) (TX.refl _) s rfl⟩
    · split at p
      · rename_i h
        exact .inr ⟨i, j, rw, ru, h, p φ _ H (Lt.refl _) (TX.refl _) s rfl⟩
      · exact p.elim
  · exact p.elim
def oMod : Op2
  | .int i, .int j, S => if 0 < j then .ok (.int (i % j)) S else if j ≠ 0 then .ok (.int (i.fmod j)) S else .bad
  | _, _, _ => .bad
theorem os_mod : OpS X Tb (binaryOp .Mod) oMod := by
  refine ⟨_, op_mod.or op_modN, fun Λ φ S H w u x y E Q s rw ru p => ?_⟩
  unfold oMod at p
  split at p
  · rename_i i j
    split at p
    · rename_i h
      exact .inl ⟨i, j, rw, ru, h, p φ _ H (Lt.refl _) (TX.refl _) s rfl⟩
    · split at p
      · rename_i h
        exact .inr ⟨i, j, rw, ru, h, p φ _ H (Lt.refl _) (TX.refl _) s rfl⟩
      · exact p.elim
  · exact p.elim
def oPow : Op2
  | .int i, .int j, S => if 0 ≤ j ∧ j ≤ 1000000 ∧ i.natAbs < 2 ^ 64 then .ok (.int (i ^ j.toNat)) S else .bad
  | _, _, _ => .bad
theorem os_pow : OpS X Tb (binaryOp .Pow) oPow := by
  refine ⟨_, op_pow, fun Λ φ S H w u x y E Q s rw ru p => ?_⟩
  unfold oPow at p
  split at p
  · rename_i i j
    split at p
    · rename_i h
      exact ⟨i, j, rw, ru, h, p φ _ H (Lt.refl _) (TX.refl _) s rfl⟩
    · exact p.elim
  · exact p.elim
/-! order -/
def oInt (f : Int → Int → Bool) : Op2
  | .int i, .int j, S => .ok (.bl (f i j)) S
  | _, _, _ => .bad
theorem os_int {op : CmpOp} {f : Int → Int → Bool} (h : OpR X (compareOp op) (rI0 fun i j => .bl (f i j))) : OpS X Tb (compareOp op) (oInt f) := by
  refine ⟨_, h, fun Λ φ S H w u x y E Q s rw ru p => ?_⟩
  unfold oInt at p
  split at p
  · rename_i i j
    exact ⟨i, j, rw, ru, p φ _ H (Lt.refl _) (TX.refl _) s rfl⟩
  · exact p.elim
theorem os_lt : OpS X Tb (compareOp .Lt) (oInt fun i j => decide (i < j)) := os_int op_lt
theorem os_le : OpS X Tb (compareOp .LtE) (oInt fun i j => decide (i ≤ j)) := os_int op_le
theorem os_gt : OpS X Tb (compareOp .Gt) (oInt fun i j => decide (j < i)) := os_int op_gt
theorem os_ge : OpS X Tb (compareOp .GtE) (oInt fun i j => decide (j ≤ i)) := os_int op_ge
/-! is None -/
def oIsN : Op2 := fun w u S => match u with
  | .non => (match w with
    | .non => .ok (.bl true) S
    | _ => .ok (.bl false) S)
  | _ => .bad
def oNotN : Op2 := fun w u S => match u with
  | .non => (match w with
    | .non => .ok (.bl false) S
    | _ => .ok (.bl true) S)
  | _ => .bad
theorem VR.ne_non {K Λ φ H} {w : U} {x : V} (h : VR K Λ φ H w x) (hw : w ≠ .non) : x ≠ .non := by
  cases w with
  | non => exact absurd rfl hw
  | bl b => rw [show x = V.bl b from h]; intro z; cases z
  | int b => rw [show x = V.int b from h]; intro z; cases z
  | str b => rw [show x = V.str _ from h]; intro z; cases z
  | tup b => obtain ⟨_, _, e, _⟩ := h; rw [e]; intro z; cases z
  | ref b => obtain ⟨_, e, _⟩ := h; rw [e]; intro z; cases z
  | lam b => obtain ⟨_, e, _⟩ := h; rw [e]; intro z; cases z
  | lsq b => obtain ⟨_, _, e, _⟩ := h; rw [e]; intro z; cases z
theorem os_isN : OpS X Tb (compareOp .Is) oIsN := by
  refine ⟨_, op_isN, fun Λ φ S H w u x y E Q s rw ru p => ?_⟩
  unfold oIsN at p
  split at p
  · refine ⟨ru, ?_⟩
    split at p
    · rw [show x = V.non from rw]
      exact p φ _ H (Lt.refl _) (TX.refl _) s rfl
    · rename_i h
      rw [decide_eq_false (rw.ne_non h)]
      exact p φ _ H (Lt.refl _) (TX.refl _) s rfl
  · exact p.elim
theorem os_notN : OpS X Tb (compareOp .IsNot) oNotN := by
  refine ⟨_, op_notN, fun Λ φ S H w u x y E Q s rw ru p => ?_⟩
  unfold oNotN at p
  split at p
  · refine ⟨ru, ?_⟩
    split at p
    · rw [show x = V.non from rw]
      exact p φ _ H (Lt.refl _) (TX.refl _) s rfl
    · rename_i h
      rw [decide_eq_false (rw.ne_non h)]
      exact p φ _ H (Lt.refl _) (TX.refl _) s rfl
  · exact p.elim
end
end Sm
/-! text Sm3 -/
namespace Sm
open PySem PySem.Spec PyProof.Rows L2
/-! ### == -/
section
variable (go : Nat → Option PyData)
mutual
/-- a value as data; go: what an object is -/
def toD1 : U → Option PyData
  | .non => some .none
  | .bl b => some (.bool b)
  | .int i => some (.int i)
  | .str l => some (.str ⟨l.toArray⟩)
  | .tup ws => (toDs1 ws).map .tuple
  | .ref n => go n
  | .lam _ => none
  | .lsq ws => (toDs1 ws).map .list
def toDs1 : List U → Option (List PyData)
  | [] => some []
  | w :: ws => match toD1 w, toDs1 ws with
    | some d, some ds => some (d :: ds)
    | _, _ => none
end
end
def goD (S : Store) : Nat → Nat → Option PyData
  | 0, _ => none
  | f + 1, n => match S.get n with
    | some ⟨.lst ws, _⟩ => (toDs1 (goD S f) ws).map .list
    | _ => none
def toD (S : Store) (w : U) : Option PyData := toD1 (goD S 8) w
section
variable {K : PySem.W.Frag} {Λ : Lam} {φ : Map} {H : Hp} {go : Nat → Option PyData} (hg : ∀ n d v, go n = some d → VR K Λ φ H (.ref n) v → Dp K H v d)
include hg
mutual
theorem toD1_ok : ∀ {w : U} {v : V} {d : PyData}, toD1 go w = some d → VR K Λ φ H w v → Dp K H v d
  | .non, v, d, e, r => by
    simp only [toD1, Option.some.injEq] at e; subst e
    rw [show v = V.non from r]; exact .non
  | .bl b, v, d, e, r => by
    simp only [toD1, Option.some.injEq] at e; subst e
    rw [show v = V.bl b from r]; exact .bl b
  | .int b, v, d, e, r => by
    simp only [toD1, Option.some.injEq] at e; subst e
    rw [show v = V.int b from r]; exact .int b
  | .str b, v, d, e, r => by
    simp only [toD1, Option.some.injEq] at e; subst e
    rw [show v = V.str _ from r]; exact .str _
  | .tup ws, v, d, e, r => by
    simp only [toD1] at e
    obtain ⟨ds, e1, e2⟩ := Option.map_eq_some_iff.mp e
    obtain ⟨a, vs, rfl, h1, h2⟩ := r
    subst e2
    exact .tup h1 (toDs1_ok e1 h2)
  | .ref n, v, d, e, r => hg n d v (by simpa only [toD1] using e) r
  | .lam n, v, d, e, r => by simp [toD1] at e
  | .lsq ws, v, d, e, r => by
    simp only [toD1] at e
    obtain ⟨ds, e1, e2⟩ := Option.map_eq_some_iff.mp e
    obtain ⟨a, vs, rfl, h1, h2⟩ := r
    subst e2
    exact .lst h1.sq (toDs1_ok e1 h2)
theorem toDs1_ok : ∀ {ws : List U} {vs : List V} {ds : List PyData}, toDs1 go ws = some ds → VRs K Λ φ H ws vs → DpAll K H vs ds
  | [], vs, ds, e, r => by
    simp only [toDs1, Option.some.injEq] at e; subst e
    rw [show vs = [] from r]; exact .nil
  | w :: ws, vs, ds, e, r => by
    obtain ⟨v, r', rfl, h1, h2⟩ := r
    simp only [toDs1] at e
    split at e
    · rename_i d ds' e1 e2
      cases e
      exact .cons (toD1_ok e1 h1) (toDs1_ok e2 h2)
    · cases e
end
end
theorem goD_ok {K : PySem.W.Frag} {mg : Str → Option Value} {Tb : Tbs} {Λ : Lam} {φ : Map} {S : Store} {H : Hp} (s : SR K mg Tb Λ φ S H) : ∀ (f n : Nat) (d : PyData) (v : V), goD S f n = some d → VR K Λ φ H (.ref n) v → Dp K H v d
  | 0, _, _, _, e, _ => by simp [goD] at e
  | f + 1, n, d, v, e, r => by
    simp only [goD] at e
    split at e
    · rename_i ws lk h1
      obtain ⟨ds, e1, e2⟩ := Option.map_eq_some_iff.mp e
      obtain ⟨a, vs, f1, f2, f3, _⟩ := s.lst h1
      obtain ⟨a', e', f1'⟩ := r
      rw [f1] at f1'; cases f1'
      subst e2 e'
      exact .lst f2 (toDs1_ok (goD_ok s f) e1 f3)
    · cases e
theorem toD_ok {K : PySem.W.Frag} {mg : Str → Option Value} {Tb : Tbs} {Λ : Lam} {φ : Map} {S : Store} {H : Hp} (s : SR K mg Tb Λ φ S H) {w : U} {v : V} {d : PyData} (e : toD S w = some d) (r : VR K Λ φ H w v) : Dp K H v d :=
  toD1_ok (goD_ok s 8) e r
/-- == -/
def uEq (S : Store) : U → U → Option Bool
  | .int i, .int j => some (decide (i = j))
  | .str i, .str j => some (decide (i = j))
  | .bl i, .bl j => some (decide (i = j))
  | .non, .non => some true
  | w, u => match toD S w, toD S u with
    | some d, some e => if (SeqAt.shaped d && SeqAt.shaped e) = true then some (PyData.eqv d e) else none
    | _, _ => none
def oEq : Op2 := fun w u S => match uEq S w u with
  | some b => .ok (.bl b) S
  | none => .bad
def oNe : Op2 := fun w u S => match uEq S w u with
  | some b => .ok (.bl (!b)) S
  | none => .bad
section
variable {X : Cx} {Tb : Tbs}
theorem str_inj {a b : List Nat} (h : (⟨a.toArray⟩ : Str) = ⟨b.toArray⟩) : a = b := by
  have h2 : a.toArray = b.toArray := congrArg Str.cps h
  simpa using congrArg Array.toList h2
theorem dec_strs (a b : List Nat) : decide (V.str ⟨a.toArray⟩ = V.str ⟨b.toArray⟩) = decide (a = b) := by
  by_cases e : a = b
  · subst e; simp
  · rw [decide_eq_false e, decide_eq_false]
    intro z; injection z with z1
    exact e (str_inj z1)
theorem uEq_ok {K : PySem.W.Frag} {mg : Str → Option Value} {Λ : Lam} {φ : Map} {S : Store} {H : Hp} (s : SR K mg Tb Λ φ S H) {w u : U} {x y : V} {b : Bool} (rw_ : VR K Λ φ H w x) (ru : VR K Λ φ H u y) (h : uEq S w u = some b) :
    (scal x y = true ∧ decide (x = y) = b) ∨ ∃ d e, Dp K H x d ∧ Dp K H y e ∧ SeqAt.shaped d = true ∧ SeqAt.shaped e = true ∧ PyData.eqv d e = b := by
  unfold uEq at h
  split at h
  · rename_i i j
    rw [show x = V.int i from rw_, show y = V.int j from ru]
    cases h
    exact .inl ⟨rfl, by by_cases e : i = j <;> simp [e]⟩
  · rename_i i j
    rw [show x = V.str _ from rw_, show y = V.str _ from ru]
    cases h
    exact .inl ⟨rfl, dec_strs i j⟩
  · rename_i i j
    rw [show x = V.bl i from rw_, show y = V.bl j from ru]
    cases h
    exact .inl ⟨rfl, by by_cases e : i = j <;> simp [e]⟩
  · rw [show x = V.non from rw_, show y = V.non from ru]
    cases h
    exact .inl ⟨rfl, by simp⟩
  · split at h
    · rename_i d e h1 h2
      split at h
      · rename_i h3
        cases h
        obtain ⟨h4, h5⟩ := Bool.and_eq_true_iff.mp h3
        exact .inr ⟨d, e, toD_ok s h1 rw_, toD_ok s h2 ru, h4, h5, rfl⟩
      · cases h
    · cases h
theorem os_eq (hu : X.A.units + 64 < cLine) : OpS X Tb (compareOp .Eq) oEq := by
  refine ⟨_, op_eq.or (op_eqD hu), fun Λ φ S H w u x y E Q s rw ru p => ?_⟩
  unfold oEq at p
  split at p
  · rename_i b h
    have q := p φ (.bl b) H (Lt.refl _) (TX.refl _) s rfl
    rcases uEq_ok s rw ru h with ⟨h1, h2⟩ | ⟨d, e, h1, h2, h3, h4, h5⟩
    · subst h2; exact .inl ⟨h1, q⟩
    · subst h5; exact .inr ⟨d, e, h1, h2, h3, h4, q⟩
  · exact p.elim
theorem os_ne (hu : X.A.units + 64 < cLine) : OpS X Tb (compareOp .NotEq) oNe := by
  refine ⟨_, op_ne.or (op_neD hu), fun Λ φ S H w u x y E Q s rw ru p => ?_⟩
  unfold oNe at p
  split at p
  · rename_i b h
    have q := p φ (.bl (!b)) H (Lt.refl _) (TX.refl _) s rfl
    rcases uEq_ok s rw ru h with ⟨h1, h2⟩ | ⟨d, e, h1, h2, h3, h4, h5⟩
    · subst h2; exact .inl ⟨h1, q⟩
    · subst h5; exact .inr ⟨d, e, h1, h2, h3, h4, q⟩
  · exact p.elim
end
/-! ### in -/
def flatU : U → Bool
  | .non => true | .bl _ => true | .int _ => true | .str _ => true
  | _ => false
def eqF : U → U → Bool
  | .non, .non => true
  | .bl a, .bl b => a == b
  | .bl a, .int b => (if a then 1 else 0) == b
  | .int a, .bl b => a == (if b then 1 else 0)
  | .int a, .int b => decide (a = b)
  | .str a, .str b => decide (a = b)
  | _, _ => false
def memU (w : U) (ws : List U) : Bool := ws.any fun u => eqF u w
theorem flat_ok {K Λ φ H} {w : U} {x : V} (h : VR K Λ φ H w x) (f : flatU w = true) : flatV x = true := by
  cases w with
  | non => rw [show x = V.non from h]; rfl
  | bl b => rw [show x = V.bl b from h]; rfl
  | int b => rw [show x = V.int b from h]; rfl
  | str b => rw [show x = V.str _ from h]; rfl
  | _ => cases f
theorem eqF_ok {K Λ φ H} {w u : U} {x y : V} (h : VR K Λ φ H w x) (h' : VR K Λ φ H u y) (f : flatU w = true) (f' : flatU u = true) : eqV x y = eqF w u := by
  cases w with
  | non =>
    rw [show x = V.non from h]
    cases u with
    | non => rw [show y = V.non from h']; rfl
    | bl b => rw [show y = V.bl b from h']; rfl
    | int b => rw [show y = V.int b from h']; rfl
    | str b => rw [show y = V.str _ from h']; rfl
    | _ => cases f'
  | bl a =>
    rw [show x = V.bl a from h]
    cases u with
    | non => rw [show y = V.non from h']; rfl
    | bl b => rw [show y = V.bl b from h']; rfl
    | int b => rw [show y = V.int b from h']; rfl
    | str b => rw [show y = V.str _ from h']; rfl
    | _ => cases f'
  | int a =>
    rw [show x = V.int a from h]
    cases u with
    | non => rw [show y = V.non from h']; rfl
    | bl b => rw [show y = V.bl b from h']; rfl
    | int b => rw [show y = V.int b from h']; exact (Bool.beq_eq_decide_eq a b)
    | str b => rw [show y = V.str _ from h']; rfl
    | _ => cases f'
  | str a =>
    rw [show x = V.str _ from h]
    cases u with
    | non => rw [show y = V.non from h']; rfl
    | bl b => rw [show y = V.bl b from h']; rfl
    | int b => rw [show y = V.int b from h']; rfl
    | str b =>
      rw [show y = V.str _ from h']
      show ((⟨a.toArray⟩ : Str) == ⟨b.toArray⟩) = decide (a = b)
      rw [← dec_strs a b, dec_str]
    | _ => cases f'
  | _ => cases f
theorem flats_ok {K Λ φ H} : ∀ {ws : List U} {vs : List V}, VRs K Λ φ H ws vs → ws.all flatU = true → vs.all flatV = true
  | [], _, h, _ => by subst h; rfl
  | w :: ws, _, h, f => by
    obtain ⟨v, r, rfl, h1, h2⟩ := h
    rw [List.all_cons, Bool.and_eq_true] at f
    rw [List.all_cons, flat_ok h1 f.1, flats_ok h2 f.2]; rfl
theorem mem_ok {K Λ φ H} {w : U} {x : V} (hw : VR K Λ φ H w x) (fw : flatU w = true) : ∀ {ws : List U} {vs : List V}, VRs K Λ φ H ws vs → ws.all flatU = true → inV x vs = memU w ws
  | [], _, h, _ => by subst h; rfl
  | u :: ws, _, h, f => by
    obtain ⟨v, r, rfl, h1, h2⟩ := h
    rw [List.all_cons, Bool.and_eq_true] at f
    show (eqV v x || inV x r) = (eqF u w || memU w ws)
    rw [eqF_ok h1 hw f.1 fw, mem_ok hw fw h2 f.2]
/-- a text in a text -/
def inS (a b : List Nat) : Bool := match a with
  | [c] => decide (c ∈ b)
  | _ => !(Builtin.Str.occurrences ⟨b.toArray⟩ ⟨a.toArray⟩ 0 b.length 1).isEmpty
def uIn (S : Store) (w u : U) : Option Bool := match w, u with
  | .str a, .str b => some (inS a b)
  | w, .tup ws => if (flatU w && ws.all flatU) = true then some (memU w ws) else none
  | w, .ref n => (match S.get n with
    | some ⟨.lst ws, _⟩ => if (flatU w && ws.all flatU) = true then some (memU w ws) else none
    | some ⟨.dK kvs, _⟩ => (match uKey w with
      | some k => some (getK kvs k).isSome
      | none => none)
    | _ => none)
  | _, _ => none
def oIn : Op2 := fun w u S => match uIn S w u with
  | some b => .ok (.bl b) S
  | none => .bad
def oNotIn : Op2 := fun w u S => match uIn S w u with
  | some b => .ok (.bl (!b)) S
  | none => .bad
def rDIn (neg : Bool) : R2 := fun x y H Q => ∃ a o, y = .ref a ∧ DGet H a x o ∧ Q (.bl (if neg = true then !o.isSome else o.isSome)) H
theorem key_ok {K Λ φ H} {w : U} {x : V} {k : Ky} (h : VR K Λ φ H w x) (e : uKey w = some k) : x = kV k.k := by
  cases w with
  | int i => cases e; exact h
  | str l => cases e; exact h
  | _ => cases e
section
variable {X : Cx} {Tb : Tbs}
theorem op_din (hu : X.A.units + 1 < cLine) : OpR X (compareOp .In) (rDIn false) := by
  intro pins s σ H x y v u Q I rx ry h
  obtain ⟨a, o, rfl, g, q⟩ := h
  cases ry
  exact d_in hu I g rx fun s3 I3 => ⟨.bl o.isSome, H, I3, rfl, q⟩
theorem op_dnotin (hu : X.A.units + 1 < cLine) : OpR X (compareOp .NotIn) (rDIn true) := by
  intro pins s σ H x y v u Q I rx ry h
  obtain ⟨a, o, rfl, g, q⟩ := h
  cases ry
  exact d_notIn hu I g rx fun s3 I3 => ⟨.bl (!o.isSome), H, I3, rfl, q⟩
def rInS2 (neg : Bool) : R2 := fun x y H Q => (∃ i j, x = .str i ∧ y = .str j ∧ Q (.bl (if neg = true then !(!(Builtin.Str.occurrences j i 0 j.length 1).isEmpty) else !(Builtin.Str.occurrences j i 0 j.length 1).isEmpty)) H) ∨
  ∃ (c : Nat) (z : Str), x = .str ⟨#[c]⟩ ∧ y = .str z ∧ Q (.bl (if neg = true then !decide (c ∈ z.cps.toList) else decide (c ∈ z.cps.toList))) H
theorem inS_ok {a b : List Nat} {H : Hp} {Q : VK} {neg : Bool} (q : Q (.bl (if neg = true then !inS a b else inS a b)) H) : rInS2 neg (.str ⟨a.toArray⟩) (.str ⟨b.toArray⟩) H Q := by
  have gen : ∀ {a : List Nat}, Q (.bl (if neg = true then !(!(Builtin.Str.occurrences ⟨b.toArray⟩ ⟨a.toArray⟩ 0 b.length 1).isEmpty) else !(Builtin.Str.occurrences ⟨b.toArray⟩ ⟨a.toArray⟩ 0 b.length 1).isEmpty)) H → rInS2 neg (.str ⟨a.toArray⟩) (.str ⟨b.toArray⟩) H Q := fun {a} q =>
    .inl ⟨_, _, rfl, rfl, by rw [str_len]; exact q⟩
  cases a with
  | nil => exact gen q
  | cons c t =>
    cases t with
    | nil => exact .inr ⟨c, ⟨b.toArray⟩, rfl, rfl, by simpa [inS] using q⟩
    | cons d t => exact gen q
theorem uIn_ok {K : PySem.W.Frag} {mg : Str → Option Value} {Λ : Lam} {φ : Map} {S : Store} {H : Hp} (s : SR K mg Tb Λ φ S H) {w u : U} {x y : V} {b neg : Bool} {Q : VK} (rw_ : VR K Λ φ H w x) (ru : VR K Λ φ H u y) (h : uIn S w u = some b)
    (q : Q (.bl (if neg = true then !b else b)) H) : rInS2 neg x y H Q ∨ rIn K neg x y H Q ∨ rDIn neg x y H Q := by
  unfold uIn at h
  split at h
  · rename_i a b'
    cases h
    rw [show x = V.str _ from rw_, show y = V.str _ from ru]
    exact .inl (inS_ok q)
  · rename_i ws _
    split at h
    · rename_i hf
      cases h
      obtain ⟨f1, f2⟩ := Bool.and_eq_true_iff.mp hf
      obtain ⟨a, vs, rfl, h1, h2⟩ := ru
      exact .inr (.inl ⟨a, vs, rfl, .inr h1, flat_ok rw_ f1, flats_ok h2 f2, by rw [mem_ok rw_ f1 h2 f2]; exact q⟩)
    · cases h
  · rename_i n _
    split at h
    · rename_i ws lk h1
      split at h
      · rename_i hf
        cases h
        obtain ⟨f1, f2⟩ := Bool.and_eq_true_iff.mp hf
        obtain ⟨a, vs, g1, g2, g3, _⟩ := s.lst h1
        obtain ⟨a', rfl, g1'⟩ := ru
        rw [g1] at g1'; cases g1'
        exact .inr (.inl ⟨a, vs, rfl, .inl g2, flat_ok rw_ f1, flats_ok g3 f2, by rw [mem_ok rw_ f1 g3 f2]; exact q⟩)
      · cases h
    · rename_i kvs lk h1
      split at h
      · rename_i k hk
        cases h
        obtain ⟨a, vs, g1, g2, g3, _⟩ := s.dK h1
        obtain ⟨a', rfl, g1'⟩ := ru
        rw [g1] at g1'; cases g1'
        have gs := KR.getS (fun _ _ => Ky.inj) (k := k) g3
        refine .inr (.inr ⟨a, valV vs k.k, rfl, .inl ⟨vs, k.k, g2, key_ok rw_ hk, rfl⟩, ?_⟩)
        cases hq : getK kvs k with
        | some w' =>
          rw [hq] at gs q
          obtain ⟨v', e1, _⟩ := gs
          rw [e1]; exact q
        | none =>
          rw [hq] at gs q
          rw [show valV vs k.k = none from gs]; exact q
      · cases h
    · cases h
  · cases h
theorem os_in (hu : X.A.units + 64 < cLine) : OpS X Tb (compareOp .In) oIn := by
  refine ⟨_, OpR.or (r := rInS2 false) ?_ (op_in_seq.or (op_din (Nat.lt_of_le_of_lt (Nat.add_le_add_left (by decide : 1 ≤ 64) _) hu))), fun Λ φ S H w u x y E Q s rw ru p => ?_⟩
  · exact op_in_str.or op_in_sign
  · unfold oIn at p
    split at p
    · rename_i b h
      exact uIn_ok s rw ru h (neg := false) (p φ (.bl b) H (Lt.refl _) (TX.refl _) s rfl)
    · exact p.elim
theorem os_notIn (hu : X.A.units + 64 < cLine) : OpS X Tb (compareOp .NotIn) oNotIn := by
  refine ⟨_, OpR.or (r := rInS2 true) ?_ (op_notIn_seq.or (op_dnotin (Nat.lt_of_le_of_lt (Nat.add_le_add_left (by decide : 1 ≤ 64) _) hu))), fun Λ φ S H w u x y E Q s rw ru p => ?_⟩
  · exact op_notIn_str.or op_notIn_sign
  · unfold oNotIn at p
    split at p
    · rename_i b h
      exact uIn_ok s rw ru h (neg := true) (p φ (.bl (!b)) H (Lt.refl _) (TX.refl _) s rfl)
    · exact p.elim
end

/-! ### and, or, not, if else, chains -/
structure SW (X : Cx) (Tb : Tbs) (W : WX) (e : Expr) (m : MT) : Prop where
  pw : PW X e (tST X.K X.mg Tb W m)
def mAnd (m n : MT) : MT := fun ρ S => (m ρ S).bind fun b S => match b with
  | true => n ρ S
  | false => .ok false S
def mOr (m n : MT) : MT := fun ρ S => (m ρ S).bind fun b S => match b with
  | true => .ok true S
  | false => n ρ S
def mNot (m : MT) : MT := fun ρ S => (m ρ S).bind fun b S => .ok (!b) S
def mIf (m : MT) (a b : ME) : ME := fun ρ S => (m ρ S).bind fun c S => match c with
  | true => a ρ S
  | false => b ρ S
def mAndV (m n : ME) : ME := fun ρ S => (m ρ S).bind fun b S => match b with
  | .bl true => n ρ S
  | .bl false => .ok (.bl false) S
  | _ => .bad
def mOrV (m n : ME) : ME := fun ρ S => (m ρ S).bind fun b S => match b with
  | .bl true => .ok (.bl true) S
  | .bl false => n ρ S
  | _ => .bad
def mNotV (m : ME) : ME := fun ρ S => (m ρ S).bind fun b S => match b with
  | .bl b => .ok (.bl (!b)) S
  | _ => .bad
def mChain (g g' : Op2) (ma mb mc : ME) : ME := fun ρ S => (ma ρ S).bind fun w S => (mb ρ S).bind fun u S => (g w u S).bind fun z S => match z with
  | .bl true => (mc ρ S).bind fun t S => g' u t S
  | .bl false => .ok (.bl false) S
  | _ => .bad
section
variable {X : Cx} {Tb : Tbs} {W : WX} {pos : Pos} {a b c : Expr} {rest : List Expr} {m n : MT} {ma mb mc : ME}
theorem SW.st (h : SW X Tb W a m) : ST X Tb W a m := ⟨h.pw.pt⟩
theorem PW_weak {e : Expr} {t t' : TT} (h : PW X e t) (q : ∀ σ H Q, t' σ H Q → t σ H Q) : PW X e t' := ⟨fun wh pins s σ H Q I x => h.run wh pins s σ H Q I (q σ H Q x)⟩
theorem sw_and1 (h : ST X Tb W a m) : SW X Tb W (.BoolOp .And [a] pos) m := ⟨pw_and1 h.pt⟩
theorem sw_or1 (h : ST X Tb W a m) : SW X Tb W (.BoolOp .Or [a] pos) m := ⟨pw_or1 h.pt⟩
theorem sw_and (h : ST X Tb W a m) (h' : SW X Tb W (.BoolOp .And (b :: rest) pos) n) : SW X Tb W (.BoolOp .And (a :: b :: rest) pos) (mAnd m n) := by
  refine ⟨PW_weak (pw_and h.pt h'.pw) fun σ H Q ⟨Λ, φ, ρ, S, s, e, p⟩ => ?_⟩
  refine ⟨Λ, φ, ρ, S, s, e, (Post.bind p).imp fun c H1 ⟨φ1, k, S1, l1, t1, s1, r1, p1⟩ => ?_⟩
  cases r1
  cases c with
  | true => exact iteT ⟨Λ, φ1, ρ, S1, s1, e.mono l1 t1, p1⟩
  | false => exact iteF (p1 φ1 false H1 (Lt.refl _) (TX.refl _) s1 rfl)
theorem sw_or (h : ST X Tb W a m) (h' : SW X Tb W (.BoolOp .Or (b :: rest) pos) n) : SW X Tb W (.BoolOp .Or (a :: b :: rest) pos) (mOr m n) := by
  refine ⟨PW_weak (pw_or h.pt h'.pw) fun σ H Q ⟨Λ, φ, ρ, S, s, e, p⟩ => ?_⟩
  refine ⟨Λ, φ, ρ, S, s, e, (Post.bind p).imp fun c H1 ⟨φ1, k, S1, l1, t1, s1, r1, p1⟩ => ?_⟩
  cases r1
  cases c with
  | false => exact iteF ⟨Λ, φ1, ρ, S1, s1, e.mono l1 t1, p1⟩
  | true => exact iteT (p1 φ1 true H1 (Lt.refl _) (TX.refl _) s1 rfl)
theorem st_not (h : ST X Tb W a m) : ST X Tb W (.UnaryOp .Not a pos) (mNot m) := by
  refine st_weak (pt_not h.pt) fun Λ φ ρ S σ H Q s e p => ?_
  refine ⟨Λ, φ, ρ, S, s, e, (Post.bind p).imp fun c H1 ⟨φ1, k, S1, l1, t1, s1, r1, p1⟩ => ?_⟩
  cases r1
  exact p1 φ1 (!c) H1 (Lt.refl _) (TX.refl _) s1 rfl
theorem se_if (hc : ST X Tb W c m) (ha : SE X Tb W a ma) (hb : SE X Tb W b mb) : SE X Tb W (.IfExp c a b pos) (mIf m ma mb) := by
  refine se_weak (pe_ifExp hc.pt ha.pe hb.pe) fun Λ φ ρ S σ H Q s e p => ?_
  refine ⟨Λ, φ, ρ, S, s, e, (Post.bind p).imp fun c H1 ⟨φ1, k, S1, l1, t1, s1, r1, p1⟩ => ?_⟩
  cases r1
  cases c with
  | true => exact iteT ⟨Λ, φ1, ρ, S1, s1, e.mono l1 t1, p1⟩
  | false => exact iteF ⟨Λ, φ1, ρ, S1, s1, e.mono l1 t1, p1⟩
theorem se_one {op} (h : SE X Tb W a ma) : SE X Tb W (.BoolOp op [a] pos) ma := ⟨pe_one h.pe⟩
theorem se_and (ha : SE X Tb W a ma) (hb : SE X Tb W (.BoolOp .And (b :: rest) pos) mb) : SE X Tb W (.BoolOp .And (a :: b :: rest) pos) (mAndV ma mb) := by
  refine se_weak (pe_and ha.pe hb.pe) fun Λ φ ρ S σ H Q s e p => ?_
  refine ⟨Λ, φ, ρ, S, s, e, (Post.bind p).imp fun c H1 ⟨φ1, k, S1, l1, t1, s1, r1, p1⟩ => ?_⟩
  cases k with
  | bl k =>
    refine ⟨k, r1, ?_⟩
    cases k with
    | true => exact iteT ⟨Λ, φ1, ρ, S1, s1, e.mono l1 t1, p1⟩
    | false => exact iteF (p1 φ1 (.bl false) H1 (Lt.refl _) (TX.refl _) s1 rfl)
  | _ => exact p1.elim
theorem se_or (ha : SE X Tb W a ma) (hb : SE X Tb W (.BoolOp .Or (b :: rest) pos) mb) : SE X Tb W (.BoolOp .Or (a :: b :: rest) pos) (mOrV ma mb) := by
  refine se_weak (pe_or ha.pe hb.pe) fun Λ φ ρ S σ H Q s e p => ?_
  refine ⟨Λ, φ, ρ, S, s, e, (Post.bind p).imp fun c H1 ⟨φ1, k, S1, l1, t1, s1, r1, p1⟩ => ?_⟩
  cases k with
  | bl k =>
    refine ⟨k, r1, ?_⟩
    cases k with
    | false => exact iteF ⟨Λ, φ1, ρ, S1, s1, e.mono l1 t1, p1⟩
    | true => exact iteT (p1 φ1 (.bl true) H1 (Lt.refl _) (TX.refl _) s1 rfl)
  | _ => exact p1.elim
theorem se_not (ha : SE X Tb W a ma) : SE X Tb W (.UnaryOp .Not a pos) (mNotV ma) := by
  refine se_weak (pe_not ha.pe) fun Λ φ ρ S σ H Q s e p => ?_
  refine ⟨Λ, φ, ρ, S, s, e, (Post.bind p).imp fun c H1 ⟨φ1, k, S1, l1, t1, s1, r1, p1⟩ => ?_⟩
  cases k with
  | bl k => exact ⟨k, r1, p1 φ1 (.bl (!k)) H1 (Lt.refl _) (TX.refl _) s1 rfl⟩
  | _ => exact p1.elim
theorem chain_ok {g g' : Op2} {r r' : R2} (hr : ∀ Λ φ S H w u x y (E : Value → Option Addr → Hp → Prop) Q, SR X.K X.mg Tb Λ φ S H → VR X.K Λ φ H w x → VR X.K Λ φ H u y → Post X.K X.mg Tb Λ (relV X.K Λ) E φ H (g w u S) Q → r x y H Q)
    (hr' : ∀ Λ φ S H w u x y (E : Value → Option Addr → Hp → Prop) Q, SR X.K X.mg Tb Λ φ S H → VR X.K Λ φ H w x → VR X.K Λ φ H u y → Post X.K X.mg Tb Λ (relV X.K Λ) E φ H (g' w u S) Q → r' x y H Q)
    {Λ φ ρ S σ H Q} (s : SR X.K X.mg Tb Λ φ S H) (e : ER X.K Λ φ H ρ σ) (p : Post X.K X.mg Tb Λ (relV X.K Λ) (fun c d H => W c d σ H) φ H (mChain g g' ma mb mc ρ S) Q) :
    tChain r r' (tS X.K X.mg Tb W ma) (tS X.K X.mg Tb W mb) (tS X.K X.mg Tb W mc) σ H Q := by
  refine ⟨Λ, φ, ρ, S, s, e, (Post.bind p).imp fun v H1 ⟨φ1, w, S1, l1, t1, s1, r1, p1⟩ => ?_⟩
  refine ⟨Λ, φ1, ρ, S1, s1, e.mono l1 t1, (Post.bind p1).imp fun v2 H2 ⟨φ2, w2, S2, l2, t2, s2, r2, p2⟩ => ?_⟩
  refine hr Λ φ2 S2 H2 w w2 v v2 (fun c d H => W c d σ H) _ s2 (r1.mono l2 t2) r2 ((Post.bind (rel := relV X.K Λ) p2).imp fun z H3 ⟨φ3, w3, S3, l3, t3, s3, r3, p3⟩ => ?_)
  cases w3 with
  | bl k =>
    refine ⟨k, r3, ?_⟩
    cases k with
    | true =>
      refine iteT ⟨Λ, φ3, ρ, S3, s3, ((e.mono l1 t1).mono l2 t2).mono l3 t3, (Post.bind p3).imp fun v4 H4 ⟨φ4, w4, S4, l4, t4, s4, r4, p4⟩ => ?_⟩
      exact hr' Λ φ4 S4 H4 w2 w4 v2 v4 _ Q s4 ((r2.mono l3 t3).mono l4 t4) r4 p4
    | false => exact iteF (p3 φ3 (.bl false) H3 (Lt.refl _) (TX.refl _) s3 rfl)
  | _ => exact p3.elim
theorem se_chain {op op' : CmpOp} {g g' : Op2} (ho : OpS X Tb (compareOp op) g) (ho' : OpS X Tb (compareOp op') g') (ha : SE X Tb W a ma) (hb : SE X Tb W b mb) (hc : SE X Tb W c mc)
    (hm : lastMarks [op, op'] [b, c] = false := by with_unfolding_all rfl) : SE X Tb W (.Compare a [op, op'] [b, c] pos) (mChain g g' ma mb mc) := by
  obtain ⟨r, ho, hr⟩ := ho
  obtain ⟨r', ho', hr'⟩ := ho'
  exact se_weak (pe_chain ho ho' ha.pe hb.pe hc.pe hm) fun Λ φ ρ S σ H Q s e p => chain_ok hr hr' s e p
theorem st_chain {op op' : CmpOp} {g g' : Op2} (ho : OpS X Tb (compareOp op) g) (ho' : OpS X Tb (compareOp op') g') (ha : SE X Tb W a ma) (hb : SE X Tb W b mb) (hc : SE X Tb W c mc)
    (hm : lastMarks [op, op'] [b, c] = false := by with_unfolding_all rfl) : ST X Tb W (.Compare a [op, op'] [b, c] pos) (mB (mChain g g' ma mb mc)) := by
  obtain ⟨r, ho, hr⟩ := ho
  obtain ⟨r', ho', hr'⟩ := ho'
  refine st_weak (pt_chain ho ho' ha.pe hb.pe hc.pe hm) fun Λ φ ρ S σ H Q s e p => ?_
  exact chain_ok hr hr' s e (mB_ok s e p)
end

/-! ### arguments, displays -/
def mNil : MA := fun _ S => .ok [] S
def mCons (m : ME) (n : MA) : MA := fun ρ S => (m ρ S).bind fun w S => (n ρ S).bind fun ws S => .ok (w :: ws) S
def mTup (m : MA) : ME := fun ρ S => (m ρ S).bind fun ws S => if ws.length ≤ lim then .ok (.tup ws) S else .bad
def mLst (m : MA) : ME := fun ρ S => (m ρ S).bind fun ws S => if ws.length ≤ lim then .ok (.ref S.n) (S.new (.lst ws)) else .bad
section
variable {X : Cx} {Tb : Tbs} {W : WX} {pos : Pos} {e : Expr} {es : List Expr} {m : ME} {ms : MA}
theorem sa_nil : SA X Tb W [] mNil := ⟨PA_weak pa_nil fun σ H Q ⟨Λ, φ, ρ, S, s, e, p⟩ => p φ [] H (Lt.refl _) (TX.refl _) s rfl⟩
theorem sa_cons (h : SE X Tb W e m) (h' : SA X Tb W es ms) (hs : starEach (e :: es) X.env = (false, eval e X.env) :: starEach es X.env := by rfl) : SA X Tb W (e :: es) (mCons m ms) := by
  refine ⟨PA_weak (pa_cons h.pe h'.pa hs) fun σ H Q ⟨Λ, φ, ρ, S, s, e, p⟩ => ?_⟩
  refine ⟨Λ, φ, ρ, S, s, e, (Post.bind p).imp fun v H1 ⟨φ1, w, S1, l1, t1, s1, r1, p1⟩ => ?_⟩
  refine ⟨Λ, φ1, ρ, S1, s1, e.mono l1 t1, (Post.bind p1).imp fun vs H2 ⟨φ2, ws, S2, l2, t2, s2, r2, p2⟩ => ?_⟩
  exact p2 φ2 _ H2 (Lt.refl _) (TX.refl _) s2 (VRs.cons (VR.mono l2 t2 r1) r2)
theorem se_tup {k} (h : SA X Tb W es ms) : SE X Tb W (.Tuple es k pos) (mTup ms) := by
  refine se_weak (pe_tup h.pa) fun Λ φ ρ S σ H Q s e p => ?_
  refine ⟨Λ, φ, ρ, S, s, e, (Post.bind p).imp fun vs H1 ⟨φ1, ws, S1, l1, t1, s1, r1, p1⟩ => ?_⟩
  have r1 : VRs X.K Λ φ1 H1 ws vs := r1
  split at p1
  · rename_i hl
    refine ⟨by rw [r1.length]; exact lim_le' hl, fun q hq => ?_⟩
    exact p1 φ1 _ _ (Lt.refl _) (TX.new hq) (s1.gar hq _) ⟨q, vs, rfl, .inl (.inl upd_same), r1.mono (Lt.refl _) (TX.new hq)⟩
  · exact p1.elim
theorem se_lst (h : SA X Tb W es ms) : SE X Tb W (.List es pos) (mLst ms) := by
  refine se_weak (pe_lst h.pa) fun Λ φ ρ S σ H Q s e p => ?_
  refine ⟨Λ, φ, ρ, S, s, e, (Post.bind p).imp fun vs H1 ⟨φ1, ws, S1, l1, t1, s1, r1, p1⟩ => ?_⟩
  have r1 : VRs X.K Λ φ1 H1 ws vs := r1
  split at p1
  · rename_i hl
    refine ⟨by rw [r1.length]; exact lim_le' hl, fun q hq => ?_⟩
    exact p1 _ _ _ (Map.lt_at s1) (TX.new hq) (s1.mk_lst hq r1) VR.new
  · exact p1.elim
end
end Sm
/-! text Sm4 -/
namespace Sm
open PySem PySem.Spec PyProof.Rows L2
/-- where the code stands -/
structure Ct (X : Cx) (W : WX) (k : Nat) : Prop where
  calm : X.calm = true
  nd : X.N.Nodup
  tk : Takes X W
  po : PassesOwn (model X.prog X.w) X.A X.env X.xe
  room : Room k X.A
theorem Ct.hu {X : Cx} {W : WX} {k : Nat} (c : Ct X W k) : X.A.units + 64 < cLine := c.room.units
theorem Ct.hu1 {X : Cx} {W : WX} {k : Nat} (c : Ct X W k) : X.A.units + 1 < cLine := Nat.lt_of_le_of_lt (Nat.add_le_add_left (by decide : 1 ≤ 64) _) c.hu
/-! ### ends -/
section
variable {K : PySem.W.Frag} {mg : Str → Option Value} {Tb : Tbs} {Λ : Lam} {W : WX} {φ φ1 : Map} {H H1 : Hp}
theorem PostS.mono {o : OutS} {D : Ends} (l : Lt φ φ1) (t : TX H H1) (h : PostS K mg Tb Λ W φ H o D) : PostS K mg Tb Λ W φ1 H1 o D := by
  cases o with
  | go f ρ' S' => exact fun φ' σ' H' l' t' s r => h φ' σ' H' (l.trans l') (t.trans t') s r
  | exc c ρ' S' => exact fun φ' σ' H' C l' t' s r => h φ' σ' H' C (l.trans l') (t.trans t') s r
  | bad => exact h
end
/-- an expression's end, then a statement's -/
def Out.then {α : Type} (o : Out α) (ρ : Env) (k : α → Store → OutS) : OutS := match o with
  | .ok w S => k w S
  | .exc c S => .exc c ρ S
  | .bad => .bad
@[simp] theorem Out.then_ok {α : Type} (w : α) (S : Store) (ρ : Env) (k : α → Store → OutS) : (Out.ok w S).then ρ k = k w S := rfl
@[simp] theorem Out.then_exc {α : Type} (c : Str) (S : Store) (ρ : Env) (k : α → Store → OutS) : (Out.exc c S : Out α).then ρ k = .exc c ρ S := rfl
@[simp] theorem Out.then_bad {α : Type} (ρ : Env) (k : α → Store → OutS) : (Out.bad : Out α).then ρ k = .bad := rfl
theorem PostS.then {K : PySem.W.Frag} {mg : Str → Option Value} {Tb : Tbs} {Λ : Lam} {W : WX} {φ : Map} {H : Hp} {α β : Type} {rel : Map → Hp → α → β → Prop} {o : Out α} {ρ : Env} {σ : L2.St} {k : α → Store → OutS} {D : Ends} (e : ER K Λ φ H ρ σ)
    (h : PostS K mg Tb Λ W φ H (o.then ρ k) D) :
    Post K mg Tb Λ rel (fun c d H => W c d σ H) φ H o fun v H1 => ∃ φ1 w S1, Lt φ φ1 ∧ TX H H1 ∧ SR K mg Tb Λ φ1 S1 H1 ∧ rel φ1 H1 w v ∧ PostS K mg Tb Λ W φ1 H1 (k w S1) D := by
  cases o with
  | ok w S' => exact fun φ' v H' l t s r => ⟨φ', w, S', l, t, s, r, PostS.mono l t h⟩
  | exc c S' => exact fun φ' H' C l t s hc => h φ' σ H' C l t s (e.mono l t) hc
  | bad => exact h
/-- then -/
def OutS.then (o : OutS) (k : MS) : OutS := match o with
  | .go .nx ρ S => k ρ S
  | o => o
@[simp] theorem OutS.then_nx (ρ : Env) (S : Store) (k : MS) : (OutS.go .nx ρ S).then k = k ρ S := rfl
@[simp] theorem OutS.then_rt (w : U) (ρ : Env) (S : Store) (k : MS) : (OutS.go (.rt w) ρ S).then k = .go (.rt w) ρ S := rfl
@[simp] theorem OutS.then_bk (ρ : Env) (S : Store) (k : MS) : (OutS.go .bk ρ S).then k = .go .bk ρ S := rfl
@[simp] theorem OutS.then_ct (ρ : Env) (S : Store) (k : MS) : (OutS.go .ct ρ S).then k = .go .ct ρ S := rfl
@[simp] theorem OutS.then_exc (c : Str) (ρ : Env) (S : Store) (k : MS) : (OutS.exc c ρ S).then k = .exc c ρ S := rfl
@[simp] theorem OutS.then_bad (k : MS) : OutS.bad.then k = .bad := rfl
section
variable {X : Cx} {Tb : Tbs} {W : WX}
theorem ss_weak {st : Stmt} {m : MS} {t : TS} (h : PS X st t) (q : ∀ Λ φ ρ S σ H D, SR X.K X.mg Tb Λ φ S H → ER X.K Λ φ H ρ σ → PostS X.K X.mg Tb Λ W φ H (m ρ S) D → t D σ H) : SS X Tb W st m :=
  ⟨PS_weak h fun D σ H ⟨Λ, φ, ρ, S, s, e, p⟩ => q Λ φ ρ S σ H D s e p⟩
theorem sss_weak {st : List Stmt} {m : MS} {t : TS} (h : PSs X st t) (q : ∀ Λ φ ρ S σ H D, SR X.K X.mg Tb Λ φ S H → ER X.K Λ φ H ρ σ → PostS X.K X.mg Tb Λ W φ H (m ρ S) D → t D σ H) : SSs X Tb W st m :=
  ⟨PSs_weak h fun D σ H ⟨Λ, φ, ρ, S, s, e, p⟩ => q Λ φ ρ S σ H D s e p⟩
/-! ### blocks -/
def sNil : MS := fun ρ S => .go .nx ρ S
def sSeq (m n : MS) : MS := fun ρ S => (m ρ S).then n
variable {st : Stmt} {rest : List Stmt} {m n : MS} {pos : Pos}
theorem sss_nil : SSs X Tb W [] sNil := sss_weak pss_nil fun Λ φ ρ S σ H D s e p => p φ σ H (Lt.refl _) (TX.refl _) s e
theorem sss_one (h : SS X Tb W st m) : SSs X Tb W [st] m := ⟨pss_one h.ps⟩
theorem sss_cons (h : SS X Tb W st m) (h' : SSs X Tb W rest n) : SSs X Tb W (st :: rest) (sSeq m n) := by
  refine sss_weak (pss_cons h.ps h'.pss) fun Λ φ ρ S σ H D s e p => ?_
  refine ⟨Λ, φ, ρ, S, s, e, ?_⟩
  unfold sSeq at p
  cases hm : m ρ S with
  | go f ρ' S' =>
    rw [hm] at p
    cases f with
    | nx => exact fun φ' σ' H' l t s' e' => ⟨Λ, φ', ρ', S', s', e', p.mono l t⟩
    | rt w => exact p
    | bk => exact p
    | ct => exact p
  | exc c ρ' S' => rw [hm] at p; exact p
  | bad => rw [hm] at p; exact p
theorem ss_pass : SS X Tb W (.Pass pos) sNil := ss_weak ps_pass fun Λ φ ρ S σ H D s e p => p φ σ H (Lt.refl _) (TX.refl _) s e
theorem ss_doc {x j pos'} : SS X Tb W (.Expr (.Constant (.str x) j pos) pos') sNil := ss_weak ps_doc fun Λ φ ρ S σ H D s e p => p φ σ H (Lt.refl _) (TX.refl _) s e
def sBreak : MS := fun ρ S => .go .bk ρ S
def sCont : MS := fun ρ S => .go .ct ρ S
theorem ss_break : SS X Tb W (.Break pos) sBreak := ss_weak ps_break fun Λ φ ρ S σ H D s e p => p φ σ H (Lt.refl _) (TX.refl _) s e
theorem ss_cont : SS X Tb W (.Continue pos) sCont := ss_weak ps_continue fun Λ φ ρ S σ H D s e p => p φ σ H (Lt.refl _) (TX.refl _) s e
def sExpr (m : ME) : MS := fun ρ S => (m ρ S).then ρ fun _ S => .go .nx ρ S
theorem ss_expr {e : Expr} {m : ME} (h : SE X Tb W e m) (hs : swapsWith e none pos.line X.env = pure false := by rfl) : SS X Tb W (.Expr e pos) (sExpr m) := by
  refine ss_weak (ps_expr h.pe hs) fun Λ φ ρ S σ H D s e p => ?_
  refine ⟨Λ, φ, ρ, S, s, e, (PostS.then e p).imp fun v H1 ⟨φ1, w, S1, l1, t1, s1, r1, p1⟩ => ?_⟩
  exact p1 φ1 σ H1 (Lt.refl _) (TX.refl _) s1 (e.mono l1 t1)
def sRet (m : ME) : MS := fun ρ S => (m ρ S).then ρ fun w S => .go (.rt w) ρ S
theorem ss_ret {e : Expr} {m : ME} (h : SE X Tb W e m) : SS X Tb W (.Return (some e) pos) (sRet m) := by
  refine ss_weak (ps_ret h.pe) fun Λ φ ρ S σ H D s e p => ?_
  refine ⟨Λ, φ, ρ, S, s, e, (PostS.then e p).imp fun v H1 ⟨φ1, w, S1, l1, t1, s1, r1, p1⟩ => ?_⟩
  exact p1 φ1 σ H1 (Lt.refl _) (TX.refl _) s1 (e.mono l1 t1) v r1
def sRetN : MS := fun ρ S => .go (.rt .non) ρ S
theorem ss_retN : SS X Tb W (.Return none pos) sRetN := ss_weak ps_retN fun Λ φ ρ S σ H D s e p => p φ σ H (Lt.refl _) (TX.refl _) s e .non rfl
def sIf (c : MT) (m n : MS) : MS := fun ρ S => (c ρ S).then ρ fun b S => match b with
  | true => m ρ S
  | false => n ρ S
theorem ss_if {c : Expr} {a b : List Stmt} {mc : MT} (hc : ST X Tb W c mc) (ha : SSs X Tb W a m) (hb : SSs X Tb W b n) : SS X Tb W (.If c a b pos) (sIf mc m n) := by
  refine ss_weak (ps_if hc.pt ha.pss hb.pss) fun Λ φ ρ S σ H D s e p => ?_
  refine ⟨Λ, φ, ρ, S, s, e, (PostS.then e p).imp fun k H1 ⟨φ1, k', S1, l1, t1, s1, r1, p1⟩ => ?_⟩
  cases r1
  cases k with
  | true => exact iteT ⟨Λ, φ1, ρ, S1, s1, e.mono l1 t1, p1⟩
  | false => exact iteF ⟨Λ, φ1, ρ, S1, s1, e.mono l1 t1, p1⟩
end
/-! ### targets -/
abbrev MG := U → Env → Store → Out Env
abbrev MGs := List U → Env → Store → Out Env
theorem wipe_set {σ : L2.St} {i : Nat} {o : Option V} : ∀ {vs : List Nat}, i ∈ vs → wipe (σ.set i o) vs = wipe σ vs
  | [], h => by simp at h
  | v :: vs, h => by
    unfold wipe
    by_cases e : i ∈ vs
    · rw [wipe_set e]
    · have hv : i = v := by
        rcases List.mem_cons.mp h with z | z
        · exact z
        · exact absurd z e
      subst hv
      have : wipe (σ.set i o) vs = (wipe σ vs).set i o := wipe_comm e
      rw [this, List.set_set]
where
  wipe_comm {σ : L2.St} {i : Nat} {o : Option V} : ∀ {vs : List Nat}, i ∉ vs → wipe (σ.set i o) vs = (wipe σ vs).set i o
  | [], _ => rfl
  | v :: vs, h => by
    unfold wipe
    have h1 : i ≠ v := fun e => h (e ▸ List.mem_cons_self)
    have h2 : i ∉ vs := fun e => h (List.mem_cons_of_mem _ e)
    rw [wipe_comm h2, List.set_comm _ _ h1]
/-- the slots behind a target: own those that it may change -/
def relG (K : PySem.W.Frag) (Λ : Lam) (own : List Nat) (σ0 : L2.St) : Map → Hp → Env → L2.St → Prop := fun φ H ρ σ => ER K Λ φ H ρ σ ∧ ∀ vs, (∀ i ∈ own, i ∈ vs) → wipe σ vs = wipe σ0 vs
theorem Post.rimp {K : PySem.W.Frag} {mg : Str → Option Value} {Tb : Tbs} {Λ : Lam} {φ : Map} {H : Hp} {α β : Type} {rel rel' : Map → Hp → α → β → Prop} {E : Value → Option Addr → Hp → Prop} {o : Out α} {Q : β → Hp → Prop}
    (r : ∀ φ H w v, rel' φ H w v → rel φ H w v) (h : Post K mg Tb Λ rel E φ H o Q) : Post K mg Tb Λ rel' E φ H o Q := by
  cases o with
  | ok w S => exact fun φ' v H' l t s q => h φ' v H' l t s (r _ _ _ _ q)
  | exc c S => exact h
  | bad => exact h
def tSG (K : PySem.W.Frag) (mg : Str → Option Value) (Tb : Tbs) (W : WX) (own : List Nat) (m : MG) : TG := fun v σ H Q => ∃ Λ φ ρ S w, SR K mg Tb Λ φ S H ∧ ER K Λ φ H ρ σ ∧ VR K Λ φ H w v ∧ Post K mg Tb Λ (relG K Λ own σ) (fun c d H => W c d σ H) φ H (m w ρ S) Q
def tSGs (K : PySem.W.Frag) (mg : Str → Option Value) (Tb : Tbs) (W : WX) (own : List Nat) (m : MGs) : TGs := fun v σ H Q => ∃ Λ φ ρ S w, SR K mg Tb Λ φ S H ∧ ER K Λ φ H ρ σ ∧ VRs K Λ φ H w v ∧ Post K mg Tb Λ (relG K Λ own σ) (fun c d H => W c d σ H) φ H (m w ρ S) Q
structure SG (X : Cx) (Tb : Tbs) (W : WX) (own : List Nat) (e : Expr) (m : MG) : Prop where
  pg : PG X e (tSG X.K X.mg Tb W own m)
structure SGs (X : Cx) (Tb : Tbs) (W : WX) (own : List Nat) (e : List Expr) (m : MGs) : Prop where
  pgs : PGs X e (tSGs X.K X.mg Tb W own m)
def gN (i : Nat) : MG := fun w ρ S => .ok (ρ.set i (some w)) S
def gsNil : MGs := fun ws ρ S => match ws with
  | [] => .ok ρ S
  | _ => .bad
def gsCons (m : MG) (n : MGs) : MGs := fun ws ρ S => match ws with
  | w :: r => (m w ρ S).bind fun ρ S => n r ρ S
  | [] => .bad
/-- targets that raise nothing: the slots at an exception are those ahead -/
def gT (n : Nat) (m : MGs) : MG := fun w ρ S => match w with
  | .tup ws => if ws.length = n then m ws ρ S else .bad
  | .ref r => (match S.get r with
    | some ⟨.lst ws, _⟩ => if ws.length = n then m ws ρ S else .bad
    | _ => .bad)
  | _ => .bad
/-- no exception -/
def noX {α : Type} (o : Out α) : Out α := match o with
  | .exc _ _ => .bad
  | o => o
section
variable {X : Cx} {Tb : Tbs} {W : WX} {pos : Pos} {k : Nat}
theorem PG_weak {e : Expr} {t t' : TG} (h : PG X e t) (q : ∀ v σ H Q, t' v σ H Q → t v σ H Q) : PG X e t' := ⟨fun pins s σ H v u Q I r x => h.run pins s σ H v u Q I r (q v σ H Q x)⟩
theorem PGs_weak {e : List Expr} {t t' : TGs} (h : PGs X e t) (q : ∀ v σ H Q, t' v σ H Q → t v σ H Q) : PGs X e t' := ⟨fun pins s σ H v u Q I r x => h.run pins s σ H v u Q I r (q v σ H Q x)⟩
theorem sg_name (C : Ct X W k) (i : Nat) {x : Str} (hi : X.N[i]? = some x := by rfl) (hx : Loc X.env.scope x := by first | exact .inl rfl | exact .inr rfl) (hf : X.fn x = true ∨ X.env.scope.names.lookup x = some .local := by first | exact .inl rfl | exact .inr rfl) :
    SG X Tb W [i] (.Name x pos) (gN i) :=
  ⟨PG_weak (pg_name C.nd hi hx hf) fun v σ H Q ⟨Λ, φ, ρ, S, w, s, e, r, p⟩ => p φ _ H (Lt.refl _) (TX.refl _) s ⟨e.set i r, fun vs h => wipe_set (h i (by simp))⟩⟩
theorem sgs_nil : SGs X Tb W [] [] gsNil := by
  refine ⟨PGs_weak pgs_nil fun v σ H Q ⟨Λ, φ, ρ, S, w, s, e, r, p⟩ => ?_⟩
  cases w with
  | nil => exact ⟨r, p φ σ H (Lt.refl _) (TX.refl _) s ⟨e, fun _ _ => rfl⟩⟩
  | cons => exact p.elim
theorem Post.noexc {K : PySem.W.Frag} {mg : Str → Option Value} {Tb : Tbs} {Λ : Lam} {φ : Map} {H : Hp} {α β : Type} {rel : Map → Hp → α → β → Prop} {E E' : Value → Option Addr → Hp → Prop} {o : Out α} {Q : β → Hp → Prop}
    (h : Post K mg Tb Λ rel E φ H (noX o) Q) : Post K mg Tb Λ rel E' φ H (noX o) Q := by
  cases o with
  | ok w S => exact h
  | exc c S => exact h.elim
  | bad => exact h
theorem noX_bind {α β : Type} {o : Out α} {f : α → Store → Out β} : noX (o.bind f) = (noX o).bind fun a S => noX (f a S) := by
  cases o <;> rfl
theorem noX_noX {α : Type} {o : Out α} : noX (noX o) = noX o := by cases o <;> rfl
theorem sgs_cons {e : Expr} {es : List Expr} {m : MG} {n : MGs} {o1 o2 : List Nat} (h : SG X Tb W o1 e m) (h' : SGs X Tb W o2 es n)
    (hs : (assignEach (e :: es) X.env).map (·.2) = assign e X.env :: (assignEach es X.env).map (·.2) := by rfl) : SGs X Tb W (o1 ++ o2) (e :: es) (fun ws ρ S => noX (gsCons m n ws ρ S)) := by
  refine ⟨PGs_weak (pgs_cons h.pg h'.pgs hs) fun v σ H Q ⟨Λ, φ, ρ, S, w, s, e, r, p⟩ => ?_⟩
  cases w with
  | nil => exact p.elim
  | cons w ws =>
    obtain ⟨x, xs, ev, r1, r2⟩ := r
    refine ⟨x, xs, ev, ?_⟩
    have p : Post X.K X.mg Tb Λ (relG X.K Λ (o1 ++ o2) σ) (fun c d H => W c d σ H) φ H (noX ((m w ρ S).bind fun ρ S => n ws ρ S)) Q := p
    rw [noX_bind] at p
    refine ⟨Λ, φ, ρ, S, w, s, e, r1, ?_⟩
    cases hm : m w ρ S with
    | ok ρ1 S1 =>
      rw [hm] at p
      intro φ1 σ1 H1 l t s1 e1
      refine ⟨Λ, φ1, ρ1, S1, ws, s1, e1.1, r2.mono l t, ?_⟩
      have p3 : Post X.K X.mg Tb Λ (relG X.K Λ (o1 ++ o2) σ) (fun c d H => W c d σ H) φ H (noX (n ws ρ1 S1)) Q := p
      have p4 := (Post.noexc (E' := fun c d H => W c d σ1 H) p3).mono l t
      have p5 := p4.rimp (rel' := relG X.K Λ o2 σ1) fun φ H w v q => ⟨q.1, fun vs hv => (q.2 vs fun i hi => hv i (List.mem_append_right _ hi)).trans (e1.2 vs fun i hi => hv i (List.mem_append_left _ hi))⟩
      cases hn : n ws ρ1 S1 with
      | ok ρ2 S2 => rw [hn] at p5; exact p5
      | exc c S2 => rw [hn] at p5; exact p5.elim
      | bad => rw [hn] at p5; exact p5.elim
    | exc c S1 => rw [hm] at p; exact p.elim
    | bad => rw [hm] at p; exact p.elim
theorem PG_or {e : Expr} {t t' : TG} (h : PG X e t) (h' : PG X e t') : PG X e (fun v σ H Q => t v σ H Q ∨ t' v σ H Q) :=
  ⟨fun pins s σ H v u Q I r x => x.elim (h.run pins s σ H v u Q I r) (h'.run pins s σ H v u Q I r)⟩
theorem sg_tup (C : Ct X W k) {es : List Expr} {j : Nat} {m : MGs} {n : Nat} {own : List Nat} (h : SGs X Tb W own es m)
    (hn : (assignEach es X.env).length = n := by rfl) (hst : (assignEach es X.env).findIdx? (·.1) = none := by rfl) : SG X Tb W own (.Tuple es j pos) (gT n m) := by
  refine ⟨PG_weak (PG_or (pg_tup C.calm h.pgs hn hst) (pg_unl C.calm h.pgs hn hst)) fun v σ H Q ⟨Λ, φ, ρ, S, w, s, e, r, p⟩ => ?_⟩
  unfold gT at p
  split at p
  · rename_i ws
    split at p
    · rename_i hl
      obtain ⟨a, vs, rfl, h1, h2⟩ := r
      exact .inl ⟨a, vs, rfl, h1, by rw [h2.length]; exact hl, Λ, φ, ρ, S, ws, s, e, h2, p⟩
    · exact p.elim
  · rename_i rr
    split at p
    · rename_i ws lk h1
      split at p
      · rename_i hl
        obtain ⟨a, vs, g1, g2, g3, _⟩ := s.lst h1
        obtain ⟨a', rfl, g1'⟩ := r
        rw [g1] at g1'; cases g1'
        exact .inr ⟨a, vs, rfl, g2, by rw [g3.length]; exact hl, Λ, φ, ρ, S, ws, s, e, g3, p⟩
      · exact p.elim
    · exact p.elim
  · exact p.elim
/-! o[i] = v -/
def pyIx (n : Nat) (i : Int) : Option Nat := if 0 ≤ i then (if i < n then some i.toNat else none) else if -(n : Int) ≤ i then some (i + n).toNat else none
theorem pyIx_eq (n : Nat) (i : Int) : pyIx n i = ixN n i := rfl
/-- a store into a list, a dict -/
def uSet (o i v : U) (S : Store) : Out Unit := match o with
  | .ref n => (match S.get n with
    | some ⟨.lst ws, 0⟩ => (match i with
      | .int k => (match pyIx ws.length k with
        | some j => .ok () (S.put n ⟨.lst (ws.set j v), 0⟩)
        | none => .bad)
      | _ => .bad)
    | some ⟨.dK kvs, 0⟩ => (match uKey i with
      | some k => if kvs.length < lim then .ok () (S.put n ⟨.dK (setK kvs k v), 0⟩) else .bad
      | none => .bad)
    | _ => .bad)
  | _ => .bad
theorem PSet_or {t t' : TSet} (h : PSet X t) (h' : PSet X t') : PSet X (fun o i v H Q => t o i v H Q ∨ t' o i v H Q) :=
  fun pins s σ H o i v ov iv u Q I r1 r2 r3 x => x.elim (h pins s σ H o i v ov iv u Q I r1 r2 r3) (h' pins s σ H o i v ov iv u Q I r1 r2 r3)
theorem set_ok (C : Ct X W k) : ∃ t : TSet, PSet X t ∧ ∀ Λ φ S H o i v ov iv u (E : Value → Option Addr → Hp → Prop) (Q : Hp → Prop), SR X.K X.mg Tb Λ φ S H → VR X.K Λ φ H o ov → VR X.K Λ φ H i iv → VR X.K Λ φ H v u →
    Post X.K X.mg Tb Λ (fun _ _ (_ : Unit) (_ : Unit) => True) E φ H (uSet o i v S) (fun _ H => Q H) → t ov iv u H Q := by
  refine ⟨_, PSet_or set_list (set_dict C.hu1), fun Λ φ S H o i v ov iv u E Q s ro ri rv p => ?_⟩
  unfold uSet at p
  split at p
  · rename_i n
    split at p
    · rename_i ws h1
      split at p
      · rename_i kk
        split at p
        · rename_i j hj
          obtain ⟨a, vs, g1, g2, g3, g4⟩ := s.lst h1
          obtain ⟨a', rfl, g1'⟩ := ro
          rw [g1] at g1'; cases g1'
          have hL := g4 rfl
          refine .inl ⟨a, vs, kk, j, rfl, ri, hL, by rw [g3.length]; exact hj, ?_⟩
          have hs : Soft (.lst vs) := True.intro
          exact p φ () _ (Lt.refl _) (TX.put hL hs) (s.wr g1 hL hs ⟨vs.set j u, upd_same, (g3.mono (Lt.refl _) (TX.put hL hs)).set j (rv.mono (Lt.refl _) (TX.put hL hs))⟩ (fun _ z => nomatch z) (fun _ z => nomatch z) fun _ z => nomatch z) True.intro
        · exact p.elim
      · exact p.elim
    · rename_i kvs h1
      split at p
      · rename_i kk hk
        split at p
        · rename_i hl
          obtain ⟨a, vs, g1, g2, g3, g4⟩ := s.dK h1
          obtain ⟨a', rfl, g1'⟩ := ro
          rw [g1] at g1'; cases g1'
          have hL := g4 rfl
          have hs : Soft (.dK vs) := True.intro
          refine .inr ⟨a, _, rfl, .inl ⟨vs, kk.k, hL, key_ok ri hk, by rw [g3.length]; exact lim_lt hl, rfl⟩, ?_⟩
          exact p φ () _ (Lt.refl _) (TX.put hL hs) (s.wr g1 hL hs ⟨_, upd_same, KR.setS (fun _ _ => Ky.inj) (rv.mono (Lt.refl _) (TX.put hL hs)) (g3.mono (Lt.refl _) (TX.put hL hs))⟩ (fun _ z => nomatch z) (fun _ z => nomatch z) fun _ z => nomatch z) True.intro
        · exact p.elim
      · exact p.elim
    · exact p.elim
  · exact p.elim
def gS (mo mi : ME) : MG := fun w ρ S => (mo ρ S).bind fun o S => (mi ρ S).bind fun i S => (uSet o i w S).bind fun _ S => .ok ρ S
theorem sg_sub (C : Ct X W k) {o i : Expr} {mo mi : ME} (ho : SE X Tb W o mo) (hi : SE X Tb W i mi)
    (ha : ∀ v, assign (.Subscript o i pos) X.env v = (do
      let ov ← holding [v] (eval o X.env)
      let iv ← holding [v, ov] (eval i X.env)
      standAt pos
      holding [v, ov, iv] (setItem ov iv v)
      release [v, ov, iv] []) := by intro _; rfl) : SG X Tb W [] (.Subscript o i pos) (gS mo mi) := by
  obtain ⟨t, ht, hok⟩ := set_ok (Tb := Tb) C
  refine ⟨PG_weak (pg_sub ho.pe hi.pe ht ha) fun v σ H Q ⟨Λ, φ, ρ, S, w, s, e, r, p⟩ => ?_⟩
  refine ⟨Λ, φ, ρ, S, s, e, (Post.bind p).imp fun ov H1 ⟨φ1, o1, S1, l1, t1, s1, r1, p1⟩ => ?_⟩
  refine ⟨Λ, φ1, ρ, S1, s1, e.mono l1 t1, (Post.bind p1).imp fun iv H2 ⟨φ2, i2, S2, l2, t2, s2, r2, p2⟩ => ?_⟩
  refine hok Λ φ2 S2 H2 o1 i2 w ov iv v (fun c d H => W c d σ H) _ s2 (VR.mono l2 t2 r1) r2 ((r.mono l1 t1).mono l2 t2) ((Post.bind p2).imp fun _ H3 ⟨φ3, _, S3, l3, t3, s3, _, p3⟩ => ?_)
  exact p3 φ3 σ H3 (Lt.refl _) (TX.refl _) s3 ⟨((e.mono l1 t1).mono l2 t2).mono l3 t3, fun _ _ => rfl⟩
/-! ### target = value -/
def sAsg (m : ME) (g : MG) : MS := fun ρ S => (m ρ S).then ρ fun w S => (g w ρ S).then ρ fun ρ S => .go .nx ρ S
theorem ss_asg {tg e : Expr} {m : ME} {g : MG} {own : List Nat} (he : SE X Tb W e m) (hg : SG X Tb W own tg g) (hs : swapsWithSole [tg] e pos.line X.env = pure false := by rfl) (hw : swappedStores [tg] e X.env = pure none := by rfl)
    (h1 : (assignEach [tg] X.env).map (·.2) = [assign tg X.env] := by rfl) : SS X Tb W (.Assign [tg] e pos) (sAsg m g) := by
  refine ss_weak (ps_asg he.pe hg.pg hs hw h1) fun Λ φ ρ S σ H D s e p => ?_
  refine ⟨Λ, φ, ρ, S, s, e, (PostS.then e p).imp fun v H1 ⟨φ1, w, S1, l1, t1, s1, r1, p1⟩ => ?_⟩
  refine ⟨Λ, φ1, ρ, S1, w, s1, e.mono l1 t1, r1, (PostS.then (e.mono l1 t1) p1).imp fun σ2 H2 ⟨φ2, ρ2, S2, l2, t2, s2, r2, p2⟩ => ?_⟩
  exact p2 φ2 σ2 H2 (Lt.refl _) (TX.refl _) s2 r2.1
/-- name = value -/
def sSet (i : Nat) (m : ME) : MS := fun ρ S => (m ρ S).then ρ fun w S => .go .nx (ρ.set i (some w)) S
theorem ss_set (C : Ct X W k) (i : Nat) {x : Str} {e : Expr} {m : ME} {pos' : Pos} (he : SE X Tb W e m) (hi : X.N[i]? = some x := by rfl) (hx : Loc X.env.scope x := by first | exact .inl rfl | exact .inr rfl)
    (hs : swapsWith e (some (.Name x pos')) pos.line X.env = pure false := by rfl) (hf : X.fn x = true ∨ X.env.scope.names.lookup x = some .local := by first | exact .inl rfl | exact .inr rfl) :
    SS X Tb W (.Assign [.Name x pos'] e pos) (sSet i m) := by
  refine ss_weak (ps_set C.nd hi hx he.pe hs hf) fun Λ φ ρ S σ H D s e p => ?_
  refine ⟨Λ, φ, ρ, S, s, e, (PostS.then e p).imp fun v H1 ⟨φ1, w, S1, l1, t1, s1, r1, p1⟩ => ?_⟩
  exact p1 φ1 _ H1 (Lt.refl _) (TX.refl _) s1 ((e.mono l1 t1).set i r1)
/-- a, b = x, y (plain local names) -/
def sPar (i j : Nat) (m : MA) : MS := fun ρ S => (m ρ S).then ρ fun ws S => match ws with
  | [v, w] => .go .nx ((ρ.set i (some v)).set j (some w)) S
  | _ => .bad
theorem ss_par (C : Ct X W k) (i j : Nat) {x y : Str} {a b : Expr} {m : MA} {px py pt : Pos} {kt k2 pt2} (ha : SA X Tb W [a, b] m) (hi : X.N[i]? = some x := by rfl) (hj : X.N[j]? = some y := by rfl) (hij : i ≠ j := by decide)
    (hx : X.env.scope.names.lookup x = some .local := by rfl) (hy : X.env.scope.names.lookup y = some .local := by rfl)
    (hw : swappedStores [.Tuple [.Name x px, .Name y py] kt pt] (.Tuple [a, b] k2 pt2) X.env = pure (some [x, y]) := by rfl)
    (hs : swapsWithSole [.Tuple [.Name x px, .Name y py] kt pt] (.Tuple [a, b] k2 pt2) pos.line X.env = pure false := by rfl) :
    SS X Tb W (.Assign [.Tuple [.Name x px, .Name y py] kt pt] (.Tuple [a, b] k2 pt2) pos) (sPar i j m) := by
  refine ss_weak (ps_par C.calm C.nd hi hj hij hx hy ha.pa hw hs) fun Λ φ ρ S σ H D s e p => ?_
  refine ⟨Λ, φ, ρ, S, s, e, (PostS.then e p).imp fun vs H1 ⟨φ1, ws, S1, l1, t1, s1, r1, p1⟩ => ?_⟩
  split at p1
  · rename_i v w
    obtain ⟨x1, r, e1, q1, r2⟩ := r1
    obtain ⟨x2, r3, e2, q2, r4⟩ := r2
    subst e2
    subst r4
    exact ⟨x1, x2, e1, p1 φ1 _ H1 (Lt.refl _) (TX.refl _) s1 (((e.mono l1 t1).set i q1).set j q2)⟩
  · exact p1.elim
def sPar3 (i j l : Nat) (m : MA) : MS := fun ρ S => (m ρ S).then ρ fun ws S => match ws with
  | [u, v, w] => .go .nx (((ρ.set i (some u)).set j (some v)).set l (some w)) S
  | _ => .bad
theorem ss_par3 (C : Ct X W k) (i j l : Nat) {x y z : Str} {a b c : Expr} {m : MA} {px py pz pt : Pos} {kt k2 pt2} (ha : SA X Tb W [a, b, c] m) (hi : X.N[i]? = some x := by rfl) (hj : X.N[j]? = some y := by rfl) (hl : X.N[l]? = some z := by rfl)
    (hij : i ≠ j := by decide) (hil : i ≠ l := by decide) (hjl : j ≠ l := by decide)
    (hx : X.env.scope.names.lookup x = some .local := by rfl) (hy : X.env.scope.names.lookup y = some .local := by rfl) (hz : X.env.scope.names.lookup z = some .local := by rfl)
    (hw : swappedStores [.Tuple [.Name x px, .Name y py, .Name z pz] kt pt] (.Tuple [a, b, c] k2 pt2) X.env = pure (some [x, y, z]) := by rfl)
    (hs : swapsWithSole [.Tuple [.Name x px, .Name y py, .Name z pz] kt pt] (.Tuple [a, b, c] k2 pt2) pos.line X.env = pure false := by rfl) :
    SS X Tb W (.Assign [.Tuple [.Name x px, .Name y py, .Name z pz] kt pt] (.Tuple [a, b, c] k2 pt2) pos) (sPar3 i j l m) := by
  refine ss_weak (ps_par3 C.calm C.nd hi hj hl hij hil hjl hx hy hz ha.pa hw hs) fun Λ φ ρ S σ H D s e p => ?_
  refine ⟨Λ, φ, ρ, S, s, e, (PostS.then e p).imp fun vs H1 ⟨φ1, ws, S1, l1, t1, s1, r1, p1⟩ => ?_⟩
  split at p1
  · rename_i u v w
    obtain ⟨x1, r, e1, q1, r2⟩ := r1
    obtain ⟨x2, r3, e2, q2, r4⟩ := r2
    obtain ⟨x3, r5, e3, q3, r6⟩ := r4
    subst e2 e3
    subst r6
    exact ⟨x1, x2, x3, e1, p1 φ1 _ H1 (Lt.refl _) (TX.refl _) s1 ((((e.mono l1 t1).set i q1).set j q2).set l q3)⟩
  · exact p1.elim
/-! ### while -/
def whl (c : MT) (m : MS) : Nat → Env → Store → OutS
  | 0, _, _ => .bad
  | f + 1, ρ, S => (c ρ S).then ρ fun b S => match b with
    | false => .go .nx ρ S
    | true => match m ρ S with
      | .go .nx ρ S => whl c m f ρ S
      | .go .ct ρ S => whl c m f ρ S
      | .go .bk ρ S => .go .nx ρ S
      | .go (.rt w) ρ S => .go (.rt w) ρ S
      | .exc x ρ S => .exc x ρ S
      | .bad => .bad
/-- at most so many turns -/
def fuel : Nat := 100000
def sWhile (c : MT) (m : MS) : MS := fun ρ S => whl c m fuel ρ S
theorem ss_while (C : Ct X W k) {c : Expr} {body : List Stmt} {mc : MT} {m : MS} (hc : ST X Tb W c mc) (hb : SSs X Tb W body m) : SS X Tb W (.While c body [] pos) (sWhile mc m) := by
  refine ss_weak (ps_while C.po hc.pt hb.pss) fun Λ φ ρ S σ H D s e p => ?_
  refine ⟨fun f σ H => ∃ φ ρ S, SR X.K X.mg Tb Λ φ S H ∧ ER X.K Λ φ H ρ σ ∧ PostS X.K X.mg Tb Λ W φ H (whl mc m f ρ S) D, ⟨fuel, φ, ρ, S, s, e, p⟩, ?_⟩
  rintro f σ H ⟨φ, ρ, S, s, e, p⟩
  cases f with
  | zero => exact p.elim
  | succ f =>
    refine ⟨Λ, φ, ρ, S, s, e, (PostS.then e (show PostS X.K X.mg Tb Λ W φ H ((mc ρ S).then ρ _) D from p)).imp fun b H1 ⟨φ1, b', S1, l1, t1, s1, r1, p1⟩ => ?_⟩
    cases r1
    cases b with
    | false => exact iteF (p1 φ1 σ H1 (Lt.refl _) (TX.refl _) s1 (e.mono l1 t1))
    | true =>
      refine iteT ⟨fun σ H => ∃ φ ρ S, SR X.K X.mg Tb Λ φ S H ∧ ER X.K Λ φ H ρ σ ∧ PostS X.K X.mg Tb Λ W φ H (whl mc m f ρ S) D, fun σ' H' h => ⟨f, Nat.lt_succ_self f, h⟩, Λ, φ1, ρ, S1, s1, e.mono l1 t1, ?_⟩
      have p1 : PostS X.K X.mg Tb Λ W φ1 H1 (match m ρ S1 with
        | .go .nx ρ S => whl mc m f ρ S
        | .go .ct ρ S => whl mc m f ρ S
        | .go .bk ρ S => .go .nx ρ S
        | .go (.rt w) ρ S => .go (.rt w) ρ S
        | .exc x ρ S => .exc x ρ S
        | .bad => .bad) D := p1
      cases hm : m ρ S1 with
      | go fl ρ' S' =>
        rw [hm] at p1
        cases fl with
        | nx => exact fun φ' σ' H' l t s' e' => ⟨φ', ρ', S', s', e', p1.mono l t⟩
        | ct => exact fun φ' σ' H' l t s' e' => ⟨φ', ρ', S', s', e', p1.mono l t⟩
        | bk => exact fun φ' σ' H' l t s' e' => p1 φ' σ' H' l t s' e'
        | rt w => exact p1
      | exc c ρ' S' => rw [hm] at p1; exact p1
      | bad => rw [hm] at p1; exact p1
end
end Sm
/-! text Sm5 -/
namespace Sm
open PySem PySem.Spec PyProof.Rows L2
/-! ### what is walked -/
inductive Stp where
  | bad | stop | item (w : U)
/-- at turn i, in the store as it is then -/
abbrev Src := Nat → Store → Stp
/-- a walked thing, and the dict that is held meanwhile -/
abbrev MI := Env → Store → Out (Src × Option Nat)
def LkR (X : Cx) (φ : Map) (H : Hp) : Option Nat → Prop
  | none => True
  | some n => ∃ a od vs, φ n = some a ∧ H a = some (.frz od (.dK vs)) ∧ ∀ o' u', X.H_0 a ≠ some (.frz o' u')
def relI (X : Cx) (Tb : Tbs) (Λ : Lam) : Map → Hp → (Src × Option Nat) → It → Prop := fun φ H p J =>
  (∀ i φ' S' H', Lt φ φ' → TX H H' → SR X.K X.mg Tb Λ φ' S' H' → match p.1 i S' with
    | .item w => J.go i H' ∧ ∀ x H'', J.yld i H' x H'' → TX H' H'' ∧ SR X.K X.mg Tb Λ φ' S' H'' ∧ VR X.K Λ φ' H'' w x
    | .stop => J.stop i H'
    | .bad => True) ∧ LkR X φ H p.2
/-- what is held newly was not held ahead -/
def NoF (φ : Map) (H : Hp) (lk : Option Nat) : Prop := ∀ n a, lk = some n → φ n = some a → ∀ o u, H a ≠ some (.frz o u)
def PostI (X : Cx) (Tb : Tbs) (Λ : Lam) (E : Value → Option Addr → Hp → Prop) (φ : Map) (H : Hp) (o : Out (Src × Option Nat)) (R : It → Hp → Prop) : Prop := match o with
  | .ok w S' => ∀ φ' v H', Lt φ φ' → TX H H' → SR X.K X.mg Tb Λ φ' S' H' → relI X Tb Λ φ' H' w v → NoF φ' H w.2 → R v H'
  | .exc c S' => ∀ φ' H' C, Lt φ φ' → TX H H' → SR X.K X.mg Tb Λ φ' S' H' → X.mg c = some (.ref C) → E (.ref C) none H'
  | .bad => False
theorem NoF.none {φ : Map} {H : Hp} : NoF φ H none := fun _ _ h => nomatch h
theorem PostI.mono {X : Cx} {Tb : Tbs} {Λ : Lam} {E : Value → Option Addr → Hp → Prop} {φ φ1 : Map} {H H1 : Hp} {o : Out (Src × Option Nat)} {R : It → Hp → Prop} (l : Lt φ φ1) (t : TX H H1) (h : PostI X Tb Λ E φ H o R) : PostI X Tb Λ E φ1 H1 o R := by
  cases o with
  | ok w S' => exact fun φ' v H' l' t' s r nf => h φ' v H' (l.trans l') (t.trans t') s r fun n a e1 e2 o u e3 => nf n a e1 e2 o u (t.frz _ _ _ e3)
  | exc c S' => exact fun φ' H' C l' t' s r => h φ' H' C (l.trans l') (t.trans t') s r
  | bad => exact h
theorem PostI.bind {X : Cx} {Tb : Tbs} {Λ : Lam} {E : Value → Option Addr → Hp → Prop} {φ : Map} {H : Hp} {α β : Type} {rel : Map → Hp → α → β → Prop} {o : Out α} {k : α → Store → Out (Src × Option Nat)} {R : It → Hp → Prop} (h : PostI X Tb Λ E φ H (o.bind k) R) :
    Post X.K X.mg Tb Λ rel E φ H o fun v H1 => ∃ φ1 w S1, Lt φ φ1 ∧ TX H H1 ∧ SR X.K X.mg Tb Λ φ1 S1 H1 ∧ rel φ1 H1 w v ∧ PostI X Tb Λ E φ1 H1 (k w S1) R := by
  cases o with
  | ok w S' => exact fun φ' v H' l t s r => ⟨φ', w, S', l, t, s, r, PostI.mono l t h⟩
  | exc c S' => exact h
  | bad => exact h
def tSI (X : Cx) (Tb : Tbs) (W : WX) (m : MI) : TI := fun σ H R => ∃ Λ φ ρ S, SR X.K X.mg Tb Λ φ S H ∧ ER X.K Λ φ H ρ σ ∧ PostI X Tb Λ (fun c d H => W c d σ H) φ H (m ρ S) R
structure SI (X : Cx) (Tb : Tbs) (W : WX) (tg e : Expr) (m : MI) : Prop where
  pi : PI X tg e (tSI X Tb W m)
theorem PI_weak {X : Cx} {tg e : Expr} {t t' : TI} (h : PI X tg e t) (q : ∀ σ H R, t' σ H R → t σ H R) : PI X tg e t' := ⟨fun pins s σ H R I x => h.run pins s σ H R I (q σ H R x)⟩
theorem PI_or {X : Cx} {tg e : Expr} {t t' : TI} (h : PI X tg e t) (h' : PI X tg e t') : PI X tg e (fun σ H R => t σ H R ∨ t' σ H R) :=
  ⟨fun pins s σ H R I x => x.elim (h.run pins s σ H R I) (h'.run pins s σ H R I)⟩
theorem si_weak {X : Cx} {Tb : Tbs} {W : WX} {tg e : Expr} {m : MI} {t : TI} (h : PI X tg e t) (q : ∀ Λ φ ρ S σ H R, SR X.K X.mg Tb Λ φ S H → ER X.K Λ φ H ρ σ → PostI X Tb Λ (fun c d H => W c d σ H) φ H (m ρ S) R → t σ H R) : SI X Tb W tg e m :=
  ⟨PI_weak h fun σ H R ⟨Λ, φ, ρ, S, s, e, p⟩ => q Λ φ ρ S σ H R s e p⟩
/-- the items of a list as they stand -/
def srcL (n : Nat) : Src := fun i S => match S.get n with
  | some ⟨.lst ws, _⟩ => (match ws[i]? with
    | some w => .item w
    | none => .stop)
  | _ => .bad
def srcV (ws : List U) : Src := fun i _ => match ws[i]? with
  | some w => .item w
  | none => .stop
def srcR (lo : Int) (n : Nat) : Src := fun i _ => if i < n then .item (.int (lo + i)) else .stop
section
variable {X : Cx} {Tb : Tbs} {W : WX} {tg e : Expr} {m : ME}
theorem relI_L {Λ : Lam} {φ : Map} {H : Hp} {n : Nat} {a : Addr} (hn : φ n = some a) : relI X Tb Λ φ H (srcL n, none) (Itl X.K a) := by
  refine ⟨fun i φ' S' H' l t s => ?_, True.intro⟩
  show match srcL n i S' with
    | .item w => (Itl X.K a).go i H' ∧ ∀ x H'', (Itl X.K a).yld i H' x H'' → TX H' H'' ∧ SR X.K X.mg Tb Λ φ' S' H'' ∧ VR X.K Λ φ' H'' w x
    | .stop => (Itl X.K a).stop i H'
    | .bad => True
  unfold srcL
  cases hg : S'.get n with
  | none => exact True.intro
  | some c =>
    obtain ⟨o, lk⟩ := c
    cases o with
    | lst ws =>
      obtain ⟨a', vs, g1, g2, g3, g4⟩ := s.lst hg
      rw [l _ _ hn] at g1; cases g1
      show match (match ws[i]? with | some w => Stp.item w | none => Stp.stop) with
        | .item w => _ | .stop => _ | .bad => True
      cases hw : ws[i]? with
      | some w =>
        obtain ⟨v, hv, rv⟩ := g3.get hw
        refine ⟨⟨vs, v, g2, hv⟩, fun x H'' ⟨e1, e2⟩ => ?_⟩
        subst e1
        have := e2 vs g2
        rw [hv] at this; cases this
        exact ⟨TX.refl _, s, rv⟩
      | none =>
        refine ⟨vs, g2, ?_⟩
        rw [g3.length]
        exact List.getElem?_eq_none_iff.mp hw
    | _ => exact True.intro
theorem relI_V {Λ : Lam} {φ : Map} {H : Hp} {ws : List U} {vs : List V} {J : It} (r : VRs X.K Λ φ H ws vs) (hJ : ∀ i H', TX H H' → (∀ v, vs[i]? = some v → J.go i H' ∧ ∀ x H'', J.yld i H' x H'' → H'' = H' ∧ x = v) ∧ (vs[i]? = none → J.stop i H')) : relI X Tb Λ φ H (srcV ws, none) J := by
  refine ⟨fun i φ' S' H' l t s => ?_, True.intro⟩
  show match srcV ws i S' with
    | .item w => J.go i H' ∧ ∀ x H'', J.yld i H' x H'' → TX H' H'' ∧ SR X.K X.mg Tb Λ φ' S' H'' ∧ VR X.K Λ φ' H'' w x
    | .stop => J.stop i H'
    | .bad => True
  unfold srcV
  have r' : VRs X.K Λ φ' H' ws vs := r.mono l t
  cases hw : ws[i]? with
  | some w =>
    obtain ⟨v, hv, rv⟩ := r'.get hw
    obtain ⟨h1, h2⟩ := (hJ i H' t).1 v hv
    refine ⟨h1, fun x H'' hy => ?_⟩
    obtain ⟨e1, e2⟩ := h2 x H'' hy
    subst e1 e2
    exact ⟨TX.refl _, s, rv⟩
  | none =>
    refine (hJ i H' t).2 (List.getElem?_eq_none_iff.mpr ?_)
    rw [r'.length]
    exact List.getElem?_eq_none_iff.mp hw
/-- for x in e, e a list, a tuple, a text, a dict -/
def mIt (m : ME) : MI := fun ρ S => (m ρ S).bind fun w S => match w with
  | .ref n => (match S.get n with
    | some ⟨.lst _, _⟩ => .ok (srcL n, none) S
    | some ⟨.dK kvs, 0⟩ => .ok (srcV (kvs.map fun p => kyU p.1), some n) (S.put n ⟨.dK kvs, 1⟩)
    | some ⟨.dK kvs, _⟩ => .ok (srcV (kvs.map fun p => kyU p.1), none) S
    | _ => .bad)
  | .tup ws => .ok (srcV ws, none) S
  | .lsq ws => .ok (srcV ws, none) S
  | .str l => .ok (srcV (l.map fun c => .str [c]), none) S
  | _ => .bad
/-- e a dict: held from here on, where it was not -/
def iHold (X : Cx) (td : TE) (J : Addr → Obj → List (Key × V) → It) : TI := fun σ H R => td σ H fun x H1 => ∃ d kvs, x = .ref d ∧
  ((H1 d = some (.dK kvs) ∧ ∀ od, (∀ o' u', X.H_0 d ≠ some (.frz o' u')) → R (J d od kvs) (upd H1 d (.frz od (.dK kvs)))) ∨ ∃ o, H1 d = some (.frz o (.dK kvs)) ∧ R (J d o kvs) H1)
theorem pi_keysH {td : TE} (he : PE X e td) : PI X tg e (iHold X td Itk) := by
  refine ⟨fun pins s σ H R I h => ?_⟩
  refine thn (he.run pins s σ H _ I h) fun u s1 ⟨x, H1, I1, rx, d, kvs, ex, q⟩ => ?_
  subst ex
  obtain rfl : u = Value.ref d := rx
  have go : ∀ (H2 : Hp) (o : Obj), Inv X pins σ H2 s1 → H2 d = some (.frz o (.dK kvs)) → R (Itk d o kvs) H2 → wpAny (model X.prog X.w) X.A (pyIter (.ref d)) (PIE X pins σ tg R) X.xe s1 := fun H2 o I2 hd q => by
    obtain ⟨hs, hgd, hx, es, ep, vs, hdt, hsz, kv, hm⟩ := I2.frzK hd
    refine iter_keys hs hgd hx hdt (pi_one (tk := s1.toks) I2 _ (turn_keys _ hdt) ⟨_, Heap.get?_push_size _ rfl, rfl, ?_⟩ q)
    rw [hsz] <;> rfl
  rcases q with ⟨hd, q⟩ | ⟨o, hd, q⟩
  · obtain ⟨od, I2⟩ := I1.lock hd True.intro
    exact go _ od I2 upd_same (q od (I1.nofrz hd True.intro))
  · exact go _ o I1 hd q
theorem SR.hold {K : PySem.W.Frag} {mg : Str → Option Value} {Λ : Lam} {φ : Map} {S : Store} {H : Hp} {n : Nat} {kvs : List (Ky × U)} {a : Addr} {vs : List (Key × V)} {od : Obj} (s : SR K mg Tb Λ φ S H) (g1 : φ n = some a) (hd : H a = some (.dK vs)) (g3 : KR K Λ φ H Ky.k kvs vs) :
    TX H (upd H a (.frz od (.dK vs))) ∧ SR K mg Tb Λ φ (S.put n ⟨.dK kvs, 1⟩) (upd H a (.frz od (.dK vs))) := by
  have hs : Soft (.dK vs) := True.intro
  exact ⟨TX.put hd hs, s.wr g1 hd hs ⟨vs, ⟨od, upd_same⟩, g3.mono (Lt.refl _) (TX.put hd hs)⟩ (fun _ z => nomatch z) (fun _ z => nomatch z) fun _ z => nomatch z⟩
theorem KR.gets {κ κ' : Type} {K : PySem.W.Frag} {Λ : Lam} {φ : Map} {H : Hp} {f : κ → κ'} : ∀ {kvs : List (κ × U)} {vs : List (κ' × V)} {i : Nat} {p : κ × U}, KR K Λ φ H f kvs vs → kvs[i]? = some p → ∃ v, vs[i]? = some (f p.1, v) ∧ VR K Λ φ H p.2 v
  | [], _, i, _, _, e => by simp at e
  | (x, w) :: r, _, 0, p, h, e => by
    obtain ⟨v, r', rfl, h1, h2⟩ := h
    simp at e; subst e
    exact ⟨v, rfl, h1⟩
  | (x, w) :: r, _, i + 1, p, h, e => by
    obtain ⟨v, r', rfl, h1, h2⟩ := h
    obtain ⟨v', e', h3⟩ := KR.gets (i := i) (p := p) h2 (by simpa using e)
    exact ⟨v', by simpa using e', h3⟩
theorem kyU_ok {K : PySem.W.Frag} {Λ : Lam} {φ : Map} {H : Hp} (k : Ky) : VR K Λ φ H (kyU k) (kV k.k) := by
  cases k <;> rfl
/-- a walk over a held dict -/
theorem relI_D {Λ : Lam} {φ : Map} {H : Hp} {d : Addr} {od : Obj} {kvs : List (Ky × U)} {vs : List (Key × V)} {J : It} {f : Ky × U → U} {lk : Option Nat} (hd : H d = some (.frz od (.dK vs))) (g3 : KR X.K Λ φ H Ky.k kvs vs) (hl : LkR X φ H lk)
    (hgo : ∀ i H', H' d = some (.frz od (.dK vs)) → (i < vs.length → J.go i H') ∧ (vs.length ≤ i → J.stop i H'))
    (hy : ∀ i φ' S' H' x H'' p v, Lt φ φ' → SR X.K X.mg Tb Λ φ' S' H' → J.yld i H' x H'' → kvs[i]? = some p → vs[i]? = some (p.1.k, v) → VR X.K Λ φ' H' p.2 v → TX H' H'' ∧ SR X.K X.mg Tb Λ φ' S' H'' ∧ VR X.K Λ φ' H'' (f p) x) :
    relI X Tb Λ φ H (srcV (kvs.map f), lk) J := by
  refine ⟨fun i φ' S' H' l t s => ?_, hl⟩
  have hd' := t.frz _ _ _ hd
  have g3' := g3.mono l t
  show match srcV (kvs.map f) i S' with
    | .item w => J.go i H' ∧ ∀ x H'', J.yld i H' x H'' → TX H' H'' ∧ SR X.K X.mg Tb Λ φ' S' H'' ∧ VR X.K Λ φ' H'' w x
    | .stop => J.stop i H'
    | .bad => True
  unfold srcV
  cases hw : kvs[i]? with
  | some p =>
    rw [show (kvs.map f)[i]? = some (f p) by rw [List.getElem?_map, hw]; rfl]
    obtain ⟨v, e1, r1⟩ := g3'.gets hw
    exact ⟨(hgo i H' hd').1 (List.getElem?_eq_some_iff.mp e1).1, fun x H'' hyy => hy i φ' S' H' x H'' p v l s hyy hw e1 r1⟩
  | none =>
    rw [show (kvs.map f)[i]? = none by rw [List.getElem?_map, hw]; rfl]
    refine (hgo i H' hd').2 ?_
    rw [g3'.length]
    exact List.getElem?_eq_none_iff.mp hw
theorem si_it (h : SE X Tb W e m) : SI X Tb W tg e (mIt m) := by
  refine si_weak (PI_or (pi_list h.pe) (PI_or (pi_tup h.pe) (PI_or (pi_str h.pe) (pi_keysH h.pe)))) fun Λ φ ρ S σ H R s e p => ?_
  cases hm : m ρ S with
  | bad => unfold mIt at p; rw [hm] at p; exact p.elim
  | exc c S1 =>
    unfold mIt at p
    rw [hm] at p
    exact .inl ⟨Λ, φ, ρ, S, s, e, by rw [hm]; exact p⟩
  | ok w S1 =>
    unfold mIt at p
    rw [hm] at p
    cases w with
    | non => exact p.elim
    | bl _ => exact p.elim
    | int _ => exact p.elim
    | lam _ => exact p.elim
    | tup ws =>
      refine .inr (.inl ⟨Λ, φ, ρ, S, s, e, ?_⟩)
      rw [hm]
      intro φ1 v H1 l t s1 r1
      obtain ⟨a, vs, rfl, h1, h2⟩ := r1
      refine ⟨a, rfl, ⟨vs, h1⟩, p φ1 _ H1 l t s1 (relI_V h2 fun i H' t' => ⟨fun v hv => ⟨⟨vs, v, t'.sq h1, hv⟩, fun x H'' ⟨e1, e2⟩ => ?_⟩, fun hn => ⟨vs, t'.sq h1, List.getElem?_eq_none_iff.mp hn⟩⟩) NoF.none⟩
      have := e2 vs (t'.sq h1)
      rw [hv] at this
      exact ⟨e1, (Option.some.inj this).symm⟩
    | lsq ws =>
      refine .inl ⟨Λ, φ, ρ, S, s, e, ?_⟩
      rw [hm]
      intro φ1 v H1 l t s1 r1
      obtain ⟨a, vs, rfl, h1, h2⟩ := r1
      refine ⟨a, rfl, ⟨vs, h1.sq⟩, p φ1 _ H1 l t s1 (relI_V h2 fun i H' t' => ⟨fun v hv => ⟨⟨vs, v, (t'.pl h1).sq, hv⟩, fun x H'' ⟨e1, e2⟩ => ?_⟩, fun hn => ⟨vs, (t'.pl h1).sq, List.getElem?_eq_none_iff.mp hn⟩⟩) NoF.none⟩
      have := e2 vs (t'.pl h1).sq
      rw [hv] at this
      exact ⟨e1, (Option.some.inj this).symm⟩
    | str l =>
      refine .inr (.inr (.inl ⟨Λ, φ, ρ, S, s, e, ?_⟩))
      rw [hm]
      intro φ1 v H1 l1 t s1 r1
      refine ⟨_, r1, p φ1 _ H1 l1 t s1 (relI_V (vs := l.map fun c => V.str ⟨#[c]⟩) ?_ fun i H' t' => ⟨fun v hv => ?_, fun hn => ?_⟩) NoF.none⟩
      · refine VRs.of_get (by simp) fun i w v e1 e2 => ?_
        rw [List.getElem?_map] at e1 e2
        cases hl : l[i]? with
        | none => rw [hl] at e1; cases e1
        | some c =>
          rw [hl] at e1 e2
          cases e1; cases e2
          rfl
      · rw [List.getElem?_map] at hv
        cases hl : l[i]? with
        | none => rw [hl] at hv; cases hv
        | some c =>
          rw [hl] at hv
          cases hv
          refine ⟨by have := (List.getElem?_eq_some_iff.mp hl).1; show i < l.toArray.size; simpa using this, fun x H'' ⟨e1, c', e2, e3⟩ => ⟨e1, ?_⟩⟩
          have e4 : l[i]? = some c' := by simpa using e2
          rw [hl] at e4
          cases e4
          exact e3
      · have := List.getElem?_eq_none_iff.mp hn
        show l.toArray.size ≤ i
        simpa using this
    | ref n =>
      have p : PostI X Tb Λ (fun c d H => W c d σ H) φ H (match S1.get n with
        | some ⟨.lst _, _⟩ => .ok (srcL n, none) S1
        | some ⟨.dK kvs, 0⟩ => .ok (srcV (kvs.map fun p => kyU p.1), some n) (S1.put n ⟨.dK kvs, 1⟩)
        | some ⟨.dK kvs, _⟩ => .ok (srcV (kvs.map fun p => kyU p.1), none) S1
        | _ => .bad) R := p
      split at p
      · rename_i ws lk hg
        refine .inl ⟨Λ, φ, ρ, S, s, e, ?_⟩
        rw [hm]
        intro φ1 v H1 l t s1 r1
        obtain ⟨a, rfl, h1⟩ := r1
        obtain ⟨a', vs, g1, g2, g3, g4⟩ := s1.lst hg
        rw [h1] at g1; cases g1
        exact ⟨a, rfl, ⟨vs, g2⟩, p φ1 _ H1 l t s1 (relI_L h1) NoF.none⟩
      · rename_i kvs hg
        refine .inr (.inr (.inr ⟨Λ, φ, ρ, S, s, e, ?_⟩))
        rw [hm]
        intro φ1 v H1 l t s1 r1
        obtain ⟨a, rfl, h1⟩ := r1
        obtain ⟨a', vs, g1, g2, g3, g4⟩ := s1.dK hg
        rw [h1] at g1; cases g1
        refine ⟨a, vs, rfl, .inl ⟨g4 rfl, fun od hf => ?_⟩⟩
        obtain ⟨t2, s2⟩ := s1.hold (od := od) h1 (g4 rfl) g3
        refine p φ1 _ _ l (t.trans t2) s2 (relI_D (f := fun p => kyU p.1) upd_same (g3.mono (Lt.refl _) t2) ⟨a, od, vs, h1, upd_same, hf⟩ (fun i H' hd' => ⟨fun h => ⟨hd', h⟩, fun h => ⟨hd', h⟩⟩) fun i φ' S' H' x H'' p v l' s' hyy _ e1 _ => ?_) fun n' a' e1 e2 o u e3 => ?_
        rotate_left
        · cases e1
          rw [h1] at e2; cases e2
          have := t.frz _ _ _ e3
          rw [g4 rfl] at this; cases this
        obtain ⟨e2, k, v', e3, e4⟩ := hyy
        rw [e1] at e3
        cases e3
        subst e2 e4
        exact ⟨TX.refl _, s', kyU_ok _⟩
      · rename_i kvs lk hne hg
        refine .inr (.inr (.inr ⟨Λ, φ, ρ, S, s, e, ?_⟩))
        rw [hm]
        intro φ1 v H1 l t s1 r1
        obtain ⟨a, rfl, h1⟩ := r1
        obtain ⟨a', g1, vs, g2, g3⟩ := s1.ob n _ hg
        rw [h1] at g1; cases g1
        cases lk with
        | zero => exact absurd rfl hne
        | succ lk =>
          obtain ⟨o, g2⟩ := (show ∃ o, H1 a = some (.frz o (.dK vs)) from g2)
          refine ⟨a, vs, rfl, .inr ⟨o, g2, ?_⟩⟩
          refine p φ1 _ _ l t s1 (relI_D (f := fun p => kyU p.1) g2 g3 True.intro (fun i H' hd' => ⟨fun h => ⟨hd', h⟩, fun h => ⟨hd', h⟩⟩) fun i φ' S' H' x H'' p v l' s' hyy _ e1 _ => ?_) NoF.none
          obtain ⟨e2, k, v', e3, e4⟩ := hyy
          rw [e1] at e3
          cases e3
          subst e2 e4
          exact ⟨TX.refl _, s', kyU_ok _⟩
      · exact p.elim
/-- range(n), range(a, b) -/
def inR (i : Int) : Bool := decide (-(2 ^ 62) ≤ i) && decide (i < 2 ^ 62)
def mRange1 (m : MA) : MI := fun ρ S => (m ρ S).bind fun ws S => match ws with
  | [.int j] => if inR j = true then .ok (srcR 0 j.toNat, none) S else .bad
  | _ => .bad
def mRange2 (m : MA) : MI := fun ρ S => (m ρ S).bind fun ws S => match ws with
  | [.int i, .int j] => if (inR i && inR j) = true then .ok (srcR i (j - i).toNat, none) S else .bad
  | _ => .bad
theorem inR_ok {i : Int} (h : inR i = true) : -(2 ^ 62) ≤ i ∧ i < 2 ^ 62 := by
  unfold inR at h
  simpa using h
theorem relI_R {Λ : Lam} {φ : Map} {H : Hp} {lo : Int} {n : Nat} : relI X Tb Λ φ H (srcR lo n, none) (Itr lo n) := by
  refine ⟨fun i φ' S' H' l t s => ?_, True.intro⟩
  show match srcR lo n i S' with
    | .item w => (Itr lo n).go i H' ∧ ∀ x H'', (Itr lo n).yld i H' x H'' → TX H' H'' ∧ SR X.K X.mg Tb Λ φ' S' H'' ∧ VR X.K Λ φ' H'' w x
    | .stop => (Itr lo n).stop i H'
    | .bad => True
  unfold srcR
  by_cases h : i < n
  · rw [if_pos h]
    refine ⟨h, fun x H'' ⟨e1, e2⟩ => ?_⟩
    subst e1 e2
    exact ⟨TX.refl _, s, rfl⟩
  · rw [if_neg h]
    exact Nat.le_of_not_lt h
theorem si_range1 {a : Expr} {ma : MA} {p pos : Pos} (hm : X.mg "range" = none) (ha : SA X Tb W [a] ma) (hg : Gl X "range" := by rfl) (hs : starEach [a] X.env = [(false, eval a X.env)] := by rfl) : SI X Tb W tg (.Call (.Name "range" p) [a] [] pos) (mRange1 ma) := by
  refine si_weak (pi_range1 hg hm ha.pa hs) fun Λ φ ρ S σ H R s e p => ?_
  refine ⟨Λ, φ, ρ, S, s, e, (PostI.bind (rel := relA X.K Λ) p).imp fun vs H1 ⟨φ1, ws, S1, l1, t1, s1, r1, p1⟩ => ?_⟩
  split at p1
  · rename_i j
    split at p1
    · rename_i h
      obtain ⟨v, r, rfl, e1, e2⟩ := r1
      have h' := inR_ok h
      refine ⟨j, ?_, h'.1, h'.2, p1 φ1 _ H1 (Lt.refl _) (TX.refl _) s1 relI_R NoF.none⟩
      rw [show v = V.int j from e1, show r = [] from e2]
    · exact p1.elim
  · exact p1.elim
theorem si_range2 {a b : Expr} {ma : MA} {p pos : Pos} (hm : X.mg "range" = none) (ha : SA X Tb W [a, b] ma) (hg : Gl X "range" := by rfl) (hs : starEach [a, b] X.env = [(false, eval a X.env), (false, eval b X.env)] := by rfl) (hs2 : starEach [b] X.env = [(false, eval b X.env)] := by rfl) :
    SI X Tb W tg (.Call (.Name "range" p) [a, b] [] pos) (mRange2 ma) := by
  refine si_weak (pi_range2 hg hm ha.pa hs hs2) fun Λ φ ρ S σ H R s e p => ?_
  refine ⟨Λ, φ, ρ, S, s, e, (PostI.bind (rel := relA X.K Λ) p).imp fun vs H1 ⟨φ1, ws, S1, l1, t1, s1, r1, p1⟩ => ?_⟩
  split at p1
  · rename_i i j
    split at p1
    · rename_i h
      obtain ⟨v, r, rfl, e1, v2, r2, e2, e3, e4⟩ := r1
      obtain ⟨h1, h2⟩ := Bool.and_eq_true_iff.mp h
      have h1' := inR_ok h1
      have h2' := inR_ok h2
      refine ⟨i, j, ?_, ⟨h1'.1, h1'.2, h2'.1, h2'.2⟩, p1 φ1 _ H1 (Lt.refl _) (TX.refl _) s1 relI_R NoF.none⟩
      rw [show v = V.int i from e1, e2, show v2 = V.int j from e3, show r2 = [] from e4]
    · exact p1.elim
  · exact p1.elim
end
/-! ### for -/
def unlk (lk : Option Nat) (S : Store) : Option Store := match lk with
  | none => some S
  | some n => (match S.get n with
    | some ⟨.dK kvs, 1⟩ => some (S.put n ⟨.dK kvs, 0⟩)
    | _ => none)
def frl (src : Src) (g : MG) (m : MS) : Nat → Nat → Env → Store → OutS
  | 0, _, _, _ => .bad
  | f + 1, i, ρ, S => match src i S with
    | .bad => .bad
    | .stop => .go .nx ρ S
    | .item w => (g w ρ S).then ρ fun ρ S => match m ρ S with
      | .go .nx ρ S => frl src g m f (i + 1) ρ S
      | .go .ct ρ S => frl src g m f (i + 1) ρ S
      | .go .bk ρ S => .go .nx ρ S
      | .go (.rt w) ρ S => .go (.rt w) ρ S
      | .exc x ρ S => .exc x ρ S
      | .bad => .bad
def unlkS (lk : Option Nat) (o : OutS) : OutS := match lk with
  | none => o
  | some _ => (match o with
    | .go f ρ S => (match unlk lk S with
      | some S => .go f ρ S
      | none => .bad)
    | o => o)
def sFor (mi : MI) (g : MG) (m : MS) : MS := fun ρ S => (mi ρ S).then ρ fun p S => unlkS p.2 (frl p.1 g m fuel 0 ρ S)
section
variable {X : Cx} {Tb : Tbs} {W : WX} {pos : Pos} {k : Nat}
/-- behind a statement something held may be let go -/
def freed (X : Cx) (P : Hp → Prop) (H : Hp) : Prop := P H ∨ ∃ d od u, H d = some (.frz od u) ∧ (∀ o' u', X.H_0 d ≠ some (.frz o' u')) ∧ P (upd H d u)
theorem freed_ok {pins : List (Addr × Obj)} {σ : L2.St} {H : Hp} {s : Shared} {P : Hp → Prop} (I : Inv X pins σ H s) (h : freed X P H) : ∃ H', Inv X pins σ H' s ∧ P H' := by
  rcases h with h | ⟨d, od, u, hd, hf, h⟩
  · exact ⟨H, I, h⟩
  · exact ⟨_, I.unlock hd hf, h⟩
theorem ps_freed {st : Stmt} {t : TS} (h : PS X st t) : PS X st (fun D σ H => t ⟨fun σ => freed X (D.nx σ), fun v => freed X (D.rt v), fun σ => freed X (D.bk σ), fun σ => freed X (D.ct σ)⟩ σ H) := by
  refine ⟨fun pins s σ H D I hw => thn (h.run pins s σ H _ I hw) fun f s1 q => ?_⟩
  cases f with
  | next => obtain ⟨σ', H', I2, q⟩ := q; obtain ⟨H2, I3, q⟩ := freed_ok I2 q; exact ⟨σ', H2, I3, q⟩
  | brk => obtain ⟨σ', H', I2, q⟩ := q; obtain ⟨H2, I3, q⟩ := freed_ok I2 q; exact ⟨σ', H2, I3, q⟩
  | cont => obtain ⟨σ', H', I2, q⟩ := q; obtain ⟨H2, I3, q⟩ := freed_ok I2 q; exact ⟨σ', H2, I3, q⟩
  | ret v => obtain ⟨x, σ', H', I2, r, q⟩ := q; obtain ⟨H2, I3, q⟩ := freed_ok I2 q; exact ⟨x, σ', H2, I3, r, q⟩
theorem pe_freed {e : Expr} {t : TE} (h : PE X e t) : PE X e (fun σ H Q => t σ H fun v => freed X (Q v)) := by
  refine ⟨fun pins s σ H Q I hw => thn (h.run pins s σ H _ I hw) fun v s1 ⟨x, H1, I2, r, q⟩ => ?_⟩
  obtain ⟨H2, I3, q⟩ := freed_ok I2 q
  exact ⟨x, H2, I3, r, q⟩
/-- what is let go stands as it was -/
theorem SR.free {Λ : Lam} {φ : Map} {S : Store} {H : Hp} {n : Nat} {kvs : List (Ky × U)} {a : Addr} {od : Obj} {vs : List (Key × V)} (s : SR X.K X.mg Tb Λ φ S H) (g1 : φ n = some a) (hd : H a = some (.frz od (.dK vs))) (hg : S.get n = some ⟨.dK kvs, 1⟩) :
    TW H (upd H a (.dK vs)) ∧ SR X.K X.mg Tb Λ φ (S.put n ⟨.dK kvs, 0⟩) (upd H a (.dK vs)) := by
  have hne : ∀ b u, H b = some u → u ≠ .frz od (.dK vs) → b ≠ a := fun b u e1 e2 z => by
    rw [z, hd] at e1
    exact e2 (Option.some.inj e1).symm
  have tw : TW H (upd H a (.dK vs)) := by
    refine ⟨fun b xs r => ?_, fun b ψ r => ?_, fun b o xs r => ?_⟩
    · rcases r with r | ⟨ob, r⟩
      · exact .inl (by rw [upd_ne (hne b _ r fun z => by cases z)]; exact r)
      · exact .inr ⟨ob, by rw [upd_ne (hne b _ r fun z => by cases z)]; exact r⟩
    · rw [upd_ne (hne b _ r fun z => by cases z)]; exact r
    · rw [upd_ne (hne b _ r fun z => by cases z)]; exact r
  obtain ⟨a', g1', vs', ⟨o, g2⟩, g3⟩ := s.ob n _ hg
  rw [g1] at g1'; cases g1'
  rw [hd] at g2
  cases g2
  exact ⟨tw, s.wrW g1 tw ⟨vs, upd_same, g3.monoW (Lt.refl _) tw⟩ (fun _ z => nomatch z) (fun _ z => nomatch z) fun _ z => nomatch z⟩
theorem TX.free {H H1 : Hp} {a : Addr} {od : Obj} {vs : List (Key × V)} (t : TX H H1) (tw : TW H1 (upd H1 a (.dK vs))) (hf : ∀ o u, H a ≠ some (.frz o u)) : TX H (upd H1 a (.dK vs)) :=
  ⟨t.toTW.trans tw, fun b o u h => by
    have : b ≠ a := fun z => hf o u (z ▸ h)
    rw [upd_ne this]
    exact t.frz _ _ _ h⟩
/-- the end of a walk: what was held is let go -/
theorem unlk_end {Λ : Lam} {φ1 φ : Map} {S S' : Store} {H0 H1 H : Hp} {lk : Option Nat} (s : SR X.K X.mg Tb Λ φ S H) (hl : LkR X φ1 H1 lk) (nf : NoF φ1 H0 lk) (l : Lt φ1 φ) (t0 : TX H0 H) (t : TX H1 H) (hu : unlk lk S = some S') {P : Hp → Prop}
    (h : ∀ H', TX H0 H' → TW H H' → SR X.K X.mg Tb Λ φ S' H' → P H') : freed X P H := by
  cases lk with
  | none => cases hu; exact .inl (h H t0 (TX.refl H).toTW s)
  | some n =>
    obtain ⟨a, od, vs, h1, h2, h3⟩ := hl
    unfold unlk at hu
    simp only at hu
    split at hu
    · rename_i kvs hg
      cases hu
      have g1 := l _ _ h1
      have hd := t.frz _ _ _ h2
      obtain ⟨tw, s'⟩ := s.free g1 hd hg
      exact .inr ⟨a, od, .dK vs, hd, h3, h _ (t0.free (od := od) tw fun o u e => nf n a rfl h1 o u e) tw s'⟩
    · cases hu
theorem ss_for (C : Ct X W k) {tg it : Expr} {body : List Stmt} {mi : MI} {g : MG} {m : MS} {own : List Nat} (hi : SI X Tb W tg it mi) (hg : SG X Tb W own tg g) (hb : SSs X Tb W body m) (hs : ∀ x, foldedSetIterable it X.env x = pure x := by intro _; rfl) : SS X Tb W (.For tg it body [] pos) (sFor mi g m) := by
  refine ss_weak (ps_freed (ps_for C.po C.calm hi.pi hg.pg hb.pss hs)) fun Λ φ ρ S σ H D s e p => ?_
  refine ⟨Λ, φ, ρ, S, s, e, ?_⟩
  unfold sFor at p
  cases hm : mi ρ S with
  | bad => rw [hm] at p; exact p.elim
  | exc c S1 =>
    rw [hm] at p
    exact fun φ' H' C l t s' hc => p φ' σ H' C l t s' (e.mono l t) hc
  | ok sl S1 =>
    obtain ⟨src, lk⟩ := sl
    rw [hm] at p
    intro φ1 J H1 l1 t1 s1 ri nf
    obtain ⟨ri, hl⟩ := ri
    have p : PostS X.K X.mg Tb Λ W φ H (unlkS lk (frl src g m fuel 0 ρ S1)) D := p
    -- an end of the whole walk
    have fin : ∀ (φ2 : Map) (H2 : Hp) (ρ2 : Env) (S2 : Store) (σ2 : L2.St), Lt φ1 φ2 → TX H1 H2 → SR X.K X.mg Tb Λ φ2 S2 H2 → ER X.K Λ φ2 H2 ρ2 σ2 → PostS X.K X.mg Tb Λ W φ H (unlkS lk (.go .nx ρ2 S2)) D → freed X (D.nx σ2) H2 := fun φ2 H2 ρ2 S2 σ2 l2 t2 s2 e2 q => by
      cases lk with
      | none => exact .inl (q φ2 σ2 H2 (l1.trans l2) (t1.trans t2) s2 e2)
      | some n =>
        unfold unlkS at q
        cases hu : unlk (some n) S2 with
        | none => simp only [hu] at q; exact q.elim
        | some S3 =>
          simp only [hu] at q
          exact unlk_end s2 hl nf l2 (t1.trans t2) t2 hu fun H' t3 tw s3 => q φ2 σ2 H' (l1.trans l2) t3 s3 (e2.monoW (Lt.refl _) tw)
    have finR : ∀ (φ2 : Map) (H2 : Hp) (ρ2 : Env) (S2 : Store) (σ2 : L2.St) (w : U) (v : V), Lt φ1 φ2 → TX H1 H2 → SR X.K X.mg Tb Λ φ2 S2 H2 → ER X.K Λ φ2 H2 ρ2 σ2 → VR X.K Λ φ2 H2 w v → PostS X.K X.mg Tb Λ W φ H (unlkS lk (.go (.rt w) ρ2 S2)) D → freed X (D.rt v) H2 := fun φ2 H2 ρ2 S2 σ2 w v l2 t2 s2 e2 r2 q => by
      cases lk with
      | none => exact .inl (q φ2 σ2 H2 (l1.trans l2) (t1.trans t2) s2 e2 v r2)
      | some n =>
        unfold unlkS at q
        cases hu : unlk (some n) S2 with
        | none => simp only [hu] at q; exact q.elim
        | some S3 =>
          simp only [hu] at q
          exact unlk_end s2 hl nf l2 (t1.trans t2) t2 hu fun H' t3 tw s3 => q φ2 σ2 H' (l1.trans l2) t3 s3 (e2.monoW (Lt.refl _) tw) v (r2.monoW (Lt.refl _) tw)
    have finX : ∀ (c : Str) (φ2 : Map) (H2 : Hp) (ρ2 : Env) (S2 : Store) (σ2 : L2.St) (C : Addr), Lt φ1 φ2 → TX H1 H2 → SR X.K X.mg Tb Λ φ2 S2 H2 → ER X.K Λ φ2 H2 ρ2 σ2 → X.mg c = some (.ref C) → PostS X.K X.mg Tb Λ W φ H (unlkS lk (.exc c ρ2 S2)) D → W (.ref C) none σ2 H2 := fun c φ2 H2 ρ2 S2 σ2 C l2 t2 s2 e2 hc q => by
      cases lk with
      | none => exact q φ2 σ2 H2 C (l1.trans l2) (t1.trans t2) s2 e2 hc
      | some n => exact q φ2 σ2 H2 C (l1.trans l2) (t1.trans t2) s2 e2 hc
    refine ⟨fun i f σ H' => ∃ φ2 ρ S, Lt φ1 φ2 ∧ TX H1 H' ∧ SR X.K X.mg Tb Λ φ2 S H' ∧ ER X.K Λ φ2 H' ρ σ ∧ PostS X.K X.mg Tb Λ W φ H (unlkS lk (frl src g m f i ρ S)) D, ⟨fuel, φ1, ρ, S1, Lt.refl _, TX.refl _, s1, e.mono l1 t1, p⟩, ?_⟩
    rintro i f σ2 H2 ⟨φ2, ρ2, S2, l2, t2, s2, e2, q⟩
    have nobad : ∀ {P : Prop}, PostS X.K X.mg Tb Λ W φ H (unlkS lk .bad) D → P := fun h => by
      cases lk <;> exact h.elim
    cases f with
    | zero => exact nobad q
    | succ f =>
      have ri2 := ri i φ2 S2 H2 l2 t2 s2
      unfold frl at q
      cases hsrc : src i S2 with
      | bad => simp only [hsrc] at q; exact nobad q
      | stop =>
        simp only [hsrc] at q ri2
        exact .inl ⟨ri2, fin φ2 H2 ρ2 S2 σ2 l2 t2 s2 e2 q⟩
      | item w =>
        simp only [hsrc] at q ri2
        obtain ⟨hgo, hy⟩ := ri2
        refine .inr ⟨hgo, fun σ' H' => ∃ φ2 ρ S, Lt φ1 φ2 ∧ TX H1 H' ∧ SR X.K X.mg Tb Λ φ2 S H' ∧ ER X.K Λ φ2 H' ρ σ' ∧ PostS X.K X.mg Tb Λ W φ H (unlkS lk (frl src g m f (i + 1) ρ S)) D, fun σ' H' h => ⟨f, Nat.lt_succ_self f, h⟩, fun x H3 hyy => ?_⟩
        obtain ⟨t3, s3, r3⟩ := hy x H3 hyy
        refine ⟨Λ, φ2, ρ2, S2, w, s3, e2.mono (Lt.refl _) t3, r3, ?_⟩
        cases hgw : g w ρ2 S2 with
        | bad => rw [hgw] at q; exact nobad q
        | exc c S4 =>
          rw [hgw] at q
          exact fun φ4 H4 C l4 t4 s4 hc => finX c φ4 H4 ρ2 S4 σ2 C (l2.trans l4) ((t2.trans t3).trans t4) s4 ((e2.mono (Lt.refl _) t3).mono l4 t4) hc q
        | ok ρ4 S4 =>
          rw [hgw] at q
          simp only [Out.then_ok] at q
          intro φ4 σ4 H4 l4 t4 s4 e4
          refine ⟨Λ, φ4, ρ4, S4, s4, e4.1, ?_⟩
          have t24 : TX H1 H4 := (t2.trans t3).trans t4
          have l24 : Lt φ1 φ4 := l2.trans l4
          cases hmm : m ρ4 S4 with
          | bad => simp only [hmm] at q; exact nobad q
          | exc c ρ5 S5 =>
            simp only [hmm] at q
            exact fun φ5 σ5 H5 C l5 t5 s5 e5 hc => finX c φ5 H5 ρ5 S5 σ5 C (l24.trans l5) (t24.trans t5) s5 e5 hc q
          | go fl ρ5 S5 =>
            cases fl with
            | nx =>
              simp only [hmm] at q
              exact fun φ5 σ5 H5 l5 t5 s5 e5 => ⟨φ5, ρ5, S5, l24.trans l5, t24.trans t5, s5, e5, q⟩
            | ct =>
              simp only [hmm] at q
              exact fun φ5 σ5 H5 l5 t5 s5 e5 => ⟨φ5, ρ5, S5, l24.trans l5, t24.trans t5, s5, e5, q⟩
            | bk =>
              simp only [hmm] at q
              exact fun φ5 σ5 H5 l5 t5 s5 e5 => fin φ5 H5 ρ5 S5 σ5 (l24.trans l5) (t24.trans t5) s5 e5 q
            | rt w =>
              simp only [hmm] at q
              exact fun φ5 σ5 H5 l5 t5 s5 e5 v r5 => finR φ5 H5 ρ5 S5 σ5 w v (l24.trans l5) (t24.trans t5) s5 e5 r5 q
end
end Sm
/-! text Sm6 -/
namespace Sm
open PySem PySem.Spec PyProof.Rows L2
/-! ### comprehensions -/
abbrev W0 : WX := fun _ _ _ _ => False

def wipeU (ρ : Env) : List Nat → Env
  | [] => ρ
  | v :: vs => (wipeU ρ vs).set v none
theorem ER.non1 {K : PySem.W.Frag} {Λ : Lam} {φ : Map} {H : Hp} {ρ : Env} {σ : L2.St} (i : Nat) (h : ER K Λ φ H ρ σ) : ER K Λ φ H (ρ.set i none) (σ.set i none) := by
  refine ⟨by simp [h.1], fun j w' e => ?_⟩
  by_cases hj : i = j
  · subst hj
    by_cases hi : i < ρ.length
    · rw [List.getElem?_set_self hi] at e
      cases e
    · rw [List.getElem?_eq_none (by simpa using hi)] at e
      cases e
  · rw [List.getElem?_set_ne hj] at e
    obtain ⟨v', e1, e2⟩ := h.2 j w' e
    exact ⟨v', by rw [List.getElem?_set_ne hj]; exact e1, e2⟩
theorem ER.wipe {K : PySem.W.Frag} {Λ : Lam} {φ : Map} {H : Hp} {ρ : Env} {σ : L2.St} (h : ER K Λ φ H ρ σ) : ∀ vs, ER K Λ φ H (wipeU ρ vs) (L2.wipe σ vs)
  | [] => h
  | v :: vs => (ER.wipe h vs).non1 v
theorem wipe_wipe (σ : L2.St) : ∀ vs us : List Nat, (∀ i ∈ us, i ∈ vs) → wipe (wipe σ us) vs = wipe σ vs
  | vs, [], _ => rfl
  | vs, u :: us, h => by
    show wipe ((wipe σ us).set u none) vs = wipe σ vs
    rw [wipe_set (h u (by simp)), wipe_wipe σ vs us fun i hi => h i (List.mem_cons_of_mem _ hi)]
structure STs (X : Cx) (Tb : Tbs) (W : WX) (ifs : List Expr) (m : MT) : Prop where
  pts : PTs X ifs (tST X.K X.mg Tb W m)
def mYes : MT := fun _ S => .ok true S
theorem PTs_weak {X : Cx} {e : List Expr} {t t' : TT} (h : PTs X e t) (q : ∀ σ H Q, t' σ H Q → t σ H Q) : PTs X e t' := ⟨fun pins s σ H Q I x => h.run pins s σ H Q I (q σ H Q x)⟩
theorem sts_nil {X : Cx} {Tb : Tbs} {W : WX} : STs X Tb W [] mYes := ⟨PTs_weak pts_nil fun σ H Q ⟨Λ, φ, ρ, S, s, e, p⟩ => p φ true H (Lt.refl _) (TX.refl _) s rfl⟩
theorem sts_one {X : Cx} {Tb : Tbs} {W : WX} {c : Expr} {m : MT} (h : ST X Tb W c m) : STs X Tb W [c] m := ⟨pts_one h.pt⟩
/-- the turns: D the new list's number -/
def lcl (src : Src) (g : MG) (mt : MT) (me : ME) (ρ : Env) (D : Nat) : Nat → Nat → Store → Out Unit
  | 0, _, _ => .bad
  | f + 1, i, S => match src i S with
    | .bad => .bad
    | .stop => .ok () S
    | .item w => (noX (g w ρ S)).bind fun ρ2 S => (noX (mt ρ2 S)).bind fun b S => match b with
      | false => lcl src g mt me ρ D f (i + 1) S
      | true => (noX (me ρ2 S)).bind fun u S => match S.get D with
        | some ⟨.lst acc, 0⟩ => if acc.length < lim then lcl src g mt me ρ D f (i + 1) (S.put D ⟨.lst (acc ++ [u]), 0⟩) else .bad
        | _ => .bad
def mLc (mi : MI) (g : MG) (mt : MT) (me : ME) (vs : List Nat) : ME := fun ρ S => (mi ρ S).bind fun p S1 => (lcl p.1 g mt me (wipeU ρ vs) S1.n fuel 0 (S1.new (.lst []))).bind fun _ S => match unlk p.2 S with
  | some S => .ok (.ref S1.n) S
  | none => .bad
/-- .. of a dict -/
def dcl (src : Src) (g : MG) (mt : MT) (mk mv : ME) (ρ : Env) (D : Nat) : Nat → Nat → Store → Out Unit
  | 0, _, _ => .bad
  | f + 1, i, S => match src i S with
    | .bad => .bad
    | .stop => .ok () S
    | .item w => (noX (g w ρ S)).bind fun ρ2 S => (noX (mt ρ2 S)).bind fun b S => match b with
      | false => dcl src g mt mk mv ρ D f (i + 1) S
      | true => (noX (mk ρ2 S)).bind fun k S => (noX (mv ρ2 S)).bind fun u S => match S.get D with
        | some ⟨.dK kvs, 0⟩ => (match uKey k with
          | some k => if kvs.length < lim then dcl src g mt mk mv ρ D f (i + 1) (S.put D ⟨.dK (setK kvs k u), 0⟩) else .bad
          | none => .bad)
        | _ => .bad
def mDc (mi : MI) (g : MG) (mt : MT) (mk mv : ME) (vs : List Nat) : ME := fun ρ S => (mi ρ S).bind fun p S1 => (dcl p.1 g mt mk mv (wipeU ρ vs) S1.n fuel 0 (S1.new (.dK []))).bind fun _ S => match unlk p.2 S with
  | some S => .ok (.ref S1.n) S
  | none => .bad
section
variable {X : Cx} {Tb : Tbs} {W : WX} {pos : Pos} {k : Nat}
theorem Ct.blk (C : Ct X W k) (s : Shared) (H : Hp) (scope : Scope) (cenv : PySem.Env) (fp : List Addr) : Ct (X.blk s H scope cenv fp) W0 k := ⟨C.calm, C.nd, LamX.takes0, PassesOwn.never, C.room⟩
theorem Post.noX_bind {K : PySem.W.Frag} {mg : Str → Option Value} {Λ : Lam} {α β γ δ : Type} {rel : Map → Hp → α → β → Prop} {rel' : Map → Hp → γ → δ → Prop} {E E' : Value → Option Addr → Hp → Prop} {φ : Map} {H : Hp} {o : Out α} {f : α → Store → Out γ} {Q : δ → Hp → Prop}
    (h : Post K mg Tb Λ rel' E φ H ((noX o).bind f) Q) : Post K mg Tb Λ rel E' φ H o fun v H1 => ∃ φ1 w S1, Lt φ φ1 ∧ TX H H1 ∧ SR K mg Tb Λ φ1 S1 H1 ∧ rel φ1 H1 w v ∧ Post K mg Tb Λ rel' E φ H (f w S1) Q := by
  cases o with
  | ok w S' => exact fun φ' v H' l t s r => ⟨φ', w, S', l, t, s, r, h⟩
  | exc c S' => exact h.elim
  | bad => exact h
theorem lc_read {mi : MI} {g : MG} {mt : MT} {me : ME} {vs own : List Nat} (hown : ∀ i ∈ own, i ∈ vs)
    {Λ : Lam} {φ : Map} {ρ : Env} {S : Store} {σ : L2.St} {H : Hp} {Q : VK} (s : SR X.K X.mg Tb Λ φ S H) (e : ER X.K Λ φ H ρ σ) (p : Post X.K X.mg Tb Λ (relV X.K Λ) (fun c d H => W c d σ H) φ H (mLc mi g mt me vs ρ S) Q) :
    tLc (tSI X Tb W mi) (tSG X.K X.mg Tb W0 own g) (tST X.K X.mg Tb W0 mt) (tS X.K X.mg Tb W0 me) vs σ H (fun v => freed X (Q v)) := by
  refine ⟨Λ, φ, ρ, S, s, e, ?_⟩
  unfold mLc at p
  cases hm : mi ρ S with
  | bad => rw [hm] at p; exact p.elim
  | exc c S1 => rw [hm] at p; exact p
  | ok sl S1 =>
    obtain ⟨src, lk⟩ := sl
    rw [hm] at p
    intro φ1 J H1 l1 t1 s1 ri nf D hD
    obtain ⟨ri, hl⟩ := ri
    simp only [Out.bind_ok] at p
    have sD := s1.mk_lst hD (VRs.nil : VRs X.K Λ φ1 H1 [] [])
    have lD := Map.lt_at (p := D) s1
    have tD := TX.new (o := HO.lst []) hD
    refine ⟨fun i f H' => ∃ φ2 S2, Lt (φ1.at_ S1.n D) φ2 ∧ TX (upd H1 D (.lst [])) H' ∧ SR X.K X.mg Tb Λ φ2 S2 H' ∧ Post X.K X.mg Tb Λ (relV X.K Λ) (fun c d H => W c d σ H) φ H
      ((lcl src g mt me (wipeU ρ vs) S1.n f i S2).bind fun _ S => match unlk lk S with | some S => .ok (.ref S1.n) S | none => .bad) Q, ⟨fuel, _, _, Lt.refl _, TX.refl _, sD, p⟩, ?_⟩
    rintro i f H2 ⟨φ2, S2, l2, t2, s2, q⟩
    cases f with
    | zero => exact q.elim
    | succ f =>
      have l12 : Lt φ1 φ2 := lD.trans l2
      have t12 : TX H1 H2 := tD.trans t2
      have ri2 := ri i φ2 S2 H2 l12 t12 s2
      unfold lcl at q
      cases hsrc : src i S2 with
      | bad => simp only [hsrc] at q; exact q.elim
      | stop =>
        simp only [hsrc, Out.bind_ok] at q ri2
        refine .inl ⟨ri2, ?_⟩
        cases hu : unlk lk S2 with
        | none => rw [hu] at q; exact q.elim
        | some S3 =>
          rw [hu] at q
          refine unlk_end s2 hl nf l12 (t1.trans t12) t12 hu fun H' t3 tw s3 => ?_
          exact q φ2 (.ref D) H' (l1.trans l12) t3 s3 ⟨D, rfl, l2 _ _ (by unfold Map.at_; rw [if_pos rfl])⟩
      | item w =>
        simp only [hsrc] at q ri2
        obtain ⟨hgo, hy⟩ := ri2
        refine .inr ⟨hgo, fun H' => ∃ φ2 S2, Lt (φ1.at_ S1.n D) φ2 ∧ TX (upd H1 D (.lst [])) H' ∧ SR X.K X.mg Tb Λ φ2 S2 H' ∧ Post X.K X.mg Tb Λ (relV X.K Λ) (fun c d H => W c d σ H) φ H
          ((lcl src g mt me (wipeU ρ vs) S1.n f (i + 1) S2).bind fun _ S => match unlk lk S with | some S => .ok (.ref S1.n) S | none => .bad) Q, fun H' h => ⟨f, Nat.lt_succ_self f, h⟩, fun x H3 hyy => ?_⟩
        obtain ⟨t3, s3, r3⟩ := hy x H3 hyy
        have e3 : ER X.K Λ φ2 H3 (wipeU ρ vs) (wipe σ vs) := (e.mono (l1.trans l12) ((t1.trans t12).trans t3)).wipe vs
        refine ⟨Λ, φ2, wipeU ρ vs, S2, w, s3, e3, r3, ?_⟩
        cases hgw : g w (wipeU ρ vs) S2 with
        | bad => rw [hgw] at q; exact q.elim
        | exc c S4 => rw [hgw] at q; exact q.elim
        | ok ρ4 S4 =>
          rw [hgw] at q
          intro φ4 σ4 H4 l4 t4 s4 e4
          refine ⟨(e4.2 vs hown).trans (wipe_wipe σ vs vs fun _ h => h), Λ, φ4, ρ4, S4, s4, e4.1, ?_⟩
          cases hmt : mt ρ4 S4 with
          | bad => simp only [noX, Out.bind_ok, hmt] at q; exact q.elim
          | exc c S5 => simp only [noX, Out.bind_ok, hmt] at q; exact q.elim
          | ok b S5 =>
            simp only [noX, Out.bind_ok, hmt] at q
            intro φ5 b' H5 l5 t5 s5 r5
            cases r5
            have l15 : Lt (φ1.at_ S1.n D) φ5 := l2.trans (l4.trans l5)
            have t15 : TX (upd H1 D (.lst [])) H5 := t2.trans (t3.trans (t4.trans t5))
            cases b with
            | false => exact iteF ⟨φ5, S5, l15, t15, s5, q⟩
            | true =>
              refine iteT ⟨Λ, φ5, ρ4, S5, s5, e4.1.mono l5 t5, ?_⟩
              cases hme : me ρ4 S5 with
              | bad => simp only [hme] at q; exact q.elim
              | exc c S6 => simp only [hme] at q; exact q.elim
              | ok u S6 =>
                simp only [hme] at q
                intro φ6 y H6 l6 t6 s6 r6
                have hφ : φ6 S1.n = some D := (l15.trans l6) _ _ (by unfold Map.at_; rw [if_pos rfl])
                cases hg6 : S6.get S1.n with
                | none => simp only [Out.bind_ok, hg6] at q; exact q.elim
                | some c =>
                  obtain ⟨o, lk6⟩ := c
                  simp only [Out.bind_ok, hg6] at q
                  split at q
                  · rename_i acc heq
                    cases heq
                    split at q
                    · rename_i hlen
                      obtain ⟨a', acc', g1, g2, g3, g4⟩ := s6.lst hg6
                      rw [hφ] at g1; cases g1
                      have hD6 := g4 rfl
                      refine ⟨acc', hD6, by rw [g3.length]; exact lim_lt hlen, φ6, _, l15.trans l6, (t15.trans t6).trans (TX.put hD6 True.intro), ?_, q⟩
                      exact s6.wr hφ hD6 True.intro ⟨_, upd_same, (g3.mono (Lt.refl _) (TX.put hD6 True.intro)).app (VRs.cons (VR.mono (Lt.refl _) (TX.put hD6 True.intro) r6) VRs.nil)⟩ (fun _ z => nomatch z) (fun _ z => nomatch z) fun _ z => nomatch z
                    · exact q.elim
                  · exact q.elim
theorem se_lc (C : Ct X W k) {elt tg iter : Expr} {ifs : List Expr} {scope : Scope} {own : List (Str × Nat)} {og : List Nat} {mi : MI} {g : MG} {mt : MT} {me : ME} (hi : SI X Tb W tg iter mi) (ok : BlkOk X.N X.env.scope scope own)
    (hown : ∀ i ∈ og, i ∈ own.map (·.2))
    (hg : ∀ (s : Shared) (H : Hp) (Ca : Addr) (cl : List (Str × Addr)) (fp : List Addr), Ct (X.blk s H scope (compEnvC scope cl Ca X.env) fp) W0 k → SG (X.blk s H scope (compEnvC scope cl Ca X.env) fp) Tb W0 og tg g)
    (ht : ∀ (s : Shared) (H : Hp) (Ca : Addr) (cl : List (Str × Addr)) (fp : List Addr), Ct (X.blk s H scope (compEnvC scope cl Ca X.env) fp) W0 k → STs (X.blk s H scope (compEnvC scope cl Ca X.env) fp) Tb W0 ifs mt)
    (he : ∀ (s : Shared) (H : Hp) (Ca : Addr) (cl : List (Str × Addr)) (fp : List Addr), Ct (X.blk s H scope (compEnvC scope cl Ca X.env) fp) W0 k → SE (X.blk s H scope (compEnvC scope cl Ca X.env) fp) Tb W0 elt me)
    (hs : ∀ x, foldedSetIterable iter X.env x = pure x := by intro _; rfl) : SE X Tb W (.ListComp elt [⟨tg, iter, ifs, 0⟩] scope pos) (mLc mi g mt me (own.map (·.2))) :=
  se_weak (pe_freed (pe_lc (wi := tSI X Tb W mi) (g := tSG X.K X.mg Tb W0 og g) (tt := tST X.K X.mg Tb W0 mt) (te := tS X.K X.mg Tb W0 me) C.calm C.nd hi.pi ok (fun s H Ca cl fp => (hg s H Ca cl fp (C.blk ..)).pg) (fun s H Ca cl fp => (ht s H Ca cl fp (C.blk ..)).pts) (fun s H Ca cl fp => (he s H Ca cl fp (C.blk ..)).pe) hs))
    fun Λ φ ρ S σ H Q s e p => lc_read hown s e p
/-- y = [..] -/
theorem ss_setLc (C : Ct X W k) (i : Nat) {y : Str} {py spos : Pos} {elt tg iter : Expr} {ifs : List Expr} {scope : Scope} {own : List (Str × Nat)} {og : List Nat} {mi : MI} {g : MG} {mt : MT} {me : ME} (hsw : swapsWith (.ListComp elt [⟨tg, iter, ifs, 0⟩] scope pos) (some (.Name y py)) spos.line X.env = pure true)
    (hi : SI X Tb W tg iter mi) (ok : BlkOk X.N X.env.scope scope own) (hown : ∀ i ∈ og, i ∈ own.map (·.2))
    (hg : ∀ (s : Shared) (H : Hp) (Ca : Addr) (cl : List (Str × Addr)) (fp : List Addr), Ct (X.blk s H scope (compEnvC scope cl Ca X.env) fp) W0 k → SG (X.blk s H scope (compEnvC scope cl Ca X.env) fp) Tb W0 og tg g)
    (ht : ∀ (s : Shared) (H : Hp) (Ca : Addr) (cl : List (Str × Addr)) (fp : List Addr), Ct (X.blk s H scope (compEnvC scope cl Ca X.env) fp) W0 k → STs (X.blk s H scope (compEnvC scope cl Ca X.env) fp) Tb W0 ifs mt)
    (he : ∀ (s : Shared) (H : Hp) (Ca : Addr) (cl : List (Str × Addr)) (fp : List Addr), Ct (X.blk s H scope (compEnvC scope cl Ca X.env) fp) W0 k → SE (X.blk s H scope (compEnvC scope cl Ca X.env) fp) Tb W0 elt me)
    (hy : X.N[i]? = some y := by rfl) (hyl : X.env.scope.names.lookup y = some .local := by rfl) (hs : ∀ x, foldedSetIterable iter X.env x = pure x := by intro _; rfl) :
    SS X Tb W (.Assign [.Name y py] (.ListComp elt [⟨tg, iter, ifs, 0⟩] scope pos) spos) (sSet i (mLc mi g mt me (own.map (·.2)))) := by
  refine ss_weak (ps_freed (ps_setLc (wi := tSI X Tb W mi) (g := tSG X.K X.mg Tb W0 og g) (tt := tST X.K X.mg Tb W0 mt) (te := tS X.K X.mg Tb W0 me) (i := i) C.calm C.nd hy hyl hsw hi.pi ok (fun s H Ca cl fp => (hg s H Ca cl fp (C.blk ..)).pg) (fun s H Ca cl fp => (ht s H Ca cl fp (C.blk ..)).pts) (fun s H Ca cl fp => (he s H Ca cl fp (C.blk ..)).pe) hs)) fun Λ φ ρ S σ H D s e p => ?_
  have p2 := (PostS.then (rel := relV X.K Λ) e p).imp (Q' := fun v H1 => D.nx (σ.set i (some v)) H1) fun v H1 ⟨φ1, w, S1, l1, t1, s1, r1, p1⟩ => p1 φ1 _ H1 (Lt.refl _) (TX.refl _) s1 ((e.mono l1 t1).set i r1)
  exact lc_read (Q := fun v H1 => D.nx (σ.set i (some v)) H1) hown s e p2
end
end Sm
/-! text Sm7 -/
namespace Sm
open PySem PySem.Spec PyProof.Rows L2
section
variable {X : Cx} {Tb : Tbs} {W : WX} {pos : Pos} {k : Nat}
theorem SR.mk_dK {K : PySem.W.Frag} {mg : Str → Option Value} {Λ : Lam} {φ : Map} {S : Store} {H : Hp} {p : Addr} (s : SR K mg Tb Λ φ S H) (hp : H p = none) : SR K mg Tb Λ (φ.at_ S.n p) (S.new (.dK [])) (upd H p (.dK [])) :=
  s.mkO hp ⟨[], upd_same, rfl⟩ (fun _ z => nomatch z) (fun _ z => nomatch z) fun _ z => nomatch z
theorem dc_read {mi : MI} {g : MG} {mt : MT} {mk mv : ME} {vs own : List Nat} (hown : ∀ i ∈ own, i ∈ vs)
    {Λ : Lam} {φ : Map} {ρ : Env} {S : Store} {σ : L2.St} {H : Hp} {Q : VK} (s : SR X.K X.mg Tb Λ φ S H) (e : ER X.K Λ φ H ρ σ) (p : Post X.K X.mg Tb Λ (relV X.K Λ) (fun c d H => W c d σ H) φ H (mDc mi g mt mk mv vs ρ S) Q) :
    tDc (tSI X Tb W mi) (tSG X.K X.mg Tb W0 own g) (tST X.K X.mg Tb W0 mt) (tS X.K X.mg Tb W0 mk) (tS X.K X.mg Tb W0 mv) vs σ H (fun v => freed X (Q v)) := by
  refine ⟨Λ, φ, ρ, S, s, e, ?_⟩
  unfold mDc at p
  cases hm : mi ρ S with
  | bad => rw [hm] at p; exact p.elim
  | exc c S1 => rw [hm] at p; exact p
  | ok sl S1 =>
    obtain ⟨src, lk⟩ := sl
    rw [hm] at p
    intro φ1 J H1 l1 t1 s1 ri nf D hD
    obtain ⟨ri, hl⟩ := ri
    simp only [Out.bind_ok] at p
    have sD := s1.mk_dK hD
    have lD := Map.lt_at (p := D) s1
    have tD := TX.new (o := HO.dK []) hD
    refine ⟨fun i f H' => ∃ φ2 S2, Lt (φ1.at_ S1.n D) φ2 ∧ TX (upd H1 D (.dK [])) H' ∧ SR X.K X.mg Tb Λ φ2 S2 H' ∧ Post X.K X.mg Tb Λ (relV X.K Λ) (fun c d H => W c d σ H) φ H
      ((dcl src g mt mk mv (wipeU ρ vs) S1.n f i S2).bind fun _ S => match unlk lk S with | some S => .ok (.ref S1.n) S | none => .bad) Q, ⟨fuel, _, _, Lt.refl _, TX.refl _, sD, p⟩, ?_⟩
    rintro i f H2 ⟨φ2, S2, l2, t2, s2, q⟩
    cases f with
    | zero => exact q.elim
    | succ f =>
      have l12 : Lt φ1 φ2 := lD.trans l2
      have t12 : TX H1 H2 := tD.trans t2
      have ri2 := ri i φ2 S2 H2 l12 t12 s2
      unfold dcl at q
      cases hsrc : src i S2 with
      | bad => simp only [hsrc] at q; exact q.elim
      | stop =>
        simp only [hsrc, Out.bind_ok] at q ri2
        refine .inl ⟨ri2, ?_⟩
        cases hu : unlk lk S2 with
        | none => rw [hu] at q; exact q.elim
        | some S3 =>
          rw [hu] at q
          refine unlk_end s2 hl nf l12 (t1.trans t12) t12 hu fun H' t3 tw s3 => ?_
          exact q φ2 (.ref D) H' (l1.trans l12) t3 s3 ⟨D, rfl, l2 _ _ (by unfold Map.at_; rw [if_pos rfl])⟩
      | item w =>
        simp only [hsrc] at q ri2
        obtain ⟨hgo, hy⟩ := ri2
        refine .inr ⟨hgo, fun H' => ∃ φ2 S2, Lt (φ1.at_ S1.n D) φ2 ∧ TX (upd H1 D (.dK [])) H' ∧ SR X.K X.mg Tb Λ φ2 S2 H' ∧ Post X.K X.mg Tb Λ (relV X.K Λ) (fun c d H => W c d σ H) φ H
          ((dcl src g mt mk mv (wipeU ρ vs) S1.n f (i + 1) S2).bind fun _ S => match unlk lk S with | some S => .ok (.ref S1.n) S | none => .bad) Q, fun H' h => ⟨f, Nat.lt_succ_self f, h⟩, fun x H3 hyy => ?_⟩
        obtain ⟨t3, s3, r3⟩ := hy x H3 hyy
        have e3 : ER X.K Λ φ2 H3 (wipeU ρ vs) (wipe σ vs) := (e.mono (l1.trans l12) ((t1.trans t12).trans t3)).wipe vs
        refine ⟨Λ, φ2, wipeU ρ vs, S2, w, s3, e3, r3, ?_⟩
        cases hgw : g w (wipeU ρ vs) S2 with
        | bad => rw [hgw] at q; exact q.elim
        | exc c S4 => rw [hgw] at q; exact q.elim
        | ok ρ4 S4 =>
          rw [hgw] at q
          intro φ4 σ4 H4 l4 t4 s4 e4
          refine ⟨(e4.2 vs hown).trans (wipe_wipe σ vs vs fun _ h => h), Λ, φ4, ρ4, S4, s4, e4.1, ?_⟩
          cases hmt : mt ρ4 S4 with
          | bad => simp only [noX, Out.bind_ok, hmt] at q; exact q.elim
          | exc c S5 => simp only [noX, Out.bind_ok, hmt] at q; exact q.elim
          | ok b S5 =>
            simp only [noX, Out.bind_ok, hmt] at q
            intro φ5 b' H5 l5 t5 s5 r5
            cases r5
            have l15 : Lt (φ1.at_ S1.n D) φ5 := l2.trans (l4.trans l5)
            have t15 : TX (upd H1 D (.dK [])) H5 := t2.trans (t3.trans (t4.trans t5))
            cases b with
            | false => exact iteF ⟨φ5, S5, l15, t15, s5, q⟩
            | true =>
              refine iteT ⟨Λ, φ5, ρ4, S5, s5, e4.1.mono l5 t5, ?_⟩
              cases hmk : mk ρ4 S5 with
              | bad => simp only [hmk] at q; exact q.elim
              | exc c S6 => simp only [hmk] at q; exact q.elim
              | ok kk S6 =>
                simp only [hmk] at q
                intro φ6 ky H6 l6 t6 s6 r6
                refine ⟨Λ, φ6, ρ4, S6, s6, (e4.1.mono l5 t5).mono l6 t6, ?_⟩
                cases hmv : mv ρ4 S6 with
                | bad => simp only [Out.bind_ok, hmv] at q; exact q.elim
                | exc c S7 => simp only [Out.bind_ok, hmv] at q; exact q.elim
                | ok u S7 =>
                  simp only [Out.bind_ok, hmv] at q
                  intro φ7 y H7 l7 t7 s7 r7
                  have hφ : φ7 S1.n = some D := (l15.trans (l6.trans l7)) _ _ (by unfold Map.at_; rw [if_pos rfl])
                  cases hg7 : S7.get S1.n with
                  | none => simp only [hg7] at q; exact q.elim
                  | some c =>
                    obtain ⟨o, lk7⟩ := c
                    simp only [hg7] at q
                    split at q
                    · rename_i kvs heq
                      cases heq
                      split at q
                      · rename_i k' hk'
                        split at q
                        · rename_i hlen
                          obtain ⟨a', kvs', g1, g2, g3, g4⟩ := s7.dK hg7
                          rw [hφ] at g1; cases g1
                          have hD7 := g4 rfl
                          refine ⟨kvs', k'.k, key_ok r6 hk', hD7, by rw [g3.length]; exact lim_lt hlen, φ7, _, l15.trans (l6.trans l7), (t15.trans (t6.trans t7)).trans (TX.put hD7 True.intro), ?_, q⟩
                          exact s7.wr hφ hD7 True.intro ⟨_, upd_same, KR.setS (fun _ _ => Ky.inj) (VR.mono (Lt.refl _) (TX.put hD7 True.intro) r7) (g3.mono (Lt.refl _) (TX.put hD7 True.intro))⟩ (fun _ z => nomatch z) (fun _ z => nomatch z) fun _ z => nomatch z
                        · exact q.elim
                      · exact q.elim
                    · exact q.elim
theorem se_dc (C : Ct X W k) {kx vx tg iter : Expr} {ifs : List Expr} {scope : Scope} {own : List (Str × Nat)} {og : List Nat} {mi : MI} {g : MG} {mt : MT} {mk mv : ME} (hi : SI X Tb W tg iter mi) (ok : BlkOk X.N X.env.scope scope own)
    (hown : ∀ i ∈ og, i ∈ own.map (·.2))
    (hg : ∀ (s : Shared) (H : Hp) (Ca : Addr) (cl : List (Str × Addr)) (fp : List Addr), Ct (X.blk s H scope (compEnvC scope cl Ca X.env) fp) W0 k → SG (X.blk s H scope (compEnvC scope cl Ca X.env) fp) Tb W0 og tg g)
    (ht : ∀ (s : Shared) (H : Hp) (Ca : Addr) (cl : List (Str × Addr)) (fp : List Addr), Ct (X.blk s H scope (compEnvC scope cl Ca X.env) fp) W0 k → STs (X.blk s H scope (compEnvC scope cl Ca X.env) fp) Tb W0 ifs mt)
    (he : ∀ (s : Shared) (H : Hp) (Ca : Addr) (cl : List (Str × Addr)) (fp : List Addr), Ct (X.blk s H scope (compEnvC scope cl Ca X.env) fp) W0 k → SE (X.blk s H scope (compEnvC scope cl Ca X.env) fp) Tb W0 kx mk)
    (hev : ∀ (s : Shared) (H : Hp) (Ca : Addr) (cl : List (Str × Addr)) (fp : List Addr), Ct (X.blk s H scope (compEnvC scope cl Ca X.env) fp) W0 k → SE (X.blk s H scope (compEnvC scope cl Ca X.env) fp) Tb W0 vx mv)
    (hs : ∀ x, foldedSetIterable iter X.env x = pure x := by intro _; rfl) : SE X Tb W (.DictComp kx vx [⟨tg, iter, ifs, 0⟩] scope pos) (mDc mi g mt mk mv (own.map (·.2))) :=
  se_weak (pe_freed (pe_dc (wi := tSI X Tb W mi) (g := tSG X.K X.mg Tb W0 og g) (tt := tST X.K X.mg Tb W0 mt) (tk := tS X.K X.mg Tb W0 mk) (tv := tS X.K X.mg Tb W0 mv) C.calm C.nd hi.pi ok (fun s H Ca cl fp => (hg s H Ca cl fp (C.blk ..)).pg) (fun s H Ca cl fp => (ht s H Ca cl fp (C.blk ..)).pts) (fun s H Ca cl fp => (he s H Ca cl fp (C.blk ..)).pe) (fun s H Ca cl fp => (hev s H Ca cl fp (C.blk ..)).pe) hs))
    fun Λ φ ρ S σ H Q s e p => dc_read hown s e p
/-- name = {..} on one line, the name a local -/
theorem ps_setDc {i : Nat} {y : Str} {py : Pos} {kx vx tg iter : Expr} {ifs : List Expr} {scope : Scope} {own : List (Str × Nat)} {pos spos : Pos} {wi : TI} {g : TG} {tt : TT} {tk tv : TE} (hc : X.calm = true) (hN : X.N.Nodup) (hy : X.N[i]? = some y) (hyl : X.env.scope.names.lookup y = some .local)
    (hsw : swapsWith (.DictComp kx vx [⟨tg, iter, ifs, 0⟩] scope pos) (some (.Name y py)) spos.line X.env = pure true) (hi : PI X tg iter wi) (ok : BlkOk X.N X.env.scope scope own)
    (hg : ∀ (s : Shared) (H : Hp) (C : Addr) (cl : List (Str × Addr)) (fp : List Addr), PG (X.blk s H scope (compEnvC scope cl C X.env) fp) tg g) (ht : ∀ (s : Shared) (H : Hp) (C : Addr) (cl : List (Str × Addr)) (fp : List Addr), PTs (X.blk s H scope (compEnvC scope cl C X.env) fp) ifs tt)
    (hk : ∀ (s : Shared) (H : Hp) (C : Addr) (cl : List (Str × Addr)) (fp : List Addr), PE (X.blk s H scope (compEnvC scope cl C X.env) fp) kx tk)
    (he : ∀ (s : Shared) (H : Hp) (C : Addr) (cl : List (Str × Addr)) (fp : List Addr), PE (X.blk s H scope (compEnvC scope cl C X.env) fp) vx tv) (hs : ∀ x, foldedSetIterable iter X.env x = pure x := by intro _; rfl) :
    PS X (.Assign [.Name y py] (.DictComp kx vx [⟨tg, iter, ifs, 0⟩] scope pos) spos) (tAsg (tDc wi g tt tk tv (own.map (·.2))) (gName i)) := by
  refine ⟨fun pins s σ H D I h => ?_⟩
  have key : exec (.Assign [.Name y py] (.DictComp kx vx [⟨tg, iter, ifs, 0⟩] scope pos) spos) X.env = exec (.Assign [.Name y py] (.DictComp kx vx [⟨tg, iter, ifs, 0⟩] scope pos) spos) X.env := rfl
  rw [exec_Assign_Name_used _ _ _ _ hsw]
  refine wpAny_bind (wpAny_standAt (wpAny_bind ?_))
  show wpAny _ X.A (do let _ ← comprehension (.DictComp kx vx [⟨tg, iter, ifs, 0⟩] scope pos) scope X.env (firstIterPos [⟨tg, iter, ifs, 0⟩] pos) newDict false (eval iter X.env) (some (assign (.Name y py) X.env))) _ _ s
  have h : tDc wi g tt tk tv (own.map (·.2)) σ H (fun x H1 => gName i x σ H1 D.nx) := h
  refine wpAny_bind (thn (dc_core (Qf := fun _ s' => SP X pins D .next s') hc hN I hi ok hg ht hk he hs h fun L C s' m H' I' q hn f => ?_) fun _ s' hq => wpAny_pure (wpAny_pure hq))
  show wpAny _ _ (assign (.Name y py) X.env (.ref L)) _ _ _
  refine wpAny_assign_Name (store_ok2 (v := V.ref L) I' hN hy (.inl hyl) rfl (fun s2 I2 ⟨a, sb, ha⟩ => ?_) (.inr hyl))
  obtain ⟨f0, f1, f2, f3, f4, f5⟩ := f
  have haC : C ≠ a := by
    rcases ha with z | z
    · rw [z]; exact f1
    · exact fun e => f4 y a z e.symm
  refine ⟨m, hn.sameBut sb haC, fun h3 sb3 => ?_⟩
  exact ⟨_, H', I2.turned (t' := s2.toks) (fun b o hb e => (sb3.2 b hb).trans e) f0 f1 f3 f4 f5, q⟩
/-- y = [..] -/
theorem ss_setDc (C : Ct X W k) (i : Nat) {y : Str} {py spos : Pos} {kx vx tg iter : Expr} {ifs : List Expr} {scope : Scope} {own : List (Str × Nat)} {og : List Nat} {mi : MI} {g : MG} {mt : MT} {mk mv : ME} (hsw : swapsWith (.DictComp kx vx [⟨tg, iter, ifs, 0⟩] scope pos) (some (.Name y py)) spos.line X.env = pure true)
    (hi : SI X Tb W tg iter mi) (ok : BlkOk X.N X.env.scope scope own) (hown : ∀ i ∈ og, i ∈ own.map (·.2))
    (hg : ∀ (s : Shared) (H : Hp) (Ca : Addr) (cl : List (Str × Addr)) (fp : List Addr), Ct (X.blk s H scope (compEnvC scope cl Ca X.env) fp) W0 k → SG (X.blk s H scope (compEnvC scope cl Ca X.env) fp) Tb W0 og tg g)
    (ht : ∀ (s : Shared) (H : Hp) (Ca : Addr) (cl : List (Str × Addr)) (fp : List Addr), Ct (X.blk s H scope (compEnvC scope cl Ca X.env) fp) W0 k → STs (X.blk s H scope (compEnvC scope cl Ca X.env) fp) Tb W0 ifs mt)
    (he : ∀ (s : Shared) (H : Hp) (Ca : Addr) (cl : List (Str × Addr)) (fp : List Addr), Ct (X.blk s H scope (compEnvC scope cl Ca X.env) fp) W0 k → SE (X.blk s H scope (compEnvC scope cl Ca X.env) fp) Tb W0 kx mk)
    (hev : ∀ (s : Shared) (H : Hp) (Ca : Addr) (cl : List (Str × Addr)) (fp : List Addr), Ct (X.blk s H scope (compEnvC scope cl Ca X.env) fp) W0 k → SE (X.blk s H scope (compEnvC scope cl Ca X.env) fp) Tb W0 vx mv)
    (hy : X.N[i]? = some y := by rfl) (hyl : X.env.scope.names.lookup y = some .local := by rfl) (hs : ∀ x, foldedSetIterable iter X.env x = pure x := by intro _; rfl) :
    SS X Tb W (.Assign [.Name y py] (.DictComp kx vx [⟨tg, iter, ifs, 0⟩] scope pos) spos) (sSet i (mDc mi g mt mk mv (own.map (·.2)))) := by
  refine ss_weak (ps_freed (ps_setDc (wi := tSI X Tb W mi) (g := tSG X.K X.mg Tb W0 og g) (tt := tST X.K X.mg Tb W0 mt) (tk := tS X.K X.mg Tb W0 mk) (tv := tS X.K X.mg Tb W0 mv) (i := i) C.calm C.nd hy hyl hsw hi.pi ok (fun s H Ca cl fp => (hg s H Ca cl fp (C.blk ..)).pg) (fun s H Ca cl fp => (ht s H Ca cl fp (C.blk ..)).pts) (fun s H Ca cl fp => (he s H Ca cl fp (C.blk ..)).pe) (fun s H Ca cl fp => (hev s H Ca cl fp (C.blk ..)).pe) hs)) fun Λ φ ρ S σ H D s e p => ?_
  have p2 := (PostS.then (rel := relV X.K Λ) e p).imp (Q' := fun v H1 => D.nx (σ.set i (some v)) H1) fun v H1 ⟨φ1, w, S1, l1, t1, s1, r1, p1⟩ => p1 φ1 _ H1 (Lt.refl _) (TX.refl _) s1 ((e.mono l1 t1).set i r1)
  exact dc_read (Q := fun v H1 => D.nx (σ.set i (some v)) H1) hown s e p2
end
end Sm
/-! text Sm8 -/
namespace Sm
open PySem PySem.Spec PyProof.Rows L2
/-! ### defs -/
/-- a def's body m with so many slots, called -/
def callB (m : MS) (n : Nat) (ws : List U) (S : Store) : Out U := match m (ws.map some ++ List.replicate (n - ws.length) none) S with
  | .go (.rt w) _ S => .ok w S
  | .go .nx _ S => .ok .non S
  | .exc c _ S => .exc c S
  | _ => .bad
abbrev Fn := List U → Store → Out U
/-- the promise of a def that does what F does -/
def spS (K : PySem.W.Frag) (mg : Str → Option Value) (Tb : Tbs) (n : Nat) (F : Fn) : Sp := fun vs H Q E => ∃ Λ φ ws S, SR K mg Tb Λ φ S H ∧ VRs K Λ φ H ws vs ∧ ws.length = n ∧ Post K mg Tb Λ (relV K Λ) E φ H (F ws S) Q
abbrev WD (E : XK) : WX := fun c d _ H => E c d H
section
variable {P : Program} {w : World} {K : PySem.W.Frag} {mg : Str → Option Value} {base : Heap} {Tb : Tbs}
/-- where a def's body stands -/
abbrev cxD (P : Program) (w : World) (K : PySem.W.Frag) (mg : Str → Option Value) (base : Heap) (N : List Str) (qual : Str) (scope : Scope) (f : Addr) (cd : Value) (A : Around) (outer : List PySem.Env) (s : Shared) (H : Hp) (E : XK) : Cx :=
  cxOf (L2.CX P w) P w K mg base N qual scope f cd A outer s H E
theorem ER.start {Λ : Lam} {φ : Map} {H : Hp} {ws : List U} {vs : List V} {N : List Str} (h : VRs K Λ φ H ws vs) : ER K Λ φ H (ws.map some ++ List.replicate (N.length - ws.length) none) (L2.start N vs) := by
  have hl := h.length
  refine ⟨by simp [L2.start, hl], fun i w e => ?_⟩
  have hi : i < ws.length := by
    by_cases z : i < ws.length
    · exact z
    · exfalso
      rw [List.getElem?_append_right (by simpa using Nat.le_of_not_lt z)] at e
      rw [List.getElem?_replicate] at e
      split at e <;> cases e
  rw [List.getElem?_append_left (by simpa using hi), List.getElem?_map] at e
  cases hw : ws[i]? with
  | none => rw [hw] at e; cases e
  | some w' =>
    rw [hw] at e
    cases e
    obtain ⟨v, hv, r⟩ := h.get hw
    refine ⟨v, ?_, r⟩
    unfold L2.start
    rw [List.getElem?_append_left (by simp; omega), List.getElem?_map, hv]
    rfl
/-- THE RULE for a def -/
theorem fn_ok {x qual : Str} {params : Arguments} {body : List Stmt} {scope : Scope} {dvs : List V} {kws : List (Str × V)} {f : Addr} {fd : FuncData} (F : FunD K x qual params body scope dvs kws f fd) {N ps : List Str} {k : Nat} {m : MS} (S : FnScope N ps scope)
    (hb : ∀ (cdv : Value) (A : Around) (outer : List PySem.Env) (s : Shared) (H : Hp) (E : XK), Ct (cxD P w K mg base N qual scope f cdv A outer s H E) (WD E) k → SSs (cxD P w K mg base N qual scope f cdv A outer s H E) Tb (WD E) body m) :
    FnOk P w K mg base (L2.CX P w) (k + 1) f fd ps (spS K mg Tb ps.length (callB m N.length)) := by
  refine F.ok S (fun vs H Q E ⟨Λ, φ, ws, S, _, h, hl, _⟩ => by rw [h.length, hl]) fun cdv A outer s H vs Q E hr ⟨Λ, φ, ws, S0, s0, h, hl, p⟩ => ?_
  have ct : Ct (cxD P w K mg base N qual scope f cdv A outer s H E) (WD E) k := ⟨rfl, S.nd, takes_of rfl rfl rfl rfl, passes_of rfl, hr⟩
  refine ⟨_, (hb cdv A outer s H E ct).pss, Λ, φ, _, S0, s0, ER.start h, ?_⟩
  show PostS K mg Tb Λ (WD E) φ H (m (ws.map some ++ List.replicate (N.length - ws.length) none) S0) _
  unfold callB at p
  cases hm : m (ws.map some ++ List.replicate (N.length - ws.length) none) S0 with
  | bad => rw [hm] at p; exact p.elim
  | exc c ρ S1 => rw [hm] at p; exact fun φ' σ' H' C l t s' e' hc => p φ' H' C l t s' hc
  | go fl ρ S1 =>
    rw [hm] at p
    cases fl with
    | nx => exact fun φ' σ' H' l t s' e' => p φ' .non H' l t s' rfl
    | rt w => exact fun φ' σ' H' l t s' e' v r => p φ' v H' l t s' r
    | bk => exact p.elim
    | ct => exact p.elim
/-- another function of the same worth -/
theorem fn_eq {k n : Nat} {f : Addr} {fd : FuncData} {ps : List Str} {F G : Fn} (h : FnOk P w K mg base (L2.CX P w) k f fd ps (spS K mg Tb n F)) (e : ∀ ws S, ws.length = n → G ws S ≠ .bad → F ws S = G ws S) : FnOk P w K mg base (L2.CX P w) k f fd ps (spS K mg Tb n G) := by
  refine h.imp fun vs H Q E ⟨Λ, φ, ws, S, s, r, hl, p⟩ => ⟨Λ, φ, ws, S, s, r, hl, ?_⟩
  rw [e ws S hl fun z => by rw [z] at p; exact p]
  exact p
end
/-! ### calls -/
/-- the arguments, then the defaults -/
def mCall (F : Fn) (n : Nat) (dws : List U) (ma : MA) : ME := fun ρ S => (ma ρ S).bind fun ws S => if (ws ++ dws).length = n then F (ws ++ dws) S else .bad
section
variable {X : Cx} {Tb : Tbs} {W : WX} {pos p : Pos} {k j : Nat}
theorem VRs.cast {K : PySem.W.Frag} {Λ : Lam} {φ : Map} {H : Hp} {ws : List U} {vs vs' : List V} (h : VRs K Λ φ H ws vs) (e : vs = vs') : VRs K Λ φ H ws vs' := e ▸ h
theorem se_call (C : Ct X W j) {f : Addr} {fd : FuncData} {ps : List Str} {F : Fn} {n : Nat} {x : Str} {e : Expr} {es : List Expr} {ma : MA} {dvs : List V} {ds : List Value} {dws : List U} (G : FnOk X.prog X.w X.K X.mg X.base (L2.CX X.prog X.w) k f fd ps (spS X.K X.mg Tb n F)) (hk : k ≤ j)
    (hm : X.mg x = some (.ref f)) (hkp : PySem.W.keepIn X.K (.ref f) = true) (hb : Binds X.K fd ps ds) (hd : Vals dvs ds) (hdw : ∀ Λ φ H, VRs X.K Λ φ H dws dvs) (ha : SA X Tb W (e :: es) ma) (hg : Gl X x := by rfl)
    (hdb : (x == ("__debug__" : Str)) = false := by decide) (he : starEach (e :: es) X.env = (false, eval e X.env) :: starEach es X.env := by rfl) (hpl : (backTo pos (starEach es X.env)).any (·.1) = false := by rfl) :
    SE X Tb W (.Call (.Name x p) (e :: es) [] pos) (mCall F n dws ma) := by
  refine se_weak (pe_callSD G (C.room.mono hk) hg hm hkp hb hd (fun σ => passAt C.tk σ) ha.pa hdb he hpl) fun Λ φ ρ S σ H Q s e p => ?_
  refine ⟨Λ, φ, ρ, S, s, e, (Post.bind p).imp fun vs H1 ⟨φ1, ws, S1, l1, t1, s1, r1, p1⟩ => ?_⟩
  split at p1
  · rename_i hl
    exact ⟨Λ, φ1, ws ++ dws, S1, s1, VRs.app r1 (hdw ..), hl, p1⟩
  · exact p1.elim
def mCall0 (F : Fn) (n : Nat) (dws : List U) : ME := fun ρ S => if dws.length = n then F dws S else .bad
/-- f() -/
theorem se_call0 {E : XK} (C : Ct X (WD E) j) {f : Addr} {fd : FuncData} {ps : List Str} {F : Fn} {n : Nat} {x : Str} {dvs : List V} {ds : List Value} {dws : List U} (G : FnOk X.prog X.w X.K X.mg X.base (L2.CX X.prog X.w) k f fd ps (spS X.K X.mg Tb n F)) (hk : k ≤ j)
    (hm : X.mg x = some (.ref f)) (hkp : PySem.W.keepIn X.K (.ref f) = true) (hb : Binds X.K fd ps ds) (hd : Vals dvs ds) (hdw : ∀ Λ φ H, VRs X.K Λ φ H dws dvs) (hg : Gl X x := by rfl)
    (hdb : (x == ("__debug__" : Str)) = false := by decide) : SE X Tb (WD E) (.Call (.Name x p) [] [] pos) (mCall0 F n dws) := by
  refine se_weak (pe_call0 (E := E) G (C.room.mono hk) hg hm hkp hb hd (passes_call C.tk fun _ _ _ _ h => h) hdb) fun Λ φ ρ S σ H Q s e p => ?_
  unfold mCall0 at p
  split at p
  · rename_i hl
    exact ⟨Λ, φ, dws, S, s, hdw .., hl, p⟩
  · exact p.elim
/-! instances -/
def getF : List (Str × U) → Str → Option U
  | [], _ => none
  | (x, w) :: r, f => if x = f then some w else getF r f
def putFU (f : Str) (v : U) : List (Str × U) → List (Str × U)
  | [] => [(f, v)]
  | (x, w) :: r => if x = f then (x, v) :: r else (x, w) :: putFU f v r
theorem KR.getF {K : PySem.W.Frag} {Λ : Lam} {φ : Map} {H : Hp} {f : Str} : ∀ {fs : List (Str × U)} {vs : List (Str × V)}, KR K Λ φ H (id : Str → Str) fs vs → (match getF fs f with
    | some w => ∃ v, vs.lookup f = some v ∧ VR K Λ φ H w v
    | none => vs.lookup f = none)
  | [], _, h => by subst h; rfl
  | (x, w) :: r, _, h => by
    obtain ⟨v, r', rfl, h1, h2⟩ := h
    unfold Sm.getF
    by_cases e : x = f
    · subst e
      rw [if_pos rfl]
      exact ⟨v, by simp [List.lookup], h1⟩
    · rw [if_neg e]
      have : (f == x) = false := by simpa using fun z => e z.symm
      have e2 : List.lookup f ((id x, v) :: r') = List.lookup f r' := by simp [List.lookup, this]
      rw [e2]
      exact KR.getF h2
theorem putF_cons {f x : Str} {y v : V} {r : List (Str × V)} : putF f y ((x, v) :: r) = if x = f then (x, y) :: r else (x, v) :: putF f y r := by
  rw [putF]
theorem KR.putF {K : PySem.W.Frag} {Λ : Lam} {φ : Map} {H : Hp} {f : Str} {u : U} {y : V} (q : VR K Λ φ H u y) : ∀ {fs : List (Str × U)} {vs : List (Str × V)}, KR K Λ φ H (id : Str → Str) fs vs → KR K Λ φ H (id : Str → Str) (putFU f u fs) (L2.putF f y vs)
  | [], _, h => by subst h; exact ⟨y, [], rfl, q, rfl⟩
  | (x, w) :: r, _, h => by
    obtain ⟨v, r', rfl, h1, h2⟩ := h
    show KR K Λ φ H (id : Str → Str) (putFU f u ((x, w) :: r)) (L2.putF f y ((x, v) :: r'))
    rw [putF_cons]
    unfold putFU
    by_cases e : x = f
    · rw [if_pos e, if_pos e]
      exact ⟨y, r', rfl, q, h2⟩
    · rw [if_neg e, if_neg e]
      exact ⟨v, _, rfl, h1, KR.putF q h2⟩
/-- what is known of a field of these classes -/
def FldOk (X : Cx) (cl : List Str) (f : Str) : Prop := ∀ c ∈ cl, ∀ C, X.mg c = some (.ref C) → Cls X.K C ∧ NoAttr X.K C f
def mFld (cl : List Str) (f : Str) (m : ME) : ME := fun ρ S => (m ρ S).bind fun w S => match w with
  | .ref n => (match S.get n with
    | some ⟨.ins c fs, _⟩ => if c ∈ cl then (match getF fs f with
        | some u => .ok u S
        | none => .bad) else .bad
    | _ => .bad)
  | _ => .bad
theorem se_fld {e : Expr} {f : Str} {m : ME} {cl : List Str} (h : SE X Tb W e m) (hF : FldOk X cl f) (hb : attributeBase e f X.env (eval e X.env) = eval e X.env := by rfl) : SE X Tb W (.Attribute e f pos) (mFld cl f m) := by
  refine se_weak (pe_fld h.pe hb) fun Λ φ ρ S σ H Q s e p => ?_
  refine ⟨Λ, φ, ρ, S, s, e, (Post.bind p).imp fun v H1 ⟨φ1, w, S1, l1, t1, s1, r1, p1⟩ => ?_⟩
  split at p1
  · rename_i n
    split at p1
    · rename_i c fs lk hg
      split at p1
      · rename_i hc
        split at p1
        · rename_i u hu
          obtain ⟨a, C, dx, vs, g1, g2, g3, g4⟩ := s1.ins hg
          obtain ⟨a', rfl, g1'⟩ := r1
          rw [g1] at g1'; cases g1'
          have hf := KR.getF (f := f) g4
          rw [hu] at hf
          obtain ⟨v', hv, rv⟩ := hf
          obtain ⟨hC, hN⟩ := hF c hc C g2
          exact ⟨a, C, dx, vs, v', rfl, g3, hC, hN, hv, p1 φ1 v' H1 (Lt.refl _) (TX.refl _) s1 rv⟩
        · exact p1.elim
      · exact p1.elim
    · exact p1.elim
  · exact p1.elim
def lim9 : Nat := 900
/-- o.f = v -/
def sFldS (cl : List Str) (f : Str) (mo mv : ME) : MS := fun ρ S => (mv ρ S).then ρ fun v S => (mo ρ S).then ρ fun o S => match o with
  | .ref n => (match S.get n with
    | some ⟨.ins c fs, lk⟩ => if c ∈ cl ∧ fs.length < 900 then .go .nx ρ (S.put n ⟨.ins c (putFU f v fs), lk⟩) else .bad
    | _ => .bad)
  | _ => .bad
theorem ss_fld {o value : Expr} {f : Str} {mo mv : ME} {cl : List Str} {pos' : Pos} (ho : SE X Tb W o mo) (hv : SE X Tb W value mv) (hF : FldOk X cl f) (hs : swapsWith value (some (.Attribute o f pos')) pos.line X.env = pure false := by rfl) :
    SS X Tb W (.Assign [.Attribute o f pos'] value pos) (sFldS cl f mo mv) := by
  refine ss_weak (ps_fld ho.pe hv.pe hs) fun Λ φ ρ S σ H D s e p => ?_
  refine ⟨Λ, φ, ρ, S, s, e, (PostS.then e p).imp fun v H1 ⟨φ1, w, S1, l1, t1, s1, r1, p1⟩ => ?_⟩
  refine ⟨Λ, φ1, ρ, S1, s1, e.mono l1 t1, (PostS.then (e.mono l1 t1) p1).imp fun ov H2 ⟨φ2, o2, S2, l2, t2, s2, r2, p2⟩ => ?_⟩
  split at p2
  · rename_i n
    split at p2
    · rename_i c fs lk hg
      split at p2
      · rename_i hc
        obtain ⟨a, C, dx, vs, g1, g2, g3, g4⟩ := s2.ins hg
        obtain ⟨a', rfl, g1'⟩ := r2
        rw [g1] at g1'; cases g1'
        obtain ⟨hC, hN⟩ := hF c hc.1 C g2
        refine ⟨a, C, dx, vs, rfl, g3, hC, hN, by rw [g4.length]; omega, ?_⟩
        have hso : Soft (.ins C dx vs) := True.intro
        have tp := TX.put (o := .ins C dx (L2.putF f v vs)) g3 hso
        exact p2 φ2 σ _ (Lt.refl _) tp (s2.wr g1 g3 hso ⟨C, dx, _, g2, upd_same, KR.putF (VR.mono (Lt.refl _) tp (VR.mono l2 t2 r1)) (g4.mono (Lt.refl _) tp)⟩ (fun _ z => nomatch z) (fun _ z => nomatch z) fun _ z => nomatch z) (((e.mono l1 t1).mono l2 t2).mono (Lt.refl _) tp)
      · exact p2.elim
    · exact p2.elim
  · exact p2.elim
/-- o.f op= v -/
def InS (X : Cx) (Tb : Tbs) (op : Operator) (g : Op2) : Prop := ∃ r : V → V → Hp → VK → Prop, InOp X op r ∧ ∀ Λ φ S H w u x y (E : Value → Option Addr → Hp → Prop) Q, SR X.K X.mg Tb Λ φ S H → VR X.K Λ φ H w x → VR X.K Λ φ H u y →
  Post X.K X.mg Tb Λ (relV X.K Λ) E φ H (g w u S) Q → r x y H Q
def sFldAug (cl : List Str) (f : Str) (g : Op2) (mo mv : ME) : MS := fun ρ S => (mo ρ S).then ρ fun o S => match o with
  | .ref n => (match S.get n with
    | some ⟨.ins c fs, _⟩ => if c ∈ cl then (match getF fs f with
        | some x => (mv ρ S).then ρ fun y S => (g x y S).then ρ fun z S => (match S.get n with
          | some ⟨.ins c2 fs2, lk⟩ => if c2 = c ∧ fs2.length < 900 then .go .nx ρ (S.put n ⟨.ins c2 (putFU f z fs2), lk⟩) else .bad
          | _ => .bad)
        | none => .bad) else .bad
    | _ => .bad)
  | _ => .bad
theorem ss_fldaug {o value : Expr} {f : Str} {mo mv : ME} {cl : List Str} {tpos : Pos} {op : Operator} {g : Op2} (ho : SE X Tb W o mo) (hv : SE X Tb W value mv) (hF : FldOk X cl f) (hop : InS X Tb op g) :
    SS X Tb W (.AugAssign (.Attribute o f tpos) op value pos) (sFldAug cl f g mo mv) := by
  obtain ⟨r, hr, hok⟩ := hop
  refine ss_weak (ps_fldaug ho.pe hv.pe hr) fun Λ φ ρ S σ H D s e p => ?_
  refine ⟨Λ, φ, ρ, S, s, e, (PostS.then e p).imp fun v H1 ⟨φ1, w, S1, l1, t1, s1, r1, p1⟩ => ?_⟩
  split at p1
  · rename_i n
    split at p1
    · rename_i c fs lk hg
      split at p1
      · rename_i hc
        split at p1
        · rename_i x hx
          obtain ⟨a, C, dx, vs, g1, g2, g3, g4⟩ := s1.ins hg
          obtain ⟨a', rfl, g1'⟩ := r1
          rw [g1] at g1'; cases g1'
          obtain ⟨hC, hN⟩ := hF c hc C g2
          have hf := KR.getF (f := f) g4
          rw [hx] at hf
          obtain ⟨v', hv', rv⟩ := hf
          refine ⟨a, C, dx, vs, v', rfl, g3, hC, hN, hv', Λ, φ1, ρ, S1, s1, e.mono l1 t1, (PostS.then (e.mono l1 t1) p1).imp fun y H2 ⟨φ2, y2, S2, l2, t2, s2, r2, p2⟩ => ?_⟩
          refine hok Λ φ2 S2 H2 x y2 v' y (fun c d H => W c d σ H) _ s2 (rv.mono l2 t2) r2 ((PostS.then ((e.mono l1 t1).mono l2 t2) p2).imp fun z H3 ⟨φ3, z2, S3, l3, t3, s3, r3, p3⟩ => ?_)
          split at p3
          · rename_i c2 fs2 lk2 hg2
            split at p3
            · rename_i hc2
              obtain ⟨a2, C2, dx2, vs2, k1, k2, k3, k4⟩ := s3.ins hg2
              rw [l3 _ _ (l2 _ _ g1)] at k1; cases k1
              rw [hc2.1, g2] at k2; cases k2
              refine ⟨dx2, vs2, k3, by rw [k4.length]; omega, ?_⟩
              have hso : Soft (.ins C dx2 vs2) := True.intro
              have tp := TX.put (o := .ins C dx2 (L2.putF f z vs2)) k3 hso
              exact p3 φ3 σ _ (Lt.refl _) tp (s3.wr (l3 _ _ (l2 _ _ g1)) k3 hso ⟨C, dx2, _, by rw [hc2.1]; exact g2, upd_same, KR.putF (VR.mono (Lt.refl _) tp r3) (k4.mono (Lt.refl _) tp)⟩ (fun _ z => nomatch z) (fun _ z => nomatch z) fun _ z => nomatch z) ((((e.mono l1 t1).mono l2 t2).mono l3 t3).mono (Lt.refl _) tp)
            · exact p3.elim
          · exact p3.elim
        · exact p1.elim
      · exact p1.elim
    · exact p1.elim
  · exact p1.elim
/-! methods, new instances -/
def mMeth (c m : Str) (F : Fn) (n : Nat) (dws : List U) (mo : ME) (ma : MA) : ME := fun ρ S => (mo ρ S).bind fun o S => match o with
  | .ref r => (match S.get r with
    | some ⟨.ins c2 fs, _⟩ => if c2 = c ∧ (getF fs m).isNone = true then (ma ρ S).bind fun ws S => if (.ref r :: (ws ++ dws)).length = n then F (.ref r :: (ws ++ dws)) S else .bad else .bad
    | _ => .bad)
  | _ => .bad
theorem meth_read {E : XK} {C f : Addr} {F : Fn} {n : Nat} {c m : Str} {mo : ME} {ma : MA} {dws : List U} {dvs : List V} (hC : X.mg c = some (.ref C)) (hdw : ∀ Λ φ H, VRs X.K Λ φ H dws dvs)
    {Λ : Lam} {φ : Map} {ρ : Env} {S : Store} {σ : L2.St} {H : Hp} {Q : VK} {ta : TA} (hta : ∀ Λ φ ρ S σ H (Q : List V → Hp → Prop), SR X.K X.mg Tb Λ φ S H → ER X.K Λ φ H ρ σ → Post X.K X.mg Tb Λ (relA X.K Λ) E φ H (ma ρ S) Q → ta σ H Q) (s : SR X.K X.mg Tb Λ φ S H) (e : ER X.K Λ φ H ρ σ)
    (p : Post X.K X.mg Tb Λ (relV X.K Λ) E φ H (mMeth c m F n dws mo ma ρ S) Q) : tMeth C m (spS X.K X.mg Tb n F) dvs E (tS X.K X.mg Tb (WD E) mo) ta σ H Q := by
  refine ⟨Λ, φ, ρ, S, s, e, (Post.bind p).imp fun v H1 ⟨φ1, w, S1, l1, t1, s1, r1, p1⟩ => ?_⟩
  split at p1
  · rename_i r
    split at p1
    · rename_i c2 fs lk hg
      split at p1
      · rename_i hc
        obtain ⟨a, C', dx, vs, g1, g2, g3, g4⟩ := s1.ins hg
        obtain ⟨a', rfl, g1'⟩ := r1
        rw [g1] at g1'; cases g1'
        rw [hc.1, hC] at g2; cases g2
        have hf := KR.getF (f := m) g4
        rw [Option.isNone_iff_eq_none.mp hc.2] at hf
        refine ⟨a, dx, vs, rfl, g3, hf, hta Λ φ1 ρ S1 σ H1 _ s1 (e.mono l1 t1) ((Post.bind p1).imp fun us H2 ⟨φ2, ws, S2, l2, t2, s2, r2, p2⟩ => ?_)⟩
        split at p2
        · rename_i hl
          exact ⟨Λ, φ2, _, S2, s2, VRs.cons (w := .ref r) ⟨a, rfl, l2 _ _ g1⟩ (VRs.app r2 (hdw ..)), hl, p2⟩
        · exact p2.elim
      · exact p1.elim
    · exact p1.elim
  · exact p1.elim
theorem se_meth {E : XK} (Cc : Ct X (WD E) j) {C f : Addr} {fd : FuncData} {ps : List Str} {F : Fn} {n : Nat} {c m : Str} {o e : Expr} {es : List Expr} {mo : ME} {ma : MA} {dvs : List V} {ds : List Value} {dws : List U} {apos : Pos} {pl : Sem Bool} (ho : SE X Tb (WD E) o mo) (hC : X.mg c = some (.ref C)) (cc : Cls X.K C) (hm : Meth X.K C m f)
    (G : FnOk X.prog X.w X.K X.mg X.base (L2.CX X.prog X.w) k f fd ps (spS X.K X.mg Tb n F)) (hk : k ≤ j) (hb : Binds X.K fd ps ds) (hd : Vals dvs ds) (hdw : ∀ Λ φ H, VRs X.K Λ φ H dws dvs) (ha : SA X Tb (WD E) (e :: es) ma)
    (hst : starEach (e :: es) X.env = (false, eval e X.env) :: starEach es X.env := by rfl) (hpl : (backTo pos (starEach es X.env)).any (·.1) = false := by rfl)
    (ht : eval (.Call (.Attribute o m apos) (e :: es) [] pos) X.env = (do
      let ov ← eval o X.env
      standAt apos.atName
      let (f, first) ← holding [ov] (getMethod ov m pl)
      callWith pos f first (backTo pos (starEach (e :: es) X.env)) (backToKw pos (keywordEach [] X.env))) := by rfl) :
    SE X Tb (WD E) (.Call (.Attribute o m apos) (e :: es) [] pos) (mMeth c m F n dws mo ma) :=
  se_weak (pe_meth (E := E) (pl := pl) ho.pe cc hm G (Cc.room.mono hk) hb hd (passes_call Cc.tk fun _ _ _ _ h => h) ha.pa hst hpl ht) fun Λ φ ρ S σ H Q s e p =>
    meth_read (f := f) hC hdw (fun Λ φ ρ S σ H Q s e p => ⟨Λ, φ, ρ, S, s, e, p⟩) s e p
theorem se_meth0 {E : XK} (Cc : Ct X (WD E) j) {C f : Addr} {fd : FuncData} {ps : List Str} {F : Fn} {n : Nat} {c m : Str} {o : Expr} {mo : ME} {dvs : List V} {ds : List Value} {dws : List U} {apos : Pos} {pl : Sem Bool} (ho : SE X Tb (WD E) o mo) (hC : X.mg c = some (.ref C)) (cc : Cls X.K C) (hm : Meth X.K C m f)
    (G : FnOk X.prog X.w X.K X.mg X.base (L2.CX X.prog X.w) k f fd ps (spS X.K X.mg Tb n F)) (hk : k ≤ j) (hb : Binds X.K fd ps ds) (hd : Vals dvs ds) (hdw : ∀ Λ φ H, VRs X.K Λ φ H dws dvs)
    (ht : eval (.Call (.Attribute o m apos) [] [] pos) X.env = (do
      let ov ← eval o X.env
      standAt apos.atName
      let (f, first) ← holding [ov] (getMethod ov m pl)
      callWith pos f first (backTo pos (starEach [] X.env)) (backToKw pos (keywordEach [] X.env))) := by rfl) :
    SE X Tb (WD E) (.Call (.Attribute o m apos) [] [] pos) (mMeth c m F n dws mo mNil) :=
  se_weak (pe_meth0 (E := E) (pl := pl) ho.pe cc hm G (Cc.room.mono hk) hb hd (passes_call Cc.tk fun _ _ _ _ h => h) ht) fun Λ φ ρ S σ H Q s e p =>
    meth_read (f := f) (ma := mNil) hC hdw (fun Λ φ ρ S σ H Q s e p => p φ [] H (Lt.refl _) (TX.refl _) s rfl) s e p
def mMake (c : Str) (F : Fn) (n : Nat) (dws : List U) (ma : MA) : ME := fun ρ S => (ma ρ S).bind fun ws S => if (.ref S.n :: (ws ++ dws)).length = n then (F (.ref S.n :: (ws ++ dws)) (S.new (.ins c []))).bind fun w S' => match w with
  | .non => .ok (.ref S.n) S'
  | _ => .bad else .bad
theorem make_read {E : XK} {C : Addr} {F : Fn} {n : Nat} {c : Str} {ma : MA} {dws : List U} {dvs : List V} (hC : X.mg c = some (.ref C)) (hdw : ∀ Λ φ H, VRs X.K Λ φ H dws dvs)
    {Λ : Lam} {φ : Map} {ρ : Env} {S : Store} {σ : L2.St} {H : Hp} {Q : VK} {ta : TA} (hta : ∀ Λ φ ρ S σ H (Q : List V → Hp → Prop), SR X.K X.mg Tb Λ φ S H → ER X.K Λ φ H ρ σ → Post X.K X.mg Tb Λ (relA X.K Λ) E φ H (ma ρ S) Q → ta σ H Q) (s : SR X.K X.mg Tb Λ φ S H) (e : ER X.K Λ φ H ρ σ)
    (p : Post X.K X.mg Tb Λ (relV X.K Λ) E φ H (mMake c F n dws ma ρ S) Q) : tMake C (spS X.K X.mg Tb n F) dvs E ta σ H Q := by
  refine hta Λ φ ρ S σ H _ s e ((Post.bind p).imp fun us H1 ⟨φ1, ws, S1, l1, t1, s1, r1, p1⟩ x dx hx hdx hne => ?_)
  have r1 : VRs X.K Λ φ1 H1 ws us := r1
  split at p1
  · rename_i hl
    have sd := s1.gar hdx (.own x)
    have td := TX.new (o := HO.own x) hdx
    have hx2 : upd H1 dx (.own x) x = none := by rw [upd_ne (fun z => hne z.symm)]; exact hx
    have tx := TX.new (o := HO.ins C dx []) hx2
    have sx := sd.mkO (o := .ins c []) (u := .ins C dx []) hx2 ⟨C, dx, [], hC, upd_same, rfl⟩ (fun _ z => nomatch z) (fun _ z => nomatch z) fun _ z => nomatch z
    have lx := Map.lt_at (p := x) sd
    refine ⟨Λ, _, _, _, sx, VRs.cons (w := .ref S1.n) ⟨x, rfl, by unfold Map.at_; rw [if_pos rfl]⟩ (VRs.app ((r1.mono (Lt.refl _) td).mono lx tx) (hdw ..)), hl, ?_⟩
    refine (Post.bind (p1.mono lx (td.trans tx))).imp fun v H2 ⟨φ2, w, S2, l2, t2, s2, r2, p2⟩ => ?_
    split at p2
    · exact ⟨r2, p2 φ2 _ H2 (Lt.refl _) (TX.refl _) s2 ⟨x, rfl, l2 _ _ (by unfold Map.at_; rw [if_pos rfl])⟩⟩
    · exact p2.elim
  · exact p1.elim
theorem se_make {E : XK} (Cc : Ct X (WD E) j) {C f : Addr} {fd : FuncData} {ps : List Str} {F : Fn} {n : Nat} {c : Str} {e : Expr} {es : List Expr} {ma : MA} {dvs : List V} {ds : List Value} {dws : List U} (hC : X.mg c = some (.ref C)) (M : Mk X.K C f)
    (G : FnOk X.prog X.w X.K X.mg X.base (L2.CX X.prog X.w) k f fd ps (spS X.K X.mg Tb n F)) (hk : k + 1 ≤ j) (hb : Binds X.K fd ps ds) (hd : Vals dvs ds) (hdw : ∀ Λ φ H, VRs X.K Λ φ H dws dvs) (ha : SA X Tb (WD E) (e :: es) ma) (hg : Gl X c := by rfl)
    (hdb : (c == ("__debug__" : Str)) = false := by decide) (he : starEach (e :: es) X.env = (false, eval e X.env) :: starEach es X.env := by rfl) (hpl : (backTo pos (starEach es X.env)).any (·.1) = false := by rfl) :
    SE X Tb (WD E) (.Call (.Name c p) (e :: es) [] pos) (mMake c F n dws ma) :=
  se_weak (pe_make (E := E) M G (Cc.room.mono hk) hg hC hb hd (passes_call Cc.tk fun _ _ _ _ h => h) ha.pa hdb he hpl) fun Λ φ ρ S σ H Q s e p =>
    make_read hC hdw (fun Λ φ ρ S σ H Q s e p => ⟨Λ, φ, ρ, S, s, e, p⟩) s e p
theorem se_make0 {E : XK} (Cc : Ct X (WD E) j) {C f : Addr} {fd : FuncData} {ps : List Str} {F : Fn} {n : Nat} {c : Str} {dvs : List V} {ds : List Value} {dws : List U} (hC : X.mg c = some (.ref C)) (M : Mk X.K C f)
    (G : FnOk X.prog X.w X.K X.mg X.base (L2.CX X.prog X.w) k f fd ps (spS X.K X.mg Tb n F)) (hk : k + 1 ≤ j) (hb : Binds X.K fd ps ds) (hd : Vals dvs ds) (hdw : ∀ Λ φ H, VRs X.K Λ φ H dws dvs) (hg : Gl X c := by rfl)
    (hdb : (c == ("__debug__" : Str)) = false := by decide) :
    SE X Tb (WD E) (.Call (.Name c p) [] [] pos) (mMake c F n dws mNil) :=
  se_weak (pe_make0 (E := E) M G (Cc.room.mono hk) hg hC hb hd (passes_call Cc.tk fun _ _ _ _ h => h) hdb) fun Λ φ ρ S σ H Q s e p =>
    make_read (ma := mNil) hC hdw (fun Λ φ ρ S σ H Q s e p => p φ [] H (Lt.refl _) (TX.refl _) s rfl) s e p
/-- this, or where it is not served that -/
def mAlt (m n : ME) : ME := fun ρ S => match m ρ S with
  | .bad => n ρ S
  | o => o
theorem se_alt {e : Expr} {m n : ME} (h : SE X Tb W e m) (h' : SE X Tb W e n) : SE X Tb W e (mAlt m n) := by
  refine ⟨⟨fun pins s σ H Q I ⟨Λ, φ, ρ, S, s0, e0, p⟩ => ?_⟩⟩
  unfold mAlt at p
  cases hm : m ρ S with
  | bad => rw [hm] at p; exact h'.pe.run pins s σ H Q I ⟨Λ, φ, ρ, S, s0, e0, p⟩
  | ok w S1 => rw [hm] at p; exact h.pe.run pins s σ H Q I ⟨Λ, φ, ρ, S, s0, e0, by rw [hm]; exact p⟩
  | exc c S1 => rw [hm] at p; exact h.pe.run pins s σ H Q I ⟨Λ, φ, ρ, S, s0, e0, by rw [hm]; exact p⟩
/-! ### raise, try -/
def sRaise (c : Str) : MS := fun ρ S => .exc c ρ S
theorem ss_raise (C : Ct X W j) {c : Str} {Ca : Addr} {m : Str} {i : Nat} {p1 p2 p3 : Pos} (xP : PySem.W.excIn X.K Ca [.type "ValueError", .type "Exception", .type "BaseException", .type "object"] "ValueError.__new__" = true) (gP : X.mg c = some (.ref Ca)) (kP : PySem.W.keepIn X.K (.ref Ca) = true)
    (bP : PySem.W.subIn X.K (.ref Ca) (.type "BaseException") = some true) (tP : PySem.W.typeIn X.K (.ref Ca) = some (.type "type")) (hg : Gl X c := by rfl) (hdb : (c == ("__debug__" : Str)) = false := by decide) :
    SS X Tb W (.Raise (some (.Call (.Name c p1) [.Constant (.str m) i p2] [] p3)) none pos) (sRaise c) := by
  refine ss_weak (ps_raise C.calm C.tk (pmk_own PySem.F.excBase_ValueError xP gP kP (raises_own bP tP) hg hdb)) fun Λ φ ρ S σ H D s e p => ?_
  exact p φ σ H Ca (Lt.refl _) (TX.refl _) s e gP
/-- try: body, except x: suite; hit: which classes x catches -/
def sTry (hit : Str → Option Bool) (m n : MS) : MS := fun ρ S => match m ρ S with
  | .exc c ρ S => (match hit c with
    | some true => (match n ρ S with
      | .exc _ _ _ => .bad
      | o => o)
    | some false => .exc c ρ S
    | none => .bad)
  | o => o
theorem ss_try (C : Ct X W j) {x : Str} {Ca : Addr} {np pos' : Pos} {body suite : List Stmt} {b₀ : Stmt} {m n : MS} {hit : Str → Option Bool} (hs : X.stack = X.env :: X.outer) (hf : X.env.frame = some X.env.locals) (hg : Gl X x) (hm : X.mg x = some (.ref Ca)) (hdb : (x == ("__debug__" : Str)) = false)
    (hh : ∀ c Cc b, X.mg c = some (.ref Cc) → hit c = some b → PySem.W.exmOne X.K (.ref Cc) (.ref Ca) = some b)
    (hb : ∀ (W' : WX) (pn : List (Addr × Obj)) (xe : Value → Shared → Prop), Ct (X.tr pn xe) W' j → SSs (X.tr pn xe) Tb W' body m)
    (hsu : ∀ (a : Addr) (oe : Obj) (pn : List (Addr × Obj)), SSs (X.suite a ((a, oe) :: pn)) Tb W0 (b₀ :: suite) n) :
    SS X Tb W (.Try body [.ExceptHandler (some (.Name x np)) none (b₀ :: suite) pos'] [] [] pos) (sTry hit m n) := by
  refine ss_weak (ps_try_only (tb := fun W' => tSS X.K X.mg Tb W' m) (ts := fun _ _ _ => tSS X.K X.mg Tb W0 n) hs hf ⟨hg, hdb, .inl hm⟩ C.tk (fun W' pn xe tk po => (hb W' pn xe ⟨C.calm, C.nd, tk, po, C.room⟩).pss) (fun a oe cls d pn _ _ => (hsu a oe pn).pss)) fun Λ φ ρ S σ H D s e p => ?_
  refine ⟨Λ, φ, ρ, S, s, e, ?_⟩
  unfold sTry at p
  cases hmm : m ρ S with
  | bad => rw [hmm] at p; exact p.elim
  | go f ρ1 S1 => rw [hmm] at p; exact p
  | exc c ρ1 S1 =>
    rw [hmm] at p
    simp only at p
    intro φ' σ' H' Cc l t s' e' hc
    cases hhit : hit c with
    | none => rw [hhit] at p; exact p.elim
    | some b =>
      rw [hhit] at p
      refine ⟨b, hh c Cc b hc hhit, fun hb1 a ha => ?_, fun hb0 => ?_⟩
      · subst hb1
        refine ⟨Λ, φ', ρ1, S1, s', e', ?_⟩
        have p := PostS.mono l t p
        cases hn : n ρ1 S1 with
        | bad => simp only [hn] at p; exact p.elim
        | go f ρ2 S2 => simp only [hn] at p; exact p
        | exc c2 ρ2 S2 => simp only [hn] at p; exact p.elim
      · subst hb0
        exact p φ' σ' H' Cc l t s' e' hc
end
end Sm
/-! text Sm9 -/
namespace Sm
open PySem PySem.Spec PyProof.Rows L2
/-! ### sequences, ints, texts -/
def lstU (S : Store) : U → Option (List U)
  | .lsq ws => some ws
  | .ref n => (match S.get n with
    | some ⟨.lst ws, _⟩ => some ws
    | _ => none)
  | _ => none
def seqU (S : Store) : U → Option (List U)
  | .tup ws => some ws
  | w => lstU S w
def intsU : List U → Option (List Int)
  | [] => some []
  | .int i :: r => (match intsU r with
    | some l => some (i :: l)
    | none => none)
  | _ :: _ => none
def strsU : List U → Option (List (List Nat))
  | [] => some []
  | .str i :: r => (match strsU r with
    | some l => some (i :: l)
    | none => none)
  | _ :: _ => none
section
variable {K : PySem.W.Frag} {mg : Str → Option Value} {Tb : Tbs} {Λ : Lam} {φ : Map} {S : Store} {H : Hp}
theorem lst_ok (s : SR K mg Tb Λ φ S H) {w : U} {v : V} {ws : List U} (r : VR K Λ φ H w v) (e : lstU S w = some ws) : ∃ a vs, v = .ref a ∧ SqL K H a vs ∧ VRs K Λ φ H ws vs := by
  unfold lstU at e
  split at e
  · cases e
    obtain ⟨a, vs, rfl, h1, h2⟩ := r
    exact ⟨a, vs, rfl, h1.sq, h2⟩
  · split at e
    · rename_i n _ _ hg
      cases e
      obtain ⟨a, vs, g1, g2, g3, _⟩ := s.lst hg
      obtain ⟨a', rfl, g1'⟩ := r
      rw [g1] at g1'; cases g1'
      exact ⟨a, vs, rfl, g2, g3⟩
    · cases e
  · cases e
theorem seq_ok (s : SR K mg Tb Λ φ S H) {w : U} {v : V} {ws : List U} (r : VR K Λ φ H w v) (e : seqU S w = some ws) : ∃ a vs, v = .ref a ∧ (SqL K H a vs ∨ SqT K H a vs) ∧ VRs K Λ φ H ws vs := by
  unfold seqU at e
  split at e
  · cases e
    obtain ⟨a, vs, rfl, h1, h2⟩ := r
    exact ⟨a, vs, rfl, .inr h1, h2⟩
  · obtain ⟨a, vs, rfl, h1, h2⟩ := lst_ok s r e
    exact ⟨a, vs, rfl, .inl h1, h2⟩
theorem ints_ok : ∀ {ws : List U} {vs : List V} {l : List Int}, VRs K Λ φ H ws vs → intsU ws = some l → vs = l.map V.int
  | [], _, _, h, e => by cases e; exact h
  | w :: ws, _, l, h, e => by
    obtain ⟨v, r, rfl, h1, h2⟩ := h
    cases w with
    | int i =>
      unfold intsU at e
      split at e
      · rename_i l' hl
        cases e
        rw [List.map_cons, ← ints_ok h2 hl, show v = V.int i from h1]
      · cases e
    | _ => cases e
theorem strs_ok : ∀ {ws : List U} {vs : List V} {l : List (List Nat)}, VRs K Λ φ H ws vs → strsU ws = some l → vs = (l.map fun x => (⟨x.toArray⟩ : Str)).map V.str
  | [], _, _, h, e => by cases e; exact h
  | w :: ws, _, l, h, e => by
    obtain ⟨v, r, rfl, h1, h2⟩ := h
    cases w with
    | str i =>
      unfold strsU at e
      split at e
      · rename_i l' hl
        cases e
        rw [List.map_cons, List.map_cons, ← strs_ok h2 hl, show v = V.str _ from h1]
      · cases e
    | _ => cases e
end
theorem intsU_map : ∀ l : List Int, intsU (l.map U.int) = some l
  | [] => rfl
  | i :: l => by simp [intsU, intsU_map l]
theorem strsU_map : ∀ l : List (List Nat), strsU (l.map U.str) = some l
  | [] => rfl
  | i :: l => by simp [strsU, strsU_map l]

/-! ### calls of built-in things -/
abbrev OpC := List U → Store → Out U
def CallS (X : Cx) (Tb : Tbs) (f : Value) (g : OpC) : Prop := ∃ r : List V → Hp → VK → Prop, CallR X f r ∧ ∀ Λ φ S H ws vs (E : Value → Option Addr → Hp → Prop) Q, SR X.K X.mg Tb Λ φ S H → VRs X.K Λ φ H ws vs → Post X.K X.mg Tb Λ (relV X.K Λ) E φ H (g ws S) Q → r vs H Q
theorem CallR_or {X : Cx} {f : Value} {r r' : List V → Hp → VK → Prop} (h : CallR X f r) (h' : CallR X f r') : CallR X f (fun vs H Q => r vs H Q ∨ r' vs H Q) :=
  fun pins s σ H xs us Q I rx x => x.elim (h pins s σ H xs us Q I rx) (h' pins s σ H xs us Q I rx)
def mCallC (g : OpC) (ma : MA) : ME := fun ρ S => (ma ρ S).bind g
section
variable {X : Cx} {Tb : Tbs} {W : WX} {pos p : Pos} {k j : Nat}
theorem callC_ok {r : List V → Hp → VK → Prop} {g : OpC} {ma : MA} (hr : ∀ Λ φ S H ws vs (E : Value → Option Addr → Hp → Prop) Q, SR X.K X.mg Tb Λ φ S H → VRs X.K Λ φ H ws vs → Post X.K X.mg Tb Λ (relV X.K Λ) E φ H (g ws S) Q → r vs H Q)
    {Λ φ ρ S σ H Q} (s : SR X.K X.mg Tb Λ φ S H) (e : ER X.K Λ φ H ρ σ) (p : Post X.K X.mg Tb Λ (relV X.K Λ) (fun c d H => W c d σ H) φ H (mCallC g ma ρ S) Q) : tCB r (tSA X.K X.mg Tb W ma) σ H Q :=
  ⟨Λ, φ, ρ, S, s, e, (Post.bind p).imp fun vs H1 ⟨φ1, ws, S1, l1, t1, s1, r1, p1⟩ => hr _ _ _ _ _ _ _ _ s1 r1 p1⟩
theorem se_callB {id : String} {g : OpC} {x : Str} {e : Expr} {es : List Expr} {ma : MA} (h : CallS X Tb (.builtin id) g) (hm : X.mg x = none) (ha : SA X Tb W (e :: es) ma) (hg : Gl X x := by rfl) (hv : bootBuiltins x = some (.builtin id) := by rfl) (hn : x ≠ "__name__" := by decide) (hdb : (x == ("__debug__" : Str)) = false := by decide)
    (he : starEach (e :: es) X.env = (false, eval e X.env) :: starEach es X.env := by rfl) (hpl : (backTo pos (starEach es X.env)).any (·.1) = false := by rfl) : SE X Tb W (.Call (.Name x p) (e :: es) [] pos) (mCallC g ma) := by
  obtain ⟨r, hr, ho⟩ := h
  exact se_weak (pe_callB hr hg hm hv ha.pa hn hdb he hpl) fun Λ φ ρ S σ H Q s e p => callC_ok ho s e p
theorem se_callTy {T : String} {g : OpC} {x : Str} {e : Expr} {es : List Expr} {ma : MA} (h : CallS X Tb (.type T) g) (hm : X.mg x = none) (ha : SA X Tb W (e :: es) ma) (hg : Gl X x := by rfl) (hv : bootBuiltins x = some (.type T) := by rfl) (hn : x ≠ "__name__" := by decide) (hdb : (x == ("__debug__" : Str)) = false := by decide)
    (he : starEach (e :: es) X.env = (false, eval e X.env) :: starEach es X.env := by rfl) (hpl : (backTo pos (starEach es X.env)).any (·.1) = false := by rfl) : SE X Tb W (.Call (.Name x p) (e :: es) [] pos) (mCallC g ma) := by
  obtain ⟨r, hr, ho⟩ := h
  exact se_weak (pe_callTy hr hg hm hv ha.pa hn hdb he hpl) fun Λ φ ρ S σ H Q s e p => callC_ok ho s e p
/-! len -/
def cLen : OpC
  | [.str l], S => if l.length ≤ lim then .ok (.int l.length) S else .bad
  | [w], S => (match seqU S w with
    | some ws => .ok (.int ws.length) S
    | none => (match w with
      | .ref n => (match S.get n with
        | some ⟨.dK kvs, 0⟩ => .ok (.int kvs.length) S
        | _ => .bad)
      | _ => .bad))
  | _, _ => .bad
theorem VRs.one {K Λ φ H} {w : U} {vs : List V} (h : VRs K Λ φ H [w] vs) : ∃ v, vs = [v] ∧ VR K Λ φ H w v := by
  obtain ⟨v, r, rfl, h1, h2⟩ := h
  cases (show r = [] from h2)
  exact ⟨v, rfl, h1⟩
theorem VRs.two {K Λ φ H} {w u : U} {vs : List V} (h : VRs K Λ φ H [w, u] vs) : ∃ v x, vs = [v, x] ∧ VR K Λ φ H w v ∧ VR K Λ φ H u x := by
  obtain ⟨v, r, rfl, h1, h2⟩ := h
  obtain ⟨x, rfl, h3⟩ := VRs.one h2
  exact ⟨v, x, rfl, h1, h3⟩
theorem cs_len : CallS X Tb (.builtin "len") cLen := by
  refine ⟨_, CallR_or call_len call_lenD, fun Λ φ S H ws vs E Q s r p => ?_⟩
  unfold cLen at p
  split at p
  · rename_i l
    split at p
    · rename_i hl
      obtain ⟨v, rfl, rv⟩ := r.one
      refine .inl ⟨_, l.length, rfl, ?_, p φ _ H (Lt.refl _) (TX.refl _) s rfl⟩
      rw [show v = V.str _ from rv]
      exact ⟨by rw [str_len]; exact lim_le' hl, by rw [str_len]⟩
    · exact p.elim
  · rename_i w _
    obtain ⟨v, rfl, rv⟩ := r.one
    split at p
    · rename_i us hq
      obtain ⟨a, vs, rfl, h1, h2⟩ := seq_ok s rv hq
      refine .inl ⟨_, us.length, rfl, ?_, p φ _ H (Lt.refl _) (TX.refl _) s rfl⟩
      rcases h1 with h1 | h1
      · exact .inl ⟨vs, h1, h2.length.symm⟩
      · exact .inr ⟨vs, h1, h2.length.symm⟩
    · split at p
      · split at p
        · rename_i kvs hg
          obtain ⟨a, vs, g1, g2, g3, g4⟩ := s.dK hg
          obtain ⟨a', rfl, g1'⟩ := rv
          rw [g1] at g1'; cases g1'
          exact .inr ⟨a, vs, rfl, g4 rfl, p φ _ H (Lt.refl _) (TX.refl _) s (by rw [g3.length]; rfl)⟩
        · exact p.elim
      · exact p.elim
  · exact p.elim
/-! abs, int, str, max, min -/
def cAbs : OpC
  | [.int i], S => .ok (.int (if i < 0 then -i else i)) S
  | _, _ => .bad
theorem cs_abs : CallS X Tb (.builtin "abs") cAbs := by
  refine ⟨_, call_abs, fun Λ φ S H ws vs E Q s r p => ?_⟩
  unfold cAbs at p
  split at p
  · obtain ⟨v, rfl, rv⟩ := r.one
    cases (show v = V.int _ from rv)
    exact ⟨_, rfl, p φ _ H (Lt.refl _) (TX.refl _) s rfl⟩
  · exact p.elim
def cInt : OpC
  | [.int i], S => .ok (.int i) S
  | [.bl b], S => .ok (.int (if b then 1 else 0)) S
  | _, _ => .bad
theorem cs_int : CallS X Tb (.type "int") cInt := by
  refine ⟨_, call_int1, fun Λ φ S H ws vs E Q s r p => ?_⟩
  unfold cInt at p
  split at p
  · obtain ⟨v, rfl, rv⟩ := r.one
    cases (show v = V.int _ from rv)
    exact .inl ⟨_, rfl, p φ _ H (Lt.refl _) (TX.refl _) s rfl⟩
  · obtain ⟨v, rfl, rv⟩ := r.one
    cases (show v = V.bl _ from rv)
    exact .inr ⟨_, rfl, p φ _ H (Lt.refl _) (TX.refl _) s rfl⟩
  · exact p.elim
/-- the signs of an int -/
def decU : Int → List Nat
  | .ofNat n => (Nat.toDigits 10 n).map Char.toNat
  | .negSucc n => 45 :: (Nat.toDigits 10 (n + 1)).map Char.toNat
theorem decU_ok (i : Int) : Str.ofString (toString i) = ⟨(decU i).toArray⟩ := by
  rw [Str.ofString_eq_toList]
  congr 2
  cases i with
  | ofNat m =>
    have e : toString (Int.ofNat m) = Nat.repr m := rfl
    rw [e]
    unfold Nat.repr decU
    rw [String.toList_ofList]
  | negSucc m =>
    have e : toString (Int.negSucc m) = "-" ++ Nat.repr (m + 1) := rfl
    rw [e]
    unfold Nat.repr decU
    rw [String.toList_append, List.map_append, String.toList_ofList (l := Nat.toDigits 10 (m + 1))]
    rfl
def cStr : OpC
  | [.int i], S => if i.natAbs.log2 < 1920 then .ok (.str (decU i)) S else .bad
  | _, _ => .bad
theorem cs_str : CallS X Tb (.type "str") cStr := by
  refine ⟨_, call_str_int, fun Λ φ S H ws vs E Q s r p => ?_⟩
  unfold cStr at p
  split at p
  · split at p
    · rename_i hl
      obtain ⟨v, rfl, rv⟩ := r.one
      cases (show v = V.int _ from rv)
      refine ⟨_, rfl, hl, ?_⟩
      rw [decU_ok]
      exact p φ _ H (Lt.refl _) (TX.refl _) s rfl
    · exact p.elim
  · exact p.elim
def cMax : OpC
  | [.int i, .int j], S => .ok (.int (if j > i then j else i)) S
  | _, _ => .bad
theorem cs_max (hc : X.calm = true) : CallS X Tb (.builtin "max") cMax := by
  refine ⟨_, call_max2 hc, fun Λ φ S H ws vs E Q s r p => ?_⟩
  unfold cMax at p
  split at p
  · obtain ⟨v, u, rfl, rv, r2⟩ := r.two
    cases (show v = V.int _ from rv)
    cases (show u = V.int _ from r2)
    exact ⟨_, _, rfl, p φ _ H (Lt.refl _) (TX.refl _) s rfl⟩
  · exact p.elim
def cMin : OpC
  | [.int i, .int j], S => .ok (.int (if j < i then j else i)) S
  | _, _ => .bad
theorem cs_min (hc : X.calm = true) : CallS X Tb (.builtin "min") cMin := by
  refine ⟨_, call_min2 hc, fun Λ φ S H ws vs E Q s r p => ?_⟩
  unfold cMin at p
  split at p
  · obtain ⟨v, u, rfl, rv, r2⟩ := r.two
    cases (show v = V.int _ from rv)
    cases (show u = V.int _ from r2)
    exact ⟨_, _, rfl, p φ _ H (Lt.refl _) (TX.refl _) s rfl⟩
  · exact p.elim
/-! sum of a list of ints -/
/-- sum(xs) of a tuple of ints -/
def rSumT (K : PySem.W.Frag) : List V → Hp → VK → Prop := fun vs H Q => ∃ (a : Addr) (ns : List Int), vs = [V.ref a] ∧ SqT K H a (ns.map V.int) ∧ Q (.int ns.sum) H
theorem cr_sumT (hc : X.calm = true) : CallR X (.builtin "sum") (rSumT X.K) := by
  intro pins s σ H vs us Q I r h
  obtain ⟨a, ns, rfl, hs, q⟩ := h
  obtain ⟨its, rv, hl, _⟩ := I.tuple hs
  rw [Vals.ref1 r]
  have hi := rv.ints
  obtain ⟨xs, e⟩ := hi.allInts.items
  have hn : numsOf (intItems xs).toList = ns := by rw [← e]; exact hi.numsOf
  rw [nums_intItems] at hn
  rw [e] at hl
  obtain ⟨o, ho, h1, n, h2⟩ := hl
  refine PySem.W.ktm_sumG (I.ok.hd hc) ⟨o, ho, h1, n, h2⟩ fun h' tk t' hk => ?_
  rw [preSum_eq, List.take_of_length_le (by simp), hn]
  exact ⟨.int _, H, I.kept hk, ⟨_, rfl⟩, q⟩
def cSum : OpC
  | [w], S => (match seqU S w with
    | some ws => (match intsU ws with
      | some l => .ok (.int l.sum) S
      | none => .bad)
    | none => .bad)
  | _, _ => .bad
theorem cs_sum (hc : X.calm = true) : CallS X Tb (.builtin "sum") cSum := by
  refine ⟨_, CallR_or (cr_sum hc) (cr_sumT hc), fun Λ φ S H ws vs E Q s r p => ?_⟩
  unfold cSum at p
  split at p
  · split at p
    · rename_i us hq
      split at p
      · rename_i l hl
        obtain ⟨v, rfl, rv⟩ := r.one
        obtain ⟨a, vs, rfl, h1, h2⟩ := seq_ok s rv hq
        have := ints_ok h2 hl
        subst this
        rcases h1 with h1 | h1
        · exact .inl ⟨a, l, rfl, h1, p φ _ H (Lt.refl _) (TX.refl _) s rfl⟩
        · exact .inr ⟨a, l, rfl, h1, p φ _ H (Lt.refl _) (TX.refl _) s rfl⟩
      · exact p.elim
    · exact p.elim
  · exact p.elim
/-! list, tuple -/
theorem Post_tup {E : Value → Option Addr → Hp → Prop} {Λ φ S H Q} (s : SR X.K X.mg Tb Λ φ S H) {ws : List U} {vs : List V} (h : VRs X.K Λ φ H ws vs) (p : Post X.K X.mg Tb Λ (relV X.K Λ) E φ H (.ok (.tup ws) S) Q) : ∀ l, H l = none → Q (.ref l) (upd H l (.tup vs)) := fun l hl =>
  p φ _ _ (Lt.refl _) (TX.new hl) (s.gar hl _) ⟨l, vs, rfl, .inl (.inl upd_same), h.mono (Lt.refl _) (TX.new hl)⟩
theorem Post_lst {E : Value → Option Addr → Hp → Prop} {Λ φ S H Q} (s : SR X.K X.mg Tb Λ φ S H) {ws : List U} {vs : List V} (h : VRs X.K Λ φ H ws vs) (p : Post X.K X.mg Tb Λ (relV X.K Λ) E φ H (.ok (.ref S.n) (S.new (.lst ws))) Q) : ∀ l, H l = none → Q (.ref l) (upd H l (.lst vs)) := fun l hl =>
  p _ _ _ (Map.lt_at s) (TX.new hl) (s.mk_lst hl h) VR.new
def cTup : OpC
  | [w], S => (match seqU S w with
    | some ws => .ok (.tup ws) S
    | none => .bad)
  | _, _ => .bad
theorem cs_tup : CallS X Tb (.type "tuple") cTup := by
  refine ⟨_, call_tuple_of, fun Λ φ S H ws vs E Q s r p => ?_⟩
  unfold cTup at p
  split at p
  · split at p
    · rename_i us hq
      obtain ⟨v, rfl, rv⟩ := r.one
      obtain ⟨a, vs, rfl, h1, h2⟩ := seq_ok s rv hq
      refine ⟨a, vs, rfl, ?_⟩
      rcases h1 with h1 | h1
      · exact .inl ⟨h1, Post_tup s h2 p⟩
      · exact .inr ⟨h1, p φ _ H (Lt.refl _) (TX.refl _) s ⟨a, vs, rfl, h1, h2⟩⟩
    · exact p.elim
  · exact p.elim
theorem keys_ok {K Λ φ H} : ∀ {kvs : List (Ky × U)} {vs : List (Key × V)}, KR K Λ φ H Ky.k kvs vs → VRs K Λ φ H (kvs.map fun kv => kyU kv.1) (vs.map fun kv => kV kv.1)
  | [], _, h => by subst h; exact rfl
  | (x, w) :: r, _, h => by
    obtain ⟨v, r', rfl, h1, h2⟩ := h
    refine ⟨_, _, rfl, ?_, keys_ok h2⟩
    cases x with
    | i n => rfl
    | s l => rfl
def cList : OpC
  | [.ref n], S => (match S.get n with
    | some ⟨.lst ws, _⟩ => .ok (.ref S.n) (S.new (.lst ws))
    | some ⟨.dK kvs, _⟩ => .ok (.ref S.n) (S.new (.lst (kvs.map fun kv => kyU kv.1)))
    | _ => .bad)
  | [w], S => (match seqU S w with
    | some ws => .ok (.ref S.n) (S.new (.lst ws))
    | none => .bad)
  | _, _ => .bad
theorem cs_list (hc : X.calm = true) : CallS X Tb (.type "list") cList := by
  refine ⟨_, CallR_or call_list_of (call_listD hc), fun Λ φ S H ws vs E Q s r p => ?_⟩
  unfold cList at p
  split at p
  · obtain ⟨v, rfl, rv⟩ := r.one
    split at p
    · rename_i ws lk hg
      obtain ⟨a, vs, g1, g2, g3, _⟩ := s.lst hg
      obtain ⟨a', rfl, g1'⟩ := rv
      rw [g1] at g1'; cases g1'
      exact .inl ⟨a, vs, rfl, .inl g2, Post_lst s g3 p⟩
    · rename_i kvs lk hg
      obtain ⟨a, vs, g1, g2, g3, g4⟩ := s.dK hg
      obtain ⟨a', rfl, g1'⟩ := rv
      rw [g1] at g1'; cases g1'
      exact .inr ⟨a, vs, rfl, g2, Post_lst s (keys_ok g3) p⟩
    · exact p.elim
  · obtain ⟨v, rfl, rv⟩ := r.one
    split at p
    · rename_i us hq
      obtain ⟨a, vs, rfl, h1, h2⟩ := seq_ok s rv hq
      exact .inl ⟨a, vs, rfl, h1, Post_lst s h2 p⟩
    · exact p.elim
  · exact p.elim
/-! dict of a list of pairs -/
def pairsU : List U → Option (List (Ky × U))
  | [] => some []
  | .tup [k, v] :: r => (match uKey k, pairsU r with
    | some k, some l => some ((k, v) :: l)
    | _, _ => none)
  | _ :: _ => none
def mergeU (l : List (Ky × U)) : List (Ky × U) := l.foldl (fun acc kv => setK acc kv.1 kv.2) []
theorem pairs_ok {K Λ φ H} : ∀ {ws : List U} {vs : List V} {l : List (Ky × U)}, VRs K Λ φ H ws vs → pairsU ws = some l → ∃ (ps : List Addr) (kvs : List (Key × V)), vs = ps.map V.ref ∧ Paired (fun p (kv : Key × V) => SqT K H p [kV kv.1, kv.2]) ps kvs ∧ KR K Λ φ H Ky.k l kvs
  | [], _, _, h, e => by cases e; exact ⟨[], [], h, .nil, rfl⟩
  | w :: ws, _, l, h, e => by
    obtain ⟨v, r, rfl, h1, h2⟩ := h
    unfold pairsU at e
    split at e
    · cases ‹_ = []›
    · rename_i k x r' heq
      cases heq
      split at e
      · rename_i k' l' hk hl
        cases e
        obtain ⟨ps, kvs, e1, e2, e3⟩ := pairs_ok h2 hl
        obtain ⟨a, vs, rfl, g1, g2⟩ := h1
        obtain ⟨v1, v2, rfl, q1, q2⟩ := g2.two
        refine ⟨a :: ps, (k'.k, v2) :: kvs, by rw [e1]; rfl, .cons ?_ e2, ⟨v2, kvs, rfl, q2, e3⟩⟩
        rw [key_ok q1 hk] at g1
        exact g1
      · cases e
    · cases e
theorem merge_ok {K Λ φ H} : ∀ {l : List (Ky × U)} {kvs : List (Key × V)} {acc : List (Ky × U)} {acc' : List (Key × V)}, KR K Λ φ H Ky.k l kvs → KR K Λ φ H Ky.k acc acc' → KR K Λ φ H Ky.k (l.foldl (fun acc kv => setK acc kv.1 kv.2) acc) (mergeK acc' kvs)
  | [], _, acc, acc', h, h' => by subst h; exact h'
  | (x, w) :: r, _, acc, acc', h, h' => by
    obtain ⟨v, r', rfl, h1, h2⟩ := h
    show KR K Λ φ H Ky.k (r.foldl (fun acc kv => setK acc kv.1 kv.2) (setK acc x w)) (mergeK (putK acc' x.k v) r')
    exact merge_ok h2 (KR.setS (fun _ _ => Ky.inj) h1 h')
def cDict : OpC
  | [.ref n], S => (match S.get n with
    | some ⟨.lst ws, _⟩ => (match pairsU ws with
      | some l => .ok (.ref S.n) (S.new (.dK (mergeU l)))
      | none => .bad)
    | some ⟨.dK kvs, _⟩ => .ok (.ref S.n) (S.new (.dK kvs))
    | _ => .bad)
  | _, _ => .bad
theorem Post_dK {E : Value → Option Addr → Hp → Prop} {Λ φ S H Q} (s : SR X.K X.mg Tb Λ φ S H) {ws : List (Ky × U)} {vs : List (Key × V)} (h : KR X.K Λ φ H Ky.k ws vs) (p : Post X.K X.mg Tb Λ (relV X.K Λ) E φ H (.ok (.ref S.n) (S.new (.dK ws))) Q) : ∀ l, H l = none → Q (.ref l) (upd H l (.dK vs)) := fun l hl =>
  p _ _ _ (Map.lt_at s) (TX.new hl) (s.mkO hl ⟨vs, upd_same, h.mono (Map.lt_at s) (TX.new hl)⟩ (fun _ z => nomatch z) (fun _ z => nomatch z) fun _ z => nomatch z) VR.new
theorem cs_dict (hc : X.calm = true) : CallS X Tb (.type "dict") cDict := by
  refine ⟨_, CallR_or (call_dictP hc) call_dictD, fun Λ φ S H ws vs E Q s r p => ?_⟩
  unfold cDict at p
  split at p
  · obtain ⟨v, rfl, rv⟩ := r.one
    split at p
    · rename_i ws lk hg
      split at p
      · rename_i l hl
        obtain ⟨a, vs, g1, g2, g3, _⟩ := s.lst hg
        obtain ⟨a', rfl, g1'⟩ := rv
        rw [g1] at g1'; cases g1'
        obtain ⟨ps, kvs, rfl, e2, e3⟩ := pairs_ok g3 hl
        exact .inl ⟨a, ps, kvs, rfl, g2, e2, Post_dK s (merge_ok (acc := []) (acc' := []) e3 rfl) p⟩
      · exact p.elim
    · rename_i kvs lk hg
      obtain ⟨a, vs, g1, g2, g3, g4⟩ := s.dK hg
      obtain ⟨a', rfl, g1'⟩ := rv
      rw [g1] at g1'; cases g1'
      exact .inr ⟨a, vs, rfl, g2, Post_dK s g3 p⟩
    · exact p.elim
  · exact p.elim
end
end Sm
/-! text Sm10 -/
namespace Sm
open PySem PySem.Spec PyProof.Rows L2
/-! ### subscripts -/
def atU {α : Type} (ws : List α) (i : Int) : Option α := (pyIx ws.length i).bind fun j => ws[j]?
theorem atU_ok {K Λ φ H} {ws : List U} {vs : List V} {i : Int} {w : U} (h : VRs K Λ φ H ws vs) (e : atU ws i = some w) : ∃ v, atI vs i = some v ∧ VR K Λ φ H w v := by
  unfold atU at e
  obtain ⟨j, hj, e⟩ := Option.bind_eq_some_iff.mp e
  obtain ⟨v, h1, h2⟩ := h.get e
  refine ⟨v, ?_, h2⟩
  unfold atI
  rw [h.length, show ixN ws.length i = some j from hj]
  exact h1
def oIx : Op2
  | .str l, .int i, S => if l.length ≤ lim then (match atU l i with
    | some c => .ok (.str [c]) S
    | none => .bad) else .bad
  | w, u, S => (match seqU S w with
    | some ws => (match u with
      | .int i => (match atU ws i with
        | some x => .ok x S
        | none => .bad)
      | _ => .bad)
    | none => (match w with
      | .ref n => (match S.get n with
        | some ⟨.dK kvs, _⟩ => (match uKey u with
          | some k => (match getK kvs k with
            | some x => .ok x S
            | none => .bad)
          | none => .bad)
        | _ => .bad)
      | _ => .bad))
def rIxD : R2 := fun x y H Q => ∃ a v, x = .ref a ∧ DGet H a y (some v) ∧ Q v H
section
variable {X : Cx} {Tb : Tbs} {W : WX} {pos p : Pos} {k j : Nat}
theorem dget_ty {pins : List (Addr × Obj)} {σ : L2.St} {H : Hp} {s : Shared} {a : Addr} {y : V} {o : Option V} (I : Inv X pins σ H s) (g : DGet H a y o) : s.TypeIs (.ref a) "dict" := by
  refine (isD_at I ?_).1
  rcases g with ⟨kvs, k, e, _⟩ | ⟨kvs, k, b, e, _⟩
  · exact .inl ⟨kvs, e⟩
  · exact .inr ⟨kvs, e⟩
theorem ix_dict (hu : X.A.units + 1 < cLine) : IxR X rIxD := by
  intro value slice pins s σ H x y v u Q I rx ry h hs
  obtain ⟨a, w, rfl, g, q⟩ := h
  cases rx
  exact tail_any (dget_ty I g) PySem.F.slot_dict_getitem.lookup (d_getItem hu I g ry fun w' s' I' rw' => ⟨w, H, I', rw', q⟩) hs
def rIxA (K : PySem.W.Frag) : R2 := fun x y H Q => ((rIxL K x y H Q ∨ rIxT K x y H Q) ∨ rIxS x y H Q) ∨ rIxD x y H Q
theorem ix_all (hu : X.A.units + 1 < cLine) : IxR X (rIxA X.K) := ((ix_list.or ix_tup).or ix_str).or (ix_dict hu)
theorem oIx_ok {Λ : Lam} {φ : Map} {S : Store} {H : Hp} {w u : U} {x y : V} {E : Value → Option Addr → Hp → Prop} {Q : VK} (s : SR X.K X.mg Tb Λ φ S H) (rw_ : VR X.K Λ φ H w x) (ru : VR X.K Λ φ H u y)
    (p : Post X.K X.mg Tb Λ (relV X.K Λ) E φ H (oIx w u S) Q) : rIxA X.K x y H Q := by
  unfold oIx at p
  split at p
  · rename_i l i
    split at p
    · rename_i hl
      split at p
      · rename_i c hc
        refine .inl (.inr ⟨_, i, c, rw_, ru, by rw [str_len]; exact lim_le' hl, hc, p φ _ H (Lt.refl _) (TX.refl _) s rfl⟩)
      · exact p.elim
    · exact p.elim
  · split at p
    · rename_i ws hq
      split at p
      · rename_i _ i _
        split at p
        · rename_i z hz
          obtain ⟨a, vs, rfl, h1, h2⟩ := seq_ok s rw_ hq
          obtain ⟨v, e1, r1⟩ := atU_ok h2 hz
          have q := p φ v H (Lt.refl _) (TX.refl _) s r1
          rcases h1 with h1 | h1
          · exact .inl (.inl (.inl ⟨a, vs, i, v, rfl, ru, h1, e1, q⟩))
          · exact .inl (.inl (.inr ⟨a, vs, i, v, rfl, ru, h1, e1, q⟩))
        · exact p.elim
      · exact p.elim
    · split at p
      · split at p
        · rename_i kvs lk hg
          split at p
          · rename_i kk hk
            split at p
            · rename_i z hz
              obtain ⟨a, vs, g1, g2, g3, _⟩ := s.dK hg
              obtain ⟨a', rfl, g1'⟩ := rw_
              rw [g1] at g1'; cases g1'
              have gs := KR.getS (fun _ _ => Ky.inj) (k := kk) g3
              rw [hz] at gs
              obtain ⟨v', e1, r1⟩ := gs
              exact .inr ⟨a, v', rfl, .inl ⟨vs, kk.k, g2, key_ok ru hk, e1.symm⟩, p φ v' H (Lt.refl _) (TX.refl _) s r1⟩
            · exact p.elim
          · exact p.elim
        · exact p.elim
      · exact p.elim
theorem se_ix (C : Ct X W k) {a b : Expr} {ma mb : ME} (ha : SE X Tb W a ma) (hb : SE X Tb W b mb) (hs : PlainIx b := by intro _ _; rfl) : SE X Tb W (.Subscript a b pos) (mBin oIx ma mb) :=
  se_weak (pe_ix (ix_all C.hu1) ha.pe hb.pe hs) fun Λ φ ρ S σ H Q s e p => bin_ok (fun Λ φ S H w u x y E Q s rw_ ru p => oIx_ok s rw_ ru p) s e p
/-! ### slices -/
/-- a part of a slice: left out, an int -/
abbrev MO := Env → Store → Out (Option Int)
structure SO (X : Cx) (Tb : Tbs) (W : WX) (e : Option Expr) (m : MO) : Prop where
  po : PO X e (fun σ H Q => ∃ Λ φ ρ S, SR X.K X.mg Tb Λ φ S H ∧ ER X.K Λ φ H ρ σ ∧ Post X.K X.mg Tb Λ (fun _ _ a b => a = b) (fun c d H => W c d σ H) φ H (m ρ S) Q)
def oNo : MO := fun _ S => .ok none S
def oSo (m : ME) : MO := fun ρ S => (m ρ S).bind fun w S => match w with
  | .int i => .ok (some i) S
  | _ => .bad
theorem so_no : SO X Tb W none oNo :=
  ⟨⟨fun pins s σ H Q I ⟨Λ, φ, ρ, S, s0, e0, p⟩ => po_none.run pins s σ H Q I (p φ none H (Lt.refl _) (TX.refl _) s0 rfl)⟩⟩
theorem so_so {e : Expr} {m : ME} (h : SE X Tb W e m) : SO X Tb W (some e) (oSo m) := by
  refine ⟨⟨fun pins s σ H Q I ⟨Λ, φ, ρ, S, s0, e0, p⟩ => (po_some h.pe).run pins s σ H Q I ?_⟩⟩
  refine ⟨Λ, φ, ρ, S, s0, e0, (Post.bind p).imp fun v H1 ⟨φ1, w, S1, l1, t1, s1, r1, p1⟩ => ?_⟩
  split at p1
  · exact ⟨_, r1, p1 φ1 _ H1 (Lt.refl _) (TX.refl _) s1 rfl⟩
  · exact p1.elim
/-- the items from lo to hi -/
def cutU {α : Type} (ws : List α) (lo hi : Option Int) : List α := (ws.drop (HT.sIx ws.length 0 lo)).take (HT.sIx ws.length ws.length hi - HT.sIx ws.length 0 lo)
def oCut (w : U) (lo hi : Option Int) (S : Store) : Out U := match w with
  | .str l => if l.length ≤ lim then .ok (.str (cutU l lo hi)) S else .bad
  | .tup ws => .ok (.tup (cutU ws lo hi)) S
  | w => (match lstU S w with
    | some ws => .ok (.ref S.n) (S.new (.lst (cutU ws lo hi)))
    | none => .bad)
def mCut (m : ME) (lo hi : MO) : ME := fun ρ S => (m ρ S).bind fun w S => (lo ρ S).bind fun l S => (hi ρ S).bind fun h S => oCut w l h S
theorem cut_ok {K Λ φ H} {ws : List U} {vs : List V} {lo hi : Option Int} (h : VRs K Λ φ H ws vs) : VRs K Λ φ H (cutU ws lo hi) (cutV vs lo hi) := by
  unfold cutU cutV
  rw [h.length]
  exact (h.drop _).take _
theorem cut_whole {ws : List U} {lo hi : Option Int} (h1 : HT.sIx ws.length 0 lo = 0) (h2 : HT.sIx ws.length ws.length hi = ws.length) : cutU ws lo hi = ws := by
  unfold cutU
  rw [h1, h2]
  simp
theorem se_cut {a : Expr} {lo hi : Option Expr} {ma : ME} {ml mh : MO} {p2 : Pos} (ha : SE X Tb W a ma) (hl : SO X Tb W lo ml) (hh : SO X Tb W hi mh) : SE X Tb W (.Subscript a (.Slice lo hi none p2) pos) (mCut ma ml mh) := by
  refine se_weak (pe_slice ((sl_list.or sl_tupA).or sl_str) ha.pe hl.po hh.po) fun Λ φ ρ S σ H Q s e p => ?_
  refine ⟨Λ, φ, ρ, S, s, e, (Post.bind p).imp fun v H1 ⟨φ1, w, S1, l1, t1, s1, r1, p1⟩ => ?_⟩
  refine ⟨Λ, φ1, ρ, S1, s1, e.mono l1 t1, (Post.bind (rel := fun _ _ a b => a = b) p1).imp fun lo H2 ⟨φ2, lo', S2, l2, t2, s2, r2, p2⟩ => ?_⟩
  refine ⟨Λ, φ2, ρ, S2, s2, (e.mono l1 t1).mono l2 t2, (Post.bind (rel := fun _ _ a b => a = b) p2).imp fun hi H3 ⟨φ3, hi', S3, l3, t3, s3, r3, p3⟩ => ?_⟩
  cases r2; cases r3
  have r : VR X.K Λ φ3 H3 w v := VR.mono l3 t3 (VR.mono l2 t2 r1)
  unfold oCut at p3
  split at p3
  · rename_i l
    split at p3
    · rename_i hl
      refine .inr ⟨_, r, by rw [str_len]; exact lim_le' hl, ?_⟩
      have q := p3 φ3 _ H3 (Lt.refl _) (TX.refl _) s3 rfl
      unfold cutS
      rw [str_len]
      exact q
    · exact p3.elim
  · rename_i ws
    obtain ⟨a, vs, rfl, h1, h2⟩ := r
    have hlen := h2.length
    refine .inl (.inr ⟨a, vs, rfl, h1, fun hw => ?_, fun _ => Post_tup s3 (cut_ok h2) p3⟩)
    rw [hlen] at hw
    rw [cut_whole hw.1 hw.2] at p3
    exact p3 φ3 _ H3 (Lt.refl _) (TX.refl _) s3 ⟨a, vs, rfl, h1, h2⟩
  · split at p3
    · rename_i ws hq
      obtain ⟨a, vs, rfl, h1, h2⟩ := lst_ok s3 r hq
      exact .inl (.inl ⟨a, vs, rfl, h1, Post_lst s3 (cut_ok h2) p3⟩)
    · exact p3.elim
/-- xs[::-1] of a list -/
def mRev (m : ME) : ME := fun ρ S => (m ρ S).bind fun w S => match lstU S w with
  | some ws => .ok (.ref S.n) (S.new (.lst ws.reverse))
  | none => .bad
theorem VRs.rev {K Λ φ H} : ∀ {ws : List U} {vs : List V}, VRs K Λ φ H ws vs → VRs K Λ φ H ws.reverse vs.reverse
  | [], _, h => by subst h; exact rfl
  | w :: ws, _, h => by
    obtain ⟨v, r, rfl, h1, h2⟩ := h
    rw [List.reverse_cons, List.reverse_cons]
    exact (VRs.rev h2).app (VRs.cons h1 VRs.nil)
theorem se_rev {e : Expr} {m : ME} {i : Nat} {p1 p2 p3 : Pos} (h : SE X Tb W e m) : SE X Tb W (.Subscript e (.Slice none none (some (.UnaryOp .USub (.Constant (.int 1) i p1) p2)) p3) pos) (mRev m) := by
  refine se_weak (pe_revL h.pe) fun Λ φ ρ S σ H Q s e p => ?_
  refine ⟨Λ, φ, ρ, S, s, e, (Post.bind p).imp fun v H1 ⟨φ1, w, S1, l1, t1, s1, r1, p1⟩ => ?_⟩
  split at p1
  · rename_i ws hq
    obtain ⟨a, vs, rfl, h1, h2⟩ := lst_ok s1 r1 hq
    exact ⟨a, vs, rfl, h1, Post_lst s1 h2.rev p1⟩
  · exact p1.elim
/-! ### -e -/
def mNeg (m : ME) : ME := fun ρ S => (m ρ S).bind fun w S => match w with
  | .int i => .ok (.int (-i)) S
  | _ => .bad
theorem se_neg {e : Expr} {m : ME} (h : SE X Tb W e m) : SE X Tb W (.UnaryOp .USub e pos) (mNeg m) := by
  refine se_weak (pe_un un_neg h.pe) fun Λ φ ρ S σ H Q s e p => ?_
  refine ⟨Λ, φ, ρ, S, s, e, (Post.bind p).imp fun v H1 ⟨φ1, w, S1, l1, t1, s1, r1, p1⟩ => ?_⟩
  split at p1
  · exact ⟨_, r1, p1 φ1 _ H1 (Lt.refl _) (TX.refl _) s1 rfl⟩
  · exact p1.elim
/-! ### op= -/
def IpS (X : Cx) (Tb : Tbs) (op : Operator) (g : Op2) : Prop := ∃ r : TIp, PIp X op r ∧ ∀ Λ φ S H w u x y (E : Value → Option Addr → Hp → Prop) Q, SR X.K X.mg Tb Λ φ S H → VR X.K Λ φ H w x → VR X.K Λ φ H u y →
  Post X.K X.mg Tb Λ (relV X.K Λ) E φ H (g w u S) Q → r x y H Q
def iAdd : Op2
  | .int i, .int j, S => .ok (.int (i + j)) S
  | _, _, _ => .bad
theorem is_add : IpS X Tb .Add iAdd := by
  refine ⟨_, ip_add, fun Λ φ S H w u x y E Q s rw_ ru p => ?_⟩
  unfold iAdd at p
  split at p
  · exact ⟨_, _, rw_, ru, p φ _ H (Lt.refl _) (TX.refl _) s rfl⟩
  · exact p.elim
theorem is_sub : IpS X Tb .Sub oSub := by
  refine ⟨_, ip_sub, fun Λ φ S H w u x y E Q s rw_ ru p => ?_⟩
  unfold oSub at p
  split at p
  · exact ⟨_, _, rw_, ru, p φ _ H (Lt.refl _) (TX.refl _) s rfl⟩
  · exact p.elim
/-- name op= e -/
def sAug (i : Nat) (g : Op2) (m : ME) : MS := fun ρ S => match ρ[i]? with
  | some (some x) => (m ρ S).then ρ fun y S => (g x y S).then ρ fun z S => .go .nx (ρ.set i (some z)) S
  | _ => .bad
theorem ss_aug (C : Ct X W k) (i : Nat) {x : Str} {e : Expr} {m : ME} {op : Operator} {g : Op2} {pos' : Pos} (ho : IpS X Tb op g) (h : SE X Tb W e m) (hi : X.N[i]? = some x := by rfl) (hx : Loc X.env.scope x := by first | exact Or.inl rfl | exact Or.inr rfl)
    (hf : X.fn x = true ∨ X.env.scope.names.lookup x = some .local := by first | exact .inl rfl | exact .inr rfl) : SS X Tb W (.AugAssign (.Name x pos') op e pos) (sAug i g m) := by
  obtain ⟨r, hr, hok⟩ := ho
  refine ss_weak (ps_aug C.nd hi hx h.pe hr hf) fun Λ φ ρ S σ H D s e p => ?_
  unfold sAug at p
  split at p
  · rename_i x hx
    obtain ⟨v, h1, r1⟩ := e.2 i x hx
    refine ⟨v, h1, Λ, φ, ρ, S, s, e, (PostS.then e p).imp fun y H1 ⟨φ1, w, S1, l1, t1, s1, r2, p1⟩ => ?_⟩
    refine hok Λ φ1 S1 H1 x w v y (fun c d H => W c d σ H) _ s1 (r1.mono l1 t1) r2 ((PostS.then (e.mono l1 t1) p1).imp fun z H3 ⟨φ3, z2, S3, l3, t3, s3, r3, p3⟩ => ?_)
    exact p3 φ3 _ H3 (Lt.refl _) (TX.refl _) s3 (((e.mono l1 t1).mono l3 t3).set i r3)
  · exact p.elim
/-! o[i] op= e -/
def oGet : Op2 := fun w u S => match w with
  | .ref _ => oIx w u S
  | _ => .bad
def rGetA (K : PySem.W.Frag) : V → V → Hp → VK → Prop := fun x y H Q => rIxL K x y H Q ∨ rIxD x y H Q
theorem pget_all (hu : X.A.units + 1 < cLine) : PGet X (rGetA X.K) := by
  intro pins s σ H x y v u Q I rx ry h
  rcases h with h | h
  · obtain ⟨p, xs, i, z, rfl, rfl, hq, he, q⟩ := h
    cases rx
    obtain ⟨t, rfl⟩ := ry
    obtain ⟨its, r, pl, hz⟩ := I.list hq
    obtain ⟨j, h1, h2, h3, h4, h5⟩ := atI_get he
    obtain ⟨w, ew, rw'⟩ := r.get h2
    have hl := r.length
    have hn := line63
    have fin : EP X pins σ Q w s := ⟨z, H, I, rw', q⟩
    by_cases h0 : 0 ≤ i
    · have hj : i.toNat = j := by
        rw [seqIndex_of h0 h5] at h1
        exact Option.some.inj h1
      exact wpAny_getItem_list pl.isList h0 (by omega) (by rw [hj]; simpa using ew) fin
    · have hj : (i + (its.toArray.size : Int)).toNat = j := by
        rw [seqIndex_neg (by omega) h4] at h1
        rw [List.size_toArray, ← hl]
        exact Option.some.inj h1
      exact wpAny_getItem_list_neg pl.isList (by omega) (by rw [List.size_toArray] <;> omega) (by omega) (by rw [hj]; simpa using ew) fin
  · obtain ⟨a, w, rfl, g, q⟩ := h
    cases rx
    exact d_getItem hu I g ry fun w' s' I' rw' => ⟨w, H, I', rw', q⟩
theorem oGet_ok {Λ : Lam} {φ : Map} {S : Store} {H : Hp} {w u : U} {x y : V} {E : Value → Option Addr → Hp → Prop} {Q : VK} (s : SR X.K X.mg Tb Λ φ S H) (rw_ : VR X.K Λ φ H w x) (ru : VR X.K Λ φ H u y)
    (p : Post X.K X.mg Tb Λ (relV X.K Λ) E φ H (oGet w u S) Q) : rGetA X.K x y H Q := by
  unfold oGet at p
  split at p
  · unfold oIx at p
    simp only [seqU, lstU] at p
    split at p
    · rename_i ws hq
      split at hq
      · rename_i n _ _ hg
        cases hq
        split at p
        · split at p
          · rename_i z hz
            obtain ⟨a, vs, g1, g2, g3, _⟩ := s.lst hg
            obtain ⟨a', rfl, g1'⟩ := rw_
            rw [g1] at g1'; cases g1'
            obtain ⟨v, e1, r1⟩ := atU_ok g3 hz
            exact .inl ⟨a, vs, _, v, rfl, ru, g2, e1, p φ v H (Lt.refl _) (TX.refl _) s r1⟩
          · exact p.elim
        · exact p.elim
      · cases hq
    · split at p
      · rename_i kvs lk hg
        split at p
        · rename_i kk hk
          split at p
          · rename_i z hz
            obtain ⟨a, vs, g1, g2, g3, _⟩ := s.dK hg
            obtain ⟨a', rfl, g1'⟩ := rw_
            rw [g1] at g1'; cases g1'
            have gs := KR.getS (fun _ _ => Ky.inj) (k := kk) g3
            rw [hz] at gs
            obtain ⟨v', e1, r1⟩ := gs
            exact .inr ⟨a, v', rfl, .inl ⟨vs, kk.k, g2, key_ok ru hk, e1.symm⟩, p φ v' H (Lt.refl _) (TX.refl _) s r1⟩
          · exact p.elim
        · exact p.elim
      · exact p.elim
  · exact p.elim
def sAugS (g : Op2) (mo mi m : ME) : MS := fun ρ S => (mo ρ S).then ρ fun o S => (mi ρ S).then ρ fun i S => (oGet o i S).then ρ fun x S => (m ρ S).then ρ fun y S => (g x y S).then ρ fun z S => (uSet o i z S).then ρ fun _ S => .go .nx ρ S
theorem ss_augS (C : Ct X W k) {o i e : Expr} {mo mi m : ME} {op : Operator} {g : Op2} {tpos : Pos} (hop : IpS X Tb op g) (ho : SE X Tb W o mo) (hi : SE X Tb W i mi) (h : SE X Tb W e m)
    (ha : ∀ ov iv new, augStore i ov iv new = (do holding [new, ov, iv] (setItem ov iv new); release [new, ov, iv] []; pure .next) := by intros; rfl) : SS X Tb W (.AugAssign (.Subscript o i tpos) op e pos) (sAugS g mo mi m) := by
  obtain ⟨r, hr, hok⟩ := hop
  obtain ⟨t, ht, hset⟩ := set_ok (Tb := Tb) C
  refine ss_weak (ps_augS ho.pe hi.pe (pget_all C.hu1) h.pe hr ht ha) fun Λ φ ρ S σ H D s e p => ?_
  refine ⟨Λ, φ, ρ, S, s, e, (PostS.then e p).imp fun ov H1 ⟨φ1, w, S1, l1, t1, s1, r1, p1⟩ => ?_⟩
  refine ⟨Λ, φ1, ρ, S1, s1, e.mono l1 t1, (PostS.then (e.mono l1 t1) p1).imp fun iv H2 ⟨φ2, w2, S2, l2, t2, s2, r2, p2⟩ => ?_⟩
  refine oGet_ok (E := fun c d H => W c d σ H) s2 (r1.mono l2 t2) r2 ((PostS.then ((e.mono l1 t1).mono l2 t2) p2).imp fun xv H3 ⟨φ3, w3, S3, l3, t3, s3, r3, p3⟩ => ?_)
  refine ⟨Λ, φ3, ρ, S3, s3, ((e.mono l1 t1).mono l2 t2).mono l3 t3, (PostS.then (((e.mono l1 t1).mono l2 t2).mono l3 t3) p3).imp fun yv H4 ⟨φ4, w4, S4, l4, t4, s4, r4, p4⟩ => ?_⟩
  refine hok Λ φ4 S4 H4 w3 w4 xv yv (fun c d H => W c d σ H) _ s4 (VR.mono l4 t4 r3) r4 ((PostS.then ((((e.mono l1 t1).mono l2 t2).mono l3 t3).mono l4 t4) p4).imp fun zv H5 ⟨φ5, w5, S5, l5, t5, s5, r5, p5⟩ => ?_)
  refine hset Λ φ5 S5 H5 w w2 w5 ov iv zv (fun c d H => W c d σ H) _ s5 (VR.mono l5 t5 (VR.mono l4 t4 (VR.mono l3 t3 (VR.mono l2 t2 r1)))) (VR.mono l5 t5 (VR.mono l4 t4 (VR.mono l3 t3 r2))) r5 ?_
  have e5 := ((((e.mono l1 t1).mono l2 t2).mono l3 t3).mono l4 t4).mono l5 t5
  refine (PostS.then (rel := fun _ _ (_ : Unit) (_ : Unit) => True) e5 p5).imp fun _ H6 ⟨φ6, w6, S6, l6, t6, s6, r6, p6⟩ => ?_
  exact p6 φ6 σ H6 (Lt.refl _) (TX.refl _) s6 (e5.mono l6 t6)
/-! ### methods of built-in things -/
abbrev OpM := U → List U → Store → Out U
def tyU (T : String) (S : Store) (w : U) : Bool := match w with
  | .str _ => decide (T = "str")
  | .ref n => (match S.get n with
    | some ⟨.lst _, _⟩ => decide (T = "list")
    | some ⟨.dK _, 0⟩ => decide (T = "dict")
    | _ => false)
  | _ => false
theorem tyU_ok {Λ : Lam} {φ : Map} {S : Store} {H : Hp} {T : String} {w : U} {x : V} (s : SR X.K X.mg Tb Λ φ S H) (r : VR X.K Λ φ H w x) (h : tyU T S w = true) : tyV X.K T x H := by
  unfold tyU at h
  split at h
  · rw [show x = V.str _ from r]
    exact (show T = "str" from of_decide_eq_true h)
  · split at h
    · rename_i hg
      obtain ⟨a, vs, g1, g2, g3, _⟩ := s.lst hg
      obtain ⟨a', rfl, g1'⟩ := r
      rw [g1] at g1'; cases g1'
      exact .inl ⟨of_decide_eq_true h, vs, g2⟩
    · rename_i hg
      obtain ⟨a, vs, g1, g2, g3, g4⟩ := s.dK hg
      obtain ⟨a', rfl, g1'⟩ := r
      rw [g1] at g1'; cases g1'
      exact .inr (.inr (.inl ⟨of_decide_eq_true h, .inl ⟨vs, g4 rfl⟩⟩))
    · cases h
  · cases h
def MethS (X : Cx) (Tb : Tbs) (id : String) (g : OpM) : Prop := ∃ r : V → List V → Hp → VK → Prop, MtR X id r ∧ ∀ Λ φ S H w ws x xs (E : Value → Option Addr → Hp → Prop) Q, SR X.K X.mg Tb Λ φ S H → VR X.K Λ φ H w x → VRs X.K Λ φ H ws xs →
  Post X.K X.mg Tb Λ (relV X.K Λ) E φ H (g w ws S) Q → r x xs H Q
def mBm (T : String) (g : OpM) (mo : ME) (ma : MA) : ME := fun ρ S => (mo ρ S).bind fun o S => match tyU T S o with
  | true => (ma ρ S).bind fun ws S => g o ws S
  | false => .bad
theorem se_bm {T id : String} {g : OpM} {o e : Expr} {es : List Expr} {name : Str} {apos cpos : Pos} {mo : ME} {ma : MA} (h : MethS X Tb id g) (pa : PlainAttrs T) (slot : Slot T name id) (hty : typeOf (.builtin id) = pure (.type "method_descriptor")) (ho : SE X Tb W o mo) (ha : SA X Tb W (e :: es) ma)
    (hbase : attributeBase o name X.env (eval o X.env) = eval o X.env := by rfl)
    (hfew : ((backTo cpos (starEach (e :: es) X.env)).all (fun x => !x.1) && (backToKw cpos (keywordEach [] X.env)).all (fun x => x.1.isSome)
      && decide ((e :: es).length + ([] : List Keyword).length + (if ([] : List Keyword).isEmpty then 0 else 1) < 30)) = true := by rfl)
    (hline : (apos.endLine == cpos.line) = true := by rfl) (hs : starEach (e :: es) X.env = (false, eval e X.env) :: starEach es X.env := by rfl) (hplain : (backTo cpos (starEach es X.env)).any (·.1) = false := by rfl) :
    SE X Tb W (.Call (.Attribute o name apos) (e :: es) [] cpos) (mBm T g mo ma) := by
  obtain ⟨r, hr, hok⟩ := h
  refine se_weak (pe_bm pa slot hty hr ho.pe ha.pa hbase hfew hline hs hplain) fun Λ φ ρ S σ H Q s e p => ?_
  refine ⟨Λ, φ, ρ, S, s, e, (Post.bind p).imp fun v H1 ⟨φ1, w, S1, l1, t1, s1, r1, p1⟩ => ?_⟩
  cases ht : tyU T S1 w with
  | false => rw [ht] at p1; exact p1.elim
  | true =>
    rw [ht] at p1
    refine ⟨tyU_ok s1 r1 ht, Λ, φ1, ρ, S1, s1, e.mono l1 t1, (Post.bind p1).imp fun vs H2 ⟨φ2, ws, S2, l2, t2, s2, r2, p2⟩ => ?_⟩
    exact hok _ _ _ _ _ _ _ _ _ _ s2 (r1.mono l2 t2) r2 p2
/-! where a text stands in a text -/
def preU : List Nat → List Nat → Bool
  | [], _ => true
  | _ :: _, [] => false
  | a :: as, b :: bs => if a = b then preU as bs else false
/-- the first place of b in it, from place k on -/
def posU (b : List Nat) : List Nat → Nat → Option Nat
  | [], k => (match b with
    | [] => some k
    | _ => none)
  | c :: r, k => if preU b (c :: r) = true then some k else posU b r (k + 1)
theorem preU_iff : ∀ {a b : List Nat}, preU a b = true ↔ b.take a.length = a
  | [], b => by simp [preU]
  | a :: as, [] => by simp [preU]
  | a :: as, b :: bs => by
    unfold preU
    by_cases h : a = b
    · rw [if_pos h, preU_iff]
      subst h
      simp
    · rw [if_neg h]
      have : ¬ b = a := fun z => h z.symm
      simp [this]
theorem posU_spec (b : List Nat) : ∀ (l : List Nat) (k : Nat), (∀ i, posU b l k = some i → k ≤ i ∧ i - k ≤ l.length ∧ preU b (l.drop (i - k)) = true ∧ ∀ j, k ≤ j → j < i → preU b (l.drop (j - k)) = false) ∧ (posU b l k = none → ∀ j, j ≤ l.length → preU b (l.drop j) = false)
  | [], k => by
    cases b with
    | nil => simp [posU, preU]
    | cons c r => simp [posU, preU]
  | c :: r, k => by
    obtain ⟨h1, h2⟩ := posU_spec b r (k + 1)
    unfold posU
    cases hp : preU b (c :: r) with
    | true =>
      rw [if_pos rfl]
      refine ⟨fun i e => ?_, fun e => by cases e⟩
      cases e
      exact ⟨Nat.le_refl _, by omega, by rw [Nat.sub_self]; exact hp, fun j a b => by omega⟩
    | false =>
      rw [if_neg (by simp)]
      refine ⟨fun i e => ?_, fun e j hj => ?_⟩
      · obtain ⟨g1, g2, g3, g4⟩ := h1 i e
        have e1 : i - k = (i - (k + 1)) + 1 := by omega
        refine ⟨by omega, by rw [e1]; simp; omega, by rw [e1, List.drop_succ_cons]; exact g3, fun j a b => ?_⟩
        by_cases hj : j = k
        · subst hj; rw [Nat.sub_self]; exact hp
        · have e2 : j - k = (j - (k + 1)) + 1 := by omega
          rw [e2, List.drop_succ_cons]
          exact g4 j (by omega) b
      · cases j with
        | zero => exact hp
        | succ j => rw [List.drop_succ_cons]; exact h2 e j (by simpa using hj)
theorem at_pre (s b : List Nat) (i : Nat) (hi : i ≤ s.length) : PySem.StrLaws.At ⟨s.toArray⟩ ⟨b.toArray⟩ s.length i ↔ preU b (s.drop i) = true := by
  unfold PySem.StrLaws.At
  rw [PySem.StrLaws.subAt_eq, preU_iff, str_len]
  constructor
  · intro h
    simpa using h.2
  · intro h
    refine ⟨?_, by simpa using h⟩
    have := congrArg List.length h
    rw [List.length_take, List.length_drop] at this
    omega
theorem occ_pos (s b : List Nat) : (Builtin.Str.occurrences ⟨s.toArray⟩ ⟨b.toArray⟩ 0 s.length 1).head? = posU b s 0 := by
  have hf := PySem.StrLaws.occ_first ⟨s.toArray⟩ ⟨b.toArray⟩ s.length 1 (Nat.le_refl _) (List.range' 0 (s.length + 1 - 0)) 0 fun i hi => by simp
  rw [PySem.StrLaws.occ_eq]
  obtain ⟨h1, h2⟩ := posU_spec b s 0
  rcases hf with ⟨e, hn⟩ | ⟨pre, a, post, el, e, ha, hn⟩
  · rw [e]
    cases hp : posU b s 0 with
    | none => rfl
    | some i =>
      exfalso
      obtain ⟨_, g2, g3, _⟩ := h1 i hp
      simp only [Nat.sub_zero] at g2 g3
      exact hn i (by simp; omega) ((at_pre s b i g2).mpr g3)
  · have hh : ((forIn (m := Id) (List.range' 0 (s.length + 1 - 0)) ((#[] : Array Nat), 0) (PySem.StrLaws.occBody ⟨s.toArray⟩ ⟨b.toArray⟩ s.length 1)).run.fst.toList).head? = some a := by
      rw [List.head?_eq_getElem?, Array.getElem?_toList]
      exact e
    rw [hh]
    have ha' : a ∈ List.range' 0 (s.length + 1 - 0) := by rw [el]; simp
    have hal : a ≤ s.length := by simp at ha'; omega
    have hpa := (at_pre s b a hal).mp ha
    cases hp : posU b s 0 with
    | none =>
      exfalso
      have := h2 hp a hal
      rw [hpa] at this; cases this
    | some i =>
      obtain ⟨_, g2, g3, g4⟩ := h1 i hp
      simp only [Nat.sub_zero] at g2 g3
      congr 1
      by_cases hlt : a < i
      · have := g4 a (Nat.zero_le _) hlt
        rw [Nat.sub_zero, hpa] at this; cases this
      · by_cases hgt : i < a
        · exfalso
          have hi : i ∈ pre := by
            have hpw : (pre ++ a :: post).Pairwise (· < ·) := by rw [← el]; exact List.pairwise_lt_range'
            have h3 := (List.pairwise_cons.mp (List.pairwise_append.mp hpw).2.1).1
            have him : i ∈ pre ++ a :: post := by rw [← el]; simp; omega
            rcases List.mem_append.mp him with z | z
            · exact z
            · rcases List.mem_cons.mp z with z | z
              · omega
              · have := h3 i z; omega
          exact hn i hi ((at_pre s b i g2).mpr g3)
        · omega
def pMf (d : Int) : OpM
  | .str a, [.str b], S => .ok (.int (match posU b a 0 with
    | some i => (i : Int)
    | none => d)) S
  | _, _, _ => .bad
def mtFind : OpM
  | .str a, [.str b], S => .ok (.int (match posU b a 0 with
    | some i => (i : Int)
    | none => -1)) S
  | _, _, _ => .bad
theorem find_pos (a b : List Nat) : Txt.find ⟨a.toArray⟩ ⟨b.toArray⟩ = (match posU b a 0 with
    | some i => (i : Int)
    | none => -1) := by
  unfold Txt.find
  rw [← occ_pos, str_len]
  cases Builtin.Str.occurrences ⟨a.toArray⟩ ⟨b.toArray⟩ 0 a.length 1 <;> rfl
theorem ms_find : MethS X Tb "str.find" mtFind := by
  refine ⟨_, mt_find, fun Λ φ S H w ws x xs E Q s r rs p => ?_⟩
  unfold mtFind at p
  split at p
  · obtain ⟨v, rfl, r1⟩ := rs.one
    refine ⟨_, _, r, by rw [show v = V.str _ from r1], ?_⟩
    rw [find_pos]
    exact p φ _ H (Lt.refl _) (TX.refl _) s rfl
  · exact p.elim
def mtIndex : OpM
  | .str a, [.str b], S => (match posU b a 0 with
    | some i => .ok (.int i) S
    | none => .bad)
  | _, _, _ => .bad
theorem ms_index : MethS X Tb "str.index" mtIndex := by
  refine ⟨_, mt_sindex, fun Λ φ S H w ws x xs E Q s r rs p => ?_⟩
  unfold mtIndex at p
  split at p
  · rename_i a b
    split at p
    · rename_i i hi
      obtain ⟨v, rfl, r1⟩ := rs.one
      rw [← occ_pos] at hi
      cases ho : Builtin.Str.occurrences ⟨a.toArray⟩ ⟨b.toArray⟩ 0 a.length 1 with
      | nil => rw [ho] at hi; cases hi
      | cons k rest =>
        rw [ho] at hi
        cases hi
        exact ⟨_, _, i, rest, r, by rw [show v = V.str _ from r1], by rw [str_len]; exact ho, p φ _ H (Lt.refl _) (TX.refl _) s rfl⟩
    · exact p.elim
  · exact p.elim
/-! join -/
def mtJoin : OpM
  | .str a, [w], S => (match seqU S w with
    | some ws => (match strsU ws with
      | some l => if (l.map List.length).sum + l.length * a.length ≤ lim then .ok (.str (TL.joinL a l)) S else .bad
      | none => .bad)
    | none => .bad)
  | _, _, _ => .bad
theorem join_ok (a : List Nat) (l : List (List Nat)) : Txt.join ⟨a.toArray⟩ (l.map fun x => (⟨x.toArray⟩ : Str)) = ⟨(TL.joinL a l).toArray⟩ := by
  rw [TL.join_eq]
  refine TL.ext_tl ?_
  rw [TL.tl_join, List.map_map]
  have e : (l.map (TL.tl ∘ fun x => (⟨x.toArray⟩ : Str))) = l := by
    have : (TL.tl ∘ fun x => (⟨x.toArray⟩ : Str)) = id := rfl
    rw [this, List.map_id]
  rw [e]
theorem ms_join : MethS X Tb "str.join" mtJoin := by
  refine ⟨_, mt_join, fun Λ φ S H w ws x xs E Q s r rs p => ?_⟩
  unfold mtJoin at p
  split at p
  · rename_i a w
    split at p
    · rename_i us hq
      split at p
      · rename_i l hl
        split at p
        · rename_i hz
          obtain ⟨v, rfl, r1⟩ := rs.one
          obtain ⟨pa, vs, rfl, h1, h2⟩ := seq_ok s r1 hq
          have e := strs_ok h2 hl
          subst e
          refine ⟨_, pa, l.map fun x => (⟨x.toArray⟩ : Str), r, rfl, h1, ?_, ?_⟩
          · rw [List.map_map, List.length_map, str_len]
            have e2 : (l.map ((fun x : Str => x.length) ∘ fun x => (⟨x.toArray⟩ : Str))) = l.map List.length := List.map_congr_left fun x _ => str_len x
            rw [e2]
            have := lim_le' hz
            rw [sizeLine_eq] at this
            exact this
          · rw [join_ok]
            exact p φ _ H (Lt.refl _) (TX.refl _) s rfl
        · exact p.elim
      · exact p.elim
    · exact p.elim
  · exact p.elim
/-! append -/
def mtApp : OpM
  | .ref n, [w], S => (match S.get n with
    | some ⟨.lst ws, 0⟩ => if ws.length < lim then .ok .non (S.put n ⟨.lst (ws ++ [w]), 0⟩) else .bad
    | _ => .bad)
  | _, _, _ => .bad
theorem ms_app : MethS X Tb "list.append" mtApp := by
  refine ⟨_, mt_append, fun Λ φ S H w ws x xs E Q s r rs p => ?_⟩
  unfold mtApp at p
  split at p
  · split at p
    · rename_i us hg
      split at p
      · rename_i hl
        obtain ⟨v, rfl, r1⟩ := rs.one
        obtain ⟨a, vs, g1, g2, g3, g4⟩ := s.lst hg
        obtain ⟨a', rfl, g1'⟩ := r
        rw [g1] at g1'; cases g1'
        have hL := g4 rfl
        have hs : Soft (.lst vs) := True.intro
        refine ⟨a, vs, v, rfl, rfl, hL, by rw [g3.length]; exact lim_lt hl, ?_⟩
        exact p φ .non _ (Lt.refl _) (TX.put hL hs) (s.wr g1 hL hs ⟨vs ++ [v], upd_same, (g3.mono (Lt.refl _) (TX.put hL hs)).app (VRs.cons (r1.mono (Lt.refl _) (TX.put hL hs)) VRs.nil)⟩ (fun _ z => nomatch z) (fun _ z => nomatch z) fun _ z => nomatch z) rfl
      · exact p.elim
    · exact p.elim
  · exact p.elim
/-! d.get -/
def isDU (S : Store) (w : U) : Bool := match w with
  | .ref n => (match S.get n with
    | some ⟨.dK _, _⟩ => true
    | _ => false)
  | _ => false
theorem isDU_ok {Λ : Lam} {φ : Map} {S : Store} {H : Hp} {w : U} {x : V} (s : SR X.K X.mg Tb Λ φ S H) (r : VR X.K Λ φ H w x) (h : isDU S w = true) : ∃ a, x = .ref a ∧ IsD H a := by
  unfold isDU at h
  split at h
  · split at h
    · rename_i hg
      obtain ⟨a, vs, g1, g2, g3, g4⟩ := s.dK hg
      obtain ⟨a', rfl, g1'⟩ := r
      rw [g1] at g1'; cases g1'
      exact ⟨a, rfl, .inl ⟨vs, g2⟩⟩
    · cases h
  · cases h
def oDget (o k d : U) (S : Store) : Out U := match o with
  | .ref n => (match S.get n with
    | some ⟨.dK kvs, _⟩ => (match uKey k with
      | some k => .ok ((getK kvs k).getD d) S
      | none => .bad)
    | _ => .bad)
  | _ => .bad
def mDget2 (mo mk md : ME) : ME := fun ρ S => (mo ρ S).bind fun o S => match isDU S o with
  | true => (mk ρ S).bind fun k S => (md ρ S).bind fun d S => oDget o k d S
  | false => .bad
def mDget1 (mo mk : ME) : ME := fun ρ S => (mo ρ S).bind fun o S => match isDU S o with
  | true => (mk ρ S).bind fun k S => oDget o k .non S
  | false => .bad
theorem oDget_ok {Λ : Lam} {φ : Map} {S : Store} {H : Hp} {o k d : U} {a : Addr} {y z : V} {E : Value → Option Addr → Hp → Prop} {Q : VK} (s : SR X.K X.mg Tb Λ φ S H) (ro : VR X.K Λ φ H o (.ref a)) (rk : VR X.K Λ φ H k y) (rd : VR X.K Λ φ H d z)
    (p : Post X.K X.mg Tb Λ (relV X.K Λ) E φ H (oDget o k d S) Q) : ∃ v, DGet H a y v ∧ Q (v.getD z) H := by
  unfold oDget at p
  split at p
  · split at p
    · rename_i kvs lk hg
      split at p
      · rename_i kk hk
        obtain ⟨a1, vs, g1, g2, g3, _⟩ := s.dK hg
        obtain ⟨a', ea, g1'⟩ := ro
        cases ea
        rw [g1] at g1'; cases g1'
        have gs := KR.getS (fun _ _ => Ky.inj) (k := kk) g3
        refine ⟨valV vs kk.k, .inl ⟨vs, kk.k, g2, key_ok rk hk, rfl⟩, ?_⟩
        cases hv : getK kvs kk with
        | some w =>
          rw [hv] at gs p
          obtain ⟨v', e1, r1⟩ := gs
          rw [e1]
          exact p φ v' H (Lt.refl _) (TX.refl _) s r1
        | none =>
          rw [hv] at gs p
          rw [show valV vs kk.k = none from gs]
          exact p φ z H (Lt.refl _) (TX.refl _) s rd
      · exact p.elim
    · exact p.elim
  · exact p.elim
theorem se_dget2 (C : Ct X W k) {o e f : Expr} {apos cpos : Pos} {mo mk md : ME} (ho : SE X Tb W o mo) (he : SE X Tb W e mk) (hf : SE X Tb W f md) (m : M2 X o "get" apos e f cpos := by exact ⟨rfl, rfl, rfl, rfl⟩) :
    SE X Tb W (.Call (.Attribute o "get" apos) [e, f] [] cpos) (mDget2 mo mk md) := by
  refine se_weak (pe_dget2 C.hu1 ho.pe he.pe hf.pe m) fun Λ φ ρ S σ H Q s e p => ?_
  refine ⟨Λ, φ, ρ, S, s, e, (Post.bind p).imp fun v H1 ⟨φ1, w, S1, l1, t1, s1, r1, p1⟩ => ?_⟩
  cases hd : isDU S1 w with
  | false => rw [hd] at p1; exact p1.elim
  | true =>
    rw [hd] at p1
    obtain ⟨a, rfl, h1⟩ := isDU_ok s1 r1 hd
    refine ⟨a, rfl, h1, Λ, φ1, ρ, S1, s1, e.mono l1 t1, (Post.bind p1).imp fun y H2 ⟨φ2, w2, S2, l2, t2, s2, r2, p2⟩ => ?_⟩
    refine ⟨Λ, φ2, ρ, S2, s2, (e.mono l1 t1).mono l2 t2, (Post.bind p2).imp fun z H3 ⟨φ3, w3, S3, l3, t3, s3, r3, p3⟩ => ?_⟩
    exact oDget_ok s3 (VR.mono l3 t3 (VR.mono l2 t2 r1)) (VR.mono l3 t3 r2) r3 p3
theorem se_dget1 (C : Ct X W k) {o e : Expr} {apos cpos : Pos} {mo mk : ME} (ho : SE X Tb W o mo) (he : SE X Tb W e mk) (m : M1 X o "get" apos e cpos := by exact ⟨rfl, rfl, rfl, rfl⟩) :
    SE X Tb W (.Call (.Attribute o "get" apos) [e] [] cpos) (mDget1 mo mk) := by
  refine se_weak (pe_dget1 C.hu1 ho.pe he.pe m) fun Λ φ ρ S σ H Q s e p => ?_
  refine ⟨Λ, φ, ρ, S, s, e, (Post.bind p).imp fun v H1 ⟨φ1, w, S1, l1, t1, s1, r1, p1⟩ => ?_⟩
  cases hd : isDU S1 w with
  | false => rw [hd] at p1; exact p1.elim
  | true =>
    rw [hd] at p1
    obtain ⟨a, rfl, h1⟩ := isDU_ok s1 r1 hd
    refine ⟨a, rfl, h1, Λ, φ1, ρ, S1, s1, e.mono l1 t1, (Post.bind p1).imp fun y H2 ⟨φ2, w2, S2, l2, t2, s2, r2, p2⟩ => ?_⟩
    exact oDget_ok (d := .non) s2 (VR.mono l2 t2 r1) r2 rfl p2
end
end Sm
/-! text Sm11 -/
namespace Sm
open PySem PySem.Spec PyProof.Rows L2
/-! ### sorted -/
def insI (i : Int) : List Int → List Int
  | [] => [i]
  | j :: r => if i ≤ j then i :: j :: r else j :: insI i r
def srtI : List Int → List Int
  | [] => []
  | i :: r => insI i (srtI r)
theorem insI_perm (i : Int) : ∀ l : List Int, (insI i l).Perm (i :: l)
  | [] => .refl _
  | j :: r => by
    unfold insI
    by_cases h : i ≤ j
    · rw [if_pos h]
    · rw [if_neg h]
      exact ((insI_perm i r).cons j).trans (.swap i j r)
theorem srtI_perm : ∀ l : List Int, (srtI l).Perm l
  | [] => .refl _
  | i :: r => (insI_perm i _).trans ((srtI_perm r).cons i)
theorem insI_srt (i : Int) : ∀ {l : List Int}, l.Pairwise (· ≤ ·) → (insI i l).Pairwise (· ≤ ·)
  | [], _ => .cons (fun _ h => by cases h) .nil
  | j :: r, h => by
    unfold insI
    cases h with
    | cons h1 h2 =>
      by_cases hh : i ≤ j
      · rw [if_pos hh]
        refine .cons (fun x hx => ?_) (.cons h1 h2)
        rcases List.mem_cons.mp hx with z | z
        · omega
        · have := h1 x z; omega
      · rw [if_neg hh]
        refine .cons (fun x hx => ?_) (insI_srt i h2)
        rcases List.mem_cons.mp ((insI_perm i r).mem_iff.mp hx) with z | z
        · omega
        · exact h1 x z
theorem srtI_srt : ∀ l : List Int, (srtI l).Pairwise (· ≤ ·)
  | [] => .nil
  | i :: r => insI_srt i (srtI_srt r)
theorem srt_uniq : ∀ {l m : List Int}, l.Perm m → l.Pairwise (· ≤ ·) → m.Pairwise (· ≤ ·) → l = m
  | [], m, p, _, _ => by rw [List.nil_perm.mp p]
  | a :: l, [], p, _, _ => by exact absurd p.length_eq (by simp)
  | a :: l, b :: m, p, h1, h2 => by
    cases h1 with
    | cons a1 a2 =>
      cases h2 with
      | cons b1 b2 =>
        have e : a = b := by
          have ha : a ∈ b :: m := p.mem_iff.mp List.mem_cons_self
          have hb : b ∈ a :: l := p.mem_iff.mpr List.mem_cons_self
          rcases List.mem_cons.mp ha with z | z
          · exact z
          · rcases List.mem_cons.mp hb with y | y
            · exact y.symm
            · have := a1 b y
              have := b1 a z
              omega
        subst e
        rw [srt_uniq ((List.perm_cons a).mp p) a2 b2]
def intKeys : List (Ky × U) → Option (List Int)
  | [] => some []
  | (.i n, _) :: r => (match intKeys r with
    | some l => some (n :: l)
    | none => none)
  | _ :: _ => none
theorem intKeys_ok {K Λ φ H} : ∀ {kvs : List (Ky × U)} {vs : List (Key × V)} {l : List Int}, KR K Λ φ H Ky.k kvs vs → intKeys kvs = some l → vs.map (·.1) = l.map Sum.inl
  | [], _, _, h, e => by cases e; subst h; rfl
  | (x, w) :: r, _, l, h, e => by
    obtain ⟨v, r', rfl, h1, h2⟩ := h
    cases x with
    | i n =>
      unfold intKeys at e
      split at e
      · rename_i l' hl
        cases e
        rw [List.map_cons, intKeys_ok h2 hl]; rfl
      · cases e
    | s l => cases e
section
variable {X : Cx} {Tb : Tbs} {W : WX}
def srtD (kvs : List (Ky × U)) (S : Store) : Out U := match intKeys kvs with
  | some l => if l.length < 64 then .ok (.ref S.n) (S.new (.lst ((srtI l).map U.int))) else .bad
  | none => .bad
def cSorted : OpC
  | [w], S => (match lstU S w with
    | some ws => (match intsU ws with
      | some l => .ok (.ref S.n) (S.new (.lst ((srtI l).map U.int)))
      | none => .bad)
    | none => (match w with
      | .ref n => (match S.get n with
        | some ⟨.dK kvs, _⟩ => srtD kvs S
        | _ => .bad)
      | _ => .bad))
  | _, _ => .bad
theorem cs_sorted (hc : X.calm = true) : CallS X Tb (.builtin "sorted") cSorted := by
  refine ⟨_, CallR_or cr_sortedI (call_sortedDI hc), fun Λ φ S H ws vs E Q s r p => ?_⟩
  unfold cSorted at p
  split at p
  · obtain ⟨v, rfl, rv⟩ := r.one
    split at p
    · rename_i us hq
      split at p
      · rename_i l hl
        obtain ⟨a, vs, rfl, h1, h2⟩ := lst_ok s rv hq
        have := ints_ok h2 hl
        subst this
        refine .inl ⟨a, l, rfl, h1, fun ns' q hp hs hq => ?_⟩
        rw [srt_uniq (hp.trans (srtI_perm l).symm) hs (srtI_srt l)]
        exact Post_lst s VRs.of_ints p q hq
      · exact p.elim
    · split at p
      · split at p
        · rename_i kvs lk hg
          unfold srtD at p
          split at p
          · rename_i l hl
            split at p
            · rename_i hz
              obtain ⟨a, vs, g1, g2, g3, g4⟩ := s.dK hg
              obtain ⟨a', rfl, g1'⟩ := rv
              rw [g1] at g1'; cases g1'
              refine .inr ⟨a, vs, l, rfl, g2, intKeys_ok g3 hl, hz, fun ns' q hp hs hq => ?_⟩
              rw [srt_uniq (hp.trans (srtI_perm l).symm) hs (srtI_srt l)]
              exact Post_lst s VRs.of_ints p q hq
            · exact p.elim
          · exact p.elim
        · exact p.elim
      · exact p.elim
  · exact p.elim
end
end Sm
/-! text Gx1 -/
/-! generator expressions: the frame, the turns. -/
namespace GxI
open PySem PySem.Spec PyProof.Rows L2 GenW
/-- a generator expression's scope: own names, the walked thing at «.0», captured names that the def has -/
structure GxS (sc scope : Scope) : Prop where
  kind : scope.kind = .function
  co : scope.isCoroutine = false
  cell : ∀ y ∈ scope.names, y.2 ≠ .cell
  dot : scope.names.lookup (".0" : Str) = some NameKind.local
  free : ∀ y ∈ scope.names, y.2 = .free → sc.names.lookup y.1 = some .cell ∨ sc.names.lookup y.1 = some .free
def gxSB (sc scope : Scope) : Bool :=
  decide (scope.kind = .function) && !scope.isCoroutine && decide (scope.names.lookup (".0" : Str) = some NameKind.local) && scope.names.all fun y => !decide (y.2 = .cell) && (!decide (y.2 = .free) || decide (sc.names.lookup y.1 = some .cell) || decide (sc.names.lookup y.1 = some .free))
theorem gxS_by {sc scope : Scope} (h : gxSB sc scope = true) : GxS sc scope := by
  unfold gxSB at h
  simp only [Bool.and_eq_true, Bool.or_eq_true, Bool.not_eq_true', decide_eq_true_eq, decide_eq_false_iff_not, List.all_eq_true] at h
  obtain ⟨⟨⟨h1, h2⟩, h3⟩, h4⟩ := h
  refine ⟨h1, h2, fun y hy => (h4 y hy).1, h3, fun y hy e => ?_⟩
  rcases (h4 y hy).2 with (z | z) | z
  · exact absurd e z
  · exact .inl z
  · exact .inr z
theorem GxS.has {X : Cx} {scope : Scope} (L : GxS X.env.scope scope) (ok : X.Ok) : ∀ y ∈ scope.names, y.2 = .free → ∃ c, X.env.cells.lookup y.1 = some c := fun y hy e => by
  rcases L.free y hy e with k | k
  · exact ok.has _ (.inl k)
  · exact ok.has _ (.inr k)
abbrev gxEnv (X : Cx) (scope : Scope) (C : Addr) (code : Value) : Env := genEnv scope (cloFrom X.env.cells scope.names []) C code builtinsNs X.env
/-- a call's exception; these things stand, untracked -/
def CXp (P : Program) (w : World) (outer : List Env) (H : Hp) (s : Shared) (E : XK) (pn : List (Addr × Obj)) (u : Value) (s' : Shared) : Prop :=
  ∃ (a : Addr) (B : Heap) (H' : Hp) (cls : Value) (d : Option Addr), u = .ref a ∧ HandSPX.FlyingZ B outer a (Zc cls d) s'.heap ∧ HOk P w H' B ∧ UB (frs outer) H H' s.heap B s'.heap ∧ H' a = none ∧ s'.os = s.os ∧ AllBare s'.gens ∧ E cls d H' ∧ ∀ p ∈ pn, s'.heap.get? p.1 = some p.2 ∧ H' p.1 = none
theorem CXp.cx {P : Program} {w : World} {outer : List Env} {H : Hp} {s : Shared} {E : XK} {pn : List (Addr × Obj)} {u : Value} {s' : Shared} (h : CXp P w outer H s E pn u s') : L2.CX P w outer H s E u s' := by
  obtain ⟨a, B, H', cls, d, h1, h2, h3, h4, h5, h6, h7, h8, _⟩ := h
  exact ⟨a, B, H', cls, d, h1, h2, h3, h4, h5, h6, h7, h8⟩
theorem CXp.stood {P : Program} {w : World} {outer : List Env} {H : Hp} {s : Shared} {E : XK} {pn : List (Addr × Obj)} {u : Value} {s' : Shared} (h : CXp P w outer H s E pn u s') : ∀ p ∈ pn, s'.heap.get? p.1 = some p.2 := by
  obtain ⟨a, B, H', cls, d, _, _, _, _, _, _, _, _, h9⟩ := h
  exact fun p hp => (h9 p hp).1
/-- the context of its code -/
def gxCx (X : Cx) (A : Around) (N : List Str) (s : Shared) (H : Hp) (E : XK) (scope : Scope) (C : Addr) (code : Value) (ex : List Addr) (pn : List (Addr × Obj)) : Cx where
  prog := X.prog
  w := X.w
  K := X.K
  mg := X.mg
  base := X.base
  A := A.deeper (gxEnv X scope C code)
  N := N
  s_0 := s
  H_0 := H
  env := gxEnv X scope C code
  outer := X.stack
  stack := gxEnv X scope C code :: X.stack
  ex := ex
  fn := fun _ => false
  calm := true
  pn := pn
  xe := fun e s' => wpAny (model X.prog X.w) (A.deeper (gxEnv X scope C code)) (leaving (gxEnv X scope C code) e)
    (fun _ s'' => CXp X.prog X.w X.stack H s E pn e s'') (fun _ _ => False) s'
/-- it leaves the frame; the iterators that turned are none of what stood -/
theorem leaveX {X : Cx} {W : WX} {E : XK} {s' : Shared} (hs : X.stack = X.env :: X.outer) (hf : X.env.frame = some X.env.locals) (hex : ∀ b ∈ X.ex, X.s_0.heap.get? b = none) {E₁ : Value → Shared → Prop} (hW : ∀ cls d σ H, W cls d σ H → E cls d H) {u : Value} (x : XE X W u s') :
    wpAny (model X.prog X.w) X.A (leaving X.env u) (fun _ s'' => CXp X.prog X.w X.outer X.H_0 X.s_0 E X.pn u s'') E₁ s' := by
  obtain ⟨a, B, sI, pins, σ, H, cls, d, rfl, I, nb, up, sky, na, os, ag, w⟩ := x
  have hfr : X.A.frames = some (X.env :: X.outer) := by rw [I.ok.frames, hs]
  have nst : ∀ b o, X.s_0.heap.get? b = some o → b ∉ X.fs → b ∉ frs X.stack := fun b o e hb hm => by
    rcases List.mem_cons.mp (I.stkSub b hm) with z | z
    · have h1 := Heap.lt_size e
      have h2 := I.ok.above
      rw [z] at h1
      exact absurd (Nat.lt_of_lt_of_le h1 h2) (Nat.lt_irrefl _)
    · exact hb z
  have hex' : ∀ b o, X.s_0.heap.get? b = some o → b ∉ X.ex := fun b o e hb => by rw [hex b hb] at e; cases e
  have hokB := I.inGround nb
  have pinB : ∀ p ∈ X.pn, B.get? p.1 = some p.2 := fun p hp => by
    obtain ⟨h1, _, h3, h4, _⟩ := I.pin p (List.mem_append_left _ hp)
    refine nb p.1 p.2 h1 fun hm => ?_
    rcases List.mem_cons.mp (I.stkSub p.1 hm) with z | z
    · exact h3 z
    · exact h4 z
  have fin : ∀ h', HandSPX.FlyingZ B X.outer a (Zc cls d) h' → s'.heap.UpToSlots h' → CXp X.prog X.w X.outer X.H_0 X.s_0 E X.pn (.ref a) { s' with heap := h' } := fun h' fl up' => by
    refine ⟨a, B, H, cls, d, rfl, fl, hokB, ⟨fun b o e n hb => nb b o (I.base.keep b o e n hb (hex' b o e)) (nst b o e hb), fun b o e hb => ?_, fun b o e n => I.base.free b o e n (hex' b o e), fun b o e hb => ?_, I.base.tups, I.base.frzs, I.base.tbls⟩,
      na, os.trans I.os, ag, hW _ _ _ _ w, fun p hp => ⟨fl.1 p.1 p.2 (pinB p hp), (I.pin p (List.mem_append_left _ hp)).2.1⟩⟩
    · obtain ⟨_, o₀, e₀, hnf⟩ := I.ok.funs.mem hb
      rw [e] at e₀; cases e₀
      obtain ⟨sl, e1⟩ := I.base.slot b o e (I.ok.frf b hb) hb (hex' b o e)
      obtain ⟨sl2, e2⟩ := up b _ e1 hnf
      obtain ⟨sl3, e3⟩ := up' b _ e2 hnf
      exact ⟨sl3, e3⟩
    · obtain ⟨o', e1⟩ := I.base.there b o e (hex' b o e)
      exact ⟨o', nb b o' e1 (nst b o e hb)⟩
  rw [hs] at sky
  rcases sky with ⟨hB, hn, hl, oe, vs, he, hz, hd, h1⟩ | fl | hd
  · exact HandSPX.leaving_firstZ Zc.steady hfr hl hf he hB hn hd h1 hz fin
  · exact HandSPX.leaves_onZ Zc.steady hfr hf fl fin
  · exact HandSPX.leaves_heldZ hf hd fin
section
variable {X : Cx} {A : Around} {N : List Str} {s : Shared} {H : Hp} {E : XK} {scope : Scope} {C : Addr} {code : Value} {ex : List Addr} {pn : List (Addr × Obj)}
theorem takes_gx (hex : ∀ b ∈ ex, s.heap.get? b = none) : Takes (gxCx X A N s H E scope C code ex pn) (fun cls d _ H' => E cls d H') := fun u s' x =>
  leaveX (W := fun cls d _ H' => E cls d H') (E := E) rfl rfl hex (fun _ _ _ _ h => h) x
theorem owns_gx : PassesOwn (model X.prog X.w) (gxCx X A N s H E scope C code ex pn).A (gxCx X A N s H E scope C code ex pn).env (gxCx X A N s H E scope C code ex pn).xe :=
  passes_of (X := gxCx X A N s H E scope C code ex pn) (K := fun e s'' => CXp X.prog X.w X.stack H s E pn e s'') (E₁ := fun _ _ => False) rfl
theorem over_gx {e : Expr} {cs : List Comprehension} {sc : Scope} {p : Pos} {it acc : Value} {env : Env} : A.over (.compLoop (.GeneratorExp e cs sc p) 0 it acc env) [] = A.deeper env := by
  obtain ⟨hd, d, fr, gs, u⟩ := A
  simp [Around.over, Around.deeper, marksOver, frameCount, unitsOf, envsOf, guardsOf, pushEnvs, pushGuards, Code.envs, Code.env?, Code.isFrame, Code.guards, Code.isGuard, Code.weight, Code.frames, Code.isCreation, Code.isCaller, Code.cUnits]
theorem over_gx0 {e : Expr} {cs : List Comprehension} {sc : Scope} {p : Pos} {it acc : Value} {env : Env} : A.over (.compStart (.GeneratorExp e cs sc p) 0 it acc env) [] = A.deeper env := by
  obtain ⟨hd, d, fr, gs, u⟩ := A
  simp [Around.over, Around.deeper, marksOver, frameCount, unitsOf, envsOf, guardsOf, pushEnvs, pushGuards, Code.envs, Code.env?, Code.isFrame, Code.guards, Code.isGuard, Code.weight, Code.frames, Code.isCreation, Code.isCaller, Code.cUnits]
end
end GxI
/-! text Gx2 -/
namespace GxI
open PySem PySem.Spec PyProof.Rows L2 GenW
/-- while the generator sleeps its consumer's own things turn to P; all else is kept -/
structure Wake (P : List (Addr × Obj)) (s s' : Shared) : Prop where
  os : s'.os = s.os
  bare : AllBare s'.gens
  keep : ∀ b o, b ∉ P.map (·.1) → s.heap.get? b = some o → s'.heap.get? b = some o
  own : ∀ p ∈ P, s'.heap.get? p.1 = some p.2 ∧ ∀ v, p.2.data ≠ .cell v
/-- the consumer's things: younger than the generator's frame -/
structure Apart (X : Cx) (CO : List Addr) : Prop where
  lt : ∀ S ∈ CO, X.s_0.heap.objs.size ≤ S ∧ S ≠ X.env.locals
  cell : ∀ S ∈ CO, ∀ x c, X.env.cells.lookup x = some c → c ≠ S
  pn : ∀ p ∈ X.pn, p.1 ∉ CO
  ex : ∀ b ∈ X.ex, b ∉ CO
theorem woken {X : Cx} {P P' : List (Addr × Obj)} {σ : L2.St} {H : Hp} {s s' : Shared} (I : Inv X P σ H s) (hA : Apart X (P.map (·.1))) (e : P'.map (·.1) = P.map (·.1)) (z : Wake P' s s') : Inv X P' σ H s' := by
  have I0 : Inv X [] σ H s := I.pins_of fun p hp => I.pin p (List.mem_append_left _ (by simpa using hp))
  have hP : ∀ b ∈ P.map (·.1), ∃ o, s.heap.get? b = some o ∧ H b = none ∧ b ≠ X.env.locals ∧ b ∉ X.fs := fun b hb => by
    obtain ⟨p, hp, rfl⟩ := List.mem_map.mp hb
    obtain ⟨h1, h2, h3, h4, _⟩ := I.pin p (List.mem_append_right _ hp)
    exact ⟨p.2, h1, h2, h3, h4⟩
  have nt : ∀ b u, H b = some u → b ∉ P.map (·.1) := fun b u q hb => by
    obtain ⟨_, _, h, _⟩ := hP b hb
    rw [h] at q; cases q
  obtain ⟨z1, z2, z3, z4⟩ := z
  rw [e] at z3
  obtain ⟨hh, g, d, t, o⟩ := s'
  have ho : o = s.os := z1
  subst ho
  have J : Inv X [] σ H { s with heap := hh, gens := g, drawn := d, toks := t } := by
    refine I0.step (g' := g) (t' := t) (d' := d) (ch := P.map (·.1)) (fun b hb => ?_)
      (fun b ob _ _ hc q _ => z3 b ob hc q) (fun b ob _ _ hc q _ => ⟨ob.slots, z3 b ob hc q⟩) (fun _ _ _ _ n => n) (fun b ob hc q => ⟨ob, z3 b ob hc q⟩)
      (fun _ _ q => q) (fun _ _ _ q => q) (fun b ps q => ⟨#[], by rw [q]; simp⟩) (fun m hm => ?_) (fun b u q => ?_) z2
    · refine ⟨.inr (hA.lt b hb).1, (hA.lt b hb).2, fun x c hc => hA.cell b hb x c hc, fun p hp => ?_⟩
      have hp : p ∈ X.pn := by simpa using hp
      exact fun h => hA.pn p hp (h ▸ hb)
    · obtain ⟨ob, es, ep, ho, r⟩ := hm
      exact ⟨ob, es, ep, z3 _ ob (fun hb => (hA.lt _ hb).2 rfl) ho, r⟩
    · refine (I0.hok b u q).stay (fun c v hc y => z3 c v ?_ y) (fun _ y => y) fun _ _ y => y
      rcases hc with y | y
      · rw [y]; exact nt b u q
      · exact nt c _ y
  refine J.pins_of fun p hp => ?_
  obtain ⟨_, _, h2, h3, h4⟩ := hP p.1 (by rw [← e]; exact List.mem_map_of_mem hp)
  exact ⟨(z4 p hp).1, h2, h3, h4, (z4 p hp).2⟩
section
variable {κ : Type}
/-- what the consumer's things stand for; its step; what is wanted at the end -/
structure Con (κ : Type) where
  CO : List Addr
  Rep : κ → List (Addr × Obj) → Prop
  St : κ → V → Hp → (κ → Prop) → Prop
  Fin : κ → Hp → Prop
  mono : ∀ k x H p q, (∀ a, p a → q a) → St k x H p → St k x H q
/-- amid the walk: the consumer's things stand for k -/
def Amid (X : Cx) (D : Con κ) (k : κ) (P : List (Addr × Obj)) (σ : L2.St) (H : Hp) (s : Shared) : Prop := P.map (·.1) = D.CO ∧ D.Rep k P ∧ Inv X P σ H s
/-- these stood so ahead -/
def Stood (P : List (Addr × Obj)) (s : Shared) : Prop := ∀ p ∈ P, s.heap.get? p.1 = some p.2
def YG (X : Cx) (D : Con κ) : Protocol := fun n s₀ v s kap =>
  ∃ k P x σ H, RelV x v ∧ Amid X D k P σ H s ∧ Stood P s₀ ∧ D.St k x H fun k' => ∀ P' s', P'.map (·.1) = D.CO → D.Rep k' P' → Wake P' s s' → kap (.send .none) s'
def RG (X : Cx) (D : Con κ) (Er : List (Addr × Obj) → Value → Shared → Prop) : GenEnd := fun n s₀ r s =>
  ((r = .ok (.ret .none) ∨ r = .ok .next) ∧ ∃ k P σ H, Amid X D k P σ H s ∧ Stood P s₀ ∧ D.Fin k H) ∨ ∃ e, r = .error e ∧ ∃ (k : κ) (P : List (Addr × Obj)), P.map (·.1) = D.CO ∧ D.Rep k P ∧ Er P e s
/-- the tests behind «if» -/
structure PTs (X : Cx) (cs : List Expr) (t : TT) : Prop where
  run : ∀ (pins : List (Addr × Obj)) (s : Shared) (σ : L2.St) (H : Hp) (Q : Bool → Hp → Prop), Inv X pins σ H s → t σ H Q →
    wpAny (model X.prog X.w) X.A (forIn cs true fun c r => if r = true then do let ok ← isTrue c X.env (eval c X.env); pure (ForInStep.yield ok) else pure (ForInStep.yield r)) (TP X pins σ Q) X.xe s
def tT0 : TT := fun _ H Q => Q true H
theorem pts_nil {X : Cx} : PTs X [] tT0 := ⟨fun pins s σ H Q I h => by
  simp only [List.forIn_nil]
  exact wpAny_pure ⟨H, I, h⟩⟩
theorem pts_one {X : Cx} {c : Expr} {t : TT} (h : PT X c t) : PTs X [c] t := ⟨fun pins s σ H Q I q => by
  simp only [List.forIn_cons, List.forIn_nil, if_true]
  refine wpAny_bind (wpAny_bind (thn (h.run pins s σ H Q I q) fun b s1 hb => ?_))
  exact wpAny_pure (wpAny_pure hb)⟩
/-- the consumer's things as the frame's own -/
theorem inv_pn {X0 : Cx} {A : Around} {N : List Str} {sg : Shared} {Hg : Hp} {E : XK} {scope : Scope} {C : Addr} {code : Value} {ex : List Addr} {pn P : List (Addr × Obj)} {σ : L2.St} {H : Hp} {s : Shared} (I : Inv (gxCx X0 A N sg Hg E scope C code ex pn) P σ H s) :
    Inv (gxCx X0 A N sg Hg E scope C code ex (pn ++ P)) [] σ H s :=
  ⟨⟨I.ok.mod, I.ok.kind, I.ok.glob, I.ok.blt, I.ok.above, I.ok.inj, I.ok.has, I.ok.cab, I.ok.hd, I.ok.frames, I.ok.stk, I.ok.exf, I.ok.bs, I.ok.bsz, I.ok.noex, I.ok.exfs, I.ok.funs, I.ok.frf⟩, I.os, I.bare, I.base, I.loc, I.cell, I.free, I.freeC, fun p hp => I.pin p (by simpa [gxCx] using hp), I.hok, I.len⟩
theorem inv_pn' {X0 : Cx} {A : Around} {N : List Str} {sg : Shared} {Hg : Hp} {E : XK} {scope : Scope} {C : Addr} {code : Value} {ex : List Addr} {pn P : List (Addr × Obj)} {σ : L2.St} {H : Hp} {s : Shared} (I : Inv (gxCx X0 A N sg Hg E scope C code ex (pn ++ P)) [] σ H s) :
    Inv (gxCx X0 A N sg Hg E scope C code ex pn) P σ H s :=
  ⟨⟨I.ok.mod, I.ok.kind, I.ok.glob, I.ok.blt, I.ok.above, I.ok.inj, I.ok.has, I.ok.cab, I.ok.hd, I.ok.frames, I.ok.stk, I.ok.exf, I.ok.bs, I.ok.bsz, I.ok.noex, I.ok.exfs, I.ok.funs, I.ok.frf⟩, I.os, I.bare, I.base, I.loc, I.cell, I.free, I.freeC, fun p hp => I.pin p (by simpa [gxCx] using hp), I.hok, I.len⟩
theorem gx_loop {X0 : Cx} {A : Around} {N : List Str} {sg : Shared} {Hg : Hp} {E : XK} {scope : Scope} {C : Addr} {code : Value} {ex : List Addr} {pn : List (Addr × Obj)} (hco : scope.isCoroutine = false)
    {tg elt iter : Expr} {cs : List Expr} {sc : Scope} {pos : Pos} {J : It} {fp : List Addr} {it : Addr} {tn : Nat → Heap → Prop} {g : TG} {tc : TT} {te : TE} (T : Turn X0.prog X0.w X0.K tg J fp it tn) (hg : ∀ P, PG (gxCx X0 A N sg Hg E scope C code ex (pn ++ P)) tg g) (hc : ∀ P, PTs (gxCx X0 A N sg Hg E scope C code ex (pn ++ P)) cs tc) (he : ∀ P, PE (gxCx X0 A N sg Hg E scope C code ex (pn ++ P)) elt te)
    (D : Con κ) (hA : Apart (gxCx X0 A N sg Hg E scope C code ex pn) D.CO) (hfe : ∀ b ∈ fp, b ∈ ex) (hfx : ∀ b ∈ fp, b ≠ C ∧ b ∉ frs X0.stack ∧ (∀ x c, (gxEnv X0 scope C code).cells.lookup x = some c → c ≠ b) ∧ ∀ p ∈ pn, p.1 ≠ b)
    (W : Nat → Nat → κ → L2.St → Hp → Prop)
    (step : ∀ i m k σ H, W i m k σ H → (J.stop i H ∧ D.Fin k H) ∨ (J.go i H ∧ ∀ x H', J.yld i H x H' → g x σ H' fun σ2 H2 => tc σ2 H2 fun b H3 => if b = true then te σ2 H3 fun v H4 => D.St k v H4 fun k' => ∃ m', m' < m ∧ W (i + 1) m' k' σ2 H4
      else ∃ m', m' < m ∧ W (i + 1) m' k σ2 H3)) :
    ∀ (m n i : Nat) (k : κ) (P : List (Addr × Obj)) (s₀ s : Shared) (σ : L2.St) (H : Hp), m < n → W i m k σ H → Amid (gxCx X0 A N sg Hg E scope C code ex pn) D k P σ H s → Stood P s₀ → tn i s.heap → (∀ b ∈ fp, H b = none) →
      Seg (model X0.prog X0.w) A (RG (gxCx X0 A N sg Hg E scope C code ex pn) D fun P e s'' => CXp X0.prog X0.w X0.stack Hg sg E (pn ++ P) e s'') (YG (gxCx X0 A N sg Hg E scope C code ex pn) D) n s₀
        (.compLoop (.GeneratorExp elt [⟨tg, iter, cs, 0⟩] sc pos) 0 (.ref it) .none (gxEnv X0 scope C code)) ((model X0.prog X0.w).den (.compLoop (.GeneratorExp elt [⟨tg, iter, cs, 0⟩] sc pos) 0 (.ref it) .none (gxEnv X0 scope C code))) [] s := by
  have hov : A.over (.compLoop (.GeneratorExp elt [⟨tg, iter, cs, 0⟩] sc pos) 0 (.ref it) .none (gxEnv X0 scope C code)) [] = A.deeper (gxEnv X0 scope C code) := over_gx
  have hyo : ∀ v, yieldOut (gxEnv X0 scope C code) v = yieldValue v := fun v => by
    unfold yieldOut
    rw [if_neg (show ¬ (gxEnv X0 scope C code).scope.isCoroutine = true from fun z => by
      have z : scope.isCoroutine = true := z
      rw [hco] at z; cases z)]
  have fpo : ∀ {P : List (Addr × Obj)} {H' : Hp}, P.map (·.1) = D.CO → (∀ b ∈ fp, H' b = none) → ∀ b ∈ fp, FpOk (gxCx X0 A N sg Hg E scope C code ex (pn ++ P)) [] H' b := fun {P H'} hP hn b hb => by
    refine ⟨hn b hb, (hfx b hb).1, (hfx b hb).2.1, .inl (hfe b hb), (hfx b hb).2.2.1, fun p hp => ?_⟩
    have hp : p ∈ pn ++ P := by simpa [gxCx] using hp
    rcases List.mem_append.mp hp with hp | hp
    · exact (hfx b hb).2.2.2 p hp
    · intro z
      exact hA.ex b (hfe b hb) (by rw [← hP, ← z]; exact List.mem_map_of_mem hp)
  -- an exception leaves
  have ee : ∀ (P : List (Addr × Obj)) (k : κ) (n : Nat) (s₀ : Shared) (x : Value) (s' : Shared), P.map (·.1) = D.CO → D.Rep k P → (gxCx X0 A N sg Hg E scope C code ex (pn ++ P)).xe x s' →
      Seg (model X0.prog X0.w) A (RG (gxCx X0 A N sg Hg E scope C code ex pn) D fun P e s'' => CXp X0.prog X0.w X0.stack Hg sg E (pn ++ P) e s'') (YG (gxCx X0 A N sg Hg E scope C code ex pn) D) n s₀
        (.compLoop (.GeneratorExp elt [⟨tg, iter, cs, 0⟩] sc pos) 0 (.ref it) .none (gxEnv X0 scope C code)) ((leaving (gxEnv X0 scope C code) x).bind fun _ => .raise x) [] s' := fun P k n s₀ x s' hP hR hx => by
    show Seg _ _ _ _ _ _ _ ((leaving (gxEnv X0 scope C code) x) >>= fun _ => (Sem.raise x : Sem PySem.Fin)) _ _
    refine seg_bind ?_
    rw [hov]
    refine wpAny_mono hx (fun _ s'' q => ?_) fun _ _ q => q.elim
    exact seg_end (.error x) (.inr ⟨x, rfl, k, P, hP, hR, q⟩)
  intro m
  induction m using Nat.strongRecOn with
  | ind m ih =>
    intro n i k P s₀ s σ H hmn w0 am hst ht hfn
    obtain ⟨hP, hR, I⟩ := am
    have I := inv_pn I
    show Seg _ A _ _ _ s₀ _ ((compTurn (.GeneratorExp elt [⟨tg, iter, cs, 0⟩] sc pos) 0 (.ref it) .none (gxEnv X0 scope C code)).onRaise (leaving (gxEnv X0 scope C code))) [] s
    rw [compTurn_gen, Sem.onRaise_eq_wrap]
    refine seg_bind_wrap (wpAny_standAt ?_)
    rcases step i m k σ H w0 with ⟨stop, fin⟩ | ⟨go, stp⟩
    · refine seg_bind_wrap ?_
      rw [hov]
      refine wpAny_mono (T.done (gxCx X0 A N sg Hg E scope C code ex (pn ++ P)) rfl rfl rfl rfl i [] s σ H _ I (fpo hP hfn) ht stop) (fun r s1 ⟨hr, I1⟩ => ?_) fun x s' hx => ee P k n s₀ x s' hP hR hx
      subst hr
      exact seg_end (.ok .next) (.inl ⟨.inr rfl, k, P, σ, H, ⟨hP, hR, inv_pn' I1⟩, hst, fin⟩)
    · refine seg_bind_wrap ?_
      rw [hov]
      refine wpAny_mono (T.item (gxCx X0 A N sg Hg E scope C code ex (pn ++ P)) rfl rfl rfl rfl i [] s σ H _ I (fpo hP hfn) ht go) (fun r s1 ⟨u, hr, h1⟩ => ?_) fun x s' hx => ee P k n s₀ x s' hP hR hx
      subst hr
      refine seg_bind_wrap ?_
      rw [hov]
      refine wpAny_mono h1 (fun _ s2 ⟨x, H2, I2, r2, y2, t2, f2⟩ => ?_) fun x s' hx => ee P k n s₀ x s' hP hR hx
      have I2' := I2.pinned (fpo hP f2) (T.obj _ _ t2)
      refine seg_bind_wrap ?_
      rw [hov]
      refine wpAny_mono ((hg P).run _ s2 σ H2 x u _ I2' r2 (stp x H2 y2)) (fun _ s3 ⟨σ3, H3, I3, q3⟩ => ?_) fun x s' hx => ee P k n s₀ x s' hP hR hx
      refine seg_bind_wrap ?_
      rw [hov]
      refine wpAny_mono ((hc P).run _ s3 σ3 H3 _ I3 q3) (fun b s4 ⟨H4, I4, q4⟩ => ?_) fun x s' hx => ee P k n s₀ x s' hP hR hx
      have tnOf : ∀ {H' : Hp} {s' : Shared}, Inv (gxCx X0 A N sg Hg E scope C code ex (pn ++ P)) ([] ++ pinsAt fp s2.heap) σ3 H' s' → tn (i + 1) s'.heap ∧ ∀ b ∈ fp, H' b = none := fun {H' s'} I' =>
        ⟨T.keep _ _ _ t2 fun b hb o e => (I'.pin (b, o) (List.mem_append_right _ (List.mem_append_right _ (mem_pinsAt hb e)))).1, fun b hb => by
          obtain ⟨o, e, d⟩ := T.obj _ _ t2 b hb
          exact (I'.pin (b, o) (List.mem_append_right _ (List.mem_append_right _ (mem_pinsAt hb e)))).2.1⟩
      cases b with
      | false =>
        rw [if_neg Bool.false_ne_true] at q4
        obtain ⟨m', hm, w4⟩ := q4
        simp only [Bool.false_eq_true, if_false]
        exact seg_again rfl (ih m' hm n (i + 1) k P s₀ s4 σ3 H4 (by omega) w4 ⟨hP, hR, inv_pn' I4.unpinned⟩ hst (tnOf I4).1 (tnOf I4).2)
      | true =>
        rw [if_pos rfl] at q4
        simp only [if_true]
        simp only [hyo]
        rw [Sem.bind_eq_wrap', Sem.bind_eq_wrap', Sem.wrap_wrap, Sem.wrap_wrap]
        refine seg_wrap ?_
        rw [hov]
        refine wpAny_mono ((he P).run _ s4 σ3 H4 _ I4 q4) (fun v s5 ⟨y, H5, I5, r5, q5⟩ => ?_) fun x s' hx => ee P k n s₀ x s' hP hR hx
        obtain ⟨n, rfl⟩ : ∃ n', n = n' + 1 := ⟨n - 1, by omega⟩
        have I5' := inv_pn' I5.unpinned
        refine seg_at (seg_yield rfl rfl rfl ⟨k, P, y, σ3, H5, r5, ⟨hP, hR, I5'⟩, hst, ?_⟩)
        refine D.mono _ _ _ _ _ (fun k' ⟨m', hm, w5⟩ => ?_) q5
        intro P' s' hP' hR' wk
        have I6 : Inv (gxCx X0 A N sg Hg E scope C code ex pn) P' σ3 H5 s' := woken I5' (by rw [hP]; exact hA) (by rw [hP', hP]) wk
        have tk := tnOf I5
        refine seg_again rfl (ih m' hm n (i + 1) k' P' s' s' σ3 H5 (by omega) w5 ⟨hP', hR', I6⟩ (fun p hp => (wk.own p hp).1) ?_ tk.2)
        exact T.keep _ _ _ tk.1 fun b hb o e => wk.keep b o (by rw [hP']; exact hA.ex b (hfe b hb)) e
end
end GxI
/-! text Gx3 -/
namespace GxI
open PySem PySem.Spec PyProof.Rows L2 GenW
/-- the state without the iterators -/
abbrev bared (s : Shared) (fp : List Addr) : Shared := { s with heap := PySem.W.hideAll s.heap fp }
section
variable {X : Cx} {pins : List (Addr × Obj)} {σ : L2.St} {H : Hp} {s : Shared} {fp : List Addr}
theorem hid_get {h : Heap} {fp : List Addr} {b : Addr} {o : Obj} (e : h.get? b = some o) (n : b ∉ fp) : (PySem.W.hideAll h fp).get? b = some o := PySem.W.hideAll_get fp e n
theorem inv_bared (I : Inv X pins σ H s) (f : ∀ b ∈ fp, FpOk X pins H b) : Inv X pins σ H (bared s fp) := by
  have n0 : ∀ b o, X.s_0.heap.get? b = some o → b ∉ X.ex → b ∉ fp := fun b o e n hb => by
    rcases (f b hb).2.2.2.1 with z | z
    · exact n z
    · exact absurd (Nat.lt_of_lt_of_le (Heap.lt_size e) z) (Nat.lt_irrefl _)
  have nL : X.env.locals ∉ fp := fun hb => (f _ hb).2.1 rfl
  have nC : ∀ x c, X.env.cells.lookup x = some c → c ∉ fp := fun x c e hb => (f _ hb).2.2.2.2.1 x c e rfl
  have nT : ∀ b, H b ≠ none → b ∉ fp := fun b e hb => e (f b hb).1
  refine ⟨I.ok, I.os, I.bare, ⟨fun b o e n hb hx => hid_get (I.base.keep b o e n hb hx) (n0 b o e hx), fun b o e n hb hx => ?_, I.base.free, fun b o e hx => ?_, I.base.tups, I.base.frzs, I.base.tbls⟩, ?_, fun x c e => ?_, I.free, I.freeC, fun p hp => ?_, fun b u q => ?_, I.len⟩
  · obtain ⟨sl, e1⟩ := I.base.slot b o e n hb hx
    exact ⟨sl, hid_get e1 (n0 b o e hx)⟩
  · obtain ⟨o', e1⟩ := I.base.there b o e hx
    exact ⟨o', hid_get e1 (n0 b o e hx)⟩
  · obtain ⟨m, hn, hl⟩ := I.loc
    refine ⟨m, hn.at' fun o e => hid_get e nL, fun i x v e1 e2 hv => ?_⟩
    obtain ⟨u, r, l⟩ := hl i x v e1 e2 hv
    refine ⟨u, r, ?_⟩
    rcases l with l | ⟨hk, c, hc, o, ho, hd⟩
    · exact .inl l
    · exact .inr ⟨hk, c, hc, o, hid_get ho (nC x c hc), hd⟩
  · obtain ⟨v, o, ho, hd⟩ := I.cell x c e
    exact ⟨v, o, hid_get ho (nC x c e), hd⟩
  · obtain ⟨h1, h2, h3, h4, h5⟩ := I.pin p hp
    exact ⟨hid_get h1 fun hb => (f _ hb).2.2.2.2.2 p hp rfl, h2, h3, h4, h5⟩
  · refine (I.hok b u q).stay (fun c v hc y => hid_get y ?_) (fun _ y => y) fun _ _ y => y
    rcases hc with z | z
    · rw [z]; exact nT b (by rw [q]; simp)
    · exact nT c (by rw [z]; simp)
/-- back in the frame that walked -/
theorem gx_back {A : Around} {N : List Str} {E : XK} {scope : Scope} {C : Addr} {code : Value} {pn P : List (Addr × Obj)} {σ' : L2.St} {H' : Hp} {s' : Shared} (I : Inv X pins σ H s) (f : ∀ b ∈ fp, FpOk X pins H b)
    (J : Inv (gxCx X A N (bared s fp) H E scope C code fp pn) P σ' H' s') : Inv X pins σ H' s' := by
  have u : Un (frs X.stack) fp H H' (PySem.W.hideAll s.heap fp) s'.heap := J.base
  refine I.call' (ch := fp) J.os ⟨fun b o e n hb hx => u.keep b o (hid_get e hx) n hb hx, fun b o e n hb hx => u.slot b o (hid_get e hx) n hb hx, fun b o e n hx => u.free b o (hid_get e hx) n hx, fun b o e hx => u.there b o (hid_get e hx) hx, u.tups, u.frzs, u.tbls⟩ J.hok J.bare fun b hb => ?_
  obtain ⟨f0, f1, f2, f3, f4, f5⟩ := f b hb
  exact ⟨f3, f1, f4, f5⟩
theorem gx_inv {A : Around} {N : List Str} {E : XK} {scope : Scope} {code : Value} {a : Addr} {go : Obj} {P : List (Addr × Obj)} {σ' : L2.St} {s' : Shared} {m : Str → Option Value} (I : Inv X pins σ H s) (f : ∀ b ∈ fp, FpOk X pins H b) (L : GxS X.env.scope scope) (hfo : ∀ b ∈ fp, ∃ o, s.heap.get? b = some o)
    (hh : A.handled = none) (hfr : A.frames = some X.stack) (hos : s'.os = s.os) (hb : AllBare s'.gens) (hk : ∀ b o, s.heap.get? b = some o → s'.heap.get? b = some o) (hC : s'.heap.Ns s.heap.objs.size m)
    (ha : s.heap.objs.size < a) (hga : s'.heap.get? a = some go) (hgo : ∀ v, go.data ≠ .cell v) (hP : ∀ p ∈ P, s'.heap.get? p.1 = some p.2 ∧ s.heap.objs.size < p.1 ∧ ∀ v, p.2.data ≠ .cell v)
    (hl : σ'.length = N.length) (hσ : ∀ (i : Nat) (x : Str) (v : V), N[i]? = some x → σ'[i]? = some (some v) → scope.names.lookup x = some .free ∧ ∃ j : Nat, X.N[j]? = some x ∧ σ[j]? = some (some v)) :
    Inv (gxCx X A N (bared s fp) H E scope s.heap.objs.size code fp [(a, go)]) P σ' H s' := by
  have hfree := L.has I.ok
  have cm : ∀ {y c}, (cloFrom X.env.cells scope.names []).lookup y = some c → X.env.cells.lookup y = some c := fun {y c} e => by
    rcases cloFrom_mem (PySem.mem_of_lookup e) with hm | ⟨h1, h2⟩
    · cases hm
    · obtain ⟨c1, hc⟩ := hfree _ h1 rfl
      have hc : X.env.cells.lookup y = some c1 := hc
      have e2 : c = c1 := by
        rw [h2, hc] <;> rfl
      rw [e2]
      exact hc
  have look : ∀ {y}, scope.names.lookup y = some .free → ∃ c, (cloFrom X.env.cells scope.names []).lookup y = some c := fun {y} hl => by
    have hy : (y, NameKind.free) ∈ scope.names := PySem.mem_of_lookup hl
    exact mem_lookup (cloFrom_has (cells := X.env.cells) (acc := []) hy)
  have hsz : (PySem.W.hideAll s.heap fp).objs.size = s.heap.objs.size := PySem.W.hideAll_size fp s.heap
  have new : ∀ b, s.heap.objs.size ≤ b → H b = none ∧ b ∉ frs X.stack := fun b hb => ⟨I.hok.fresh hb, fun z => by
    rcases List.mem_cons.mp (I.stkSub _ z) with e | e
    · have h1 := I.lt
      rw [← e] at h1
      exact Nat.lt_irrefl _ (Nat.lt_of_lt_of_le h1 hb)
    · exact I.nofs hb e⟩
  have flt : ∀ b ∈ fp, b < s.heap.objs.size := fun b hb => let ⟨o, e⟩ := hfo b hb; Heap.lt_size e
  have nst : ∀ b ∈ fp, b ∉ frs X.stack := fun b hb z => by
    rcases List.mem_cons.mp (I.stkSub _ z) with e | e
    · exact (f b hb).2.1 e
    · exact (f b hb).2.2.1 e
  have nba : ∀ b o, X.base.get? b = some o → b ∉ fp := fun b o e hb => by
    rcases (f b hb).2.2.2.1 with z | z
    · exact I.ok.noex b o e z
    · exact absurd (Nat.lt_of_lt_of_le (Heap.lt_size e) (Nat.le_trans I.ok.bsz z)) (Nat.lt_irrefl _)
  refine ⟨⟨I.ok.mod, L.kind, I.ok.glob, rfl, Nat.le_of_eq hsz, fun y z c e1 e2 => I.ok.inj y z c (cm e1) (cm e2), fun y hy => ?_, fun y c z _ => (by cases (show false = true from z)), fun _ => hh, Around.frames_deeper hfr, .inr ⟨rfl, rfl⟩, fun b hb => ⟨Nat.ne_of_lt (flt b hb), fun x c e => (f b hb).2.2.2.2.1 x c (cm e)⟩,
      fun b o e => ⟨hid_get (I.bk b o e) (nba b o e), (I.bs b o e).2⟩, ?_, fun b o e => nba b o e, fun b hb => nst b hb, PySem.W.funFrames_hideAll I.stack fun env he a ha z => nst a ha (List.mem_filterMap.mpr ⟨env, he, z⟩), I.stkFree⟩,
    hos, hb, Un.kept fun b o e => hk b o (PySem.W.of_hideAll fp e), ⟨_, hC, fun i y v e1 e2 e3 => ?_⟩, fun y c e => ?_, (new _ (Nat.le_refl _)).1, fun y c e => ?_, fun q hq => ?_, I.hok.kept hk, hl⟩
  · have hy : scope.names.lookup y = some .cell ∨ scope.names.lookup y = some .free := hy
    rcases hy with hy | hy
    · exact absurd rfl (L.cell _ (PySem.mem_of_lookup hy))
    · exact look hy
  · show X.base.objs.size ≤ (PySem.W.hideAll s.heap fp).objs.size
    rw [hsz]
    exact Nat.le_trans I.ok.bsz I.sz
  · obtain ⟨k, j, h1, h2⟩ := hσ i y v e1 e2
    obtain ⟨m, hn, hl⟩ := I.loc
    have hvis : Vis X.env.scope y := (L.free _ (PySem.mem_of_lookup k) rfl).elim (fun k => .inr (.inl k)) (fun k => .inr (.inr k))
    obtain ⟨w', r, q⟩ := hl j y v h1 h2 hvis
    obtain ⟨c2, h3⟩ := look k
    refine ⟨w', r, .inr ⟨.inr k, c2, h3, ?_⟩⟩
    have c1 := cm h3
    rcases q with ⟨k', _⟩ | ⟨_, c3, e', z⟩
    · have k' : X.env.scope.names.lookup y = some .local := k'
      rcases L.free _ (PySem.mem_of_lookup k) rfl with k2 | k2 <;> rw [show X.env.scope.names.lookup y = _ from k2] at k' <;> cases k'
    · rw [c1] at e'
      cases e'
      obtain ⟨o, ho, hd⟩ := z
      exact ⟨o, hk _ _ ho, hd⟩
  · obtain ⟨v, o, ho, hd⟩ := I.cell y c (cm e)
    exact ⟨v, o, hk _ _ ho, hd⟩
  · exact I.freeC y c (cm e)
  · rcases List.mem_append.mp hq with hq | hq
    · have : q = (a, go) := List.mem_singleton.mp hq
      subst this
      exact ⟨hga, (new a (Nat.le_of_lt ha)).1, Nat.ne_of_gt ha, (new a (Nat.le_of_lt ha)).2, hgo⟩
    · obtain ⟨h1, h2, h3⟩ := hP q hq
      exact ⟨h1, (new _ (Nat.le_of_lt h2)).1, Nat.ne_of_gt h2, (new _ (Nat.le_of_lt h2)).2, h3⟩
end
end GxI
/-! text Gx4 -/
namespace GxI
open PySem PySem.Spec PyProof.Rows L2 GenW
section
variable {κ : Type}
/-- a generator that waits -/
def Ready (X : Cx) (D : Con κ) (Er : List (Addr × Obj) → Value → Shared → Prop) (B : Around) (a : Addr) (g n : Nat) (s : Shared) : Prop :=
  s.heap.IsGen a g ∧ s.heap.NoLimit ∧ ∃ gs, s.gens[g]? = some gs ∧ gs.Goes (model X.prog X.w) B (RG X D Er) (YG X D) n (.send .none) (s.setGen g .running)
theorem Amid.wake {X : Cx} {D : Con κ} {k k' : κ} {P : List (Addr × Obj)} {σ : L2.St} {H : Hp} {s s' : Shared} {P' : List (Addr × Obj)} (hA : Apart X D.CO) (h : Amid X D k P σ H s) (e : P'.map (·.1) = D.CO) (r : D.Rep k' P') (w : Wake P' s s') : Amid X D k' P' σ H s' := by
  obtain ⟨h1, h2, I⟩ := h
  exact ⟨e, r, woken I (by rw [h1]; exact hA) (by rw [e, h1]) w⟩
theorem Amid.same {X : Cx} {D : Con κ} {k : κ} {P : List (Addr × Obj)} {σ : L2.St} {H : Hp} {s s' : Shared} (hA : Apart X D.CO) (h : Amid X D k P σ H s) (os : s'.os = s.os) (hb : AllBare s'.gens) (hk : ∀ b o, s.heap.get? b = some o → s'.heap.get? b = some o) : Amid X D k P σ H s' := by
  obtain ⟨h1, h2, I⟩ := id h
  refine h.wake hA h1 h2 ⟨os, hb, fun b o _ e => hk b o e, fun p hp => ?_⟩
  obtain ⟨q, _, _, _, q5⟩ := I.pin p (List.mem_append_right _ hp)
  exact ⟨hk _ _ q, q5⟩
theorem Amid.bare {X : Cx} {D : Con κ} {k : κ} {P : List (Addr × Obj)} {σ : L2.St} {H : Hp} {s : Shared} (h : Amid X D k P σ H s) : AllBare s.gens := by
  obtain ⟨_, _, I⟩ := h
  exact I.bare
theorem Amid.gen {X : Cx} {D : Con κ} {k : κ} {P : List (Addr × Obj)} {σ : L2.St} {H : Hp} {s : Shared} {a : Addr} {go : Obj} (hpn : X.pn = [(a, go)]) (h : Amid X D k P σ H s) : s.heap.get? a = some go := by
  obtain ⟨_, _, I⟩ := h
  exact (I.pin (a, go) (List.mem_append_left _ (by rw [hpn]; exact List.mem_singleton.mpr rfl))).1
theorem Amid.lim {X : Cx} {D : Con κ} {k : κ} {P : List (Addr × Obj)} {σ : L2.St} {H : Hp} {s : Shared} (h : Amid X D k P σ H s) : s.heap.NoLimit := by
  obtain ⟨_, _, I⟩ := h
  exact I.nolimit
theorem gx_next {X : Cx} {D : Con κ} {Er : List (Addr × Obj) → Value → Shared → Prop} {A : Around} {a : Addr} {go : Obj} {g n : Nat} {s : Shared} {Q : Option Value → Shared → Prop} {E : Value → Shared → Prop} (hh : A.handled = none) (hroom : A.depth < recursionLimit)
    (hA : Apart X D.CO) (hpn : X.pn = [(a, go)]) (hgo : ∀ h : Heap, h.get? a = some go → h.IsGen a g) (R : Ready X D Er A.in1 a g n s)
    (hfin : ∀ k P σ H s', Amid X D k P σ H s' → Stood P s → D.Fin k H → Q none s')
    (hitem : ∀ k P x v σ H s', RelV x v → Amid X D k P σ H s' → Stood P s → D.St k x H (fun k' => ∀ P' s'', P'.map (·.1) = D.CO → D.Rep k' P' → Wake P' s' s'' → s''.gens = s'.gens → ∃ m, m < n ∧ Ready X D Er A.in1 a g m s'') → Q (some v) s')
    (hexc : ∀ e s', (∃ (k : κ) (P : List (Addr × Obj)), P.map (·.1) = D.CO ∧ D.Rep k P ∧ Er P e s') → s'.heap.IsGen a g ∧ NotStop (model X.prog X.w) e s'.heap ∧ E e (s'.setGen g .finished)) :
    wpAny (model X.prog X.w) A (pyNext (.ref a)) Q E s := by
  obtain ⟨hg, hl, gs, hgs, hgoes⟩ := R
  have hgl : g < s.gens.size := (Array.getElem?_eq_some_iff.mp hgs).1
  refine wpAny_gsz (n := g + 1) hgl (next_genG (F := fun n s₀ s₁ => ∃ k P σ H, Amid X D k P σ H s₁ ∧ Stood P s₀ ∧ D.Fin k H) (Er := fun e s' => ∃ (k : κ) (P : List (Addr × Obj)), P.map (·.1) = D.CO ∧ D.Rep k P ∧ Er P e s') (Y := YG X D) hh hl hroom hg hgs hgoes (fun v s₁ gs' hbare hv => ?_) (fun s₁ hp h' hk => ?_) fun e s₁ he => ?_)
  · intro hsz
    have hsz1 : g < s₁.gens.size := by
      have q : (s₁.setGen g gs').gens.size = s₁.gens.size := setGen_size _ _ _
      have hsz' : g + 1 ≤ (s₁.setGen g gs').gens.size := hsz
      omega
    obtain ⟨k, P, x, σ, H, rv, am, sd, st⟩ := hv
    have am' : Amid X D k P σ H (s₁.setGen g gs') := am.same hA rfl (allBare_setGen am.bare hbare) fun _ _ e => e
    refine hitem k P x v σ H _ rv am' sd (D.mono _ _ _ _ _ (fun k' kap P' s'' e r wk hgens => ?_) st)
    have am2 : Amid X D k' P' σ H s'' := am'.wake hA e r wk
    have kap2 := kap P' (s''.setGen g .running) e r ⟨wk.os, allBare_setGen wk.bare rfl, fun b o hb q => wk.keep b o hb q, wk.own⟩
    cases n with
    | zero => exact kap2.elim
    | succ m => exact ⟨m, Nat.lt_succ_self m, hgo _ (am2.gen hpn), am2.lim, gs', by rw [hgens]; exact setGen_at hsz1, kap2⟩
  · intro _
    obtain ⟨k, P, σ, H, am, sd, fin⟩ := hp
    exact hfin k P σ H _ (am.same hA rfl (allBare_setGen am.bare rfl) hk) sd fin
  · obtain ⟨h1, h2, h3⟩ := hexc e s₁ he
    exact ⟨h1, h2, fun _ => h3⟩
end
end GxI
/-! text Gx5 -/
namespace GxI
open PySem PySem.Spec PyProof.Rows L2 GenW
section
variable {κ : Type} {X : Cx} {pins : List (Addr × Obj)} {σ : L2.St} {H : Hp} {s : Shared}
/-- the generator expression's value: a generator that has not begun -/
structure Made (X : Cx) (pins : List (Addr × Obj)) (σ : L2.St) (tg elt iter : Expr) (cs : List Expr) (scope : Scope) (gpos : Pos) (R : It → Hp → Prop) (P : Addr) (u : Value) (s5 : Shared) : Prop where
  ex : ∃ (a : Addr) (g : Nat) (go : Obj) (s4 : Shared) (H1 H4 : Hp) (fp : List Addr) (it : Addr) (tn : Nat → Heap → Prop) (J : It) (code : Value) (m : Str → Option Value),
    u = .ref a ∧ Inv X pins σ H4 s4 ∧ Turn X.prog X.w X.K tg J fp it tn ∧ tn 0 s5.heap ∧ (∀ b ∈ fp, FpOk X pins H4 b) ∧ R J H1 ∧ GxR.Tabbed P H1 H4 ∧ s5.os = s4.os ∧ AllBare s5.gens ∧ (∀ b o, s4.heap.get? b = some o → s5.heap.get? b = some o) ∧
    s5.heap.Ns s4.heap.objs.size m ∧ s4.heap.objs.size < a ∧ s5.heap.get? a = some go ∧ (∀ v, go.data ≠ .cell v) ∧ (∀ h : Heap, h.get? a = some go → h.IsGen a g) ∧ (∀ b ∈ fp, ∃ o, s4.heap.get? b = some o) ∧
    s5.gens[g]? = some (.fresh (.compStart (.GeneratorExp elt [⟨tg, iter, cs, 0⟩] scope gpos) 0 (.ref it) .none (gxEnv X scope s4.heap.objs.size code)))
theorem gx_make {tg elt iter : Expr} {cs : List Expr} {scope : Scope} {gpos : Pos} {wi : TI} {R : It → Hp → Prop} {c P : Addr} {k : Nat} (hr : Room k X.A) (TB : GxR.TabB X.base X.mg c P) (hcode : X.env.code = .ref c) (L : GxS X.env.scope scope) (hi : PI X tg iter wi)
    (hs : ∀ v, genFold iter X.env v = pure v) (I : Inv X pins σ H s) (h : wi σ H fun J H1 => GxR.TabG H1 P ∧ R J H1) :
    wpAny (model X.prog X.w) X.A (eval (.GeneratorExp elt [⟨tg, iter, cs, 0⟩] scope gpos) X.env) (Made X pins σ tg elt iter cs scope gpos R P) X.xe s := by
  refine wpAny_GeneratorExp_make L.co (closure_ok (L.has I.ok)) L.cell L.dot L.kind (by have := hr.dp; omega) ?_ hs
  refine thn (hi.run pins s σ H _ I h) fun xv s1 h1 => thn h1 fun itv s2 h2 => ?_
  obtain ⟨it, fp, tn, J, H1, rfl, I1, T, t0, f0, ⟨ps, hP, ht⟩, q⟩ := h2
  have hPs : s2.heap.get? P = some { cls := .none, data := .fields ps } := I1.hok P _ hP
  have fP : ∀ b ∈ fp, b ≠ P := fun b hb z => by
    have := (f0 b hb).1
    rw [z, hP] at this; cases this
  refine ⟨I1.nolimit, ?_⟩
  -- behind the code object
  have cont : ∀ (code : Value) (h3 : Heap) (tk : Nat) (more : Array Value), Heap.ExtBut P s2.heap h3 → s2.heap.objs.size ≤ h3.objs.size → h3.get? P = some { cls := .none, data := .fields (ps ++ more) } → TriplesOk (ps ++ more).toList →
      wpAny (model X.prog X.w) X.A (builtinsFor X.env.globals X.env.builtins) (fun bi s₄ => ∀ h', h'.Ns s₄.heap.objs.size (fun y => if y = ".0" then some (.ref it) else none) → Heap.SameBut s₄.heap.objs.size (s₄.heap.push { cls := .type "frame", data := .dict #[] }) h' →
          Made X pins σ tg elt iter cs scope gpos R P (.ref h'.objs.size) { s₄ with
            gens := s₄.gens.push (.fresh (.compStart (.GeneratorExp elt [⟨tg, iter, cs, 0⟩] scope gpos) 0 (.ref it) .none (genEnv scope (cloFrom X.env.cells scope.names []) s₄.heap.objs.size code bi X.env))),
            toks := s₄.toks + 1 + 1 + 1,
            heap := h'.push { cls := .type "generator", data := .fields #[.int s₄.gens.size 0, .str "<genexpr>" (s₄.toks + 1), .str (X.env.qual ++ "<genexpr>") (s₄.toks + 1 + 1)] } }) X.xe { s2 with heap := h3, toks := tk } := by
    intro code h3 tk more hx hsz hP3 ht3
    obtain ⟨bm, ob, e1, e2, e3, e4, e5, e6, e7, e8⟩ := TB.bm
    have keep3 : ∀ b u, b ≠ P → s2.heap.get? b = some u → h3.get? b = some u := fun b u hb e => hx b u hb e
    have J4 : Inv X pins σ (upd H1 P (.tbl (ps ++ more))) { s2 with heap := h3, toks := tk } := GxR.inv_tab (g' := s2.gens) (d' := s2.drawn) (t' := tk) I1 hP keep3 hP3 I1.bare
    refine wpAny_builtinsFor (m := X.mg) (by rw [I1.ok.glob]; exact (I1.mod.glob.keeps I1.bk).extBut hx TB.gP) e1 e2 (keep3 _ _ e4 (I1.bk _ _ e5)) e6 e7 e8 ?_
    intro h' hn' hs'
    have hsz' : h'.objs.size = h3.objs.size + 1 := by rw [hs'.1, Heap.size_push]
    have keep' : ∀ b o, h3.get? b = some o → h'.get? b = some o := fun b o e => hs'.extBut b o (Nat.ne_of_lt (Heap.lt_size e)) (Heap.get?_push_of_some _ e)
    refine ⟨h'.objs.size, s2.gens.size, _, { s2 with heap := h3, toks := tk }, H1, upd H1 P (.tbl (ps ++ more)), fp, it, tn, J, code, _, rfl, J4, T, ?_, fun b hb => ?_, q, ⟨⟨ps ++ more, upd_same, ht3⟩, fun b hb => upd_ne hb⟩, rfl, ?_, fun b o e => Heap.get?_push_of_some _ (keep' b o e), hn'.push _, ?_, Heap.get?_push_size _ rfl, (fun v z => by cases z), fun h e => ⟨_, _, _, e, rfl, rfl, rfl⟩, fun b hb => ?_, Array.getElem?_push_size ..⟩
    · refine T.keep 0 _ _ t0 fun b hb o e => Heap.get?_push_of_some _ (keep' b o (keep3 b o (fP b hb) e))
    · obtain ⟨f1, f2⟩ := f0 b hb
      exact ⟨by rw [upd_ne (fP b hb)]; exact f1, f2⟩
    · exact AllBare.push I1.bare rfl
    · show h3.objs.size < h'.objs.size
      omega
    · obtain ⟨o, e, _⟩ := T.obj _ _ t0 b hb
      exact ⟨o, keep3 b o (fP b hb) e⟩
  cases hf : codeAmong gpos ps.toList with
  | none =>
    refine wpAny_genexprCodeX hcode ((TB.code.keeps I1.bk).code hPs ht) ((TB.code.keeps I1.bk).tab hPs) hf fun c' h' tk hx hge hlt hco' _ htab' _ => ?_
    obtain ⟨o1, vs, f1, tf, fl, tg', inF, tx, tt, op, _, _, _, _, _, _, _, _, _, htr, _⟩ := hco'
    exact cont _ h' tk _ hx (Nat.le_trans hge (Nat.le_of_lt hlt)) htab'.2 htr
  | some cv =>
    refine wpAny_genexprCode_hit hcode ((TB.code.keeps I1.bk).code hPs ht) hf ?_
    exact cont cv s2.heap s2.toks #[] (Heap.ExtBut.refl _ _) (Nat.le_refl _) (by simpa using hPs) (by simpa using ht)
end
end GxI
/-! text Gx6 -/
namespace GxI
open PySem PySem.Spec PyProof.Rows L2 GenW
section
variable {κ : Type} {X : Cx} {pins : List (Addr × Obj)} {σ : L2.St} {H4 : Hp} {s4 s5 s : Shared}
/-- what follows, turn by turn -/
def tGx (J : It) (g : TG) (tc : TT) (te : TE) (D : Con κ) (k0 : κ) (σ0 : L2.St) (H : Hp) : Prop := ∃ W : Nat → Nat → κ → L2.St → Hp → Prop, (∃ m, W 0 m k0 σ0 H) ∧
  ∀ i m k σ H, W i m k σ H → (J.stop i H ∧ D.Fin k H) ∨ (J.go i H ∧ ∀ x H', J.yld i H x H' → g x σ H' fun σ2 H2 => tc σ2 H2 fun b H3 => if b = true then te σ2 H3 fun v H4 => D.St k v H4 fun k' => ∃ m', m' < m ∧ W (i + 1) m' k' σ2 H4
      else ∃ m', m' < m ∧ W (i + 1) m' k σ2 H3)
/-- the captured names' slots -/
def CapOk (X : Cx) (N : List Str) (scope : Scope) (σ σ' : L2.St) : Prop := σ'.length = N.length ∧ ∀ (i : Nat) (x : Str) (v : V), N[i]? = some x → σ'[i]? = some (some v) → scope.names.lookup x = some .free ∧ ∃ j : Nat, X.N[j]? = some x ∧ σ[j]? = some (some v)
theorem gx_ready {tg elt iter : Expr} {cs : List Expr} {scope : Scope} {gpos : Pos} {fp : List Addr} {it : Addr} {tn : Nat → Heap → Prop} {J : It} {code : Value} {m : Str → Option Value} {a : Addr} {g : Nat} {go : Obj}
    (I4 : Inv X pins σ H4 s4) (T : Turn X.prog X.w X.K tg J fp it tn) (t5 : tn 0 s5.heap) (f4 : ∀ b ∈ fp, FpOk X pins H4 b) (o5 : s5.os = s4.os) (k5 : ∀ b o, s4.heap.get? b = some o → s5.heap.get? b = some o) (n5 : s5.heap.Ns s4.heap.objs.size m)
    (ha : s4.heap.objs.size < a) (ga : s5.heap.get? a = some go) (gc : ∀ v, go.data ≠ .cell v) (gg : ∀ h : Heap, h.get? a = some go → h.IsGen a g) (fo : ∀ b ∈ fp, ∃ o, s4.heap.get? b = some o) (L : GxS X.env.scope scope)
    {B : Around} (hh : B.handled = none) (hfr : B.frames = some X.stack) {N : List Str} {E : XK} {σ' : L2.St} (cap : CapOk X N scope σ σ') {gt : TG} {tc : TT} {te : TE} (hg : ∀ pn, PG (gxCx X B N (bared s4 fp) H4 E scope s4.heap.objs.size code fp pn) tg gt) (hc : ∀ pn, PTs (gxCx X B N (bared s4 fp) H4 E scope s4.heap.objs.size code fp pn) cs tc) (he : ∀ pn, PE (gxCx X B N (bared s4 fp) H4 E scope s4.heap.objs.size code fp pn) elt te) {D : Con κ} {k0 : κ} {P : List (Addr × Obj)} (hD : P.map (·.1) = D.CO) (hR : D.Rep k0 P) (hq : tGx J gt tc te D k0 σ' H4)
    (os : s.os = s5.os) (hb : AllBare s.gens) (hk : ∀ b o, s5.heap.get? b = some o → s.heap.get? b = some o) (hP : ∀ p ∈ P, s.heap.get? p.1 = some p.2 ∧ s5.heap.objs.size ≤ p.1 ∧ ∀ v, p.2.data ≠ .cell v)
    (hgs : s.gens[g]? = some (.fresh (.compStart (.GeneratorExp elt [⟨tg, iter, cs, 0⟩] scope gpos) 0 (.ref it) .none (gxEnv X scope s4.heap.objs.size code)))) :
    Apart (gxCx X B N (bared s4 fp) H4 E scope s4.heap.objs.size code fp [(a, go)]) D.CO ∧ ∃ n, Ready (gxCx X B N (bared s4 fp) H4 E scope s4.heap.objs.size code fp [(a, go)]) D (fun P e s'' => CXp X.prog X.w X.stack H4 (bared s4 fp) E ([(a, go)] ++ P) e s'') B a g n s := by
  have hlt : s5.heap.objs.size > a := Heap.lt_size ga
  have cm : ∀ {y c}, (cloFrom X.env.cells scope.names []).lookup y = some c → X.env.cells.lookup y = some c := fun {y c} e => by
    rcases cloFrom_mem (PySem.mem_of_lookup e) with hm | ⟨h1, h2⟩
    · cases hm
    · obtain ⟨c1, hc⟩ := L.has I4.ok _ h1 rfl
      have hc : X.env.cells.lookup y = some c1 := hc
      have e2 : c = c1 := by
        rw [h2, hc] <;> rfl
      rw [e2]
      exact hc
  have clt : ∀ {y c}, X.env.cells.lookup y = some c → s4.heap.objs.size > c := fun {y c} e => by
    obtain ⟨v, q⟩ := I4.cell y c e
    exact q.lt
  have flt : ∀ b ∈ fp, s4.heap.objs.size > b := fun b hb => let ⟨o, e⟩ := fo b hb; Heap.lt_size e
  have young : ∀ S ∈ D.CO, s5.heap.objs.size ≤ S := fun S hS => by
    rw [← hD] at hS
    obtain ⟨p, hp, rfl⟩ := List.mem_map.mp hS
    exact (hP p hp).2.1
  have hsz : (PySem.W.hideAll s4.heap fp).objs.size = s4.heap.objs.size := PySem.W.hideAll_size fp s4.heap
  have hA : Apart (gxCx X B N (bared s4 fp) H4 E scope s4.heap.objs.size code fp [(a, go)]) D.CO := by
    refine ⟨fun S hS => ⟨?_, ?_⟩, fun S hS x c e => ?_, fun p hp hS => ?_, fun b hb hS => ?_⟩
    · show (PySem.W.hideAll s4.heap fp).objs.size ≤ S
      rw [hsz]
      have := young S hS; omega
    · show S ≠ s4.heap.objs.size
      have := young S hS
      exact Nat.ne_of_gt (show s4.heap.objs.size < S by omega)
    · have h1 := clt (cm e)
      have := young S hS
      exact Nat.ne_of_lt (show c < S from Nat.lt_of_lt_of_le h1 (by omega))
    · have : p = (a, go) := List.mem_singleton.mp hp
      have := young _ hS
      subst p
      have : s5.heap.objs.size ≤ a := this
      omega
    · have h1 := flt b hb
      have := young b hS
      omega
  have kp : ∀ b o, s4.heap.get? b = some o → (s.setGen g .running).heap.get? b = some o := fun b o e => hk b o (k5 b o e)
  have J' : Inv (gxCx X B N (bared s4 fp) H4 E scope s4.heap.objs.size code fp [(a, go)]) P σ' H4 (s.setGen g .running) := by
    refine gx_inv I4 f4 L fo hh hfr (os.trans o5) (allBare_setGen hb rfl) kp (n5.at' fun o e => hk _ o e) ha (hk _ _ ga) gc (fun p hp => ?_) cap.1 cap.2
    obtain ⟨h1, h2, h3⟩ := hP p hp
    exact ⟨h1, by omega, h3⟩
  have am : Amid (gxCx X B N (bared s4 fp) H4 E scope s4.heap.objs.size code fp [(a, go)]) D k0 P σ' H4 (s.setGen g .running) := ⟨hD, hR, J'⟩
  obtain ⟨W, ⟨m0, w0⟩, step⟩ := hq
  have tr : tn 0 (s.setGen g .running).heap := T.keep 0 _ _ t5 fun b hb o e => hk b o e
  have loop := gx_loop (iter := iter) (sc := scope) (pos := gpos) (pn := [(a, go)]) L.co T (fun P => hg _) (fun P => hc _) (fun P => he _) D hA (fun b hb => hb) (fun b hb => by
    refine ⟨Nat.ne_of_lt (flt b hb), fun z => ?_, fun x c e => (f4 b hb).2.2.2.2.1 x c (cm e), fun p hp z => ?_⟩
    · rcases List.mem_cons.mp (I4.stkSub _ z) with e | e
      · exact (f4 b hb).2.1 e
      · exact (f4 b hb).2.2.1 e
    · have : p = (a, go) := List.mem_singleton.mp hp
      subst this
      have h1 := flt b hb
      have z : a = b := z
      subst z
      omega) W step m0 (m0 + 1) 0 k0 P (s.setGen g .running) (s.setGen g .running) σ' H4 (Nat.lt_succ_self _) w0 am (fun p hp => (hP p hp).1) tr fun b hb => (f4 b hb).1
  refine ⟨hA, m0 + 1, gg _ (hk _ _ ga), am.lim, _, hgs, rfl, ?_⟩
  show Seg _ B _ _ _ _ _ ((compStart (.GeneratorExp elt [⟨tg, iter, cs, 0⟩] scope gpos) 0 (.ref it) .none (gxEnv X scope s4.heap.objs.size code)).onRaise (leaving (gxEnv X scope s4.heap.objs.size code))) [] _
  unfold compStart
  rw [Sem.onRaise_eq_wrap]
  show Seg _ B _ _ _ _ _ ((ask >>= _).wrap _ _ _ _) [] _
  refine seg_bind_wrap (wpAny_askSetting ?_)
  split
  · exact seg_again rfl loop
  · first
      | exact seg_bind_wrap (wpAny_rule (seg_bind_wrap (wpAny_standAt (seg_bind_wrap (T.self _ 0 _ _ _ tr (seg_again rfl loop))))))
      | (refine seg_bind_wrap (wpAny_rule ?_); show Seg _ B _ _ _ _ _ ((standAt iter.pos >>= _).wrap _ _ _ _) [] _; exact seg_bind_wrap (wpAny_standAt (seg_bind_wrap (T.self _ 0 _ _ _ tr (seg_again rfl loop)))))
end
end GxI
/-! text Gx7 -/
namespace GxI
open PySem PySem.Spec PyProof.Rows L2 GenW
/-! the consumers' loops -/
/-- a thing of the consumer's is written while the exception is in the air -/
theorem cx_upd {P : Program} {w : World} {outer : List Env} {H : Hp} {s : Shared} {E : XK} {pn : List (Addr × Obj)} {u : Value} {s' : Shared} {S : Addr} {o : Obj} {its : Array Value} {c : Nat} {f : Obj → Obj} {G : Array GenState} {tk : Nat} (h : CXp P w outer H s E pn u s') (hm : (S, o) ∈ pn) (hd : o.data = .seq its c)
    (hs : s.heap.get? S = none) (hfs : ∀ b ∈ frs outer, b ≠ S) (hG : AllBare G) : L2.CX P w outer H s E u { s' with heap := s'.heap.update S f, gens := G, toks := tk } := by
  obtain ⟨a, B, H', cls, d, rfl, ⟨fl1, fl2, fl3, fl4⟩, hok, ub, na, os, ag, hE, hp⟩ := h
  obtain ⟨hS, hS'⟩ := hp _ hm
  have oth : ∀ b ob, b ≠ S → s'.heap.get? b = some ob → (s'.heap.update S f).get? b = some ob := fun b ob hb e => (Heap.get?_update_other _ _ (Ne.symm hb)).trans e
  have hidB : ∀ b ob, B.get? b = some ob → b ≠ S → (PySem.W.hideAll B [S]).get? b = some ob := fun b ob e n => PySem.W.hideAll_get [S] e (by simpa using n)
  have nS : ∀ b ob vs, s'.heap.get? b = some ob → ob.data = .fields vs → b ≠ S := fun b ob vs e1 e2 z => by
    rw [z, hS] at e1
    cases e1
    have hd : o.data = .seq its c := hd
    rw [hd] at e2; cases e2
  refine ⟨a, PySem.W.hideAll B [S], H', cls, d, rfl, ⟨fun b ob e => oth b ob ?_ (fl1 b ob (PySem.W.of_hideAll [S] e)), ?_, ?_, ?_⟩, fun b q e => ?_, ⟨fun b ob e n hb => hidB b ob (ub.keep b ob e n hb) ?_, fun b ob e hb => ?_, ub.free, fun b ob e hb => ?_, ub.tups, ub.frzs, ub.tbls⟩, na, os, hG, hE⟩
  · intro z
    rw [z, PySem.W.hideAll_none [S] (by simp)] at e
    cases e
  · cases q : (PySem.W.hideAll B [S]).get? a with
    | none => rfl
    | some ob => have := PySem.W.of_hideAll [S] q; rw [fl2] at this; cases this
  · have all : ∀ (l : List Env), (∀ b ∈ frs l, b ≠ S) → s'.heap.FunFrames B l → (s'.heap.update S f).FunFrames (PySem.W.hideAll B [S]) l := by
      intro l
      induction l with
      | nil => intro _ _; trivial
      | cons env r ih =>
        intro hs hl
        obtain ⟨hk, ⟨L, ob, hf, hn, ho, hd⟩, hr⟩ := hl
        refine ⟨hk, ⟨L, ob, hf, ?_, oth L ob (hs L (List.mem_filterMap.mpr ⟨env, List.mem_cons_self, hf⟩)) ho, hd⟩, ih (fun b hb => hs b ?_) hr⟩
        · cases q : (PySem.W.hideAll B [S]).get? L with
          | none => rfl
          | some ob => have := PySem.W.of_hideAll [S] q; rw [hn] at this; cases this
        · obtain ⟨e, he, q⟩ := List.mem_filterMap.mp hb
          exact List.mem_filterMap.mpr ⟨e, List.mem_cons_of_mem _ he, q⟩
    exact all outer hfs fl3
  · obtain ⟨oe, vs, T, oT, ts, t1, t2, t3, t4, t5, t6, t7, t8, t9⟩ := fl4
    refine ⟨oe, vs, T, oT, ts, oth _ _ (nS _ _ _ t1 t3) t1, t2, t3, t4, ?_, t6, oth _ _ (nS _ _ _ t7 t8) t7, t8, t9⟩
    cases q : (PySem.W.hideAll B [S]).get? T with
    | none => rfl
    | some ob => have := PySem.W.of_hideAll [S] q; rw [t5] at this; cases this
  · refine (hok b q e).stay (fun c' v hc y => hidB c' v y fun z => ?_) (fun _ y => y) fun _ _ y => y
    rcases hc with y | y
    · rw [← y, z, hS'] at e; cases e
    · rw [z, hS'] at y; cases y
  · intro z
    rw [z, hs] at e; cases e
  · obtain ⟨sl, e1⟩ := ub.slot b ob e hb
    exact ⟨sl, oth _ _ (hfs b hb) e1⟩
  · obtain ⟨o', e1⟩ := ub.there b ob e hb
    refine ⟨o', hidB b o' e1 fun z => ?_⟩
    rw [z, hs] at e; cases e
def conL (S : Addr) (F : List V → Hp → Prop) : Con (List V) where
  CO := [S]
  Rep := fun k P => k.length ≤ sizeLine ∧ ∃ acc c, P = [(S, lstObj acc c)] ∧ Vals k acc.toList
  St := fun k x H p => k.length < sizeLine ∧ p (k ++ [x])
  Fin := F
  mono := fun _ _ _ _ _ h q => ⟨q.1, h _ q.2⟩
def conB (stop : Bool) (Fs Ff : Hp → Prop) : Con Unit where
  CO := []
  Rep := fun _ P => P = []
  St := fun _ x H p => ∃ b, x = .bl b ∧ if b = stop then Fs H else p ()
  Fin := fun _ H => Ff H
  mono := fun _ _ _ _ _ h ⟨b, e, q⟩ => ⟨b, e, by
    by_cases hb : b = stop
    · rw [if_pos hb] at q ⊢; exact q
    · rw [if_neg hb] at q ⊢; exact h _ q⟩
abbrev intObj (k : Int) (t : Tok) (c : Nat) : Obj := { cls := .type "list", dict := none, data := .seq #[.int k t] c, slots := #[] }
def conS (S : Addr) (F : Int → Hp → Prop) : Con Int where
  CO := [S]
  Rep := fun k P => ∃ t c, P = [(S, intObj k t c)]
  St := fun k x H p => ∃ i, x = .int i ∧ p (k + i)
  Fin := F
  mono := fun _ _ _ _ _ h ⟨i, e, q⟩ => ⟨i, e, h _ q⟩
section
variable {X : Cx} {Er : List (Addr × Obj) → Value → Shared → Prop} {A : Around} {a : Addr} {go : Obj} {g : Nat} {R : Result → Shared → Prop}
theorem stood_one {S : Addr} {o : Obj} {s : Shared} (h : Stood [(S, o)] s) : s.heap.get? S = some o := h (S, o) (List.mem_singleton.mpr rfl)
theorem wake_upd {S : Addr} {o : Obj} {f : Obj → Obj} {s : Shared} {tk : Nat} (hS : s.heap.get? S = some o) (hf : (f o).isFreed = false) (hc : ∀ v, (f o).data ≠ .cell v) (hb : AllBare s.gens) : Wake [(S, f o)] s { s with heap := s.heap.update S f, toks := tk } where
  os := rfl
  bare := hb
  keep := fun b o' h e => (Heap.get?_update_other _ _ (fun z : S = b => h (by simp [z]))).trans e
  own := fun p hp => by
    rw [List.mem_singleton.mp hp]
    exact ⟨Heap.get?_update_self f hS hf, hc⟩
theorem loop_extend {S : Addr} {Fq : List V → Hp → Prop} {res : Value} (hh : A.handled = none) (hroom : A.depth < recursionLimit) (hA : Apart X [S]) (hpn : X.pn = [(a, go)]) (hgo : ∀ h : Heap, h.get? a = some go → h.IsGen a g)
    (hend : ∀ k acc c σ H s', Amid X (conL S Fq) k [(S, lstObj acc c)] σ H s' → Vals k acc.toList → k.length ≤ sizeLine → Fq k H → R (.ok (.ret res)) s')
    (hexc : ∀ k P e s', P.map (·.1) = (conL S Fq).CO → (conL S Fq).Rep k P → Er P e s' → s'.heap.IsGen a g ∧ NotStop (model X.prog X.w) e s'.heap ∧ R (.error e) (s'.setGen g .finished)) :
    ∀ (n : Nat) (s : Shared), Ready X (conL S Fq) Er A.in1.in1 a g n s → codeAny (model X.prog X.w) A (.builtin "list.extend.loop" ⟨[.ref S, .ref a, res], []⟩) R s := by
  intro n
  induction n using Nat.strongRecOn with
  | ind n ih =>
    intro s rd
    refine codeAny_builtin F.entry_extend_loop ?_
    rw [Around.under_plainId F.plain_extend_loop _]
    show wpAny _ A.in1 (pyNext (.ref a) >>= _) _ _ s
    refine wpAny_bind (gx_next (A := A.in1) hh hroom hA hpn hgo rd (fun k P σ H s' am sd fin => ?_) (fun k P x v σ H s' rv am sd st => ?_) fun e s' ⟨k, P, h1, h2, h3⟩ => hexc k P e s' h1 h2 h3)
    · obtain ⟨hle, acc, c, rfl, hv⟩ := am.2.1
      exact wpAny_pure (hend k acc c σ H s' am hv hle fin)
    · obtain ⟨_, acc, c, rfl, hv⟩ := am.2.1
      obtain ⟨hlt, st⟩ := st
      have hS : s'.heap.get? S = some (lstObj acc c) := (am.2.2.pin (S, lstObj acc c) (List.mem_append_right _ (List.mem_singleton.mpr rfl))).1
      have hl : acc.size < sizeLine := by
        have h2 : k.length = acc.size := by simpa using hv.length
        omega
      show wpAny _ A.in1 (updateSeq S (·.push v) >>= _) _ _ _
      refine wpAny_bind ?_
      refine wpAny_updateSeq hS rfl (wpAny_pure ⟨plainId_quiet F.plain_extend_loop _, ?_⟩) (Nat.le_of_lt hl) (by show (acc.push v).size ≤ sizeLine + 1; rw [Array.size_push]; omega)
      obtain ⟨m, hm, rd'⟩ := st [(S, Obj.mapSeq (·.push v) (lstObj acc c))] { s' with heap := s'.heap.update S (Obj.mapSeq (·.push v)) } rfl ⟨by rw [List.length_append, List.length_singleton]; omega, acc.push v, _, rfl, by rw [Array.toList_push]; exact hv.append (.cons rv .nil)⟩
        (wake_upd (tk := s'.toks) hS rfl (fun v z => by cases z) am.bare) rfl
      exact ih m hm _ rd'
theorem loop_any {Fs Ff : Hp → Prop} (hh : A.handled = none) (hroom : A.depth < recursionLimit) (hA : Apart X []) (hpn : X.pn = [(a, go)]) (hgo : ∀ h : Heap, h.get? a = some go → h.IsGen a g)
    (hyes : ∀ σ H s', Amid X (conB true Fs Ff) () [] σ H s' → Fs H → R (.ok (.ret (.bool true))) s') (hno : ∀ σ H s', Amid X (conB true Fs Ff) () [] σ H s' → Ff H → R (.ok (.ret (.bool false))) s')
    (hexc : ∀ k P e s', P.map (·.1) = (conB true Fs Ff).CO → (conB true Fs Ff).Rep k P → Er P e s' → s'.heap.IsGen a g ∧ NotStop (model X.prog X.w) e s'.heap ∧ R (.error e) (s'.setGen g .finished)) :
    ∀ (n : Nat) (s : Shared), Ready X (conB true Fs Ff) Er A.in1.in1 a g n s → codeAny (model X.prog X.w) A (.builtin "any.loop" ⟨[.ref a], []⟩) R s := by
  intro n
  induction n using Nat.strongRecOn with
  | ind n ih =>
    intro s rd
    refine codeAny_builtin F.entry_any_loop ?_
    rw [Around.under_plainId F.plain_any_loop _]
    show wpAny _ A.in1 (pyNext (.ref a) >>= _) _ _ s
    refine wpAny_bind (gx_next (A := A.in1) hh hroom hA hpn hgo rd (fun k P σ H s' am sd fin => ?_) (fun k P x v σ H s' rv am sd st => ?_) fun e s' ⟨k, P, h1, h2, h3⟩ => hexc k P e s' h1 h2 h3)
    · obtain rfl : P = [] := am.2.1
      exact wpAny_bind (wpAny_rule (wpAny_pure (hno σ H s' am fin)))
    · obtain rfl : P = [] := am.2.1
      obtain ⟨b, rfl, st⟩ := st
      obtain rfl : v = .bool b := rv
      refine wpAny_bind (wpAny_holding (wpAny_truthy_bool ?_))
      refine wpAny_bind (wpAny_letGo ?_)
      cases b with
      | false =>
        simp only [Bool.false_eq_true, if_false] at st ⊢
        obtain ⟨m, hm, rd'⟩ := st [] s' rfl rfl ⟨rfl, am.bare, fun _ _ _ e => e, fun p hp => absurd hp (by simp)⟩ rfl
        exact wpAny_pure ⟨plainId_quiet F.plain_any_loop _, ih m hm _ rd'⟩
      | true =>
        simp only [if_true] at st ⊢
        exact wpAny_bind (wpAny_rule (wpAny_pure (hyes σ H s' am st)))
theorem loop_all {Fs Ff : Hp → Prop} (hh : A.handled = none) (hroom : A.depth < recursionLimit) (hA : Apart X []) (hpn : X.pn = [(a, go)]) (hgo : ∀ h : Heap, h.get? a = some go → h.IsGen a g)
    (hyes : ∀ σ H s', Amid X (conB false Fs Ff) () [] σ H s' → Fs H → R (.ok (.ret (.bool false))) s') (hno : ∀ σ H s', Amid X (conB false Fs Ff) () [] σ H s' → Ff H → R (.ok (.ret (.bool true))) s')
    (hexc : ∀ k P e s', P.map (·.1) = (conB false Fs Ff).CO → (conB false Fs Ff).Rep k P → Er P e s' → s'.heap.IsGen a g ∧ NotStop (model X.prog X.w) e s'.heap ∧ R (.error e) (s'.setGen g .finished)) :
    ∀ (n : Nat) (s : Shared), Ready X (conB false Fs Ff) Er A.in1.in1 a g n s → codeAny (model X.prog X.w) A (.builtin "all.loop" ⟨[.ref a], []⟩) R s := by
  intro n
  induction n using Nat.strongRecOn with
  | ind n ih =>
    intro s rd
    refine codeAny_builtin F.entry_all_loop ?_
    rw [Around.under_plainId F.plain_all_loop _]
    show wpAny _ A.in1 (pyNext (.ref a) >>= _) _ _ s
    refine wpAny_bind (gx_next (A := A.in1) hh hroom hA hpn hgo rd (fun k P σ H s' am sd fin => ?_) (fun k P x v σ H s' rv am sd st => ?_) fun e s' ⟨k, P, h1, h2, h3⟩ => hexc k P e s' h1 h2 h3)
    · obtain rfl : P = [] := am.2.1
      exact wpAny_bind (wpAny_rule (wpAny_pure (hno σ H s' am fin)))
    · obtain rfl : P = [] := am.2.1
      obtain ⟨b, rfl, st⟩ := st
      obtain rfl : v = .bool b := rv
      refine wpAny_bind (wpAny_holding (wpAny_truthy_bool ?_))
      refine wpAny_bind (wpAny_letGo ?_)
      cases b with
      | true =>
        simp only [Bool.true_eq_false, Bool.false_eq_true, if_true, if_false, reduceCtorEq] at st ⊢
        obtain ⟨m, hm, rd'⟩ := st [] s' rfl rfl ⟨rfl, am.bare, fun _ _ _ e => e, fun p hp => absurd hp (by simp)⟩ rfl
        exact wpAny_pure ⟨plainId_quiet F.plain_all_loop _, ih m hm _ rd'⟩
      | false =>
        simp only [if_true, Bool.false_eq_true, if_false] at st ⊢
        exact wpAny_bind (wpAny_rule (wpAny_pure (hyes σ H s' am st)))
theorem loop_sum {S : Addr} {Fq : Int → Hp → Prop} (hh : A.handled = none) (hroom : A.depth < recursionLimit) (hA : Apart X [S]) (hpn : X.pn = [(a, go)]) (hgo : ∀ h : Heap, h.get? a = some go → h.IsGen a g)
    (hend : ∀ k t c σ H s', Amid X (conS S Fq) k [(S, intObj k t c)] σ H s' → Fq k H → R (.ok (.ret (.int k t))) s')
    (hexc : ∀ k P e s', P.map (·.1) = (conS S Fq).CO → (conS S Fq).Rep k P → Er P e s' → s'.heap.IsGen a g ∧ NotStop (model X.prog X.w) e s'.heap ∧ R (.error e) { s'.setGen g .finished with heap := s'.heap.update S (Obj.mapSeq fun _ => #[]) })
    (hst2 : ∀ P e s', Er P e s' → Stood P s') :
    ∀ (n : Nat) (s : Shared) (k : Int) (t : Tok) (c : Nat) (st : Int), (st = 0 ∨ st = 2) → s.heap.get? S = some (intObj k t c) → Ready X (conS S Fq) Er A.in1.in1 a g n s →
      codeAny (model X.prog X.w) A (.builtin "sum.loop" ⟨[.ref a, .ref S, rawInt st, rawInt 0], []⟩) R s := by
  intro n
  induction n using Nat.strongRecOn with
  | ind n ih =>
    intro s k t c st hst hS rd
    refine codeAny_builtin F.entry_sum_loop ?_
    rw [Around.under_plainId F.plain_sum_loop _]
    show wpAny _ A.in1 (seqItems? (.ref S) >>= _) _ _ s
    refine wpAny_bind (wpAny_seqItems hS rfl ?_)
    show wpAny _ A.in1 (tryCatch (pyNext (.ref a)) _ >>= _) _ _ s
    refine wpAny_bind (wpAny_tryCatch (gx_next (A := A.in1) hh hroom hA hpn hgo rd (fun k' P σ H s' am sd fin => ?_) (fun k' P x v σ H s' rv am sd stt => ?_) fun e s' he => ?_))
    · obtain ⟨t', c', rfl⟩ := am.2.1
      have e0 := stood_one sd
      rw [hS] at e0
      cases e0
      exact wpAny_pure (hend k t c σ H s' am fin)
    · obtain ⟨t', c', rfl⟩ := am.2.1
      have e0 := stood_one sd
      rw [hS] at e0
      cases e0
      obtain ⟨i, rfl, stt⟩ := stt
      obtain ⟨tv, rfl⟩ := rv
      have hS' : s'.heap.get? S = some (intObj k t c) := (am.2.2.pin (S, intObj k t c) (List.mem_append_right _ (List.mem_singleton.mpr rfl))).1
      have next : ∀ (h' : Heap) (t2 : Nat) (c2 : Nat), (∀ b o, b ≠ S → s'.heap.get? b = some o → h'.get? b = some o) → h'.get? S = some (intObj (k + i) t2 c2) → ∀ st2, (st2 = 0 ∨ st2 = 2) → ∀ tk,
          codeAny (model X.prog X.w) A (.builtin "sum.loop" ⟨[.ref a, .ref S, rawInt st2, rawInt 0], []⟩) R { s' with heap := h', toks := tk } := fun h' t2 c2 hk hS2 st2 hst2 tk => by
        obtain ⟨m, hm, rd'⟩ := stt [(S, intObj (k + i) t2 c2)] { s' with heap := h', toks := tk } rfl ⟨t2, c2, rfl⟩ ⟨rfl, am.bare, fun b o hb e => hk b o (fun z => hb (by simp [z])) e, fun p hp => by
          rw [List.mem_singleton.mp hp]
          exact ⟨hS2, fun v z => by cases z⟩⟩ rfl
        exact ih m hm _ (k + i) t2 c2 st2 hst2 hS2 rd'
      rcases hst with rfl | rfl
      · show wpAny _ A.in1 (if (_ : Bool) = true then (mkInt (k + i) >>= _) else _) _ _ _
        split
        · refine wpAny_bind (wpAny_mkInt ?_)
          show wpAny _ A.in1 (updateSeq S (fun _ => #[.int (k + i) s'.toks]) >>= _) _ _ _
          refine wpAny_bind ?_
          exact wpAny_updateSeq hS' rfl (wpAny_pure ⟨plainId_quiet F.plain_sum_loop _, next _ s'.toks _ (fun b o hb e => (Heap.get?_update_other _ _ (Ne.symm hb)).trans e) (Heap.get?_update_self _ hS' rfl) 0 (.inl rfl) _⟩)
        · refine wpAny_bind (wpAny_rule ?_)
          refine wpAny_bind (wpAny_attempt (wpAny_holding (wpAny_add_int ?_)))
          show wpAny _ A.in1 (updateSeq S (fun _ => #[.int (k + i) s'.toks]) >>= _) _ _ _
          refine wpAny_bind (wpAny_updateSeq hS' rfl ?_)
          have hS₂ := Heap.get?_update_self (Obj.mapSeq fun _ => #[Value.int (k + i) s'.toks]) hS' rfl
          refine wpAny_bind (wpAny_letGo ?_)
          exact wpAny_bind (wpAny_updateSeq hS₂ rfl (wpAny_pure ⟨plainId_quiet F.plain_sum_loop _, next _ s'.toks _ (fun b o hb e => (Heap.get?_update_other _ _ (Ne.symm hb)).trans ((Heap.get?_update_other _ _ (Ne.symm hb)).trans e)) (Heap.get?_update_self _ hS₂ rfl) 2 (.inr rfl) _⟩))
      · show wpAny _ A.in1 ((holding [Value.int i tv] (binaryOp .Add (.int k t) (.int i tv))).attempt >>= _) _ _ _
        refine wpAny_bind (wpAny_attempt (wpAny_holding (wpAny_add_int ?_)))
        show wpAny _ A.in1 (updateSeq S (fun _ => #[.int (k + i) s'.toks]) >>= _) _ _ _
        refine wpAny_bind (wpAny_updateSeq hS' rfl ?_)
        have hS₂ := Heap.get?_update_self (Obj.mapSeq fun _ => #[Value.int (k + i) s'.toks]) hS' rfl
        refine wpAny_bind (wpAny_letGo ?_)
        exact wpAny_bind (wpAny_updateSeq hS₂ rfl (wpAny_pure ⟨plainId_quiet F.plain_sum_loop _, next _ s'.toks _ (fun b o hb e => (Heap.get?_update_other _ _ (Ne.symm hb)).trans ((Heap.get?_update_other _ _ (Ne.symm hb)).trans e)) (Heap.get?_update_self _ hS₂ rfl) 2 (.inr rfl) _⟩))
    · obtain ⟨k', P, e1, e2, e3⟩ := he
      obtain ⟨h1, h2, h3⟩ := hexc k' P e s' e1 e2 e3
      refine ⟨h1, h2, ?_⟩
      obtain ⟨t', c', rfl⟩ := e2
      have hS' : s'.heap.get? S = some (intObj k' t' c') := stood_one (hst2 _ e s' e3)
      show wpAny _ A.in1 (updateSeq S (fun _ => #[]) >>= _) _ _ _
      refine wpAny_bind (wpAny_updateSeq (s := s'.setGen g .finished) hS' rfl (wpAny_bind (wpAny_letGo (wpAny_throw ?_))))
      exact h3
end
end GxI
/-! text Gx8 -/
namespace GxI
open PySem PySem.Spec PyProof.Rows L2 GenW
/-- a generator that has not begun, for whatever consumer whose wish is told -/
structure Waits (X : Cx) (pins : List (Addr × Obj)) (σ : L2.St) (j : Nat) (wish : (κ : Type) → Con κ → κ → Prop) (a : Addr) (g : Nat) (go : Obj) (s5 : Shared) : Prop where
  gen : ∀ h : Heap, h.get? a = some go → h.IsGen a g
  get : s5.heap.get? a = some go
  bare : AllBare s5.gens
  run : ∀ (κ : Type) (D : Con κ) (k0 : κ) (B : Around) (P : List (Addr × Obj)) (s : Shared), wish κ D k0 → Room (j + 1) B → B.frames = some X.stack → P.map (·.1) = D.CO → D.Rep k0 P → s.os = s5.os → s.gens = s5.gens → (∀ b o, s5.heap.get? b = some o → s.heap.get? b = some o) →
    (∀ p ∈ P, s.heap.get? p.1 = some p.2 ∧ s5.heap.objs.size ≤ p.1 ∧ ∀ v, p.2.data ≠ .cell v) →
    ∃ (X' : Cx) (Er : List (Addr × Obj) → Value → Shared → Prop) (n : Nat), X'.prog = X.prog ∧ X'.w = X.w ∧ Apart X' D.CO ∧ X'.pn = [(a, go)] ∧ Ready X' D Er B a g n s ∧ (∀ k P σ' H' s', Amid X' D k P σ' H' s' → Inv X pins σ H' s') ∧
      ∀ P e s', Er P e s' → Stood P s' ∧ AllBare s'.gens ∧ s'.heap.IsGen a g ∧ NotStop (model X.prog X.w) e s'.heap ∧ (∀ G tk, AllBare G → X.xe e { s' with gens := G, toks := tk }) ∧
        ∀ S o its c f G tk, (S, o) ∈ P → S ∈ D.CO → o.data = .seq its c → AllBare G → X.xe e { s' with heap := s'.heap.update S f, gens := G, toks := tk }
section
variable {X : Cx} {pins : List (Addr × Obj)} {σ : L2.St} {j : Nat} {wish : (κ : Type) → Con κ → κ → Prop} {a : Addr} {g : Nat} {go : Obj} {s5 : Shared}
theorem wipe_list {s : Shared} : (s.heap.push { cls := .type "list", data := .seq ([] : List Value).toArray }).get? s.heap.objs.size = some (lstObj #[] 0) := Heap.get?_push_size _ rfl
/-- all items, into a new list -/
theorem collectG {A : Around} {Fq : List V → Hp → Prop} {Q : List Value → Shared → Prop} (W : Waits X pins σ j wish a g go s5) (hq : ∀ S, wish _ (conL S Fq) []) (hr : Room (j + 1) A.in1.in1) (hfr : A.frames = some X.stack)
    (hQ : ∀ k us H' s', Inv X pins σ H' s' → Vals k us → us.length ≤ sizeLine → Fq k H' → Q us s') : wpAny (model X.prog X.w) A (collect (.ref a)) Q X.xe s5 := by
  have hroom : A.depth < recursionLimit := by have := hr.dp; show A.depth < _; have : A.in1.in1.depth = A.depth := rfl; omega
  have hlta := Heap.lt_size W.get
  have hSI : s5.heap.objs.size ≠ a := Nat.ne_of_gt hlta
  unfold collect
  refine wpAny_bind (wpAny_runValue (codeAny_builtin F.entry_proto_collect ?_))
  rw [Around.under_plainId F.plain_proto_collect _]
  show wpAny _ A.in1 (newList [] >>= fun l => again (.builtin "list.__iadd__" ⟨[l, .ref a], []⟩)) _ _ s5
  refine wpAny_bind (wpAny_newObj_type ?_)
  refine wpAny_pure ⟨plainId_quiet F.plain_list_iadd _, codeAny_builtin F.entry_list_iadd ?_⟩
  rw [Around.under_plainId F.plain_list_iadd _]
  show wpAny _ A.in1 (Builtin.List.listExtendWith (.ref s5.heap.objs.size) (.ref a) (.ref s5.heap.objs.size)) _ _ _
  unfold Builtin.List.listExtendWith
  have k1 : ∀ b o, s5.heap.get? b = some o → (s5.heap.push { cls := .type "list", data := .seq ([] : List Value).toArray }).get? b = some o := fun b o e => Heap.get?_push_of_some _ e
  have gty : ∀ {h : Heap}, (∀ b o, s5.heap.get? b = some o → h.get? b = some o) → h.IsGen a g := fun {h} q => W.gen h (q _ _ W.get)
  refine wpAny_bind (wpAny_typeOf (Heap.IsGen.typeIs (s := { s5 with heap := _ }) (gty k1)) ?_)
  have h1 : Builtin.List.listSameRef (.ref s5.heap.objs.size) (.ref a) = false := by simp [Builtin.List.listSameRef, hSI]
  have h2 : (Value.type "generator" == Value.type "list") = false := by decide
  have h3 : (Value.type "generator" == Value.type "tuple") = false := by decide
  simp only [h1, h2, h3, Bool.or_false, Bool.false_eq_true, if_false]
  refine wpAny_bind (wpAny_pyIter_gen (s := { s5 with heap := _ }) (gty k1) ?_)
  refine wpAny_bind (wpAny_holding ?_)
  unfold Builtin.List.listLengthHint
  refine wpAny_bind (wpAny_specialOf (Heap.IsGen.typeIs (s := { s5 with heap := _ }) (gty k1)) F.gen_no_len ?_)
  show wpAny _ A.in1 (specialOf (Value.ref a) (Str.ofString "__length_hint__") >>= _) _ _ _
  refine wpAny_bind (wpAny_specialOf (Heap.IsGen.typeIs (s := { s5 with heap := _ }) (gty k1)) F.gen_no_hint ?_)
  refine wpAny_pure ?_
  show wpAny _ A.in1 (rule "list.extend.makes-room" >>= fun _ => Builtin.List.listTouch (.ref s5.heap.objs.size) >>= fun _ =>
    again (.builtin "list.extend.loop" ⟨[.ref s5.heap.objs.size, .ref a, .ref s5.heap.objs.size], []⟩)) _ _ _
  refine wpAny_bind (wpAny_rule ?_)
  have hS₁ : (s5.heap.push { cls := .type "list", data := .seq ([] : List Value).toArray }).get? s5.heap.objs.size = some { cls := .type "list", data := .seq ([] : List Value).toArray } := Heap.get?_push_size _ rfl
  refine wpAny_bind ?_
  show wpAny _ A.in1 (updateSeq s5.heap.objs.size (·.push .none) >>= fun _ => updateSeq s5.heap.objs.size (·.pop)) _ _ _
  refine wpAny_bind (wpAny_updateSeq hS₁ rfl ?_)
  have hS₂ := Heap.get?_update_self (Obj.mapSeq (·.push Value.none)) hS₁ rfl
  refine wpAny_updateSeq hS₂ rfl ?_
  have hS₃ := Heap.get?_update_self (Obj.mapSeq (·.pop)) hS₂ rfl
  have oth : ∀ b o, s5.heap.get? b = some o →
      (((s5.heap.push { cls := .type "list", data := .seq ([] : List Value).toArray }).update s5.heap.objs.size (Obj.mapSeq (·.push Value.none))).update s5.heap.objs.size (Obj.mapSeq (·.pop))).get? b = some o :=
    fun b o e => (Heap.get?_update_other _ _ (Ne.symm (Nat.ne_of_lt (Heap.lt_size e)))).trans ((Heap.get?_update_other _ _ (Ne.symm (Nat.ne_of_lt (Heap.lt_size e)))).trans (k1 b o e))
  refine wpAny_pure ⟨plainId_quiet F.plain_extend_loop _, ?_⟩
  obtain ⟨X', Er, n, hp, hw, hA, hpn, rd, back, exc⟩ := W.run _ (conL s5.heap.objs.size Fq) [] A.in1.in1 [(s5.heap.objs.size, lstObj #[] _)] { s5 with heap := (((s5.heap.push { cls := .type "list", data := .seq ([] : List Value).toArray }).update s5.heap.objs.size (Obj.mapSeq (·.push Value.none))).update s5.heap.objs.size (Obj.mapSeq (·.pop))) } (hq _) hr hfr rfl ⟨Nat.zero_le _, #[], _, rfl, .nil⟩ rfl rfl oth fun p hp => by
    rw [List.mem_singleton.mp hp]
    exact ⟨hS₃, Nat.le_refl _, fun v z => by cases z⟩
  rw [← hp, ← hw]
  refine loop_extend (A := A) hr.hd hroom hA hpn W.gen (fun k acc c σ' H' s' am hv hle hF => ?_) (fun k P e s' e1 e2 he => ?_) n _ rd
  · show wpAny _ A (load s5.heap.objs.size >>= _) _ _ s'
    have hS : s'.heap.get? s5.heap.objs.size = some (lstObj acc c) := (am.2.2.pin (s5.heap.objs.size, lstObj acc c) (List.mem_append_right _ (List.mem_singleton.mpr rfl))).1
    refine wpAny_bind (wpAny_load hS ?_)
    exact wpAny_pure (hQ k acc.toList H' s' (back _ _ _ _ _ am) hv (by rw [← hv.length]; exact hle) hF)
  · obtain ⟨x1, x2, x3, x4, x5, x6⟩ := exc P e s' he
    rw [hp, hw]
    exact ⟨x3, x4, x5 _ _ (allBare_setGen x2 rfl)⟩
end
end GxI
/-! text Gx9 -/
namespace GxI
open PySem PySem.Spec PyProof.Rows L2 GenW
section
variable {X : Cx} {pins : List (Addr × Obj)} {σ : L2.St} {j : Nat} {wish : (κ : Type) → Con κ → κ → Prop} {a : Addr} {g : Nat} {go : Obj} {s5 : Shared}
theorem room_in {k : Nat} {A : Around} (r : Room (k + 1) A) : Room k A.in1 := r.in1
theorem code_tupG {A : Around} {Fq : List V → Hp → Prop} {Q₁ : Value → Shared → Prop} (W : Waits X pins σ j wish a g go s5) (hq : ∀ S, wish _ (conL S Fq) []) (hr : Room (j + 5) A) (hfr : A.frames = some X.stack)
    (h : ∀ k us H' s', Inv X pins σ H' s' → Vals k us → us.length ≤ sizeLine → Fq k H' → Q₁ (.ref s'.heap.objs.size) { s' with heap := s'.heap.push { cls := .type "tuple", data := .seq us.toArray } }) :
    codeAny (model X.prog X.w) A (.call (.builtin "tuple.__new__") ⟨[.type "tuple", .ref a], []⟩) (wants Q₁ X.xe) s5 := by
  refine codeAny_of_tree ?_
  show wpAny _ A.in1 (do checkBuiltinCall "tuple.__new__" ⟨[.type "tuple", .ref a], []⟩; again (.builtin "tuple.__new__" ⟨[.type "tuple", .ref a], []⟩)) _ _ s5
  refine wpAny_bind (wpAny_of_eq (F.newCall_tuple_1 _) (wpAny_pure ⟨plainId_quiet F.plain_tuple_new _, codeAny_builtin F.entry_tuple_new ?_⟩))
  rw [Around.under_plainId F.plain_tuple_new _]
  have hsub := sub_tuple_self
  have hinit := init_tuple_lookup
  have hmh := madeHere_tuple
  have hTI : s5.TypeIs (.ref a) "generator" := (W.gen _ W.get).typeIs
  wp_walk using wpAny_typeOf hTI, collectG (A := A.in1) W hq ((hr.in1.in1.in1).mono (by omega)) hfr
  intro k us H' s' I' hv hle hF
  show wpAny _ _ (Builtin.Tuple.tupleExact us.toArray >>= fun v => ret v) _ _ _
  unfold Builtin.Tuple.tupleExact
  refine wpAny_bind (wpAny_newObj_type ?_ (by show us.toArray.size ≤ sizeLine; simpa using hle))
  exact wpAny_pure (h k us H' s' I' hv hle hF)
theorem callG_tup {A : Around} {Fq : List V → Hp → Prop} {Q : Value → Shared → Prop} (W : Waits X pins σ j wish a g go s5) (hq : ∀ S, wish _ (conL S Fq) []) (hr : Room (j + 8) A) (hfr : A.frames = some X.stack)
    (h : ∀ k us H' s', Inv X pins σ H' s' → Vals k us → us.length ≤ sizeLine → Fq k H' → Q (.ref s'.heap.objs.size) { s' with heap := s'.heap.push { cls := .type "tuple", data := .seq us.toArray } }) :
    wpAny (model X.prog X.w) A (call (.type "tuple") [.ref a]) Q X.xe s5 := by
  refine callType_codes (Q₁ := fun obj s₁ => s₁.TypeIs obj "tuple" ∧ Q obj s₁) F.called_tuple (F.typeCall_tuple_1 _) F.entry_object_init
    (code_tupG W hq ((hr.in1).mono (by omega)) hfr fun k us H' s' I' hv hle hF => ⟨⟨_, Heap.get?_push_size _ rfl, rfl⟩, h k us H' s' I' hv hle hF⟩) fun obj s₁ h₁ => ?_
  exact ⟨h₁.1, F.args_object_init_2 obj _, object_init_meets F.called_tuple.init.lookup F.called_tuple.made (by decide) X.prog X.w A.in1 _ s₁ ⟨h₁.1, rfl, h₁.2⟩⟩
theorem callG_any {A : Around} {Fs Ff : Hp → Prop} {Q : Value → Shared → Prop} (W : Waits X pins σ j wish a g go s5) (hq : wish _ (conB true Fs Ff) ()) (hr : Room (j + 8) A) (hfr : A.frames = some X.stack)
    (hy : ∀ H' s', Inv X pins σ H' s' → Fs H' → Q (.bool true) s') (hn : ∀ H' s', Inv X pins σ H' s' → Ff H' → Q (.bool false) s') : wpAny (model X.prog X.w) A (call (.builtin "any") [.ref a]) Q X.xe s5 := by
  refine call_function_tree F.kind_any F.plain_any F.entry_any (F.args_any1 _) ?_
  unfold Builtin.«any»
  refine wpAny_bind (m := oneArg "any" _) (wpAny_pure ?_)
  refine wpAny_bind (wpAny_pyIter_gen (W.gen _ W.get) ?_)
  refine wpAny_pure ⟨plainId_quiet F.plain_any_loop _, ?_⟩
  obtain ⟨X', Er, n, hp, hw, hA, hpn, rd, back, exc⟩ := W.run _ (conB true Fs Ff) () A.in1.in1 [] s5 hq ((hr.in1.in1).mono (by omega)) hfr rfl rfl rfl rfl (fun _ _ e => e) fun p hp => absurd hp (by simp)
  rw [← hp, ← hw]
  refine loop_any (A := A) hr.hd hr.depth hA hpn W.gen (fun σ' H' s' am hF => ?_) (fun σ' H' s' am hF => ?_) (fun k P e s' e1 e2 he => ?_) n _ rd
  · exact hy H' s' (back _ _ _ _ _ am) hF
  · exact hn H' s' (back _ _ _ _ _ am) hF
  · obtain ⟨x1, x2, x3, x4, x5, x6⟩ := exc P e s' he
    rw [hp, hw]
    exact ⟨x3, x4, x5 _ _ (allBare_setGen x2 rfl)⟩
theorem callG_all {A : Around} {Fs Ff : Hp → Prop} {Q : Value → Shared → Prop} (W : Waits X pins σ j wish a g go s5) (hq : wish _ (conB false Fs Ff) ()) (hr : Room (j + 8) A) (hfr : A.frames = some X.stack)
    (hy : ∀ H' s', Inv X pins σ H' s' → Fs H' → Q (.bool false) s') (hn : ∀ H' s', Inv X pins σ H' s' → Ff H' → Q (.bool true) s') : wpAny (model X.prog X.w) A (call (.builtin "all") [.ref a]) Q X.xe s5 := by
  refine call_function_tree F.kind_all F.plain_all F.entry_all (F.args_all1 _) ?_
  unfold Builtin.«all»
  refine wpAny_bind (m := oneArg "all" _) (wpAny_pure ?_)
  refine wpAny_bind (wpAny_pyIter_gen (W.gen _ W.get) ?_)
  refine wpAny_pure ⟨plainId_quiet F.plain_all_loop _, ?_⟩
  obtain ⟨X', Er, n, hp, hw, hA, hpn, rd, back, exc⟩ := W.run _ (conB false Fs Ff) () A.in1.in1 [] s5 hq ((hr.in1.in1).mono (by omega)) hfr rfl rfl rfl rfl (fun _ _ e => e) fun p hp => absurd hp (by simp)
  rw [← hp, ← hw]
  refine loop_all (A := A) hr.hd hr.depth hA hpn W.gen (fun σ' H' s' am hF => ?_) (fun σ' H' s' am hF => ?_) (fun k P e s' e1 e2 he => ?_) n _ rd
  · exact hy H' s' (back _ _ _ _ _ am) hF
  · exact hn H' s' (back _ _ _ _ _ am) hF
  · obtain ⟨x1, x2, x3, x4, x5, x6⟩ := exc P e s' he
    rw [hp, hw]
    exact ⟨x3, x4, x5 _ _ (allBare_setGen x2 rfl)⟩
theorem callG_sum {A : Around} {Fq : Int → Hp → Prop} {Q : Value → Shared → Prop} (W : Waits X pins σ j wish a g go s5) (hq : ∀ S, wish _ (conS S Fq) 0) (hr : Room (j + 8) A) (hfr : A.frames = some X.stack)
    (h : ∀ k t H' s', Inv X pins σ H' s' → Fq k H' → Q (.int k t) s') : wpAny (model X.prog X.w) A (call (.builtin "sum") [.ref a]) Q X.xe s5 := by
  refine call_function_tree F.kind_sum F.plain_sum F.entry_sum (F.args_sum1 _) ?_
  unfold Builtin.«sum»
  simp only [List.length_cons, List.length_nil]
  rw [if_neg (by decide)]
  refine wpAny_bind (wpAny_of_eq (show Builtin.Builtins.bindParams "sum" ["start"] 0 { } = pure [none] from rfl) ?_)
  refine wpAny_bind (wpAny_pyIter_gen (W.gen _ W.get) ?_)
  refine wpAny_bind (wpAny_mkInt ?_)
  refine wpAny_bind (wpAny_pure ?_)
  simp only [List.forIn_cons, List.forIn_nil]
  refine wpAny_bind (wpAny_bind (wpAny_bind (wpAny_isInstance (T := "int") (b := false) (typeIs_int _ _ _) PySem.sub_int_str ?_)))
  simp only [Bool.false_eq_true, if_false]
  refine wpAny_pure (wpAny_bind (wpAny_bind (wpAny_isInstance (T := "int") (b := false) (typeIs_int _ _ _) PySem.sub_int_bytes ?_)))
  simp only [Bool.false_eq_true, if_false]
  refine wpAny_pure (wpAny_bind (wpAny_bind (wpAny_isInstance (T := "int") (b := false) (typeIs_int _ _ _) PySem.sub_int_bytearray ?_)))
  simp only [Bool.false_eq_true, if_false]
  refine wpAny_pure (wpAny_pure ?_)
  refine wpAny_bind (wpAny_newObj_type ?_)
  refine wpAny_pure ⟨plainId_quiet F.plain_sum_loop _, ?_⟩
  have hS : (s5.heap.push { cls := .type "list", data := .seq #[.int 0 s5.toks] }).get? s5.heap.objs.size = some (intObj 0 s5.toks 0) := Heap.get?_push_size _ rfl
  obtain ⟨X', Er, n, hp, hw, hA, hpn, rd, back, exc⟩ := W.run _ (conS s5.heap.objs.size Fq) 0 A.in1.in1 [(s5.heap.objs.size, intObj 0 s5.toks 0)] { s5 with heap := s5.heap.push { cls := .type "list", data := .seq #[.int 0 s5.toks] }, toks := s5.toks + 1 } (hq _) ((hr.in1.in1).mono (by omega)) hfr rfl ⟨_, _, rfl⟩ rfl rfl (fun _ _ e => Heap.get?_push_of_some _ e) fun p hp => by
    rw [List.mem_singleton.mp hp]
    exact ⟨hS, Nat.le_refl _, fun v z => by cases z⟩
  rw [← hp, ← hw]
  refine loop_sum (A := A) hr.hd hr.depth hA hpn W.gen (fun k t c σ' H' s' am hF => ?_) (fun k P e s' e1 e2 he => ?_) (fun P e s' he => (exc P e s' he).1) n _ 0 s5.toks 0 0 (.inl rfl) hS rd
  · exact h k t H' s' (back _ _ _ _ _ am) hF
  · obtain ⟨x1, x2, x3, x4, x5, x6⟩ := exc P e s' he
    rw [hp, hw]
    obtain ⟨t', c', rfl⟩ := e2
    exact ⟨x3, x4, x6 s5.heap.objs.size _ _ _ _ _ _ (List.mem_singleton.mpr rfl) (List.mem_singleton.mpr rfl) rfl (allBare_setGen x2 rfl)⟩
end
end GxI
/-! text Gx10 -/
namespace GxI
open PySem PySem.Spec PyProof.Rows L2 GenW
section
variable {X : Cx} {pins : List (Addr × Obj)} {σ : L2.St}
theorem kin_of {H : Hp} {s s' : Shared} {E : XK} {e : Value} (I1 : Inv X pins σ H s) (hc : L2.CX X.prog X.w X.stack H s E e s') : X.K.In s'.heap := by
  obtain ⟨a, B, H', cls, d, _, fl, _, ub, _⟩ := id hc
  refine I1.ok.mod.kin.keeps fun b o eb => fl.1 b o (ub.keep b o (I1.bs b o eb).1 (I1.bs b o eb).2 fun hm => ?_)
  rcases List.mem_cons.mp (I1.stkSub b hm) with z | z
  · have h1 := Heap.lt_size eb
    have h2 := Nat.le_trans I1.ok.bsz I1.ok.above
    rw [z] at h1
    exact absurd (Nat.lt_of_lt_of_le h1 h2) (Nat.lt_irrefl _)
  · exact I1.ok.nofr eb z
theorem cx_gens {P : Program} {w : World} {outer : List Env} {H : Hp} {s s' : Shared} {E : XK} {e : Value} {G : Array GenState} {tk : Nat} (hc : L2.CX P w outer H s E e s') (hG : AllBare G) : L2.CX P w outer H s E e { s' with gens := G, toks := tk } := by
  obtain ⟨a, B, H', cls, d, z1, fl, z2, ub, z3, z4, z5, z6⟩ := hc
  exact ⟨a, B, H', cls, d, z1, fl, z2, ub, z3, z4, hG, z6⟩
/-- the body's rules, wherever it stands -/
def Body (X : Cx) (N : List Str) (E : XK) (scope : Scope) (j : Nat) (tg elt : Expr) (cs : List Expr) (gt : TG) (tc : TT) (te : TE) : Prop :=
  ∀ (B : Around) (s : Shared) (H : Hp) (C : Addr) (code : Value) (ex : List Addr) (pn : List (Addr × Obj)), Room j (gxCx X B N s H E scope C code ex pn).A → (∀ b ∈ ex, s.heap.get? b = none) →
    PG (gxCx X B N s H E scope C code ex pn) tg gt ∧ PTs (gxCx X B N s H E scope C code ex pn) cs tc ∧ PE (gxCx X B N s H E scope C code ex pn) elt te
theorem gx_waits {tg elt iter : Expr} {cs : List Expr} {scope : Scope} {gpos : Pos} {R : It → Hp → Prop} {P : Addr} {u : Value} {s5 : Shared} {j : Nat} {N : List Str} {E : XK} {gt : TG} {tc : TT} {te : TE} (L : GxS X.env.scope scope) (hE : NoStop X.K E) (hx : ∀ H s e s', Inv X pins σ H s → L2.CX X.prog X.w X.stack H s E e s' → X.xe e s')
    (hb : Body X N E scope j tg elt cs gt tc te) (M : Made X pins σ tg elt iter cs scope gpos R P u s5) :
    ∃ a g go J H1 H4, u = .ref a ∧ R J H1 ∧ GxR.Tabbed P H1 H4 ∧ Waits X pins σ j (fun κ D k0 => ∃ σ0, CapOk X N scope σ σ0 ∧ tGx J gt tc te D k0 σ0 H4) a g go s5 := by
  obtain ⟨a, g, go, s4, H1, H4, fp, it, tn, J, code, m, rfl, I4, T, t5, f4, hR, hT, o5, b5, k5, n5, ha, ga, gc, gg, fo, hgs⟩ := M.ex
  refine ⟨a, g, go, J, H1, H4, rfl, hR, hT, gg, ga, b5, fun κ D k0 B P s ⟨σ0, cap, hq⟩ hr hfr hP hRep os og hk hPp => ?_⟩
  have body := fun pn => hb B (bared s4 fp) H4 s4.heap.objs.size code fp pn (hr.deeper _) fun b hb => PySem.W.hideAll_none fp hb
  have bare_ : AllBare s.gens := by rw [og]; exact b5
  obtain ⟨hA, n, rd⟩ := gx_ready (s := s) I4 T t5 f4 o5 k5 n5 ha ga gc gg fo L hr.hd hfr cap (fun pn => (body pn).1) (fun pn => (body pn).2.1) (fun pn => (body pn).2.2) hP hRep hq os bare_ hk hPp (by rw [og]; exact hgs)
  have Ib := inv_bared I4 f4
  refine ⟨gxCx X B N (bared s4 fp) H4 E scope s4.heap.objs.size code fp [(a, go)], _, n, rfl, rfl, hA, rfl, rd, fun k P σ' H' s' am => gx_back I4 f4 am.2.2, fun P e s' he => ?_⟩
  have st := CXp.stood he
  have cx := CXp.cx he
  have ag : AllBare s'.gens := by
    obtain ⟨_, _, _, _, _, _, _, _, _, _, _, h, _⟩ := he
    exact h
  refine ⟨fun p hp => st p (List.mem_append_right _ hp), ag, gg _ (st (a, go) (List.mem_append_left _ (List.mem_singleton.mpr rfl))), notStop_of hE (kin_of Ib cx) cx, fun G tk hG => hx H4 (bared s4 fp) e _ Ib (cx_gens cx hG), fun S o its c f G tk hm hCO hd hG => ?_⟩
  have hyoung : s4.heap.objs.size < S := by
    have h1 := (hA.lt S hCO).1
    have h2 := (hA.lt S hCO).2
    have hsz : (PySem.W.hideAll s4.heap fp).objs.size = s4.heap.objs.size := PySem.W.hideAll_size fp s4.heap
    have h1 : (PySem.W.hideAll s4.heap fp).objs.size ≤ S := h1
    have h2 : S ≠ s4.heap.objs.size := h2
    rw [hsz] at h1
    exact Nat.lt_of_le_of_ne h1 (Ne.symm h2)
  refine hx H4 (bared s4 fp) e _ Ib (cx_upd (f := f) he (List.mem_append_right _ hm) hd ?_ (fun b hb z => ?_) hG)
  · cases q : (bared s4 fp).heap.get? S with
    | none => rfl
    | some ob =>
      have := Heap.lt_size (PySem.W.of_hideAll fp q)
      exact absurd (Nat.lt_trans hyoung this) (Nat.lt_irrefl _)
  · obtain ⟨_, ob, e1, _⟩ := I4.stack.mem hb
    have := Heap.lt_size e1
    rw [z] at this
    exact absurd (Nat.lt_trans hyoung this) (Nat.lt_irrefl _)
end
end GxI
/-! text Sm12 -/
namespace Sm
open PySem PySem.Spec PyProof.Rows L2
/-! ### generator expressions in a consumer's hand -/
inductive GSt (κ : Type) where
  | go (k : κ) | stop
/-- the turns: how far it came, whether it stopped early -/
def gxl {κ : Type} (src : Src) (g : MG) (mt : MT) (me : ME) (stp : κ → U → Option (GSt κ)) : Nat → Nat → κ → Env → Store → Out (κ × Bool)
  | 0, _, _, _, _ => .bad
  | f + 1, i, k, ρ, S => match src i S with
    | .bad => .bad
    | .stop => .ok (k, false) S
    | .item w => (g w ρ S).bind fun ρ S => (mt ρ S).bind fun b S => match b with
      | false => gxl src g mt me stp f (i + 1) k ρ S
      | true => (me ρ S).bind fun u S => match stp k u with
        | none => .bad
        | some (.go k') => gxl src g mt me stp f (i + 1) k' ρ S
        | some .stop => .ok (k, true) S
/-- its frame: own names, captured ones -/
def gEnv (lay : List (Option Nat)) (ρ : Env) : Env := lay.map fun
  | none => none
  | some j => (ρ[j]?).join
def gSt (lay : List (Option Nat)) (σ : L2.St) : L2.St := lay.map fun
  | none => none
  | some j => (σ[j]?).join
/-- only these classes leave -/
def onlyX {α : Type} (ns : List Str) (o : Out α) : Out α := match o with
  | .exc c S => if c ∈ ns then .exc c S else .bad
  | o => o
def gTail {κ : Type} (fin : κ × Bool → Store → Out U) (lk : Option Nat) (r : κ × Bool) (S : Store) : Out U := match unlk lk S with
  | some S => fin r S
  | none => .bad
def mGx {κ : Type} (ns : List Str) (lay : List (Option Nat)) (stp : κ → U → Option (GSt κ)) (k0 : κ) (fin : κ × Bool → Store → Out U) (mi : MI) (g : MG) (mt : MT) (me : ME) : ME := fun ρ S =>
  (mi ρ S).bind fun p S1 => (onlyX ns (gxl p.1 g mt me stp fuel 0 k0 (gEnv lay ρ) S1)).bind fun r S2 => gTail fin p.2 r S2
theorem ER.gen {K : PySem.W.Frag} {Λ : Lam} {φ : Map} {H : Hp} {ρ : Env} {σ : L2.St} (lay : List (Option Nat)) (h : ER K Λ φ H ρ σ) : ER K Λ φ H (gEnv lay ρ) (gSt lay σ) := by
  refine ⟨by simp [gEnv, gSt], fun i w e => ?_⟩
  unfold gEnv at e
  unfold gSt
  rw [List.getElem?_map] at e ⊢
  cases hl : lay[i]? with
  | none => rw [hl] at e; cases e
  | some o =>
    rw [hl] at e
    cases o with
    | none => cases e
    | some j =>
      have e : some (ρ[j]?).join = some (some w) := e
      have e1 : (ρ[j]?).join = some w := Option.some.inj e
      have e2 : ρ[j]? = some (some w) := by
        cases hq : ρ[j]? with
        | none => rw [hq] at e1; cases e1
        | some q => rw [hq] at e1; exact congrArg some e1
      obtain ⟨v, h1, r⟩ := h.2 j w e2
      exact ⟨v, by show some (σ[j]?).join = some (some v); rw [h1]; rfl, r⟩
/-- the layout fits the names -/
def layB (NX : List Str) (scope : Scope) (N : List Str) (lay : List (Option Nat)) : Bool := decide (lay.length = N.length) && (List.range N.length).all fun i => match lay[i]? with
  | some (some j) => (match N[i]? with
    | some x => decide (scope.names.lookup x = some .free) && decide (NX[j]? = some x)
    | none => false)
  | _ => true
theorem cap_by {X : Cx} {N : List Str} {scope : Scope} {lay : List (Option Nat)} (h : layB X.N scope N lay = true) (σ : L2.St) : GxI.CapOk X N scope σ (gSt lay σ) := by
  unfold layB at h
  simp only [Bool.and_eq_true, decide_eq_true_eq, List.all_eq_true, List.mem_range] at h
  refine ⟨by simp [gSt, h.1], fun i x v e1 e2 => ?_⟩
  have hi : i < N.length := (List.getElem?_eq_some_iff.mp e1).1
  have hb := h.2 i hi
  unfold gSt at e2
  rw [List.getElem?_map] at e2
  cases hl : lay[i]? with
  | none => rw [hl] at e2; cases e2
  | some o =>
    rw [hl] at e2 hb
    cases o with
    | none => cases e2
    | some j =>
      rw [e1] at hb
      simp only [Bool.and_eq_true, decide_eq_true_eq] at hb
      have e2 : some (σ[j]?).join = some (some v) := e2
      have e3 : (σ[j]?).join = some v := Option.some.inj e2
      refine ⟨hb.1, j, hb.2, ?_⟩
      cases hq : σ[j]? with
      | none => rw [hq] at e3; cases e3
      | some q => rw [hq] at e3; exact congrArg some e3
/-- the def's table has grown -/
theorem SR.tabd {K : PySem.W.Frag} {mg : Str → Option Value} {Tb : Tbs} {Λ : Lam} {φ : Map} {S : Store} {H H' : Hp} {P : Addr} (s : SR K mg Tb Λ φ S H) (h : GxR.Tabbed P H H') (hP : GxR.TabG H P) (hT : ∀ q ∈ Tb, q.1 = P → q.2 = none) : TX H H' ∧ SR K mg Tb Λ φ S H' := by
  obtain ⟨ps, e, _⟩ := hP
  have ne : ∀ b u, H b = some u → (∀ ps, u ≠ .tbl ps) → b ≠ P := fun b u q n z => by
    rw [z, e] at q
    cases q
    exact n ps rfl
  have tx : TX H H' := by
    refine .of (fun b xs r => ?_) (fun b ψ r => ?_) (fun b o u r => ?_)
    · rcases r with r | ⟨o, r⟩
      · exact .inl (by rw [h.2 b (ne b _ r fun _ z => nomatch z)]; exact r)
      · exact .inr ⟨o, by rw [h.2 b (ne b _ r fun _ z => nomatch z)]; exact r⟩
    · rw [h.2 b (ne b _ r fun _ z => nomatch z)]; exact r
    · rw [h.2 b (ne b _ r fun _ z => nomatch z)]; exact r
  have keep : ∀ n a, φ n = some a → H' a = H a := fun n a q => by
    obtain ⟨o, e1, _, _, e4⟩ := s.trk n a q
    exact h.2 a (ne a o e1 e4)
  refine ⟨tx, ⟨fun n c q => ?_, s.inj, s.dom, fun n a q => by rw [keep n a q]; exact s.trk n a q, fun q hq => ?_, s.lam⟩⟩
  · obtain ⟨a, h1, h2⟩ := s.ob n c q
    exact ⟨a, h1, h2.mono (Lt.refl _) tx.toTW (keep n a h1)⟩
  · by_cases hb : q.1 = P
    · obtain ⟨P', q2⟩ := q
      cases hT _ hq hb
      have hb : P' = P := hb
      subst hb
      exact h.1
    · exact (s.tab q hq).eq tx.toTW (h.2 _ hb)
section
variable {X : Cx} {Tb : Tbs} {W : WX}
/-- what ties a consumer's steps to the heap's -/
structure CoS (X : Cx) (Λ : Lam) {κ κV : Type} (rk : Map → Hp → κ → κV → Prop) (stp : κ → U → Option (GSt κ)) (D : GxI.Con κV) (Fin Stop : κV → Hp → Prop) : Prop where
  mono : ∀ {φ φ' H H' k kv}, Lt φ φ' → TW H H' → rk φ H k kv → rk φ' H' k kv
  fin : ∀ kv H, Fin kv H → D.Fin kv H
  go : ∀ φ H k k' kv u v p, rk φ H k kv → VR X.K Λ φ H u v → stp k u = some (.go k') → (∀ kv', rk φ H k' kv' → p kv') → D.St kv v H p
  stop : ∀ φ H k kv u v p, rk φ H k kv → VR X.K Λ φ H u v → stp k u = some .stop → Stop kv H → D.St kv v H p
/-- the end, as the store has it -/
def FinE (X : Cx) (Tb : Tbs) (Λ : Lam) {κ κV : Type} (rk : Map → Hp → κ → κV → Prop) (E : Value → Option Addr → Hp → Prop) (φ : Map) (H : Hp) (fin : κ × Bool → Store → Out U) (Q : VK) (b : Bool) (kv : κV) (H' : Hp) : Prop :=
  ∃ φ' k S', Lt φ φ' ∧ TX H H' ∧ SR X.K X.mg Tb Λ φ' S' H' ∧ rk φ' H' k kv ∧ Post X.K X.mg Tb Λ (relV X.K Λ) E φ H (fin (k, b) S') Q
theorem gx_read {κ κV ι : Type} {rk : Map → Hp → κ → κV → Prop} {ns : List Str} {lay : List (Option Nat)} {stp : κ → U → Option (GSt κ)} {k0 : κ} {fin : κ × Bool → Store → Out U} {mi : MI} {g : MG} {mt : MT} {me : ME} {og : List Nat}
    {Λ : Lam} {φ : Map} {ρ : Env} {S : Store} {σ : L2.St} {H : Hp} {Q : VK} {P : Addr} {E : XK} {k0v : κV} (s : SR X.K X.mg Tb Λ φ S H) (e : ER X.K Λ φ H ρ σ) (p : Post X.K X.mg Tb Λ (relV X.K Λ) (fun c d H => W c d σ H) φ H (mGx ns lay stp k0 fin mi g mt me ρ S) Q)
    (hPT : (P, none) ∈ Tb) (hT : ∀ q ∈ Tb, q.1 = P → q.2 = none) (hE : ∀ c ∈ ns, ∀ C H', X.mg c = some (.ref C) → W (.ref C) none σ H' → E (.ref C) none H') (h0 : ∀ φ H, rk φ H k0 k0v)
    {D : ι → GxI.Con κV} (hD : ∀ x, CoS X Λ rk stp (D x) (fun kv => freed X (FinE X Tb Λ rk (fun c d H => W c d σ H) φ H fin Q false kv)) (fun kv => freed X (FinE X Tb Λ rk (fun c d H => W c d σ H) φ H fin Q true kv))) :
    tSI X Tb W mi σ H fun J H1 => GxR.TabG H1 P ∧ ∀ H4, GxR.Tabbed P H1 H4 → ∀ x, GxI.tGx J (tSG X.K X.mg Tb (WD E) og g) (tST X.K X.mg Tb (WD E) mt) (tS X.K X.mg Tb (WD E) me) (D x) k0v (gSt lay σ) H4 := by
  refine ⟨Λ, φ, ρ, S, s, e, ?_⟩
  unfold mGx at p
  cases hm : mi ρ S with
  | bad => rw [hm] at p; exact p.elim
  | exc c S1 => rw [hm] at p; exact p
  | ok sl S1 =>
    obtain ⟨src, lk⟩ := sl
    rw [hm] at p
    intro φ1 J H1 l1 t1 s1 ri nf
    obtain ⟨ri, hl⟩ := ri
    simp only [Out.bind_ok] at p
    have hTab : GxR.TabG H1 P := s1.tab (P, none) hPT
    refine ⟨hTab, fun H4 h14 x => ?_⟩
    have hD := hD x
    obtain ⟨t4, s4⟩ := s1.tabd h14 hTab hT
    have fE : ∀ (b : Bool) (k : κ) (kv : κV) (φ2 : Map) (S2 : Store) (H2 : Hp), Lt φ1 φ2 → TX H4 H2 → SR X.K X.mg Tb Λ φ2 S2 H2 → rk φ2 H2 k kv → Post X.K X.mg Tb Λ (relV X.K Λ) (fun c d H => W c d σ H) φ H (gTail fin lk (k, b) S2) Q →
        freed X (FinE X Tb Λ rk (fun c d H => W c d σ H) φ H fin Q b kv) H2 := fun b k kv φ2 S2 H2 l2 t2 s2 rr q => by
      unfold gTail at q
      cases hu : unlk lk S2 with
      | none => rw [hu] at q; exact q.elim
      | some S3 =>
        rw [hu] at q
        exact unlk_end s2 hl nf l2 ((t1.trans t4).trans t2) (t4.trans t2) hu fun H' t3 tw s3 => ⟨φ2, k, S3, l1.trans l2, t3, s3, hD.mono (Lt.refl _) tw rr, q⟩
    refine ⟨fun i f kv σ' H' => ∃ φ2 k ρ2 S2, Lt φ1 φ2 ∧ TX H4 H' ∧ SR X.K X.mg Tb Λ φ2 S2 H' ∧ ER X.K Λ φ2 H' ρ2 σ' ∧ rk φ2 H' k kv ∧
      Post X.K X.mg Tb Λ (relV X.K Λ) (fun c d H => W c d σ H) φ H ((onlyX ns (gxl src g mt me stp f i k ρ2 S2)).bind fun r S2 => gTail fin lk r S2) Q, ⟨fuel, φ1, k0, gEnv lay ρ, S1, Lt.refl _, TX.refl _, s4, (e.mono l1 (t1.trans t4)).gen lay, h0 _ _, p⟩, ?_⟩
    rintro i f kv σ2 H2 ⟨φ2, k, ρ2, S2, l2, t2, s2, e2, rr, q⟩
    -- an exception on the way
    have exc : ∀ (c : Str) (φ3 : Map) (S3 : Store) (H3 : Hp) (C : Addr), Lt φ1 φ3 → TX H4 H3 → SR X.K X.mg Tb Λ φ3 S3 H3 → X.mg c = some (.ref C) → Post X.K X.mg Tb Λ (relV X.K Λ) (fun c d H => W c d σ H) φ H ((onlyX ns (.exc c S3 : Out (κ × Bool))).bind fun r S2 => gTail fin lk r S2) Q → E (.ref C) none H3 := fun c φ3 S3 H3 C l3 t3 s3 hc q => by
      unfold onlyX at q
      by_cases hn : c ∈ ns
      · simp only [if_pos hn, Out.bind_exc] at q
        exact hE c hn C H3 hc (q φ3 H3 C (l1.trans l3) ((t1.trans t4).trans t3) s3 hc)
      · simp only [if_neg hn, Out.bind_bad] at q
        exact q.elim
    cases f with
    | zero => exact q.elim
    | succ f =>
      have ri2 := ri i φ2 S2 H2 l2 (t4.trans t2) s2
      unfold gxl at q
      cases hsrc : src i S2 with
      | bad => simp only [hsrc] at q; exact q.elim
      | stop =>
        simp only [hsrc] at q ri2
        exact .inl ⟨ri2, hD.fin _ _ (fE false k kv φ2 S2 H2 l2 t2 s2 rr q)⟩
      | item w =>
        simp only [hsrc] at q ri2
        obtain ⟨hgo, hy⟩ := ri2
        refine .inr ⟨hgo, fun x H3 hyy => ?_⟩
        obtain ⟨t3, s3, r3⟩ := hy x H3 hyy
        refine ⟨Λ, φ2, ρ2, S2, w, s3, e2.mono (Lt.refl _) t3, r3, ?_⟩
        cases hgw : g w ρ2 S2 with
        | bad => rw [hgw] at q; exact q.elim
        | exc c S4 =>
          rw [hgw] at q
          exact fun φ4 H5 C l4 t5 s5 hc => exc c φ4 S4 H5 C (l2.trans l4) ((t2.trans t3).trans t5) s5 hc q
        | ok ρ4 S4 =>
          rw [hgw] at q
          simp only [Out.bind_ok] at q
          intro φ4 σ4 H5 l4 t5 s5 e4
          refine ⟨Λ, φ4, ρ4, S4, s5, e4.1, ?_⟩
          have t25 : TX H2 H5 := t3.trans t5
          cases hmt : mt ρ4 S4 with
          | bad => rw [hmt] at q; exact q.elim
          | exc c S6 =>
            rw [hmt] at q
            exact fun φ6 H6 C l6 t6 s6 hc => exc c φ6 S6 H6 C ((l2.trans l4).trans l6) ((t2.trans t25).trans t6) s6 hc q
          | ok b S6 =>
            rw [hmt] at q
            simp only [Out.bind_ok] at q
            intro φ6 b' H6 l6 t6 s6 rb
            cases rb
            have l26 : Lt φ2 φ6 := l4.trans l6
            have t26 : TX H2 H6 := t25.trans t6
            cases b with
            | false => exact iteF ⟨f, Nat.lt_succ_self f, φ6, k, ρ4, S6, l2.trans l26, t2.trans t26, s6, e4.1.mono l6 t6, hD.mono l26 t26.toTW rr, q⟩
            | true =>
              refine iteT ⟨Λ, φ6, ρ4, S6, s6, e4.1.mono l6 t6, ?_⟩
              cases hme : me ρ4 S6 with
              | bad => simp only [hme] at q; exact q.elim
              | exc c S7 =>
                simp only [hme] at q
                exact fun φ7 H7 C l7 t7 s7 hc => exc c φ7 S7 H7 C ((l2.trans l26).trans l7) ((t2.trans t26).trans t7) s7 hc q
              | ok u S7 =>
                simp only [hme, Out.bind_ok] at q
                intro φ7 v H7 l7 t7 s7 ru
                have l27 : Lt φ2 φ7 := l26.trans l7
                have t27 : TX H2 H7 := t26.trans t7
                have rr7 := hD.mono l27 t27.toTW rr
                cases hst : stp k u with
                | none => simp only [hst] at q; exact q.elim
                | some st =>
                  cases st with
                  | stop =>
                    simp only [hst] at q
                    exact hD.stop φ7 H7 k kv u v _ rr7 ru hst (fE true k kv φ7 S7 H7 (l2.trans l27) (t2.trans t27) s7 rr7 q)
                  | go k' =>
                    simp only [hst] at q
                    exact hD.go φ7 H7 k k' kv u v _ rr7 ru hst fun kv' r' => ⟨f, Nat.lt_succ_self f, φ7, k', ρ4, S7, l2.trans l27, t2.trans t27, s7, (e4.1.mono l6 t6).mono l7 t7, r', q⟩
end
end Sm
/-! text Sm13 -/
namespace Sm
open PySem PySem.Spec PyProof.Rows L2
theorem bt_len : bootBuiltins "len" = some (.builtin "len") := by decide +kernel
theorem bt_abs : bootBuiltins "abs" = some (.builtin "abs") := by decide +kernel
theorem bt_sum : bootBuiltins "sum" = some (.builtin "sum") := by decide +kernel
theorem bt_max : bootBuiltins "max" = some (.builtin "max") := by decide +kernel
theorem bt_min : bootBuiltins "min" = some (.builtin "min") := by decide +kernel
theorem bt_any : bootBuiltins "any" = some (.builtin "any") := by decide +kernel
theorem bt_all : bootBuiltins "all" = some (.builtin "all") := by decide +kernel
theorem bt_sorted : bootBuiltins "sorted" = some (.builtin "sorted") := by decide +kernel
theorem bt_int : bootBuiltins "int" = some (.type "int") := by decide +kernel
theorem bt_str : bootBuiltins "str" = some (.type "str") := by decide +kernel
theorem bt_list : bootBuiltins "list" = some (.type "list") := by decide +kernel
theorem bt_dict : bootBuiltins "dict" = some (.type "dict") := by decide +kernel
theorem bt_tuple : bootBuiltins "tuple" = some (.type "tuple") := by decide +kernel
/-- a generator expression's own part, wherever it stands -/
structure GxB (X : Cx) (Tb : Tbs) (N : List Str) (scope : Scope) (j : Nat) (tg elt : Expr) (cs : List Expr) (og : List Nat) (g : MG) (mt : MT) (me : ME) : Prop where
  run : ∀ (E : XK) (B : Around) (s : Shared) (H : Hp) (C : Addr) (code : Value) (ex : List Addr) (pn : List (Addr × Obj)), Ct (GxI.gxCx X B N s H E scope C code ex pn) (WD E) j →
    SG (GxI.gxCx X B N s H E scope C code ex pn) Tb (WD E) og tg g ∧ STs (GxI.gxCx X B N s H E scope C code ex pn) Tb (WD E) cs mt ∧ SE (GxI.gxCx X B N s H E scope C code ex pn) Tb (WD E) elt me
/-- what is asked of the place -/
structure GxP (X : Cx) (Tb : Tbs) (W : WX) (N : List Str) (scope : Scope) (lay : List (Option Nat)) (ns : List Str) (j : Nat) : Prop where
  ct : Ct X W (j + 9)
  tab : ∃ c P, GxR.TabB X.base X.mg c P ∧ X.env.code = .ref c ∧ (P, none) ∈ Tb ∧ ∀ q ∈ Tb, q.1 = P → q.2 = none
  gs : GxI.GxS X.env.scope scope
  nd : N.Nodup
  lay : layB X.N scope N lay = true
  ns : ∀ c ∈ ns, ∀ C, X.mg c = some (.ref C) → PySem.W.subIn X.K (.ref C) (.type "StopIteration") = some false
section
variable {X : Cx} {Tb : Tbs} {W : WX} {N : List Str} {scope : Scope} {lay : List (Option Nat)} {ns : List Str} {j : Nat} {tg elt iter : Expr} {cs : List Expr} {gpos p pos : Pos} {og : List Nat} {mi : MI} {g : MG} {mt : MT} {me : ME}
/-- the wish inside -/
abbrev gE (X : Cx) (W : WX) (σ : L2.St) : XK := fun c d H' => W c d σ H' ∧ PySem.W.subIn X.K c (.type "StopIteration") = some false
theorem gx_eval {κ κV ι : Type} {rk : Map → Hp → κ → κV → Prop} {stp : κ → U → Option (GSt κ)} {k0 : κ} {k0v : κV} {fin : κ × Bool → Store → Out U} (G : GxP X Tb W N scope lay ns j) (hi : SI X Tb W tg iter mi) (hb : GxB X Tb N scope j tg elt cs og g mt me) (hgf : ∀ v, genFold iter X.env v = pure v)
    {pins : List (Addr × Obj)} {s : Shared} {σ : L2.St} {H : Hp} {Q : VK} {Λ : Lam} {φ : Map} {ρ : Env} {S : Store} (I : Inv X pins σ H s) (s0 : SR X.K X.mg Tb Λ φ S H) (e0 : ER X.K Λ φ H ρ σ)
    (p : Post X.K X.mg Tb Λ (relV X.K Λ) (fun c d H => W c d σ H) φ H (mGx ns lay stp k0 fin mi g mt me ρ S) Q) (h0 : ∀ φ H, rk φ H k0 k0v) {D : ι → GxI.Con κV}
    (hD : ∀ x, CoS X Λ rk stp (D x) (fun kv => freed X (FinE X Tb Λ rk (fun c d H => W c d σ H) φ H fin Q false kv)) (fun kv => freed X (FinE X Tb Λ rk (fun c d H => W c d σ H) φ H fin Q true kv)))
    {Q2 : Value → Shared → Prop}
    (hQ : ∀ (wish : (κ : Type) → GxI.Con κ → κ → Prop) a gg go s5, GxI.Waits X pins σ j wish a gg go s5 → (∀ x, wish _ (D x) k0v) → Q2 (.ref a) s5) :
    wpAny (model X.prog X.w) X.A (eval (.GeneratorExp elt [⟨tg, iter, cs, 0⟩] scope gpos) X.env) Q2 X.xe s := by
  obtain ⟨c, P, TB, hcode, hPT, hT⟩ := G.tab
  have C := G.ct
  have rd := gx_read (W := W) (og := og) (E := gE X W σ) s0 e0 p hPT hT (fun c hc C H' hm hw => ⟨hw, G.ns c hc C hm⟩) h0 hD
  refine wpAny_mono (GxI.gx_make (R := fun J H1 => ∀ H4, GxR.Tabbed P H1 H4 → ∀ x, GxI.tGx J (tSG X.K X.mg Tb (WD (gE X W σ)) og g) (tST X.K X.mg Tb (WD (gE X W σ)) mt) (tS X.K X.mg Tb (WD (gE X W σ)) me) (D x) k0v (gSt lay σ) H4) C.room TB hcode G.gs hi.pi hgf I rd) (fun u s5 M => ?_) fun _ _ h => h
  obtain ⟨a, gg, go, J, H1, H4, rfl, hR, hTb, Wt⟩ := GxI.gx_waits (N := N) (E := gE X W σ) G.gs (fun cls d H h => h.2) (fun H s e s' I' c => C.tk e s' (XE.of_call I' (fun cls d H' h => h.1) c)) (j := j)
    (gt := tSG X.K X.mg Tb (WD (gE X W σ)) og g) (tc := tST X.K X.mg Tb (WD (gE X W σ)) mt) (te := tS X.K X.mg Tb (WD (gE X W σ)) me) (fun B s H C code ex pn hr hex => by
      obtain ⟨h1, h2, h3⟩ := hb.run (gE X W σ) B s H C code ex pn ⟨rfl, G.nd, GxI.takes_gx hex, GxI.owns_gx, hr⟩
      exact ⟨h1.pg, ⟨h2.pts.run⟩, h3.pe⟩) M
  exact hQ _ a gg go s5 Wt fun x => ⟨gSt lay σ, cap_by G.lay σ, hR H4 hTb x⟩
/-! tuple -/
def stpL (k : List U) (u : U) : Option (GSt (List U)) := if k.length < lim then some (.go (k ++ [u])) else none
def finTup (r : List U × Bool) (S : Store) : Out U := .ok (.tup r.1) S
theorem coL {Λ : Lam} {F F2 : List V → Hp → Prop} (S : Addr) : CoS X Λ (fun φ H k kv => VRs X.K Λ φ H k kv) stpL (GxI.conL S F) F F2 where
  mono := fun l t h => h.monoW l t
  fin := fun _ _ h => h
  go := fun φ H k k' kv u v p r ru e h => by
    unfold stpL at e
    split at e
    · rename_i hl
      cases e
      exact ⟨by rw [r.length]; exact lim_lt hl, h _ (r.app (VRs.cons ru VRs.nil))⟩
    · cases e
  stop := fun φ H k kv u v p r ru e h => by
    unfold stpL at e
    split at e <;> cases e
theorem se_gxTup (G : GxP X Tb W N scope lay ns j) (hi : SI X Tb W tg iter mi) (hb : GxB X Tb N scope j tg elt cs og g mt me) (hm : X.mg "tuple" = none) (hgf : ∀ v, genFold iter X.env v = pure v := by intro _; rfl) (hg : Gl X "tuple" := by rfl)
    (he : starEach [.GeneratorExp elt [⟨tg, iter, cs, 0⟩] scope gpos] X.env = (false, eval (.GeneratorExp elt [⟨tg, iter, cs, 0⟩] scope gpos) X.env) :: starEach [] X.env := by rfl) :
    SE X Tb W (.Call (.Name "tuple" p) [.GeneratorExp elt [⟨tg, iter, cs, 0⟩] scope gpos] [] pos) (mGx ns lay stpL [] finTup mi g mt me) := by
  refine ⟨⟨fun pins s σ H Q I ⟨Λ, φ, ρ, S, s0, e0, p⟩ => ?_⟩⟩
  refine wpAny_Call_Name_kw (ld_blt I hg hm (u := .type "tuple") bt_tuple ?_)
  refine PyProof.Rows.callWith_type1 ?_ he rfl
  rw [he]
  show wpAny _ _ (spliced ((false, eval (.GeneratorExp elt [⟨tg, iter, cs, 0⟩] scope gpos) X.env) :: backTo pos (starEach [] X.env))) _ _ s
  refine Calls.spliced_cons (gx_eval G hi hb hgf I s0 e0 p (κV := List V) (rk := fun φ H k kv => VRs X.K Λ φ H k kv) (k0v := []) (fun _ _ => rfl) (D := fun S : Addr => GxI.conL S _) (fun S => coL S) fun wish a gg go s5 Wt hq => ?_)
  refine Calls.spliced_nil ?_
  refine GxI.callG_tup Wt hq (G.ct.room.mono (by omega)) I.ok.frames fun k us H' s' I' hv hle hF => ?_
  obtain ⟨H2, I2, φ2, ks, S2, l2, t2, s2, rr, q⟩ := freed_ok I' hF
  have hl : H2 s'.heap.objs.size = none := I2.hok.fresh (Nat.le_refl _)
  refine ⟨.ref s'.heap.objs.size, _, I2.laid (t' := s'.toks) (o := .tup k) (fun b ob q => Heap.get?_push_of_some _ q) (Nat.le_refl _) ⟨by rw [hv.length]; exact hle, us, hv, IsTup.new _ _⟩, rfl, ?_⟩
  exact Post_tup s2 rr (Post.mono l2 t2 q) _ hl
/-! any, all -/
def stpB (stop : Bool) (_ : Unit) (u : U) : Option (GSt Unit) := match u with
  | .bl b => if b = stop then some .stop else some (.go ())
  | _ => none
def finAny (r : Unit × Bool) (S : Store) : Out U := .ok (.bl r.2) S
def finAll (r : Unit × Bool) (S : Store) : Out U := .ok (.bl (!r.2)) S
theorem coB {Λ : Lam} {F F2 : Unit → Hp → Prop} (stop : Bool) : CoS X Λ (fun _ _ (_ : Unit) (_ : Unit) => True) (stpB stop) (GxI.conB stop (F2 ()) (F ())) F F2 where
  mono := fun _ _ h => h
  fin := fun _ _ h => h
  go := fun φ H k k' kv u v p r ru e h => by
    unfold stpB at e
    split at e
    · rename_i b
      refine ⟨b, ru, ?_⟩
      by_cases hb : b = stop
      · rw [if_pos hb] at e; cases e
      · rw [if_neg hb]; exact h () True.intro
    · cases e
  stop := fun φ H k kv u v p r ru e h => by
    unfold stpB at e
    split at e
    · rename_i b
      refine ⟨b, ru, ?_⟩
      by_cases hb : b = stop
      · rw [if_pos hb]; exact h
      · rw [if_neg hb] at e; cases e
    · cases e
theorem se_gxAny (G : GxP X Tb W N scope lay ns j) (hi : SI X Tb W tg iter mi) (hb : GxB X Tb N scope j tg elt cs og g mt me) (hm : X.mg "any" = none) (hgf : ∀ v, genFold iter X.env v = pure v := by intro _; rfl) (hg : Gl X "any" := by rfl)
    (he : starEach [.GeneratorExp elt [⟨tg, iter, cs, 0⟩] scope gpos] X.env = (false, eval (.GeneratorExp elt [⟨tg, iter, cs, 0⟩] scope gpos) X.env) :: starEach [] X.env := by rfl) :
    SE X Tb W (.Call (.Name "any" p) [.GeneratorExp elt [⟨tg, iter, cs, 0⟩] scope gpos] [] pos) (mGx ns lay (stpB true) () finAny mi g mt me) := by
  refine ⟨⟨fun pins s σ H Q I ⟨Λ, φ, ρ, S, s0, e0, p⟩ => ?_⟩⟩
  refine wpAny_Call_Name_kw (ld_blt I hg hm (u := .builtin "any") bt_any ?_)
  refine PyProof.Rows.callWith_builtin1 ?_ he rfl
  rw [he]
  show wpAny _ _ (spliced ((false, eval (.GeneratorExp elt [⟨tg, iter, cs, 0⟩] scope gpos) X.env) :: backTo pos (starEach [] X.env))) _ _ s
  refine Calls.spliced_cons (gx_eval G hi hb hgf I s0 e0 p (k0v := ()) (fun _ _ => True.intro) (D := fun _ : Unit => GxI.conB true _ _) (fun _ => coB true) fun wish a gg go s5 Wt hq => ?_)
  refine Calls.spliced_nil ?_
  refine GxI.callG_any Wt (hq ()) (G.ct.room.mono (by omega)) I.ok.frames (fun H' s' I' hF => ?_) fun H' s' I' hF => ?_
  · obtain ⟨H2, I2, φ2, ks, S2, l2, t2, s2, rr, q⟩ := freed_ok I' hF
    exact ⟨.bl true, H2, I2, rfl, q φ2 _ H2 l2 t2 s2 rfl⟩
  · obtain ⟨H2, I2, φ2, ks, S2, l2, t2, s2, rr, q⟩ := freed_ok I' hF
    exact ⟨.bl false, H2, I2, rfl, q φ2 _ H2 l2 t2 s2 rfl⟩
theorem se_gxAll (G : GxP X Tb W N scope lay ns j) (hi : SI X Tb W tg iter mi) (hb : GxB X Tb N scope j tg elt cs og g mt me) (hm : X.mg "all" = none) (hgf : ∀ v, genFold iter X.env v = pure v := by intro _; rfl) (hg : Gl X "all" := by rfl)
    (he : starEach [.GeneratorExp elt [⟨tg, iter, cs, 0⟩] scope gpos] X.env = (false, eval (.GeneratorExp elt [⟨tg, iter, cs, 0⟩] scope gpos) X.env) :: starEach [] X.env := by rfl) :
    SE X Tb W (.Call (.Name "all" p) [.GeneratorExp elt [⟨tg, iter, cs, 0⟩] scope gpos] [] pos) (mGx ns lay (stpB false) () finAll mi g mt me) := by
  refine ⟨⟨fun pins s σ H Q I ⟨Λ, φ, ρ, S, s0, e0, p⟩ => ?_⟩⟩
  refine wpAny_Call_Name_kw (ld_blt I hg hm (u := .builtin "all") bt_all ?_)
  refine PyProof.Rows.callWith_builtin1 ?_ he rfl
  rw [he]
  show wpAny _ _ (spliced ((false, eval (.GeneratorExp elt [⟨tg, iter, cs, 0⟩] scope gpos) X.env) :: backTo pos (starEach [] X.env))) _ _ s
  refine Calls.spliced_cons (gx_eval G hi hb hgf I s0 e0 p (k0v := ()) (fun _ _ => True.intro) (D := fun _ : Unit => GxI.conB false _ _) (fun _ => coB false) fun wish a gg go s5 Wt hq => ?_)
  refine Calls.spliced_nil ?_
  refine GxI.callG_all Wt (hq ()) (G.ct.room.mono (by omega)) I.ok.frames (fun H' s' I' hF => ?_) fun H' s' I' hF => ?_
  · obtain ⟨H2, I2, φ2, ks, S2, l2, t2, s2, rr, q⟩ := freed_ok I' hF
    exact ⟨.bl false, H2, I2, rfl, q φ2 _ H2 l2 t2 s2 rfl⟩
  · obtain ⟨H2, I2, φ2, ks, S2, l2, t2, s2, rr, q⟩ := freed_ok I' hF
    exact ⟨.bl true, H2, I2, rfl, q φ2 _ H2 l2 t2 s2 rfl⟩
/-! sum -/
def stpS (k : Int) (u : U) : Option (GSt Int) := match u with
  | .int i => some (.go (k + i))
  | _ => none
def finSum (r : Int × Bool) (S : Store) : Out U := .ok (.int r.1) S
theorem coS {Λ : Lam} {F F2 : Int → Hp → Prop} (S : Addr) : CoS X Λ (fun _ _ (k kv : Int) => k = kv) stpS (GxI.conS S F) F F2 where
  mono := fun _ _ h => h
  fin := fun _ _ h => h
  go := fun φ H k k' kv u v p r ru e h => by
    subst r
    unfold stpS at e
    split at e
    · rename_i i
      cases e
      exact ⟨i, ru, h _ rfl⟩
    · cases e
  stop := fun φ H k kv u v p r ru e h => by
    unfold stpS at e
    split at e <;> cases e
theorem se_gxSum (G : GxP X Tb W N scope lay ns j) (hi : SI X Tb W tg iter mi) (hb : GxB X Tb N scope j tg elt cs og g mt me) (hm : X.mg "sum" = none) (hgf : ∀ v, genFold iter X.env v = pure v := by intro _; rfl) (hg : Gl X "sum" := by rfl)
    (he : starEach [.GeneratorExp elt [⟨tg, iter, cs, 0⟩] scope gpos] X.env = (false, eval (.GeneratorExp elt [⟨tg, iter, cs, 0⟩] scope gpos) X.env) :: starEach [] X.env := by rfl) :
    SE X Tb W (.Call (.Name "sum" p) [.GeneratorExp elt [⟨tg, iter, cs, 0⟩] scope gpos] [] pos) (mGx ns lay stpS 0 finSum mi g mt me) := by
  refine ⟨⟨fun pins s σ H Q I ⟨Λ, φ, ρ, S, s0, e0, p⟩ => ?_⟩⟩
  refine wpAny_Call_Name_kw (ld_blt I hg hm (u := .builtin "sum") bt_sum ?_)
  refine PyProof.Rows.callWith_builtin1 ?_ he rfl
  rw [he]
  show wpAny _ _ (spliced ((false, eval (.GeneratorExp elt [⟨tg, iter, cs, 0⟩] scope gpos) X.env) :: backTo pos (starEach [] X.env))) _ _ s
  refine Calls.spliced_cons (gx_eval G hi hb hgf I s0 e0 p (k0v := 0) (fun _ _ => rfl) (D := fun S : Addr => GxI.conS S _) (fun S => coS S) fun wish a gg go s5 Wt hq => ?_)
  refine Calls.spliced_nil ?_
  refine GxI.callG_sum Wt hq (G.ct.room.mono (by omega)) I.ok.frames fun k t H' s' I' hF => ?_
  obtain ⟨H2, I2, φ2, ks, S2, l2, t2, s2, rr, q⟩ := freed_ok I' hF
  subst rr
  exact ⟨.int _, H2, I2, ⟨t, rfl⟩, q φ2 _ H2 l2 t2 s2 rfl⟩
end
end Sm
/-! text Sm14 -/
namespace GxI
open PySem PySem.Spec PyProof.Rows L2 GenW
/-! sum(lists, []) -/
abbrev Cx.at_ (X : Cx) (A : Around) : Cx := { X with A := A }
theorem inv_at {X : Cx} {pins : List (Addr × Obj)} {σ : L2.St} {H : Hp} {s : Shared} {A : Around} (I : Inv X pins σ H s) (hf : A.frames = X.A.frames) (hh : A.handled = X.A.handled) : Inv (Cx.at_ X A) pins σ H s :=
  ⟨⟨I.ok.mod, I.ok.kind, I.ok.glob, I.ok.blt, I.ok.above, I.ok.inj, I.ok.has, I.ok.cab, fun h => hh.trans (I.ok.hd h), hf.trans I.ok.frames, I.ok.stk, I.ok.exf, I.ok.bs, I.ok.bsz, I.ok.noex, I.ok.exfs, I.ok.funs, I.ok.frf⟩, I.os, I.bare, I.base, I.loc, I.cell, I.free, I.freeC, I.pin, I.hok, I.len⟩
theorem inv_of_at {X : Cx} {pins : List (Addr × Obj)} {σ : L2.St} {H : Hp} {s : Shared} {A : Around} (I : Inv (Cx.at_ X A) pins σ H s) (hf : A.frames = X.A.frames) (hh : A.handled = X.A.handled) : Inv X pins σ H s :=
  ⟨⟨I.ok.mod, I.ok.kind, I.ok.glob, I.ok.blt, I.ok.above, I.ok.inj, I.ok.has, I.ok.cab, fun h => hh.symm.trans (I.ok.hd h), hf.symm.trans I.ok.frames, I.ok.stk, I.ok.exf, I.ok.bs, I.ok.bsz, I.ok.noex, I.ok.exfs, I.ok.funs, I.ok.frf⟩, I.os, I.bare, I.base, I.loc, I.cell, I.free, I.freeC, I.pin, I.hok, I.len⟩
abbrev refObj (c : Addr) (n : Nat) : Obj := { cls := .type "list", dict := none, data := .seq #[.ref c] n, slots := #[] }
/-- a pinned thing of ours is written -/
theorem inv_repin {X : Cx} {pins : List (Addr × Obj)} {σ : L2.St} {H : Hp} {s : Shared} {S : Addr} {o : Obj} {f : Obj → Obj} (I : Inv X (pins ++ [(S, o)]) σ H s) (hS : X.s_0.heap.objs.size ≤ S) (hc : ∀ x c, X.env.cells.lookup x = some c → c ≠ S) (hp : ∀ p ∈ X.pn ++ pins, p.1 ≠ S)
    (hf : (f o).isFreed = false) (hd : ∀ v, (f o).data ≠ .cell v) : Inv X (pins ++ [(S, f o)]) σ H { s with heap := s.heap.update S f } := by
  obtain ⟨h1, h2, h3, h4, h5⟩ := I.pin (S, o) (List.mem_append_right _ (List.mem_append_right _ (List.mem_singleton.mpr rfl)))
  have J : Inv X pins σ H { s with heap := s.heap.update S f, toks := s.toks } := (I.pins_of fun p hp => I.pin p (List.mem_append_right _ (List.mem_append_left _ hp))).turned (it := S) (fun b ob hb e => (Heap.get?_update_other _ _ (Ne.symm hb)).trans e) h2 h3 (.inr hS) hc hp
  refine J.pins_of fun p hp => ?_
  rcases List.mem_append.mp hp with hp | hp
  · exact J.pin p (List.mem_append_right _ hp)
  · rw [List.mem_singleton.mp hp]
    exact ⟨Heap.get?_update_self f h1 hf, h2, h3, h4, hd⟩
/-- more stands, what stood stands so -/
def ExtH (H H' : Hp) : Prop := ∀ b u, H b = some u → H' b = some u
/-- the list so far -/
def Cur (H : Hp) (b : Addr) (c : Addr) (acc : List V) (i : Nat) (Hi : Hp) : Prop := (i = 0 ∧ c = b ∧ Hi = H ∧ acc = []) ∨ (0 < i ∧ ∃ H'', ExtH H H'' ∧ H'' c = none ∧ Hi = upd H'' c (.lst acc))
theorem Cur.get {H : Hp} {b c : Addr} {acc : List V} {i : Nat} {Hi : Hp} (h : Cur H b c acc i Hi) (hb : H b = some (.lst [])) : Hi c = some (.lst acc) := by
  rcases h with ⟨_, rfl, rfl, rfl⟩ | ⟨_, H'', _, h2, rfl⟩
  · exact hb
  · exact upd_same
theorem Cur.ext {H : Hp} {b c : Addr} {acc : List V} {i : Nat} {Hi : Hp} (h : Cur H b c acc i Hi) : ExtH H Hi := by
  rcases h with ⟨_, rfl, rfl, rfl⟩ | ⟨_, H'', h1, h2, rfl⟩
  · exact fun _ _ e => e
  · exact fun x u e => by
      have e2 := h1 x u e
      rw [upd_ne (ne_of_none e2 h2)]; exact e2
theorem sub_list_str : isSubtype (.type "list") (.type "str") = pure false := by rw [isSubtype_type]; kernel_rfl
theorem sub_list_bytes : isSubtype (.type "list") (.type "bytes") = pure false := by rw [isSubtype_type]; kernel_rfl
theorem sub_list_bytearray : isSubtype (.type "list") (.type "bytearray") = pure false := by rw [isSubtype_type]; kernel_rfl
theorem args_sum2 (x y : Value) : argsOk "sum" ⟨[x, y], []⟩ := by unfold argsOk; kernel_rfl
section
variable {X : Cx} {pins : List (Addr × Obj)} {σ : L2.St} {H : Hp} {A : Around} {a b it S : Addr} {ps : List Addr} {zss : List (List V)} {R : Result → Shared → Prop}
theorem sl_get {H : Hp} {ps : List Addr} {zss : List (List V)} {i : Nat} {p : Addr} (h : Paired (fun p zs => H p = some (.lst zs)) ps zss) : ps[i]? = some p → ∃ zs, zss[i]? = some zs ∧ H p = some (.lst zs) := by
  intro e
  induction h generalizing i with
  | nil => simp at e
  | cons h1 h2 ih =>
    cases i with
    | zero => simp at e; subst e; exact ⟨_, rfl, h1⟩
    | succ i => simpa using ih (i := i) (by simpa using e)
theorem sl_len {H : Hp} {ps : List Addr} {zss : List (List V)} (h : Paired (fun p zs => H p = some (.lst zs)) ps zss) : ps.length = zss.length := by
  induction h with
  | nil => rfl
  | cons h1 h2 ih => simp [ih]
theorem flat_take {zss : List (List V)} {i : Nat} {zs : List V} (h : zss[i]? = some zs) : (zss.take (i + 1)).flatten = (zss.take i).flatten ++ zs := by
  rw [List.take_add_one, h]
  simp
theorem flat_le {zss : List (List V)} (i : Nat) : (zss.take i).flatten.length ≤ zss.flatten.length := by
  conv => rhs; rw [← List.take_append_drop i zss, List.flatten_append, List.length_append]
  omega
theorem loop_sumL (hcalm : X.calm = true) (hfr : A.in1.frames = X.A.frames) (hh : A.in1.handled = X.A.handled) (hsq : ∀ Hi, ExtH H Hi → SqL X.K Hi a (ps.map V.ref)) (hz : Paired (fun p zs => H p = some (.lst zs)) ps zss) (hb : H b = some (.lst [])) (hle : zss.flatten.length ≤ sizeLine)
    (hfp : ∀ Hi, ExtH H Hi → Hi it = none → FpOk X pins Hi it) (hSne : S ≠ it) (hS0 : X.s_0.heap.objs.size ≤ S) (hSc : ∀ x c, X.env.cells.lookup x = some c → c ≠ S) (hSp : ∀ p ∈ X.pn ++ pins, p.1 ≠ S)
    (hend : ∀ c acc Hi s', Inv X pins σ Hi s' → Cur H b c acc ps.length Hi → acc = zss.flatten → R (.ok (.ret (.ref c))) s') :
    ∀ (k i : Nat) (s : Shared) (c : Addr) (n : Nat) (Hi : Hp), ps.length - i = k → i ≤ ps.length → Cur H b c (zss.take i).flatten i Hi → Inv X (pins ++ [(S, refObj c n)]) σ Hi s → s.heap.IsListIter it a i → Hi it = none →
      codeAny (model X.prog X.w) A (.builtin "sum.loop" ⟨[.ref it, .ref S, rawInt 2, rawInt 0], []⟩) R s := by
  intro k
  have T := turn_list (P := X.prog) (w := X.w) (K := X.K) (tg := .Constant .none 0 default) a it
  induction k with
  | zero =>
    intro i s c n Hi hk hi hc I ht hit
    have e : i = ps.length := by omega
    subst e
    have hS : s.heap.get? S = some (refObj c n) := (I.pin (S, refObj c n) (List.mem_append_right _ (List.mem_append_right _ (List.mem_singleton.mpr rfl)))).1
    refine codeAny_builtin F.entry_sum_loop ?_
    rw [Around.under_plainId F.plain_sum_loop _]
    show wpAny _ A.in1 (seqItems? (.ref S) >>= _) _ _ s
    refine wpAny_bind (wpAny_seqItems hS rfl ?_)
    show wpAny _ A.in1 (tryCatch (pyNext (.ref it)) _ >>= _) _ _ s
    have I2 := inv_at I hfr hh
    have fpo : FpOk (Cx.at_ X A.in1) (pins ++ [(S, refObj c n)]) Hi it := by
      obtain ⟨f0, f1, f2, f3, f4, f5⟩ := hfp Hi hc.ext hit
      refine ⟨f0, f1, f2, f3, f4, fun p hp => ?_⟩
      rcases List.mem_append.mp hp with hp | hp
      · exact f5 p (List.mem_append_left _ hp)
      · rcases List.mem_append.mp hp with hp | hp
        · exact f5 p (List.mem_append_right _ hp)
        · rw [List.mem_singleton.mp hp]; exact hSne
    refine wpAny_bind (wpAny_tryCatch (wpAny_mono (T.done (Cx.at_ X A.in1) rfl rfl rfl hcalm ps.length _ s σ Hi (fun _ _ => False) I2 (fun b hb => by rw [List.mem_singleton.mp hb]; exact fpo) ht ⟨_, hsq Hi hc.ext, by simp⟩) (fun r s1 ⟨hr, I1⟩ => ?_) fun _ _ h => h.elim))
    subst hr
    refine wpAny_pure (hend c _ Hi s1 ((inv_of_at I1 hfr hh).pins_of fun p hp => (inv_of_at I1 hfr hh).pin p (List.mem_append_right _ (List.mem_append_left _ hp))) hc ?_)
    rw [sl_len hz, List.take_length]
  | succ k ih =>
    intro i s c n Hi hk hi hc I ht hit
    have hlt : i < ps.length := by omega
    have hS : s.heap.get? S = some (refObj c n) := (I.pin (S, refObj c n) (List.mem_append_right _ (List.mem_append_right _ (List.mem_singleton.mpr rfl)))).1
    refine codeAny_builtin F.entry_sum_loop ?_
    rw [Around.under_plainId F.plain_sum_loop _]
    show wpAny _ A.in1 (seqItems? (.ref S) >>= _) _ _ s
    refine wpAny_bind (wpAny_seqItems hS rfl ?_)
    show wpAny _ A.in1 (tryCatch (pyNext (.ref it)) _ >>= _) _ _ s
    have I2 := inv_at I hfr hh
    have fpo : FpOk (Cx.at_ X A.in1) (pins ++ [(S, refObj c n)]) Hi it := by
      obtain ⟨f0, f1, f2, f3, f4, f5⟩ := hfp Hi hc.ext hit
      refine ⟨f0, f1, f2, f3, f4, fun p hp => ?_⟩
      rcases List.mem_append.mp hp with hp | hp
      · exact f5 p (List.mem_append_left _ hp)
      · rcases List.mem_append.mp hp with hp | hp
        · exact f5 p (List.mem_append_right _ hp)
        · rw [List.mem_singleton.mp hp]; exact hSne
    obtain ⟨pi, hpi⟩ : ∃ p, ps[i]? = some p := ⟨_, List.getElem?_eq_getElem hlt⟩
    obtain ⟨zs, hzs, hHp⟩ := sl_get hz hpi
    have hax : SqL X.K Hi a (ps.map V.ref) := hsq Hi hc.ext
    obtain ⟨its, rv, pl, hzz⟩ := I.list hax
    obtain ⟨u, hu, ru⟩ := rv.get (i := i) (by rw [List.getElem?_map, hpi]; rfl)
    obtain rfl : u = Value.ref pi := ru
    refine wpAny_bind (wpAny_tryCatch (wpAny_pyNext_list_item ht pl.isList (x := .ref pi) (by simpa using hu) fun h' st' sb => ?_))
    obtain ⟨f0, f1, f2, f3, f4, f5⟩ := fpo
    have I1 : Inv X (pins ++ [(S, refObj c n)]) σ Hi { s with heap := h', toks := s.toks } := I.turned (fun b o hb e => (sb.2 b hb).trans e) f0 f1 f3 f4 f5
    have hcc := hc.get hb
    have hHpi := hc.ext _ _ hHp
    obtain ⟨z1, its1, n1, r1, hl1, e1⟩ := I1.lstM hcc
    obtain ⟨z2, its2, n2, r2, hl2, e2⟩ := I1.lstM hHpi
    have hsum : ((zss.take i).flatten ++ zs).length ≤ sizeLine := by
      rw [← flat_take hzs]
      exact Nat.le_trans (flat_le _) hle
    show wpAny _ A.in1 ((holding [Value.ref pi] (binaryOp .Add (.ref c) (.ref pi))).attempt >>= _) _ _ _
    refine wpAny_bind (wpAny_attempt (wpAny_holding ?_))
    refine PySem.P.add_list e1 e2 ?_ (by rw [List.size_toArray, List.size_toArray, ← hl1, ← hl2, ← List.length_append]; exact hsum)
    have ea : its1.toArray ++ its2.toArray = (its1 ++ its2).toArray := by simp
    rw [ea]
    have I3 := I1.lnew (t' := s.toks) (r1.append r2) hsum
    have hfresh : Hi h'.objs.size = none := I1.fresh
    have hS' := (I3.pin (S, refObj c n) (List.mem_append_right _ (List.mem_append_right _ (List.mem_singleton.mpr rfl)))).1
    show wpAny _ A.in1 (updateSeq S (fun _ => #[.ref h'.objs.size]) >>= _) _ _ _
    refine wpAny_bind (wpAny_updateSeq hS' rfl ?_)
    have I4 := inv_repin (f := Obj.mapSeq fun _ => #[Value.ref h'.objs.size]) I3 hS0 hSc hSp rfl (fun v z => by cases z)
    have hS₂ := (I4.pin _ (List.mem_append_right _ (List.mem_append_right _ (List.mem_singleton.mpr rfl)))).1
    refine wpAny_bind (wpAny_letGo ?_)
    refine wpAny_bind (wpAny_updateSeq hS₂ rfl (wpAny_pure ⟨plainId_quiet F.plain_sum_loop _, ?_⟩))
    have I5 := inv_repin (f := Obj.mapSeq fun _ => #[Value.ref h'.objs.size]) I4 hS0 hSc hSp rfl (fun v z => by cases z)
    refine ih (i + 1) _ h'.objs.size _ _ (by omega) hlt (.inr ⟨Nat.succ_pos _, Hi, hc.ext, hfresh, ?_⟩) I5 ?_ ?_
    · rw [flat_take hzs]
    · exact st'.at fun o e => (Heap.get?_update_other _ _ hSne).trans ((Heap.get?_update_other _ _ hSne).trans (Heap.get?_push_of_some _ e))
    · obtain ⟨oi, ei, _⟩ := id st'
      rw [upd_ne (Nat.ne_of_lt (Heap.lt_size ei))]
      exact hit
/-- sum(lists, []) -/
theorem call_sumL (hcalm : X.calm = true) : CallR X (.builtin "sum") (fun xs H Q => ∃ (a b : Addr) (ps : List Addr) (zss : List (List V)), xs = [.ref a, .ref b] ∧ (∀ Hi, ExtH H Hi → SqL X.K Hi a (ps.map V.ref)) ∧ Paired (fun p zs => H p = some (.lst zs)) ps zss ∧ H b = some (.lst []) ∧ zss.flatten.length ≤ sizeLine ∧
    (zss = [] → Q (.ref b) H) ∧ (zss ≠ [] → ∀ H'' c, ExtH H H'' → H'' c = none → Q (.ref c) (upd H'' c (.lst zss.flatten)))) := by
  intro pins s σ H xs us Q I r h
  obtain ⟨a, b, ps, zss, rfl, hsq, hz, hb, hle, q0, q1⟩ := h
  obtain ⟨u, w', rfl, r1, r2⟩ := vals2 r
  obtain rfl : u = Value.ref a := r1
  obtain rfl : w' = Value.ref b := r2
  refine call_function_tree F.kind_sum F.plain_sum F.entry_sum (args_sum2 _ _) ?_
  unfold Builtin.«sum»
  simp only [List.length_cons, List.length_nil]
  rw [if_neg (by decide)]
  refine wpAny_bind (wpAny_of_eq (show Builtin.Builtins.bindParams "sum" ["start"] 0 ⟨[.ref b], []⟩ = pure [some (.ref b)] from rfl) ?_)
  obtain ⟨its, rv, pl, hzz⟩ := I.list (hsq H fun _ _ e => e)
  refine wpAny_bind (wpAny_pyIter_list pl.isList ?_)
  obtain ⟨zb, itsb, nb, rb, hlb, eb⟩ := I.lstM hb
  have hk1 : ∀ x ob, s.heap.get? x = some ob → (s.heap.push { cls := .type "list_iterator", data := .fields #[.ref a, .int 0 0] }).get? x = some ob := fun x ob e => Heap.get?_push_of_some _ e
  have I1 : Inv X pins σ H { s with heap := s.heap.push { cls := .type "list_iterator", data := .fields #[.ref a, .int 0 0] }, toks := s.toks } := I.kept hk1
  have tb : ({ s with heap := s.heap.push { cls := .type "list_iterator", data := .fields #[.ref a, .int 0 0] } } : Shared).TypeIs (.ref b) "list" := ⟨_, hk1 _ _ eb, rfl⟩
  refine wpAny_bind (wpAny_pure ?_)
  simp only [List.forIn_cons, List.forIn_nil]
  refine wpAny_bind (wpAny_bind (wpAny_bind (wpAny_isInstance (T := "list") (b := false) tb GxI.sub_list_str ?_)))
  simp only [Bool.false_eq_true, if_false]
  refine wpAny_pure (wpAny_bind (wpAny_bind (wpAny_isInstance (T := "list") (b := false) tb GxI.sub_list_bytes ?_)))
  simp only [Bool.false_eq_true, if_false]
  refine wpAny_pure (wpAny_bind (wpAny_bind (wpAny_isInstance (T := "list") (b := false) tb GxI.sub_list_bytearray ?_)))
  simp only [Bool.false_eq_true, if_false]
  refine wpAny_pure (wpAny_pure ?_)
  refine wpAny_bind (wpAny_newObj_type ?_)
  refine wpAny_pure ⟨plainId_quiet F.plain_sum_loop _, ?_⟩
  have hit : s.heap.objs.size < (s.heap.push { cls := .type "list_iterator", data := .fields #[.ref a, .int 0 0] }).objs.size := by rw [Heap.size_push]; exact Nat.lt_succ_self _
  have hk2 : ∀ x ob, (s.heap.push { cls := .type "list_iterator", data := .fields #[.ref a, .int 0 0] }).get? x = some ob →
      ((s.heap.push { cls := .type "list_iterator", data := .fields #[.ref a, .int 0 0] }).push { cls := .type "list", data := .seq #[.ref b] }).get? x = some ob := fun x ob e => Heap.get?_push_of_some _ e
  have I2 : Inv X pins σ H { s with heap := (s.heap.push { cls := .type "list_iterator", data := .fields #[.ref a, .int 0 0] }).push { cls := .type "list", data := .seq #[.ref b] }, toks := s.toks } := I1.kept hk2
  have nS := I1.fpOk (Nat.le_refl _) (I1.hok.fresh (Nat.le_refl _))
  have nI := I.fpOk (Nat.le_refl _) (I.hok.fresh (Nat.le_refl _))
  have hSI : (s.heap.push { cls := .type "list_iterator", data := .fields #[.ref a, .int 0 0] }).objs.size ≠ s.heap.objs.size := Nat.ne_of_gt hit
  have I3 : Inv X (pins ++ [((s.heap.push { cls := .type "list_iterator", data := .fields #[.ref a, .int 0 0] }).objs.size, refObj b 0)]) σ H { s with heap := (s.heap.push { cls := .type "list_iterator", data := .fields #[.ref a, .int 0 0] }).push { cls := .type "list", data := .seq #[.ref b] }, toks := s.toks } := I2.pins_of fun p hp => by
    rcases List.mem_append.mp hp with hp | hp
    · exact I2.pin p (List.mem_append_right _ hp)
    · rw [List.mem_singleton.mp hp]
      exact ⟨Heap.get?_push_size _ rfl, nS.1, nS.2.1, nS.2.2.1, fun v z => by cases z⟩
  have S0 : X.s_0.heap.objs.size ≤ (s.heap.push { cls := .type "list_iterator", data := .fields #[.ref a, .int 0 0] }).objs.size := Nat.le_trans I.sz (Nat.le_of_lt hit)
  refine loop_sumL (S := (s.heap.push { cls := .type "list_iterator", data := .fields #[.ref a, .int 0 0] }).objs.size) (it := s.heap.objs.size) (pins := pins) (X := X) (σ := σ) hcalm rfl rfl hsq hz hb hle (fun Hi _ hn => ⟨hn, nI.2⟩) hSI S0 nS.2.2.2.2.1 nS.2.2.2.2.2 (fun c acc Hi s' I' hc e => ?_) ps.length 0 _ b 0 H (by omega) (Nat.zero_le _) (.inl ⟨rfl, rfl, rfl, by simp⟩) I3 ⟨_, hk2 _ _ (Heap.get?_push_size _ rfl), rfl, rfl⟩ nI.1
  rcases hc with ⟨h0, rfl, rfl, _⟩ | ⟨h0, H'', x1, x2, rfl⟩
  · refine ⟨.ref _, _, I', rfl, q0 (List.eq_nil_of_length_eq_zero ?_)⟩
    rw [← sl_len hz]; exact h0
  · subst e
    refine ⟨.ref c, _, I', rfl, q1 (fun z => ?_) H'' c x1 x2⟩
    have h9 := sl_len hz
    rw [z, List.length_nil] at h9
    omega
end
end GxI
namespace Sm
open PySem PySem.Spec PyProof.Rows L2
/-- the lists that a list holds -/
def lstsU (S : Store) : List U → Option (List (List U))
  | [] => some []
  | .ref n :: r => (match S.get n, lstsU S r with
    | some ⟨.lst ws, 0⟩, some l => some (ws :: l)
    | _, _ => none)
  | _ :: _ => none
def cSumL : OpC
  | [w, .ref b], S => (match lstU S w, S.get b with
    | some ws, some ⟨.lst [], 0⟩ => (match lstsU S ws with
      | some zss => if zss.flatten.length ≤ lim then (match zss with
        | [] => .ok (.ref b) S
        | _ => .ok (.ref S.n) (S.new (.lst zss.flatten))) else .bad
      | none => .bad)
    | _, _ => .bad)
  | _, _ => .bad
section
variable {X : Cx} {Tb : Tbs}
theorem lsts_ok {K : PySem.W.Frag} {mg : Str → Option Value} {Λ : Lam} {φ : Map} {S : Store} {H : Hp} (s : SR K mg Tb Λ φ S H) : ∀ {ws : List U} {vs : List V} {l : List (List U)}, VRs K Λ φ H ws vs → lstsU S ws = some l →
    ∃ (ps : List Addr) (zss : List (List V)), vs = ps.map V.ref ∧ Paired (fun p zs => H p = some (.lst zs)) ps zss ∧ zss.length = l.length ∧ VRs K Λ φ H l.flatten zss.flatten
  | [], _, _, h, e => by cases e; exact ⟨[], [], h, .nil, rfl, rfl⟩
  | w :: ws, _, l, h, e => by
    obtain ⟨v, r, rfl, h1, h2⟩ := h
    cases w with
    | ref n =>
      unfold lstsU at e
      split at e
      · rename_i us l' hg hl
        cases e
        obtain ⟨ps, zss, e1, e2, e3, e4⟩ := lsts_ok s h2 hl
        obtain ⟨a, vs, g1, g2, g3, g4⟩ := s.lst hg
        obtain ⟨a', rfl, g1'⟩ := h1
        rw [g1] at g1'; cases g1'
        exact ⟨a :: ps, vs :: zss, by rw [e1]; rfl, .cons (g4 rfl) e2, by simp [e3], by simpa using g3.app e4⟩
      · cases e
    | _ => cases e
theorem ext_pl {K : PySem.W.Frag} {H H' : Hp} (h : GxI.ExtH H H') {a : Addr} {vs : List V} (q : SqL K H a vs) : SqL K H' a vs := by
  rcases q with (q | ⟨o, q⟩) | q
  · exact .inl (.inl (h _ _ q))
  · exact .inl (.inr ⟨o, h _ _ q⟩)
  · exact .inr q
theorem TX.ofE {H H' : Hp} (h : GxI.ExtH H H') : TX H H' := .of (fun a xs r => r.elim (fun r => .inl (h _ _ r)) fun ⟨o, r⟩ => .inr ⟨o, h _ _ r⟩) (fun _ _ r => h _ _ r) (fun _ _ _ r => h _ _ r)
theorem SR.ext {K : PySem.W.Frag} {mg : Str → Option Value} {Λ : Lam} {φ : Map} {S : Store} {H H' : Hp} (s : SR K mg Tb Λ φ S H) (h : GxI.ExtH H H') : SR K mg Tb Λ φ S H' :=
  s.heap (TX.ofE h).toTW (fun n a e => by
    obtain ⟨o, e1, _⟩ := s.trk n a e
    rw [e1, h _ _ e1]) fun q hq => by
    obtain ⟨ps, e1⟩ := (s.tab q hq).there
    rw [e1, h _ _ e1]
theorem cs_sumL (hc : X.calm = true) : CallS X Tb (.builtin "sum") cSumL := by
  refine ⟨_, GxI.call_sumL hc, fun Λ φ S H ws vs E Q s r p => ?_⟩
  unfold cSumL at p
  split at p
  · rename_i w b
    split at p
    · rename_i us hl hb
      split at p
      · rename_i zss hz
        split at p
        · rename_i hle
          obtain ⟨v, x, rfl, r1, r2⟩ := r.two
          obtain ⟨a, vs, rfl, g1, g2⟩ := lst_ok s r1 hl
          obtain ⟨pb, vb, b1, b2, b3, b4⟩ := s.lst hb
          obtain ⟨pb', rfl, b1'⟩ := r2
          rw [b1] at b1'; cases b1'
          cases (show vb = [] from b3)
          obtain ⟨ps, zv, e1, e2, e3, e4⟩ := lsts_ok s g2 hz
          subst e1
          refine ⟨a, pb, ps, zv, rfl, fun Hi h => ext_pl h g1, e2, b4 rfl, by rw [e4.length]; exact lim_le' hle, fun h0 => ?_, fun h0 H'' c hx hn => ?_⟩
          · have : zss = [] := List.eq_nil_of_length_eq_zero (by rw [← e3, h0]; rfl)
            subst this
            exact p φ _ H (Lt.refl _) (TX.refl _) s ⟨pb, rfl, b1⟩
          · have s' := s.ext hx
            have t' := TX.ofE hx
            have : zss ≠ [] := fun z => h0 (List.eq_nil_of_length_eq_zero (by rw [e3, z]; rfl))
            cases zss with
            | nil => exact absurd rfl this
            | cons z0 zr =>
              exact p _ _ _ (Map.lt_at s') (t'.trans (TX.new hn)) (s'.mk_lst hn (e4.mono (Lt.refl _) t')) VR.new
        · exact p.elim
      · exact p.elim
    · exact p.elim
  · exact p.elim
end
end Sm
/-! text Sm15 -/
namespace Sm
open PySem PySem.Spec PyProof.Rows L2 LamX
/-! ### lambdas without captured names -/
/-- no name of its own, none captured -/
structure LamP (scope : Scope) : Prop where
  kind : scope.kind = .function
  co : scope.isCoroutine = false
  gen : scope.isGenerator = false
  own : ∀ y ∈ scope.names, y.2 ≠ .local ∧ y.2 ≠ .cell ∧ y.2 ≠ .free
def lamPB (scope : Scope) : Bool :=
  decide (scope.kind = .function) && !scope.isCoroutine && !scope.isGenerator && scope.names.all fun y => !decide (y.2 = .local) && !decide (y.2 = .cell) && !decide (y.2 = .free)
theorem lamP_by {scope : Scope} (h : lamPB scope = true) : LamP scope := by
  unfold lamPB at h
  simp only [Bool.and_eq_true, Bool.not_eq_true', decide_eq_true_eq, decide_eq_false_iff_not, List.all_eq_true] at h
  obtain ⟨⟨⟨h1, h2⟩, h3⟩, h4⟩ := h
  exact ⟨h1, h2, h3, fun y hy => ⟨(h4 y hy).1.1, (h4 y hy).1.2, (h4 y hy).2⟩⟩
theorem cloFrom_none {cells : List (Str × Addr)} : ∀ {l : List (Str × NameKind)} {acc : List (Str × Addr)}, (∀ y ∈ l, y.2 ≠ .free) → cloFrom cells l acc = acc
  | [], acc, _ => by unfold cloFrom; rfl
  | (x, k) :: l, acc, h => by
    have hk : k ≠ .free := h (x, k) (by simp)
    have ih := fun acc => cloFrom_none (cells := cells) (l := l) (acc := acc) fun y hy => h y (List.mem_cons_of_mem _ hy)
    unfold cloFrom
    cases k <;> first | exact absurd rfl hk | exact ih _ | simp [ih]
abbrev lamE (q : Str) (scope : Scope) (L f c' : Addr) : PySem.Env := PySem.W.envX q scope L f (.ref c') []
/-- the context of the lambda's body -/
def lamC (X : Cx) (q : Str) (A : Around) (outer : List PySem.Env) (s : Shared) (H : Hp) (E : XK) (scope : Scope) (f c' : Addr) : Cx where
  prog := X.prog
  w := X.w
  K := X.K
  mg := X.mg
  base := X.base
  A := A.deeper (lamE q scope s.heap.objs.size f c')
  N := []
  s_0 := s
  H_0 := H
  env := lamE q scope s.heap.objs.size f c'
  outer := outer
  stack := lamE q scope s.heap.objs.size f c' :: outer
  ex := []
  fn := fun _ => false
  calm := true
  pn := []
  xe := fun e s' => wpAny (model X.prog X.w) (A.deeper (lamE q scope s.heap.objs.size f c')) (leaving (lamE q scope s.heap.objs.size f c') e) (fun _ s'' => L2.CX X.prog X.w outer H s E e s'') (fun e' s'' => L2.CX X.prog X.w outer H s E e' s'') s'
section
variable {X : Cx} {pins : List (Addr × Obj)} {σ : L2.St} {H : Hp} {s s1 : Shared}
theorem lam_start0 {q : Str} {A : Around} {outer : List PySem.Env} {E : XK} {scope : Scope} {f c' : Addr} {h₁ : Heap} {tk : Nat} (L : LamP scope) (e0 : Env0 X.prog X.w X.K X.mg X.base A outer s1 H) (hd : A.handled = none)
    (hns : h₁.Ns s1.heap.objs.size fun y => ([] : List (Str × Value)).reverse.lookup y) (kp : ∀ b o, s1.heap.get? b = some o → h₁.get? b = some o) :
    Inv (lamC X q A outer s1 H E scope f c') [] [] H { s1 with heap := h₁, toks := tk } := by
  have noA : ∀ b : Addr, b ∉ (lamC X q A outer s1 H E scope f c').ex := fun b z => absurd (show b ∈ ([] : List Addr) from z) (by simp)
  refine ⟨⟨e0.mod, L.kind, rfl, rfl, Nat.le_refl _, fun y z c e1 e2 => (by cases (show ([] : List (Str × Addr)).lookup y = some c from e1)), fun y hy => ?_, fun y c z _ => (by cases (show false = true from z)), fun _ => hd, Around.frames_deeper e0.frames, .inr ⟨rfl, rfl⟩, fun b z => absurd z (noA b), e0.bs, e0.bsz, fun b _ _ => noA b,
      fun b z => absurd z (noA b), e0.funs, e0.frf⟩,
    rfl, e0.bare, Un.kept kp, ⟨_, hns, fun i y v e1 e2 e3 => (by cases e1)⟩, fun y c e => (by cases (show ([] : List (Str × Addr)).lookup y = some c from e)), e0.hok.fresh (Nat.le_refl _), fun y c e => (by cases (show ([] : List (Str × Addr)).lookup y = some c from e)), fun q hq => absurd (show q ∈ ([] : List (Addr × Obj)) ++ [] from hq) (by simp), e0.hok.kept kp, rfl⟩
  have hy : scope.names.lookup y = some .cell ∨ scope.names.lookup y = some .free := hy
  rcases hy with hy | hy
  · exact absurd rfl (L.own _ (PySem.mem_of_lookup hy)).2.1
  · exact absurd rfl (L.own _ (PySem.mem_of_lookup hy)).2.2
/-- what a lambda does when it is called -/
def callL (m : ME) (S : Store) : Out U := m [] S
/-- the rule for a lambda's body -/
def LamB (X : Cx) (Tb : Tbs) (q : Str) (d : LamD) (j : Nat) (m : ME) : Prop := LamP d.scope ∧ (∀ pm cdv ctv, bindArgs (PySem.W.kla_fn "<lambda>" q d.params d.body d.scope [] pm cdv ctv) ⟨[], []⟩ = pure []) ∧
  ∀ (A : Around) (outer : List PySem.Env) (s : Shared) (H : Hp) (E : XK) (f c' : Addr), Ct (lamC X q A outer s H E d.scope f c') (WD E) j → SE (lamC X q A outer s H E d.scope f c') Tb (WD E) d.body m
/-- what() -/
def mCallV (i : Nat) (F : Nat → Store → Out U) : ME := fun ρ S => match ρ[i]? with
  | some (some (.lam j)) => F j S
  | _ => .bad
theorem se_callV {Tb : Tbs} {W : WX} {k : Nat} (C : Ct X W (k + 2)) (i : Nat) {x : Str} {p1 p2 : Pos} {F : Nat → Store → Out U} (hF : ∀ j q d, (lamsOf Tb)[j]? = some (q, d) → ∃ m, LamB X Tb q d k m ∧ ∀ S, F j S = callL m S)
    (hN : X.N[i]? = some x := by rfl) (hv : Vis X.env.scope x := by first | exact Or.inl rfl | exact Or.inr (Or.inl rfl) | exact Or.inr (Or.inr rfl)) (hd : (x == ("__debug__" : Str)) = false := by decide) (hcd : (x == ("__classdict__" : Str)) = false := by decide) :
    SE X Tb W (.Call (.Name x p1) [] [] p2) (mCallV i F) := by
  refine ⟨⟨fun pins s σ H Q I ⟨Λ, φ, ρ, S, s0, e0, p⟩ => ?_⟩⟩
  unfold mCallV at p
  split at p
  · rename_i j hj
    obtain ⟨v, hv1, f, rfl, hf⟩ := e0.2 i _ hj
    rw [s0.lam] at hf
    obtain ⟨⟨q, d⟩, hq, c', pm, ctv, hfo, hco⟩ := hf
    obtain ⟨m, ⟨L, hbind, hbody⟩, hFm⟩ := hF j q d hq
    rw [hFm] at p
    refine wpAny_Call_Name_kw (thn ((pe_var (pos := p1) (i := i) hN hv hd hcd).run pins s σ H (fun v H1 => v = .ref f ∧ H1 = H) I ⟨.ref f, hv1, rfl, rfl⟩) fun u s1 ⟨v, H1, I1, r1, q1⟩ => ?_)
    obtain ⟨ev, eH⟩ := q1
    subst ev
    rw [eH] at I1
    obtain rfl : u = Value.ref f := r1
    have of1 : s1.heap.get? f = some (PySem.W.kla_obj "<lambda>" q d.params d.body d.scope [] pm c' ctv) := (I1.hok f _ hfo).1
    refine PySem.W.callWith_F0 ⟨_, _, _, _, of1⟩ ?_
    obtain ⟨⟨oc, vs, t, hoc, hdc, hvc⟩, _, _⟩ := I1.hok c' _ hco
    have rc : codeAny (model X.prog X.w) X.A (.call (.ref f) ⟨[], []⟩) (CR (L2.CX X.prog X.w) X.stack X.prog X.w H s1 Q (fun c d H' => W c d σ H')) s1 := by
      refine PySem.W.kla_callFunE C.room.depth of1 rfl L.co L.gen rfl ⟨c', oc, vs, t, rfl, hoc, hdc, hvc⟩ ?_
      rw [hbind]
      refine wpAny_pure (wpAny_newFunctionEnv (fun y hy => (L.own y hy).2.1) (fun y hy => absurd hy (by simp)) (fun h₁ hns hsb => ⟨I1.nolimit.fresh _ hsb, ?_⟩) L.kind)
      show codeAny _ _ (.expr d.body (lamE q d.scope s1.heap.objs.size f c')) _ _
      have kp : ∀ b o, s1.heap.get? b = some o → h₁.get? b = some o := fun b o e => hsb.extBut b o (Nat.ne_of_lt (Heap.lt_size e)) (Heap.get?_push_of_some _ e)
      have J : Inv (lamC X q X.A X.stack s1 H (fun c d H' => W c d σ H') d.scope f c') [] [] H { s1 with heap := h₁, toks := s1.toks + ([] : List (Str × Value)).length } :=
        lam_start0 L I1.env0 C.room.hd hns kp
      have ct : Ct (lamC X q X.A X.stack s1 H (fun c d H' => W c d σ H') d.scope f c') (WD (fun c d H' => W c d σ H')) k := ⟨rfl, List.nodup_nil, takes_of rfl rfl rfl rfl, passes_of rfl, (C.room.mono (by omega : k + 1 ≤ k + 2)).deeper _⟩
      refine PySem.W.kla_codeExpr (wpAny_mono ((hbody X.A X.stack s1 H (fun c d H' => W c d σ H') f c' ct).pe.run [] _ [] H Q J ⟨Λ, φ, [], S, s0, ⟨rfl, fun i w e => by cases e⟩, p⟩) (fun v s' hq => ?_) fun e s' hq => hq)
      obtain ⟨w', H', J', rv, q⟩ := hq
      exact ⟨w', H', J'.os, J'.bare, J'.base, J'.hok, rv, q⟩
    refine wpAny_call (codeAny_mono rc fun r s' hq => ?_)
    cases r with
    | error e => exact C.tk e s' (XE.of_call I1 (fun cls d H' h => h) hq)
    | ok fl =>
      cases fl with
      | ret u => exact I1.after hq
      | next => exact False.elim hq
      | brk => exact False.elim hq
      | cont => exact False.elim hq
  · exact p.elim
end
end Sm
/-! text Sm16 -/
namespace Sm
open PySem PySem.Spec PyProof.Rows L2 LamX
section
variable {X : Cx} {Tb : Tbs} {W : WX} {pos : Pos}
theorem funO_ok {P : Program} {w : World} {H : Hp} {h : Heap} {a : Addr} {o : Obj} (e : h.get? a = some o) : ObjOk P w H h a (FunO a o) := ⟨e, ⟨o, e⟩, fun _ _ x k => k o x⟩
/-- where lambdas are made -/
structure LamAt (X : Cx) (Tb : Tbs) (q : Str) : Prop where
  nm : q = X.env.qual ++ "<lambda>"
  tab : ∃ c P ds, LamX.TabB X.base X.mg c P ∧ X.env.code = .ref c ∧ (P, some (q, ds)) ∈ Tb ∧ ∀ t ∈ Tb, t.1 = P → ∃ ds, t.2 = some (q, ds)
theorem se_lam {q : Str} (h : LamAt X Tb q) (i : Nat) {params : Arguments} {body : Expr} {scope : Scope} (L : LamP scope) (hj : (lamsOf Tb)[i]? = some (q, ⟨params, body, scope⟩)) (hdef : defaultsOf params X.env = ([], []) := by rfl) : SE X Tb W (.Lambda params body scope pos) (mC (.lam i)) := by
  refine ⟨⟨fun pins s σ H Q I ⟨Λ, φ, ρ, S, s0, e0, p⟩ => ?_⟩⟩
  obtain ⟨hnm, c, P, ds, TB, hcode, hPT, hT⟩ := h
  subst hnm
  obtain ⟨ps, hP, ht, ha⟩ : LamX.TabS H P (X.env.qual ++ "<lambda>") := s0.tab _ hPT
  refine PySem.W.kla_eval hdef ?_
  have bP : s.heap.BuiltinsAt X.mg P := TB.bm.keeps I.bk
  have hP' : s.heap.get? P = some { cls := .none, data := .fields ps } := I.hok P _ hP
  have hclo : closureFor scope X.env = pure [] := by
    have h1 := closure_ok (env := X.env) (scope := scope) fun y hy e => absurd e (L.own y hy).2.2
    rw [cloFrom_none fun y hy => (L.own y hy).2.2] at h1
    exact h1
  have fin : ∀ (H1 : Hp) (h' : Heap) (tk : Nat) (pm ctv : Value) (c' : Addr), Inv X pins σ H1 { s with heap := h', toks := tk } → TX H H1 → SR X.K X.mg Tb Λ φ S H1 → H1 c' = some (LamX.CodeO c' (X.env.qual ++ "<lambda>")) →
      EP X pins σ Q (.ref h'.objs.size) { s with heap := h'.push (PySem.W.kla_obj "<lambda>" (X.env.qual ++ "<lambda>") params body scope [] pm c' ctv), toks := tk } := fun H1 h' tk pm ctv c' I1 t1 s1 hc => by
    have hn : H1 h'.objs.size = none := I1.hok.fresh (Nat.le_refl _)
    have I2 := I1.laid (h' := h'.push (PySem.W.kla_obj "<lambda>" (X.env.qual ++ "<lambda>") params body scope [] pm c' ctv)) (t' := tk) (a := h'.objs.size) (o := FunO h'.objs.size (PySem.W.kla_obj "<lambda>" (X.env.qual ++ "<lambda>") params body scope [] pm c' ctv)) (fun b o e => Heap.get?_push_of_some _ e) (Nat.le_refl _) (funO_ok (Heap.get?_push_size _ rfl))
    refine ⟨.ref h'.objs.size, _, I2, rfl, p φ _ _ (Lt.refl _) (t1.trans (TX.new hn)) (s1.gar hn _) ⟨_, rfl, ?_⟩⟩
    rw [s0.lam]
    exact ⟨_, hj, c', pm, ctv, upd_same, by rw [upd_ne (ne_of_none hc hn)]; exact hc⟩
  cases hc : codeAmong pos ps.toList with
  | none =>
    refine PySem.W.kla_makeFunction (mg := X.mg) (c := c) (P := P) (ps := ps) hclo I.ok.glob (I.mod.glob.keeps I.bk) hcode (TB.code.keeps I.bk) hP' ht hc TB.gP bP fun c' ctv h' tk hx hge hlt hrec htb => ?_
    obtain ⟨c2, oc, vs, t, e2, hoc, hd, hv⟩ := hrec
    cases e2
    have nC : H c' = none := I.hok.fresh hge
    have I1 := LamX.inv_table (t' := tk) (more := #[rawInt pos.line, rawInt pos.col, .ref c']) (h' := h') I hP (fun b o hb e => hx b o hb e) htb hge ⟨oc, vs, t, hoc, hd, hv⟩
    have nPc : P ≠ c' := ne_of_none hP nC
    have at_ : ∀ b, b ≠ P → b ≠ c' → upd (upd H P (.tbl (ps ++ #[rawInt pos.line, rawInt pos.col, .ref c']))) c' (CodeO c' (X.env.qual ++ "<lambda>")) b = H b := fun b h1 h2 => by rw [upd_ne h2, upd_ne h1]
    have keep : ∀ b u, H b = some u → (∀ ps, u ≠ .tbl ps) → upd (upd H P (.tbl (ps ++ #[rawInt pos.line, rawInt pos.col, .ref c']))) c' (CodeO c' (X.env.qual ++ "<lambda>")) b = H b := fun b u e n =>
      at_ b (fun z => by rw [z, hP] at e; cases e; exact n ps rfl) (ne_of_none e nC)
    have t1 : TX H (upd (upd H P (.tbl (ps ++ #[rawInt pos.line, rawInt pos.col, .ref c']))) c' (CodeO c' (X.env.qual ++ "<lambda>"))) := by
      refine .of (fun b xs r => ?_) (fun b ψ r => by rw [keep b _ r fun _ z => nomatch z]; exact r) (fun b o u r => by rw [keep b _ r fun _ z => nomatch z]; exact r)
      rcases r with r | ⟨o, r⟩
      · exact .inl (by rw [keep b _ r fun _ z => nomatch z]; exact r)
      · exact .inr ⟨o, by rw [keep b _ r fun _ z => nomatch z]; exact r⟩
    have eL : (ps ++ #[rawInt pos.line, rawInt pos.col, .ref c']).toList = ps.toList ++ [rawInt pos.line, rawInt pos.col, .ref c'] := by simp
    have k1 : ∀ n a, φ n = some a → upd (upd H P (.tbl (ps ++ #[rawInt pos.line, rawInt pos.col, .ref c']))) c' (CodeO c' (X.env.qual ++ "<lambda>")) a = H a := fun n a q => by
      obtain ⟨o, e1, _, _, e4⟩ := s0.trk n a q
      exact keep a o e1 e4
    have s1 : SR X.K X.mg Tb Λ φ S (upd (upd H P (.tbl (ps ++ #[rawInt pos.line, rawInt pos.col, .ref c']))) c' (CodeO c' (X.env.qual ++ "<lambda>"))) := by
      refine ⟨fun n cc q => ?_, s0.inj, s0.dom, fun n a q => by rw [k1 n a q]; exact s0.trk n a q, fun q hq => ?_, s0.lam⟩
      · obtain ⟨a, h1, h2⟩ := s0.ob n cc q
        exact ⟨a, h1, h2.mono (Lt.refl _) t1.toTW (k1 n a h1)⟩
      · by_cases hb : q.1 = P
        · obtain ⟨ds', e⟩ := hT q hq hb
          obtain ⟨P', q2⟩ := q
          have e : q2 = some (X.env.qual ++ "<lambda>", ds') := e
          have hb : P' = P := hb
          subst e hb
          refine (show LamX.TabS _ P' _ from ⟨_, by rw [upd_ne nPc, upd_same], by rw [eL]; exact PySem.TriplesOk_snoc _ _ _ _ ht, fun p' cv hcv => ?_⟩)
          rw [eL] at hcv
          rcases LamX.among_app _ ht hcv with z | z
          · obtain ⟨c0, e1, e2⟩ := ha p' cv z
            exact ⟨c0, e1, t1.ext _ _ e2⟩
          · exact ⟨c', z, upd_same⟩
        · obtain ⟨ps', e5⟩ := (s0.tab q hq).there
          exact (s0.tab q hq).eq t1.toTW (at_ _ hb (ne_of_none e5 nC))
    exact fin _ h' tk _ ctv c' I1 t1 s1 upd_same
  | some cv =>
    obtain ⟨c', e, hco⟩ := ha pos cv hc
    subst e
    refine PySem.W.kla_makeFunctionHit (mg := X.mg) (c := c) (P := P) (ps := ps) hclo I.ok.glob (I.mod.glob.keeps I.bk) hcode (TB.code.keeps I.bk) hP' ht hc bP fun ctv h' tk hx hsz => ?_
    have I1 : Inv X pins σ H { s with heap := h', toks := tk } := I.kept hx
    exact fin H h' tk _ ctv c' I1 (TX.refl H) s0 hco
end
end Sm
/-! text Sm17 -/
namespace Sm
open PySem PySem.Spec PyProof.Rows L2
section
variable {X : Cx} {Tb : Tbs} {W : WX} {pos : Pos} {k : Nat}
/-- what is not served -/
def mBad : ME := fun _ _ => .bad
theorem se_bad {e : Expr} : SE X Tb W e mBad := ⟨⟨fun pins s σ H Q I ⟨Λ, φ, ρ, S, s0, e0, p⟩ => p.elim⟩⟩
theorem se_gint {x : Str} {i : Int} (hm : ∃ t, X.mg x = some (.int i t)) (hg : Gl X x := by rfl) (hd : (x == ("__debug__" : Str)) = false := by decide) : SE X Tb W (.Name x pos) (mC (.int i)) := by
  obtain ⟨t, hm⟩ := hm
  exact se_glob (v := .int i) hg hm ⟨t, rfl⟩ (fun _ _ _ => rfl) hd
theorem se_gstr {x z : Str} {l : List Nat} (hm : ∃ t, X.mg x = some (.str z t)) (hl : z.cps.toList = l) (hg : Gl X x := by rfl) (hd : (x == ("__debug__" : Str)) = false := by decide) : SE X Tb W (.Name x pos) (mC (.str l)) := by
  obtain ⟨t, hm⟩ := hm
  refine se_glob (v := .str z) hg hm ⟨t, rfl⟩ (fun _ _ _ => ?_) hd
  subst hl
  show V.str z = V.str _
  rw [str_eta]
/-- {} -/
def mDict0 : ME := fun _ S => .ok (.ref S.n) (S.new (.dK []))
theorem se_dict0 : SE X Tb W (.Dict [] [] pos) mDict0 := by
  refine se_weak pe_dnewK fun Λ φ ρ S σ H Q s e p => ?_
  exact fun q hq => p _ _ _ (Map.lt_at s) (TX.new hq) (s.mk_dK hq) VR.new
theorem Ct.mono {j : Nat} (C : Ct X W k) (h : j ≤ k) : Ct X W j := ⟨C.calm, C.nd, C.tk, C.po, C.room.mono h⟩
/-- a def that may be called, so many defaults at the end -/
structure CalS (P : Program) (w : World) (K : PySem.W.Frag) (mg : Str → Option Value) (base : Heap) (Tb : Tbs) (x : Str) (k n : Nat) (dws : List U) (F : Fn) : Prop where
  ex : ∃ (f : Addr) (fd : FuncData) (ps : List Str) (dvs : List V) (ds : List Value), mg x = some (.ref f) ∧ PySem.W.keepIn K (.ref f) = true ∧ FnOk P w K mg base (L2.CX P w) k f fd ps (spS K mg Tb n F) ∧ Binds K fd ps ds ∧ Vals dvs ds ∧ ∀ Λ φ H, VRs K Λ φ H dws dvs
theorem se_callX (C : Ct X W k) {j n : Nat} {x : Str} {p : Pos} {e : Expr} {es : List Expr} {F : Fn} {dws : List U} {ma : MA} (h : CalS X.prog X.w X.K X.mg X.base Tb x j n dws F) (ha : SA X Tb W (e :: es) ma) (hk : j ≤ k := by decide) (hg : Gl X x := by rfl)
    (hdb : (x == ("__debug__" : Str)) = false := by decide) (he : starEach (e :: es) X.env = (false, eval e X.env) :: starEach es X.env := by rfl) (hpl : (backTo pos (starEach es X.env)).any (·.1) = false := by rfl) :
    SE X Tb W (.Call (.Name x p) (e :: es) [] pos) (mCall F n dws ma) := by
  obtain ⟨f, fd, ps, dvs, ds, h1, h2, h3, h4, h5, h6⟩ := h.ex
  exact se_call C h3 hk h1 h2 h4 h5 h6 ha hg hdb he hpl
theorem se_callX0 {E : XK} (C : Ct X (WD E) k) {j n : Nat} {x : Str} {p : Pos} {F : Fn} {dws : List U} (h : CalS X.prog X.w X.K X.mg X.base Tb x j n dws F) (hk : j ≤ k := by decide) (hg : Gl X x := by rfl)
    (hdb : (x == ("__debug__" : Str)) = false := by decide) : SE X Tb (WD E) (.Call (.Name x p) [] [] pos) (mCall0 F n dws) := by
  obtain ⟨f, fd, ps, dvs, ds, h1, h2, h3, h4, h5, h6⟩ := h.ex
  exact se_call0 C h3 hk h1 h2 h4 h5 h6 hg hdb
/-- an exception class of one's own -/
structure ExS (K : PySem.W.Frag) (mg : Str → Option Value) (c : Str) (Ca : Addr) : Prop where
  xP : PySem.W.excIn K Ca [.type "ValueError", .type "Exception", .type "BaseException", .type "object"] "ValueError.__new__" = true
  gP : mg c = some (.ref Ca)
  kP : PySem.W.keepIn K (.ref Ca) = true
  bP : PySem.W.subIn K (.ref Ca) (.type "BaseException") = some true
  tP : PySem.W.typeIn K (.ref Ca) = some (.type "type")
theorem ss_raiseX (C : Ct X W k) {c : Str} {Ca : Addr} {m : Str} {i : Nat} {p1 p2 p3 : Pos} (h : ExS X.K X.mg c Ca) (hg : Gl X c := by rfl) (hdb : (c == ("__debug__" : Str)) = false := by decide) :
    SS X Tb W (.Raise (some (.Call (.Name c p1) [.Constant (.str m) i p2] [] p3)) none pos) (sRaise c) := ss_raise C h.xP h.gP h.kP h.bP h.tP hg hdb
end
end Sm
/-! text Sm18 -/
namespace Sm
open PySem PySem.Spec PyProof.Rows L2
section
variable {P : Program} {w : World} {K : PySem.W.Frag} {mg : Str → Option Value} {base : Heap} {Tb : Tbs}
/-- THE RULE for a def, its code object known -/
theorem fn_okC {x qual : Str} {params : Arguments} {body : List Stmt} {scope : Scope} {dvs : List V} {kws : List (Str × V)} {fd : FuncData} {p : He.Defn} (F : FunD K x qual params body scope dvs kws (He.fAd K p) fd) {N ps : List Str} {k : Nat} {m : MS} (S : FnScope N ps scope)
    (hb : ∀ (A : Around) (outer : List PySem.Env) (s : Shared) (H : Hp) (E : XK), Ct (cxD P w K mg base N qual scope (He.fAd K p) (.ref (He.codeOf K p)) A outer s H E) (WD E) k → SSs (cxD P w K mg base N qual scope (He.fAd K p) (.ref (He.codeOf K p)) A outer s H E) Tb (WD E) body m) :
    FnOk P w K mg base (L2.CX P w) (k + 1) (He.fAd K p) fd ps (spS K mg Tb ps.length (callB m N.length)) := by
  obtain ⟨oc, od, dV, kV, doc, pm, an, cdv, ct, osl, rfl, lk, hcd, hD, hK⟩ := F.ex
  obtain ⟨c, rfl⟩ := He.codeIn_ref hcd
  have hc : He.codeOf K p = c := He.codeOf_eq lk rfl
  refine fn_of lk hcd S (fun vs H Q E ⟨Λ, φ, ws, S, _, h, hl, _⟩ => by rw [h.length, hl]) fun A outer s H vs Q E hr ⟨Λ, φ, ws, S0, s0, h, hl, pp⟩ => ?_
  rw [← hc]
  have ct' : Ct (cxD P w K mg base N qual scope (He.fAd K p) (.ref (He.codeOf K p)) A outer s H E) (WD E) k := ⟨rfl, S.nd, takes_of rfl rfl rfl rfl, passes_of rfl, by rw [hc]; exact hr⟩
  refine ⟨_, (hb A outer s H E ct').pss, Λ, φ, _, S0, s0, ER.start h, ?_⟩
  show PostS K mg Tb Λ (WD E) φ H (m (ws.map some ++ List.replicate (N.length - ws.length) none) S0) _
  unfold callB at pp
  cases hm : m (ws.map some ++ List.replicate (N.length - ws.length) none) S0 with
  | bad => rw [hm] at pp; exact pp.elim
  | exc c ρ S1 => rw [hm] at pp; exact fun φ' σ' H' C l t s' e' hc => pp φ' H' C l t s' hc
  | go fl ρ S1 =>
    rw [hm] at pp
    cases fl with
    | nx => exact fun φ' σ' H' l t s' e' => pp φ' .non H' l t s' rfl
    | rt w => exact fun φ' σ' H' l t s' e' v r => pp φ' v H' l t s' r
    | bk => exact pp.elim
    | ct => exact pp.elim
/-- the lambdas of a text: in lists that are bound to a name -/
def lamsE : Expr → List LamD
  | .Lambda a b sc _ => [⟨a, b, sc⟩]
  | _ => []
def lamsL : Expr → List LamD
  | .List es _ => es.flatMap lamsE
  | .BinOp _ _ (.List es _) _ => es.flatMap lamsE
  | _ => []
def lamsS : Stmt → List LamD
  | .Assign _ v _ => lamsL v
  | _ => []
def lamsB (b : List Stmt) : List LamD := b.flatMap lamsS
/-- a genexp table's place -/
def GxT (K : PySem.W.Frag) (mg : Str → Option Value) (base : Heap) (Tb : Tbs) (p : He.Defn) : Prop := ∃ c P, GxR.TabB base mg c P ∧ Value.ref (He.codeOf K p) = .ref c ∧ (P, none) ∈ Tb ∧ ∀ q ∈ Tb, q.1 = P → q.2 = none
def LmT (K : PySem.W.Frag) (mg : Str → Option Value) (base : Heap) (Tb : Tbs) (p : He.Defn) (q : Str) : Prop := ∃ c P ds, LamX.TabB base mg c P ∧ Value.ref (He.codeOf K p) = .ref c ∧ (P, some (q, ds)) ∈ Tb ∧ ∀ t ∈ Tb, t.1 = P → ∃ ds, t.2 = some (q, ds)
end
end Sm
/-! text Sm19 -/
namespace Sm
open PySem PySem.Spec PyProof.Rows L2
/-- the tables: of generator expressions, then that of the lambdas -/
def tbsOf (K : PySem.W.Frag) (gx : List He.Defn) (lm : List (He.Defn × Str × List LamD)) : Tbs := (gx.map fun p => ((He.cT K p).2, none)) ++ lm.map fun p => ((He.cT K p.1).2, some p.2)
theorem nodup_app {α β : Type} {f : α → β} {l m : List α} (h : ((l ++ m).map f).Nodup) {a b : α} (ha : a ∈ l) (hb : b ∈ m) : f a ≠ f b := by
  rw [List.map_append, List.nodup_append] at h
  exact h.2.2 (f a) (List.mem_map_of_mem ha) (f b) (List.mem_map_of_mem hb)
theorem gxT_of {K : PySem.W.Frag} {mg : Str → Option Value} {base : Heap} {gx : List He.Defn} {lm : List (He.Defn × Str × List LamD)} (hn : ((gx ++ lm.map (·.1)).map fun p => (He.cT K p).2).Nodup) {p : He.Defn} (hp : p ∈ gx) (T : LamX.TabB base mg (He.cT K p).1 (He.cT K p).2) : GxT K mg base (tbsOf K gx lm) p := by
  refine ⟨(He.cT K p).1, (He.cT K p).2, ⟨T.code, T.bm, T.gP⟩, rfl, List.mem_append_left _ (List.mem_map.mpr ⟨p, hp, rfl⟩), fun q hq e => ?_⟩
  rcases List.mem_append.mp hq with h | h
  · obtain ⟨p', _, rfl⟩ := List.mem_map.mp h
    rfl
  · obtain ⟨p', hp', rfl⟩ := List.mem_map.mp h
    exact absurd e.symm (nodup_app hn hp (List.mem_map_of_mem hp'))
theorem lmT_of {K : PySem.W.Frag} {mg : Str → Option Value} {base : Heap} {gx : List He.Defn} {l : He.Defn} {q : Str} {ds : List LamD} (hn : ((gx ++ [l]).map fun p => (He.cT K p).2).Nodup) (T : LamX.TabB base mg (He.cT K l).1 (He.cT K l).2) : LmT K mg base (tbsOf K gx [(l, q, ds)]) l q := by
  refine ⟨(He.cT K l).1, (He.cT K l).2, ds, T, rfl, List.mem_append_right _ (by simp), fun t ht e => ?_⟩
  rcases List.mem_append.mp ht with h | h
  · obtain ⟨p', hp', rfl⟩ := List.mem_map.mp h
    exact absurd e (nodup_app hn hp' (by simp))
  · obtain rfl : t = _ := by simpa using h
    exact ⟨ds, rfl⟩
theorem lamsOf_tbs (K : PySem.W.Frag) (gx : List He.Defn) (l : He.Defn) (q : Str) (ds : List LamD) : lamsOf (tbsOf K gx [(l, q, ds)]) = ds.map fun d => (q, d) := by
  induction gx with
  | nil => simp [lamsOf, tbsOf]
  | cons p gx ih => exact ih
/-- a script's list, as it is handed in -/
theorem law_start {K : PySem.W.Frag} {mg : Str → Option Value} {gx : List He.Defn} {lm : List (He.Defn × Str × List LamD)} {H : Hp} {a : Addr} {ns : List Int} {F : Fn} (hH : ∀ p ∈ (gx ++ lm.map (·.1)).map (He.cT K), H p.2 = some (.tbl #[])) (hS : SqL K H a (ns.map V.int))
    (hF : ∀ (u : U) (S : Store), lstU S u = some (ns.map U.int) → (∀ n c, S.get n = some c → ∃ ws, c.o = .lst ws) → ∃ S', F [u] S = .ok (.bl true) S') : spS K mg (tbsOf K gx lm) 1 F [.ref a] H (fun v _ => v = .bl true) fun _ _ _ => False := by
  have tab : ∀ p ∈ tbsOf K gx lm, TbOk H p := fun p hp => by
    rcases List.mem_append.mp hp with h | h
    · obtain ⟨q, hq, rfl⟩ := List.mem_map.mp h
      have e := hH (He.cT K q) (List.mem_map_of_mem (List.mem_append_left _ hq))
      exact (show GxR.TabG H _ from ⟨#[], e, True.intro⟩)
    · obtain ⟨q, hq, rfl⟩ := List.mem_map.mp h
      have e := hH (He.cT K q.1) (List.mem_map_of_mem (List.mem_append_right _ (List.mem_map_of_mem hq)))
      exact (show LamX.TabS H _ _ from LamX.TabS.nil e)
  have done : ∀ (u : U) (S : Store) (φ : Map), SR K mg (tbsOf K gx lm) (lamOf (tbsOf K gx lm)) φ S H → VR K (lamOf (tbsOf K gx lm)) φ H u (.ref a) → lstU S u = some (ns.map U.int) → (∀ n c, S.get n = some c → ∃ ws, c.o = .lst ws) → spS K mg (tbsOf K gx lm) 1 F [.ref a] H (fun v _ => v = .bl true) fun _ _ _ => False := fun u S φ s r hu hl => by
    obtain ⟨S', e⟩ := hF u S hu hl
    refine ⟨_, φ, [u], S, s, VRs.cons r VRs.nil, rfl, ?_⟩
    rw [e]
    exact fun φ' v H' _ _ _ r => r
  have none_ : SR K mg (tbsOf K gx lm) (lamOf (tbsOf K gx lm)) (fun _ => none) Store.empty H := ⟨fun n c e => (by cases e), fun _ _ _ e => (by cases e), fun _ _ e => (by cases e), fun _ _ e => (by cases e), tab, rfl⟩
  have frz : PLs K H a (ns.map V.int) → spS K mg (tbsOf K gx lm) 1 F [.ref a] H (fun v _ => v = .bl true) fun _ _ _ => False := fun h =>
    done (.lsq (ns.map U.int)) Store.empty _ none_ ⟨a, _, rfl, h, VRs.of_ints⟩ rfl fun n c e => by cases e
  rcases hS with (h | h) | h
  · have s1 : SR K mg (tbsOf K gx lm) (lamOf (tbsOf K gx lm)) (fun n => if n = 0 then some a else none) (Store.empty.new (.lst (ns.map U.int))) H := by
      refine ⟨fun n c e => ?_, fun m n b e1 e2 => ?_, fun n b e => ?_, fun n b e => ?_, tab, rfl⟩
      · rw [Store.get_new] at e
        by_cases hn : n = 0
        · subst hn
          have e2 : some (⟨.lst (ns.map U.int), 0⟩ : Cell) = some c := e
          cases e2
          exact ⟨a, rfl, _, h, VRs.of_ints⟩
        · rw [if_neg (show ¬n = Store.empty.n from hn)] at e
          cases e
      · by_cases hm : m = 0
        · by_cases hn : n = 0
          · rw [hm, hn]
          · rw [if_neg hn] at e2; cases e2
        · rw [if_neg hm] at e1; cases e1
      · by_cases hn : n = 0
        · subst hn; exact Nat.zero_lt_succ _
        · rw [if_neg hn] at e; cases e
      · by_cases hn : n = 0
        · rw [if_pos hn] at e
          cases e
          exact ⟨_, h, ⟨fun _ z => (by cases z), fun _ z => (by cases z), fun _ z => (by cases z)⟩⟩
        · rw [if_neg hn] at e; cases e
    refine done (.ref 0) _ _ s1 ⟨a, rfl, rfl⟩ ?_ fun n c e => ?_
    · unfold lstU
      simp only [Store.get_new]
      rfl
    · rw [Store.get_new] at e
      split at e
      · cases e; exact ⟨_, rfl⟩
      · cases e
  · exact frz (.inl h)
  · exact frz (.inr h)
end Sm
/-! text Pl1 -/
/-! The plain law's rules: what a value function and a store function answer, by weakest preconditions. -/
namespace Pl
open Sm
def Wp {α : Type} (o : Out α) (Q : α → Store → Prop) : Prop := match o with
  | .ok a S => Q a S
  | _ => False
def WpS (o : OutS) (N : Env → Store → Prop) (R : U → Store → Prop) : Prop := match o with
  | .go .nx ρ S => N ρ S
  | .go (.rt w) _ S => R w S
  | _ => False
section
variable {α β : Type} {S : Store} {ρ : Env}
theorem wp_ok {a : α} {Q : α → Store → Prop} : Wp (.ok a S) Q ↔ Q a S := Iff.rfl
theorem wp_bind {o : Out α} {f : α → Store → Out β} {Q : β → Store → Prop} : Wp (o.bind f) Q ↔ Wp o fun a S => Wp (f a S) Q := by
  cases o <;> exact Iff.rfl
theorem wps_then {o : Out α} {k : α → Store → OutS} {N : Env → Store → Prop} {R : U → Store → Prop} : WpS (o.then ρ k) N R ↔ Wp o fun a S => WpS (k a S) N R := by
  cases o <;> exact Iff.rfl
theorem wps_nx {N : Env → Store → Prop} {R : U → Store → Prop} : WpS (.go .nx ρ S) N R ↔ N ρ S := Iff.rfl
theorem wps_rt {w : U} {N : Env → Store → Prop} {R : U → Store → Prop} : WpS (.go (.rt w) ρ S) N R ↔ R w S := Iff.rfl
theorem wps_seq {m n : MS} {N : Env → Store → Prop} {R : U → Store → Prop} : WpS (sSeq m n ρ S) N R ↔ WpS (m ρ S) (fun ρ S => WpS (n ρ S) N R) R := by
  unfold sSeq
  cases m ρ S with
  | go f ρ S => cases f <;> exact Iff.rfl
  | exc c ρ S => exact Iff.rfl
  | bad => exact Iff.rfl
theorem Wp.mono {o : Out α} {P Q : α → Store → Prop} (h : Wp o P) (k : ∀ a S, P a S → Q a S) : Wp o Q := by
  cases o with
  | ok a S => exact k a S h
  | exc c S => exact h
  | bad => exact h
theorem WpS.mono {o : OutS} {N N' : Env → Store → Prop} {R R' : U → Store → Prop} (h : WpS o N R) (k : ∀ ρ S, N ρ S → N' ρ S) (r : ∀ w S, R w S → R' w S) : WpS o N' R' := by
  cases o with
  | go f ρ S =>
    cases f with
    | nx => exact k ρ S h
    | rt w => exact r w S h
    | bk => exact h
    | ct => exact h
  | exc c ρ S => exact h
  | bad => exact h
theorem wp_ex {o : Out α} {Q : α → Store → Prop} (h : Wp o Q) : ∃ a S, o = .ok a S ∧ Q a S := by
  cases o with
  | ok a S => exact ⟨a, S, rfl, h⟩
  | exc c S => exact h.elim
  | bad => exact h.elim
/-- a function's call -/
theorem wp_call {m : MS} {n : Nat} {ws : List U} {Q : U → Store → Prop} (h : WpS (m (ws.map some ++ List.replicate (n - ws.length) none) S) (fun _ S => Q .non S) Q) : Wp (callB m n ws S) Q := by
  unfold callB
  revert h
  cases m (ws.map some ++ List.replicate (n - ws.length) none) S with
  | go f ρ S => cases f <;> exact fun h => h
  | exc c ρ S => exact fun h => h
  | bad => exact fun h => h
theorem noX_of {o : Out α} {Q : α → Store → Prop} (h : Wp o Q) : noX o = o := by
  cases o with
  | ok a S => rfl
  | exc c S => exact h.elim
  | bad => rfl
theorem wp_noX {o : Out α} {Q : α → Store → Prop} : Wp (noX o) Q ↔ Wp o Q := by
  cases o <;> exact Iff.rfl
end
/-! ### stores -/
/-- S' keeps what S holds, but for the cells of P -/
structure Sx (P : Nat → Prop) (S S' : Store) : Prop where
  n : S.n ≤ S'.n
  get : ∀ i, i < S.n → ¬P i → S'.get i = S.get i
abbrev No : Nat → Prop := fun _ => False
abbrev Only (d : Nat) : Nat → Prop := fun i => i = d
theorem Sx.refl {P : Nat → Prop} {S : Store} : Sx P S S := ⟨Nat.le_refl _, fun _ _ _ => rfl⟩
theorem Sx.trans {P : Nat → Prop} {S S' S'' : Store} (h : Sx P S S') (k : Sx P S' S'') : Sx P S S'' := ⟨Nat.le_trans h.n k.n, fun i hi hp => (k.get i (Nat.lt_of_lt_of_le hi h.n) hp).trans (h.get i hi hp)⟩
theorem Sx.new {P : Nat → Prop} {S : Store} {o : Ob} : Sx P S (S.new o) := ⟨Nat.le_succ _, fun i hi _ => by rw [Store.get_new, if_neg (Nat.ne_of_lt hi)]⟩
theorem Sx.weak {P : Nat → Prop} {S S' : Store} (h : Sx No S S') : Sx P S S' := ⟨h.n, fun i hi _ => h.get i hi id⟩
theorem Sx.put {P : Nat → Prop} {S : Store} {i : Nat} {c : Cell} (h : P i ∨ S.n ≤ i) : Sx P S (S.put i c) := ⟨Nat.le_refl _, fun j hj hp => by
  rw [Store.get_put, if_neg]
  intro e
  subst e
  rcases h with h | h
  · exact hp h
  · omega⟩
theorem Sx.own {S : Store} {d : Nat} {c : Cell} : Sx (Only d) S (S.put d c) := Sx.put (P := Only d) (.inl rfl)
/-- a store written at a cell above S is as good -/
theorem Sx.put_above {P : Nat → Prop} {S S' : Store} {i : Nat} {c : Cell} (h : Sx P S S') (hi : S.n ≤ i) : Sx P S (S'.put i c) := ⟨h.n, fun j hj hp => by
  rw [Store.get_put, if_neg (by omega)]
  exact h.get j hj hp⟩
theorem Sx.new_above {P : Nat → Prop} {S S' : Store} {o : Ob} (h : Sx P S S') : Sx P S (S'.new o) := h.trans Sx.new
/-- the cell n is an old one and holds o -/
structure At (S : Store) (n : Nat) (o : Ob) : Prop where
  lt : n < S.n
  get : S.get n = some ⟨o, 0⟩
theorem At.sx {P : Nat → Prop} {S S' : Store} {n : Nat} {o : Ob} (h : At S n o) (k : Sx P S S') (hp : ¬P n := by exact id) : At S' n o := ⟨Nat.lt_of_lt_of_le h.lt k.n, (k.get n h.lt hp).trans h.get⟩
theorem At.new {S : Store} {o : Ob} : At (S.new o) S.n o := ⟨Nat.lt_succ_self _, by rw [Store.get_new, if_pos rfl]⟩
theorem At.put {S : Store} {n : Nat} {o : Ob} (h : n < S.n) : At (S.put n ⟨o, 0⟩) n o := ⟨h, by rw [Store.get_put, if_pos rfl]⟩
theorem At.put_ne {S : Store} {n m : Nat} {o : Ob} {c : Cell} (h : At S n o) (hn : n ≠ m) : At (S.put m c) n o := ⟨h.lt, by rw [Store.get_put, if_neg hn]; exact h.get⟩
/-! ### loops -/
/-- a source that yields the values of L -/
def Yld (src : Src) (L : List U) (S : Store) : Prop := ∀ i, src i S = match L[i]? with
  | some w => .item w
  | none => .stop
theorem yld_v {L : List U} {S : Store} : Yld (srcV L) L S := fun i => by
  unfold srcV
  cases L[i]? <;> rfl
theorem yld_l {n : Nat} {L : List U} {S : Store} {k : Nat} (h : S.get n = some ⟨.lst L, k⟩) : Yld (srcL n) L S := fun i => by
  unfold srcL
  rw [h]
  all_goals (try dsimp only)
  all_goals (cases L[i]? <;> rfl)
theorem yld_r {lo : Int} {n : Nat} {S : Store} : Yld (srcR lo n) ((List.range n).map fun i : Nat => U.int (lo + i)) S := fun i => by
  unfold srcR
  by_cases h : i < n
  · rw [if_pos h, List.getElem?_map, List.getElem?_range h]
    rfl
  · rw [if_neg h, List.getElem?_map, List.getElem?_eq_none (by rw [List.length_range]; omega)]
    rfl
theorem frl_from {src : Src} {g : MG} {m : MS} (L : List U) (I : Nat → Env → Store → Prop) {N : Env → Store → Prop} {R : U → Store → Prop} (hy : ∀ i ρ S, I i ρ S → Yld src L S)
    (hs : ∀ i w ρ S, L[i]? = some w → I i ρ S → Wp (g w ρ S) fun ρ S => WpS (m ρ S) (I (i + 1)) R) (he : ∀ ρ S, I L.length ρ S → N ρ S) : ∀ (f i : Nat) (ρ : Env) (S : Store), i ≤ L.length → L.length < f + i → I i ρ S → WpS (frl src g m f i ρ S) N R
  | 0, i, ρ, S, h1, h2, _ => by omega
  | f + 1, i, ρ, S, h1, h2, hI => by
    unfold frl
    rw [hy i ρ S hI i]
    by_cases hi : i < L.length
    · have e : L[i]? = some L[i] := List.getElem?_eq_getElem hi
      rw [e]
      dsimp only
      have k := hs i _ ρ S e hI
      rw [wps_then]
      refine k.mono fun ρ1 S1 k1 => ?_
      revert k1
      cases m ρ1 S1 with
      | go fl ρ2 S2 =>
        cases fl with
        | nx => exact fun k1 => frl_from L I hy hs he f (i + 1) ρ2 S2 (by omega) (by omega) k1
        | rt w => exact fun k1 => k1
        | bk => exact fun k1 => k1.elim
        | ct => exact fun k1 => k1.elim
      | exc c ρ2 S2 => exact fun k1 => k1.elim
      | bad => exact fun k1 => k1.elim
    · have e : i = L.length := by omega
      subst e
      rw [List.getElem?_eq_none (Nat.le_refl _)]
      exact he ρ S hI
theorem wps_for {mi : MI} {g : MG} {m : MS} {ρ : Env} {S : Store} (L : List U) (I : Nat → Env → Store → Prop) {N : Env → Store → Prop} {R : U → Store → Prop}
    (hi : Wp (mi ρ S) fun p S1 => p.2 = none ∧ I 0 ρ S1 ∧ ∀ i ρ S, I i ρ S → Yld p.1 L S) (hl : L.length < fuel)
    (hs : ∀ i w ρ S, L[i]? = some w → I i ρ S → Wp (g w ρ S) fun ρ S => WpS (m ρ S) (I (i + 1)) R) (he : ∀ ρ S, I L.length ρ S → N ρ S) : WpS (sFor mi g m ρ S) N R := by
  unfold sFor
  rw [wps_then]
  refine hi.mono fun p S1 h => ?_
  obtain ⟨e, h0, hy⟩ := h
  rw [e]
  exact frl_from L I hy hs he fuel 0 ρ S1 (Nat.zero_le _) (by omega) h0
/-- a list comprehension: the general rule; J is kept of the store under the list's own cell -/
theorem lcl_from {src : Src} {g : MG} {mt : MT} {me : ME} {ρ : Env} {D : Nat} (L : List U) (I : Nat → List U → Store → Prop) (hy : ∀ i acc S, I i acc S → Yld src L S)
    (hs : ∀ i w acc S, L[i]? = some w → I i acc S → At S D (.lst acc) → acc.length ≤ i → Wp (g w ρ S) fun ρ2 S => Wp (mt ρ2 S) fun b S1 => (b = false → I (i + 1) acc S1 ∧ At S1 D (.lst acc)) ∧ (b = true → Wp (me ρ2 S1) fun u S2 => At S2 D (.lst acc) ∧ I (i + 1) (acc ++ [u]) (S2.put D ⟨.lst (acc ++ [u]), 0⟩)))
    {Q : Unit → Store → Prop} (he : ∀ acc S, I L.length acc S → At S D (.lst acc) → Q () S) (hl : L.length < lim) : ∀ (f i : Nat) (acc : List U) (S : Store), i ≤ L.length → L.length < f + i → acc.length ≤ i → I i acc S → At S D (.lst acc) → Wp (lcl src g mt me ρ D f i S) Q
  | 0, i, acc, S, h1, h2, _, _, _ => by omega
  | f + 1, i, acc, S, h1, h2, h3, hI, hD => by
    unfold lcl
    rw [hy i acc S hI i]
    by_cases hi : i < L.length
    · have e : L[i]? = some L[i] := List.getElem?_eq_getElem hi
      rw [e]
      dsimp only
      have k := hs i _ acc S e hI hD h3
      rw [wp_bind, wp_noX]
      refine k.mono fun ρ2 S1 k1 => ?_
      rw [wp_bind, wp_noX]
      refine k1.mono fun b S2 k2 => ?_
      cases b with
      | false =>
        obtain ⟨a, b⟩ := k2.1 rfl
        exact lcl_from L I hy hs he hl f (i + 1) acc S2 (by omega) (by omega) (by omega) a b
      | true =>
        dsimp only
        rw [wp_bind, wp_noX]
        refine (k2.2 rfl).mono fun u S3 k3 => ?_
        obtain ⟨a, b⟩ := k3
        rw [a.get]
        show Wp (if acc.length < lim then lcl src g mt me ρ D f (i + 1) (S3.put D ⟨.lst (acc ++ [u]), 0⟩) else Out.bad) Q
        rw [if_pos (by omega)]
        exact lcl_from L I hy hs he hl f (i + 1) _ _ (by omega) (by omega) (by rw [List.length_append]; simp; omega) b (At.put a.lt)
    · have e : i = L.length := by omega
      subst e
      rw [List.getElem?_eq_none (Nat.le_refl _)]
      exact he acc S hI hD
theorem wp_lc {mi : MI} {g : MG} {mt : MT} {me : ME} {vs : List Nat} {ρ : Env} {S : Store} (L : List U) (I : Nat → List U → Store → Prop) {Q : U → Store → Prop}
    (hi : Wp (mi ρ S) fun p S1 => p.2 = none ∧ I 0 [] (S1.new (.lst [])) ∧ (∀ i acc S, I i acc S → Yld p.1 L S) ∧
      (∀ i w acc S, L[i]? = some w → I i acc S → At S S1.n (.lst acc) → acc.length ≤ i → Wp (g w (wipeU ρ vs) S) fun ρ2 S => Wp (mt ρ2 S) fun b S2 => (b = false → I (i + 1) acc S2 ∧ At S2 S1.n (.lst acc)) ∧ (b = true → Wp (me ρ2 S2) fun u S3 => At S3 S1.n (.lst acc) ∧ I (i + 1) (acc ++ [u]) (S3.put S1.n ⟨.lst (acc ++ [u]), 0⟩))) ∧
      ∀ acc S, I L.length acc S → At S S1.n (.lst acc) → Q (.ref S1.n) S) (hl : L.length < fuel) : Wp (mLc mi g mt me vs ρ S) Q := by
  unfold mLc
  rw [wp_bind]
  refine hi.mono fun p S1 h => ?_
  obtain ⟨e, h0, hy, hs, he⟩ := h
  rw [wp_bind]
  refine lcl_from L I hy hs (fun acc S h1 h2 => ?_) (Nat.lt_trans hl (by decide)) fuel 0 [] _ (Nat.zero_le _) (by omega) (Nat.zero_le _) h0 At.new
  rw [e]
  exact he acc S h1 h2
end Pl
/-! text Pl2 -/
/-! More rules: the expressions' and statements' rules, one comprehension that only extends, one that works on a state. -/
namespace Pl
open Sm
section
variable {S : Store} {ρ : Env}
theorem wp_ite {α : Type} {c : Prop} [Decidable c] {o : Out α} {Q : α → Store → Prop} : Wp (if c then o else .bad) Q ↔ c ∧ Wp o Q := by
  by_cases h : c
  · rw [if_pos h]; exact ⟨fun k => ⟨h, k⟩, fun k => k.2⟩
  · rw [if_neg h]; exact ⟨fun k => k.elim, fun k => (h k.1).elim⟩
theorem wp_bin {g : Op2} {a b : ME} {Q : U → Store → Prop} : Wp (mBin g a b ρ S) Q ↔ Wp (a ρ S) fun u S => Wp (b ρ S) fun v S => Wp (g u v S) Q := by
  unfold mBin
  rw [wp_bind]
  simp only [wp_bind]
theorem wp_c {w : U} {Q : U → Store → Prop} : Wp (mC w ρ S) Q ↔ Q w S := Iff.rfl
theorem wp_b {m : ME} {Q : Bool → Store → Prop} : Wp (mB m ρ S) Q ↔ Wp (m ρ S) fun w S => ∃ b, w = .bl b ∧ Q b S := by
  unfold mB
  rw [wp_bind]
  cases m ρ S with
  | ok w S =>
    cases w <;> first | exact ⟨fun h => ⟨_, rfl, h⟩, fun ⟨_, e, h⟩ => by cases e; exact h⟩ | exact ⟨fun h => h.elim, fun ⟨_, e, _⟩ => nomatch e⟩
  | exc c S => exact Iff.rfl
  | bad => exact Iff.rfl
theorem wp_if {c : MT} {a b : ME} {Q : U → Store → Prop} : Wp (mIf c a b ρ S) Q ↔ Wp (c ρ S) fun z S => (z = true → Wp (a ρ S) Q) ∧ (z = false → Wp (b ρ S) Q) := by
  unfold mIf
  rw [wp_bind]
  cases c ρ S with
  | ok z S => cases z <;> simp [Wp]
  | exc c S => exact Iff.rfl
  | bad => exact Iff.rfl
theorem wps_if {c : MT} {a b : MS} {N : Env → Store → Prop} {R : U → Store → Prop} : WpS (sIf c a b ρ S) N R ↔ Wp (c ρ S) fun z S => (z = true → WpS (a ρ S) N R) ∧ (z = false → WpS (b ρ S) N R) := by
  unfold sIf
  rw [wps_then]
  cases c ρ S with
  | ok z S => cases z <;> simp [Wp]
  | exc c S => exact Iff.rfl
  | bad => exact Iff.rfl
theorem wp_and {a b : MT} {Q : Bool → Store → Prop} : Wp (mAnd a b ρ S) Q ↔ Wp (a ρ S) fun z S => (z = true → Wp (b ρ S) Q) ∧ (z = false → Q false S) := by
  unfold mAnd
  rw [wp_bind]
  cases a ρ S with
  | ok z S => cases z <;> simp [Wp]
  | exc c S => exact Iff.rfl
  | bad => exact Iff.rfl
theorem wp_or {a b : MT} {Q : Bool → Store → Prop} : Wp (mOr a b ρ S) Q ↔ Wp (a ρ S) fun z S => (z = true → Q true S) ∧ (z = false → Wp (b ρ S) Q) := by
  unfold mOr
  rw [wp_bind]
  cases a ρ S with
  | ok z S => cases z <;> simp [Wp]
  | exc c S => exact Iff.rfl
  | bad => exact Iff.rfl
theorem wp_not {a : MT} {Q : Bool → Store → Prop} : Wp (mNot a ρ S) Q ↔ Wp (a ρ S) fun z S => Q (!z) S := by
  unfold mNot
  rw [wp_bind] <;> rfl
theorem wp_nil {Q : List U → Store → Prop} : Wp (mNil ρ S) Q ↔ Q [] S := Iff.rfl
theorem wp_cons {a : ME} {b : MA} {Q : List U → Store → Prop} : Wp (mCons a b ρ S) Q ↔ Wp (a ρ S) fun u S => Wp (b ρ S) fun us S => Q (u :: us) S := by
  unfold mCons
  rw [wp_bind]
  simp only [wp_bind, wp_ok]
theorem wp_callC {g : OpC} {a : MA} {Q : U → Store → Prop} : Wp (mCallC g a ρ S) Q ↔ Wp (a ρ S) fun us S => Wp (g us S) Q := by
  unfold mCallC
  rw [wp_bind]
theorem wp_callF {F : Fn} {n : Nat} {d : List U} {a : MA} {Q : U → Store → Prop} : Wp (mCall F n d a ρ S) Q ↔ Wp (a ρ S) fun us S => (us ++ d).length = n ∧ Wp (F (us ++ d) S) Q := by
  unfold mCall
  rw [wp_bind]
  simp only [wp_ite]
theorem wp_call0 {F : Fn} {n : Nat} {d : List U} {Q : U → Store → Prop} : Wp (mCall0 F n d ρ S) Q ↔ d.length = n ∧ Wp (F d S) Q := by
  unfold mCall0
  exact wp_ite
theorem wp_tup {a : MA} {Q : U → Store → Prop} : Wp (mTup a ρ S) Q ↔ Wp (a ρ S) fun us S => us.length ≤ lim ∧ Q (.tup us) S := by
  unfold mTup
  rw [wp_bind]
  simp only [wp_ite, wp_ok]
theorem wp_lst {a : MA} {Q : U → Store → Prop} : Wp (mLst a ρ S) Q ↔ Wp (a ρ S) fun us S => us.length ≤ lim ∧ Q (.ref S.n) (S.new (.lst us)) := by
  unfold mLst
  rw [wp_bind]
  simp only [wp_ite, wp_ok]
theorem wps_nil {N : Env → Store → Prop} {R : U → Store → Prop} : WpS (sNil ρ S) N R ↔ N ρ S := Iff.rfl
theorem wps_ret {a : ME} {N : Env → Store → Prop} {R : U → Store → Prop} : WpS (sRet a ρ S) N R ↔ Wp (a ρ S) R := by
  unfold sRet
  rw [wps_then] <;> rfl
theorem wps_set {i : Nat} {a : ME} {N : Env → Store → Prop} {R : U → Store → Prop} : WpS (sSet i a ρ S) N R ↔ Wp (a ρ S) fun w S => N (ρ.set i (some w)) S := by
  unfold sSet
  rw [wps_then] <;> rfl
theorem wps_asg {a : ME} {g : MG} {N : Env → Store → Prop} {R : U → Store → Prop} : WpS (sAsg a g ρ S) N R ↔ Wp (a ρ S) fun w S => Wp (g w ρ S) N := by
  unfold sAsg
  rw [wps_then]
  simp only [wps_then, wps_nx]
theorem wp_gN {i : Nat} {w : U} {Q : Env → Store → Prop} : Wp (gN i w ρ S) Q ↔ Q (ρ.set i (some w)) S := Iff.rfl
theorem wp_gsNil {Q : Env → Store → Prop} : Wp (gsNil [] ρ S) Q ↔ Q ρ S := Iff.rfl
theorem wp_gsCons {m : MG} {n : MGs} {w : U} {r : List U} {Q : Env → Store → Prop} : Wp (gsCons m n (w :: r) ρ S) Q ↔ Wp (m w ρ S) fun ρ S => Wp (n r ρ S) Q := by
  show Wp ((m w ρ S).bind fun ρ S => n r ρ S) Q ↔ _
  rw [wp_bind]
theorem wp_gT {n : Nat} {m : MGs} {ws : List U} {Q : Env → Store → Prop} : Wp (gT n m (.tup ws) ρ S) Q ↔ ws.length = n ∧ Wp (m ws ρ S) Q := wp_ite
theorem wp_gS {mo mi : ME} {w : U} {Q : Env → Store → Prop} : Wp (gS mo mi w ρ S) Q ↔ Wp (mo ρ S) fun o S => Wp (mi ρ S) fun i S => Wp (uSet o i w S) fun _ S => Q ρ S := by
  unfold gS
  rw [wp_bind]
  simp only [wp_bind, wp_ok]
theorem wp_yes {Q : Bool → Store → Prop} : Wp (mYes ρ S) Q ↔ Q true S := Iff.rfl
theorem wp_bm {T : String} {g : OpM} {mo : ME} {ma : MA} {Q : U → Store → Prop} : Wp (mBm T g mo ma ρ S) Q ↔ Wp (mo ρ S) fun o S => tyU T S o = true ∧ Wp (ma ρ S) fun us S => Wp (g o us S) Q := by
  unfold mBm
  rw [wp_bind]
  cases mo ρ S with
  | ok o S =>
    simp only [wp_ok]
    cases tyU T S o
    · exact ⟨fun h => h.elim, fun h => nomatch h.1⟩
    · simp only [wp_bind, true_and]
  | exc c S => exact Iff.rfl
  | bad => exact Iff.rfl
theorem wp_cut {m : ME} {lo hi : MO} {Q : U → Store → Prop} : Wp (mCut m lo hi ρ S) Q ↔ Wp (m ρ S) fun w S => Wp (lo ρ S) fun l S => Wp (hi ρ S) fun h S => Wp (oCut w l h S) Q := by
  unfold mCut
  rw [wp_bind]
  simp only [wp_bind]
theorem wp_oNo {Q : Option Int → Store → Prop} : Wp (oNo ρ S) Q ↔ Q none S := Iff.rfl
theorem wp_oSo {m : ME} {Q : Option Int → Store → Prop} : Wp (oSo m ρ S) Q ↔ Wp (m ρ S) fun w S => ∃ i, w = .int i ∧ Q (some i) S := by
  unfold oSo
  rw [wp_bind]
  cases m ρ S with
  | ok w S =>
    cases w <;> first | exact ⟨fun h => ⟨_, rfl, h⟩, fun ⟨_, e, h⟩ => by cases e; exact h⟩ | exact ⟨fun h => h.elim, fun ⟨_, e, _⟩ => nomatch e⟩
  | exc c S => exact Iff.rfl
  | bad => exact Iff.rfl
theorem wp_neg {m : ME} {Q : U → Store → Prop} : Wp (mNeg m ρ S) Q ↔ Wp (m ρ S) fun w S => ∃ i, w = .int i ∧ Q (.int (-i)) S := by
  unfold mNeg
  rw [wp_bind]
  cases m ρ S with
  | ok w S =>
    cases w <;> first | exact ⟨fun h => ⟨_, rfl, h⟩, fun ⟨_, e, h⟩ => by cases e; exact h⟩ | exact ⟨fun h => h.elim, fun ⟨_, e, _⟩ => nomatch e⟩
  | exc c S => exact Iff.rfl
  | bad => exact Iff.rfl
/-! ### plain operations on integers -/
theorem wp_int {f : Int → Int → Bool} {i j : Int} {Q : U → Store → Prop} : Wp (oInt f (.int i) (.int j) S) Q ↔ Q (.bl (f i j)) S := Iff.rfl
theorem wp_add {i j : Int} {Q : U → Store → Prop} : Wp (oAdd (.int i) (.int j) S) Q ↔ Q (.int (i + j)) S := Iff.rfl
theorem wp_sub {i j : Int} {Q : U → Store → Prop} : Wp (oSub (.int i) (.int j) S) Q ↔ Q (.int (i - j)) S := Iff.rfl
theorem wp_mul {i j : Int} {Q : U → Store → Prop} : Wp (oMul (.int i) (.int j) S) Q ↔ (small i || small j) = true ∧ Q (.int (i * j)) S := wp_ite
theorem wp_mod {i j : Int} (h : 0 < j) {Q : U → Store → Prop} : Wp (oMod (.int i) (.int j) S) Q ↔ Q (.int (i % j)) S := by
  show Wp (if 0 < j then _ else _) Q ↔ _
  rw [if_pos h] <;> rfl
theorem wp_div {i j : Int} (h : 0 < j) (k : j < 1073741824) {Q : U → Store → Prop} : Wp (oDiv (.int i) (.int j) S) Q ↔ Q (.int (i / j)) S := by
  show Wp (if 0 < j ∧ j < 1073741824 then _ else _) Q ↔ _
  rw [if_pos ⟨h, k⟩] <;> rfl
theorem wp_cInt {i : Int} {Q : U → Store → Prop} : Wp (cInt [.int i] S) Q ↔ Q (.int i) S := Iff.rfl
theorem wp_eqI {i j : Int} {Q : U → Store → Prop} : Wp (oEq (.int i) (.int j) S) Q ↔ Q (.bl (decide (i = j))) S := Iff.rfl
theorem wp_neI {i j : Int} {Q : U → Store → Prop} : Wp (oNe (.int i) (.int j) S) Q ↔ Q (.bl (!decide (i = j))) S := Iff.rfl
theorem wp_eqS {i j : List Nat} {Q : U → Store → Prop} : Wp (oEq (.str i) (.str j) S) Q ↔ Q (.bl (decide (i = j))) S := Iff.rfl
theorem wp_neS {i j : List Nat} {Q : U → Store → Prop} : Wp (oNe (.str i) (.str j) S) Q ↔ Q (.bl (!decide (i = j))) S := Iff.rfl
/-- an item of a list in the store -/
theorem wp_ix {n : Nat} {ws : List U} {k : Int} {j : Nat} {x : U} (h : At S n (.lst ws)) (hj : pyIx ws.length k = some j) (hx : ws[j]? = some x) {Q : U → Store → Prop} : Wp (oIx (.ref n) (.int k) S) Q ↔ Q x S := by
  have e : oIx (.ref n) (.int k) S = .ok x S := by
    show (match lstU S (.ref n) with | some ws => _ | none => _) = _
    have e1 : lstU S (.ref n) = some ws := by
      simp only [lstU, h.get]
    rw [e1]
    show (match atU ws k with | some x => _ | none => _) = _
    have e2 : atU ws k = some x := by
      unfold atU
      rw [hj]
      exact hx
    rw [e2]
  rw [e] <;> rfl
theorem wp_uSet {n : Nat} {ws : List U} {k : Int} {j : Nat} {v : U} (h : At S n (.lst ws)) (hj : pyIx ws.length k = some j) {Q : Unit → Store → Prop} : Wp (uSet (.ref n) (.int k) v S) Q ↔ Q () (S.put n ⟨.lst (ws.set j v), 0⟩) := by
  have e : uSet (.ref n) (.int k) v S = .ok () (S.put n ⟨.lst (ws.set j v), 0⟩) := by
    unfold uSet
    simp only [h.get, hj]
  rw [e] <;> rfl
theorem wp_len {n : Nat} {ws : List U} (h : At S n (.lst ws)) {Q : U → Store → Prop} : Wp (cLen [.ref n] S) Q ↔ Q (.int ws.length) S := by
  have e : cLen [.ref n] S = .ok (.int ws.length) S := by
    show (match seqU S (.ref n) with | some ws => _ | none => _) = _
    have e1 : seqU S (.ref n) = some ws := by
      simp only [seqU, lstU, h.get]
    rw [e1]
  rw [e] <;> rfl
theorem wp_lenS {l : List Nat} {Q : U → Store → Prop} : Wp (cLen [.str l] S) Q ↔ l.length ≤ lim ∧ Q (.int l.length) S := wp_ite
/-! ### what is gone through -/
theorem wp_itL {m : ME} {Q : Src × Option Nat → Store → Prop} (h : Wp (m ρ S) fun w S => ∃ n ws, w = .ref n ∧ At S n (.lst ws) ∧ Q (srcL n, none) S) : Wp (mIt m ρ S) Q := by
  unfold mIt
  rw [wp_bind]
  refine h.mono fun w S h => ?_
  obtain ⟨n, ws, rfl, a, q⟩ := h
  simp only [a.get]
  exact q
theorem wp_itT {m : ME} {Q : Src × Option Nat → Store → Prop} (h : Wp (m ρ S) fun w S => ∃ ws, w = .tup ws ∧ Q (srcV ws, none) S) : Wp (mIt m ρ S) Q := by
  unfold mIt
  rw [wp_bind]
  refine h.mono fun w S h => ?_
  obtain ⟨ws, rfl, q⟩ := h
  exact q
theorem wp_itS {m : ME} {Q : Src × Option Nat → Store → Prop} (h : Wp (m ρ S) fun w S => ∃ l, w = .str l ∧ Q (srcV (l.map fun c => .str [c]), none) S) : Wp (mIt m ρ S) Q := by
  unfold mIt
  rw [wp_bind]
  refine h.mono fun w S h => ?_
  obtain ⟨ws, rfl, q⟩ := h
  exact q
theorem wp_range1 {m : MA} {Q : Src × Option Nat → Store → Prop} (h : Wp (m ρ S) fun us S => ∃ j, us = [.int j] ∧ inR j = true ∧ Q (srcR 0 j.toNat, none) S) : Wp (mRange1 m ρ S) Q := by
  unfold mRange1
  rw [wp_bind]
  refine h.mono fun w S h => ?_
  obtain ⟨j, rfl, h2, q⟩ := h
  dsimp only
  rw [if_pos h2]
  exact q
theorem wp_range2 {m : MA} {Q : Src × Option Nat → Store → Prop} (h : Wp (m ρ S) fun us S => ∃ i j, us = [.int i, .int j] ∧ (inR i && inR j) = true ∧ Q (srcR i (j - i).toNat, none) S) : Wp (mRange2 m ρ S) Q := by
  unfold mRange2
  rw [wp_bind]
  refine h.mono fun w S h => ?_
  obtain ⟨i, j, rfl, h2, q⟩ := h
  dsimp only
  rw [if_pos h2]
  exact q
end
/-- a comprehension on a state J, which may write at P's cells: each value is of V -/
theorem wp_lcJ {mi : MI} {g : MG} {mt : MT} {me : ME} {vs : List Nat} {ρ : Env} {S : Store} (L : List U) (P : Nat → Prop) (J : Store → Prop) (V : U → Prop)
    (hJn : ∀ S' o, J S' → J (S'.new o)) (hJp : ∀ S' i c, S.n ≤ i → J S' → J (S'.put i c)) (hP : ∀ i, P i → i < S.n)
    (hi : Wp (mi ρ S) fun p S1 => p.2 = none ∧ Sx P S S1 ∧ J S1 ∧ ∀ S', Sx P S1 S' → Yld p.1 L S')
    (hs : ∀ (i : Nat) (w : U) (S' : Store), L[i]? = some w → Sx P S S' → J S' → Wp (g w (wipeU ρ vs) S') fun ρ2 S2 => Wp (mt ρ2 S2) fun b S3 => (b = false → Sx P S' S3 ∧ J S3) ∧ (b = true → Wp (me ρ2 S3) fun u S4 => Sx P S' S4 ∧ J S4 ∧ V u)) (hl : L.length < fuel) :
    Wp (mLc mi g mt me vs ρ S) fun u S' => ∃ a us, u = .ref a ∧ S.n ≤ a ∧ At S' a (.lst us) ∧ us.length ≤ L.length ∧ (∀ x ∈ us, V x) ∧ Sx P S S' ∧ J S' := by
  obtain ⟨p, S1, e1, h⟩ := wp_ex hi
  obtain ⟨e, x, j, hy⟩ := h
  refine wp_lc L (fun i acc S' => Sx P S1 S' ∧ J S' ∧ S1.n < S'.n ∧ acc.length ≤ i ∧ ∀ u ∈ acc, V u) ?_ hl
  rw [e1]
  refine ⟨e, ⟨Sx.new, hJn _ _ j, Nat.lt_succ_self _, Nat.le_refl _, fun _ z => nomatch z⟩, fun i acc S h => hy S h.1, fun i w acc S' e2 h a hl2 => ?_, fun acc S' h a => ?_⟩
  · have nP : ¬P S1.n := fun z => by have := hP _ z; have := x.n; omega
    refine (hs i w S' e2 (x.trans h.1) h.2.1).mono fun ρ2 S2 k => k.mono fun b S3 k => ⟨fun hb => ?_, fun hb => ?_⟩
    · obtain ⟨k1, k2⟩ := k.1 hb
      exact ⟨⟨h.1.trans k1, k2, Nat.lt_of_lt_of_le h.2.2.1 k1.n, Nat.le_succ_of_le h.2.2.2.1, h.2.2.2.2⟩, a.sx k1 nP⟩
    · refine (k.2 hb).mono fun u S4 k => ?_
      obtain ⟨k1, k2, k3⟩ := k
      refine ⟨a.sx k1 nP, Sx.put_above (h.1.trans k1) (Nat.le_refl _), hJp _ _ _ x.n k2, Nat.lt_of_lt_of_le h.2.2.1 k1.n, by rw [List.length_append]; simp; omega, fun v hv => ?_⟩
      rcases List.mem_append.mp hv with hv | hv
      · exact h.2.2.2.2 v hv
      · obtain rfl := List.mem_singleton.mp hv
        exact k3
  · exact ⟨_, acc, rfl, x.n, a, h.2.2.2.1, h.2.2.2.2, x.trans h.1, h.2.1⟩
/-- a comprehension that only extends -/
theorem wp_lcN {mi : MI} {g : MG} {mt : MT} {me : ME} {vs : List Nat} {ρ : Env} {S : Store} (L : List U) (fn : U → Option U)
    (hi : Wp (mi ρ S) fun p S1 => p.2 = none ∧ Sx No S S1 ∧ ∀ S', Sx No S1 S' → Yld p.1 L S')
    (hs : ∀ w S', w ∈ L → Sx No S S' → Wp (g w (wipeU ρ vs) S') fun ρ2 S2 => Wp (mt ρ2 S2) fun b S3 => (b = false → Sx No S' S3 ∧ fn w = none) ∧ (b = true → Wp (me ρ2 S3) fun u S4 => Sx No S' S4 ∧ fn w = some u)) (hl : L.length < fuel) :
    Wp (mLc mi g mt me vs ρ S) fun u S' => ∃ a, u = .ref a ∧ S.n ≤ a ∧ At S' a (.lst (L.filterMap fn)) ∧ Sx No S S' := by
  obtain ⟨p, S1, e1, h⟩ := wp_ex hi
  obtain ⟨e, x, hy⟩ := h
  refine wp_lc L (fun i acc S' => Sx No S1 S' ∧ S1.n < S'.n ∧ acc = (L.take i).filterMap fn) ?_ hl
  rw [e1]
  refine ⟨e, ⟨Sx.new, Nat.lt_succ_self _, rfl⟩, fun i acc S h => hy S h.1, fun i w acc S' e2 h a hl2 => ?_, fun acc S' h a => ?_⟩
  · have t : L.take (i + 1) = L.take i ++ [w] := by rw [List.take_succ, e2] <;> rfl
    refine (hs w S' (List.mem_of_getElem? e2) (x.trans h.1)).mono fun ρ2 S2 k => k.mono fun b S3 k => ⟨fun hb => ?_, fun hb => ?_⟩
    · obtain ⟨k1, k2⟩ := k.1 hb
      refine ⟨⟨h.1.trans k1, Nat.lt_of_lt_of_le h.2.1 k1.n, ?_⟩, a.sx k1⟩
      rw [t, List.filterMap_append, List.filterMap_cons_none k2, h.2.2]
      simp
    · refine (k.2 hb).mono fun u S4 k => ?_
      obtain ⟨k1, k2⟩ := k
      refine ⟨a.sx k1, Sx.put_above (h.1.trans k1) (Nat.le_refl _), Nat.lt_of_lt_of_le h.2.1 k1.n, ?_⟩
      rw [t, List.filterMap_append, List.filterMap_cons_some k2, h.2.2] <;> rfl
  · rw [h.2.2, List.take_length] at a
    exact ⟨_, rfl, x.n, a, x.trans h.1⟩
end Pl
/-! text Pl3 -/
/-! Generator expressions, dict comprehensions, while, equality of data. -/
namespace Pl
open Sm
theorem wp_onlyX {α : Type} {ns : List PySem.Str} {o : Out α} {Q : α → Store → Prop} (h : Wp o Q) : Wp (onlyX ns o) Q := by
  cases o with
  | ok a S => exact h
  | exc c S => exact h.elim
  | bad => exact h
section
variable {κ : Type} {stp : κ → U → Option (GSt κ)}
theorem gxl_from {src : Src} {g : MG} {mt : MT} {me : ME} (L : List U) (I : Nat → κ → Env → Store → Prop) (hy : ∀ i k ρ S, I i k ρ S → Yld src L S) {Q : κ × Bool → Store → Prop}
    (hs : ∀ (i : Nat) (w : U) (k : κ) (ρ : Env) (S : Store), L[i]? = some w → I i k ρ S → Wp (g w ρ S) fun ρ S => Wp (mt ρ S) fun b S => (b = false → I (i + 1) k ρ S) ∧ (b = true → Wp (me ρ S) fun u S => (∃ k', stp k u = some (.go k') ∧ I (i + 1) k' ρ S) ∨ (stp k u = some .stop ∧ Q (k, true) S)))
    (he : ∀ k ρ S, I L.length k ρ S → Q (k, false) S) : ∀ (f i : Nat) (k : κ) (ρ : Env) (S : Store), i ≤ L.length → L.length < f + i → I i k ρ S → Wp (gxl src g mt me stp f i k ρ S) Q
  | 0, i, k, ρ, S, h1, h2, _ => by omega
  | f + 1, i, k, ρ, S, h1, h2, hI => by
    unfold gxl
    rw [hy i k ρ S hI i]
    by_cases hi : i < L.length
    · have e : L[i]? = some L[i] := List.getElem?_eq_getElem hi
      rw [e]
      dsimp only
      rw [wp_bind]
      refine (hs i _ k ρ S e hI).mono fun ρ1 S1 k1 => ?_
      rw [wp_bind]
      refine k1.mono fun b S2 k2 => ?_
      cases b with
      | false => exact gxl_from L I hy hs he f (i + 1) k ρ1 S2 (by omega) (by omega) (k2.1 rfl)
      | true =>
        dsimp only
        rw [wp_bind]
        refine (k2.2 rfl).mono fun u S3 k3 => ?_
        rcases k3 with ⟨k', e2, h⟩ | ⟨e2, h⟩
        · rw [e2]
          exact gxl_from L I hy hs he f (i + 1) k' ρ1 S3 (by omega) (by omega) h
        · rw [e2]
          exact h
    · have e : i = L.length := by omega
      subst e
      rw [List.getElem?_eq_none (Nat.le_refl _)]
      exact he k ρ S hI
theorem wp_gx {ns : List PySem.Str} {lay : List (Option Nat)} {k0 : κ} {fin : κ × Bool → Store → Out U} {mi : MI} {g : MG} {mt : MT} {me : ME} {ρ : Env} {S : Store} (L : List U) (I : Nat → κ → Env → Store → Prop) {Q : U → Store → Prop}
    (hi : Wp (mi ρ S) fun p S1 => p.2 = none ∧ I 0 k0 (gEnv lay ρ) S1 ∧ ∀ i k ρ S, I i k ρ S → Yld p.1 L S) (hl : L.length < fuel)
    (hs : ∀ (i : Nat) (w : U) (k : κ) (ρ : Env) (S : Store), L[i]? = some w → I i k ρ S → Wp (g w ρ S) fun ρ S => Wp (mt ρ S) fun b S => (b = false → I (i + 1) k ρ S) ∧ (b = true → Wp (me ρ S) fun u S => (∃ k', stp k u = some (.go k') ∧ I (i + 1) k' ρ S) ∨ (stp k u = some .stop ∧ Wp (fin (k, true) S) Q)))
    (he : ∀ k ρ S, I L.length k ρ S → Wp (fin (k, false) S) Q) : Wp (mGx ns lay stp k0 fin mi g mt me ρ S) Q := by
  unfold mGx
  rw [wp_bind]
  refine hi.mono fun p S1 h => ?_
  obtain ⟨e, h0, hy⟩ := h
  rw [wp_bind]
  refine wp_onlyX ?_
  refine gxl_from (Q := fun r S2 => Wp (gTail fin p.2 r S2) Q) L I hy (fun i w k ρ S e2 h => ?_) (fun k ρ S h => ?_) fuel 0 k0 _ S1 (Nat.zero_le _) (by omega) h0
  · rw [e]
    exact hs i w k ρ S e2 h
  · rw [e]
    exact he k ρ S h
/-- over a dict that is locked meanwhile -/
theorem wp_gxD {ns : List PySem.Str} {lay : List (Option Nat)} {k0 : κ} {fin : κ × Bool → Store → Out U} {mi : MI} {g : MG} {mt : MT} {me : ME} {ρ : Env} {S : Store} (L : List U) (I : Nat → κ → Env → Store → Prop) {Q : U → Store → Prop}
    (hi : Wp (mi ρ S) fun p S1 => I 0 k0 (gEnv lay ρ) S1 ∧ (∀ i k ρ S, I i k ρ S → Yld p.1 L S) ∧ (∀ k ρ S, I L.length k ρ S → ∃ S', unlk p.2 S = some S' ∧ Wp (fin (k, false) S') Q)) (hl : L.length < fuel)
    (hs : ∀ (i : Nat) (w : U) (k : κ) (ρ : Env) (S : Store), L[i]? = some w → I i k ρ S → Wp (g w ρ S) fun ρ S => Wp (mt ρ S) fun b S => (b = false → I (i + 1) k ρ S) ∧ (b = true → Wp (me ρ S) fun u S => (∃ k', stp k u = some (.go k') ∧ I (i + 1) k' ρ S))) : Wp (mGx ns lay stp k0 fin mi g mt me ρ S) Q := by
  unfold mGx
  rw [wp_bind]
  refine hi.mono fun p S1 h => ?_
  obtain ⟨h0, hy, he⟩ := h
  rw [wp_bind]
  refine wp_onlyX ?_
  refine gxl_from (Q := fun r S2 => Wp (gTail fin p.2 r S2) Q) L I hy (fun i w k ρ S e2 h => ?_) (fun k ρ S h => ?_) fuel 0 k0 _ S1 (Nat.zero_le _) (by omega) h0
  · refine (hs i w k ρ S e2 h).mono fun ρ S h => h.mono fun b S h => ⟨h.1, fun hb => (h.2 hb).mono fun u S h => .inl h⟩
  · obtain ⟨S', e1, e2⟩ := he k ρ S h
    unfold gTail
    rw [e1]
    exact e2
end
/-- while, with a number that falls -/
theorem wps_while {c : MT} {m : MS} {N : Env → Store → Prop} {R : U → Store → Prop} (I : Nat → Env → Store → Prop)
    (hs : ∀ k ρ S, I k ρ S → Wp (c ρ S) fun b S => (b = false → N ρ S) ∧ (b = true → WpS (m ρ S) (fun ρ S => ∃ j, j < k ∧ I j ρ S) R)) : ∀ (f k : Nat) (ρ : Env) (S : Store), k < f → I k ρ S → WpS (whl c m f ρ S) N R
  | 0, k, ρ, S, h, _ => by omega
  | f + 1, k, ρ, S, h, hI => by
    unfold whl
    rw [wps_then]
    refine (hs k ρ S hI).mono fun b S1 h1 => ?_
    cases b with
    | false => exact h1.1 rfl
    | true =>
      have h2 := h1.2 rfl
      dsimp only
      revert h2
      cases m ρ S1 with
      | go fl ρ2 S2 =>
        cases fl with
        | nx => exact fun ⟨j, hj, h3⟩ => wps_while I hs f j ρ2 S2 (by omega) h3
        | rt w => exact fun h3 => h3
        | bk => exact fun h3 => h3.elim
        | ct => exact fun h3 => h3.elim
      | exc c ρ2 S2 => exact fun h3 => h3.elim
      | bad => exact fun h3 => h3.elim
/-- a dict comprehension that only extends; the keys and values told -/
theorem dcl_from {src : Src} {g : MG} {mt : MT} {mk mv : ME} {ρ : Env} {D : Nat} (L : List U) (I : Nat → List (Ky × U) → Store → Prop) (hy : ∀ i acc S, I i acc S → Yld src L S)
    (hs : ∀ (i : Nat) (w : U) (acc : List (Ky × U)) (S : Store), L[i]? = some w → I i acc S → At S D (.dK acc) → Wp (g w ρ S) fun ρ2 S => Wp (mt ρ2 S) fun b S1 => b = true ∧ Wp (mk ρ2 S1) fun k S2 => Wp (mv ρ2 S2) fun u S3 => ∃ k', uKey k = some k' ∧ At S3 D (.dK acc) ∧ acc.length < lim ∧ I (i + 1) (setK acc k' u) (S3.put D ⟨.dK (setK acc k' u), 0⟩))
    {Q : Unit → Store → Prop} (he : ∀ acc S, I L.length acc S → At S D (.dK acc) → Q () S) : ∀ (f i : Nat) (acc : List (Ky × U)) (S : Store), i ≤ L.length → L.length < f + i → I i acc S → At S D (.dK acc) → Wp (dcl src g mt mk mv ρ D f i S) Q
  | 0, i, acc, S, h1, h2, _, _ => by omega
  | f + 1, i, acc, S, h1, h2, hI, hD => by
    unfold dcl
    rw [hy i acc S hI i]
    by_cases hi : i < L.length
    · have e : L[i]? = some L[i] := List.getElem?_eq_getElem hi
      rw [e]
      dsimp only
      rw [wp_bind, wp_noX]
      refine (hs i _ acc S e hI hD).mono fun ρ2 S1 k1 => ?_
      rw [wp_bind, wp_noX]
      refine k1.mono fun b S2 k2 => ?_
      obtain ⟨rfl, k2⟩ := k2
      dsimp only
      rw [wp_bind, wp_noX]
      refine k2.mono fun k S3 k3 => ?_
      rw [wp_bind, wp_noX]
      refine k3.mono fun u S4 k4 => ?_
      obtain ⟨k', e2, a, hl, h⟩ := k4
      simp only [a.get, e2]
      rw [if_pos hl]
      exact dcl_from L I hy hs he f (i + 1) _ _ (by omega) (by omega) h (At.put a.lt)
    · have e : i = L.length := by omega
      subst e
      rw [List.getElem?_eq_none (Nat.le_refl _)]
      exact he acc S hI hD
theorem wp_dc {mi : MI} {g : MG} {mt : MT} {mk mv : ME} {vs : List Nat} {ρ : Env} {S : Store} (L : List U) (I : Nat → List (Ky × U) → Store → Prop) {Q : U → Store → Prop}
    (hi : Wp (mi ρ S) fun p S1 => p.2 = none ∧ I 0 [] (S1.new (.dK [])) ∧ (∀ i acc S, I i acc S → Yld p.1 L S) ∧
      (∀ (i : Nat) (w : U) (acc : List (Ky × U)) (S : Store), L[i]? = some w → I i acc S → At S S1.n (.dK acc) → Wp (g w (wipeU ρ vs) S) fun ρ2 S => Wp (mt ρ2 S) fun b S2 => b = true ∧ Wp (mk ρ2 S2) fun k S3 => Wp (mv ρ2 S3) fun u S4 => ∃ k', uKey k = some k' ∧ At S4 S1.n (.dK acc) ∧ acc.length < lim ∧ I (i + 1) (setK acc k' u) (S4.put S1.n ⟨.dK (setK acc k' u), 0⟩)) ∧
      ∀ acc S, I L.length acc S → At S S1.n (.dK acc) → Q (.ref S1.n) S) (hl : L.length < fuel) : Wp (mDc mi g mt mk mv vs ρ S) Q := by
  unfold mDc
  rw [wp_bind]
  refine hi.mono fun p S1 h => ?_
  obtain ⟨e, h0, hy, hs, he⟩ := h
  rw [wp_bind]
  refine dcl_from L I hy hs (fun acc S h1 h2 => ?_) fuel 0 [] _ (Nat.zero_le _) (by omega) h0 At.new
  rw [e]
  exact he acc S h1 h2
/-! ### equality of data -/
open PySem
structure Shp (k : Nat) (d : PyData) : Prop where
  lay : d.canLay0 = true
  dep : d.depth ≤ k
theorem Shp.sh {d : PyData} {k : Nat} (h : Shp k d) (hk : k ≤ 64 := by decide) : SeqAt.shaped d = true := by
  unfold SeqAt.shaped
  simp only [Bool.and_eq_true, decide_eq_true_eq]
  exact ⟨h.lay, Nat.le_trans h.dep hk⟩
theorem uEq_of {S : Store} {w u : U} {d e : PyData} {k k' : Nat} (hw : toD S w = some d) (hu : toD S u = some e) (sd : Shp k d) (se : Shp k' e) (h : k ≤ 64 := by decide) (h' : k' ≤ 64 := by decide) : uEq S w u = some (PyData.eqv d e) := by
  have z : ∀ b, (match toD S w, toD S u with
    | some d, some e => if (SeqAt.shaped d && SeqAt.shaped e) = true then some (PyData.eqv d e) else none
    | _, _ => none) = b → b = some (PyData.eqv d e) := fun b hb => by
    rw [hw, hu] at hb
    simp only [sd.sh h, se.sh h', Bool.and_self, if_true] at hb
    exact hb.symm
  unfold uEq
  split
  · cases hw; cases hu; simp [PyData.eqv]; rfl
  · cases hw; cases hu
    rename_i i j
    simp only [PyData.eqv, Option.some.injEq]
    by_cases e : i = j
    · simp [e]
    · have : ¬(⟨i.toArray⟩ : Str) = ⟨j.toArray⟩ := fun z => e (str_inj z)
      simp [e, this]
  · cases hw; cases hu; simp [PyData.eqv]; rfl
  · cases hw; cases hu; rfl
  · exact z _ rfl
theorem wp_eqD {S : Store} {w u : U} {d e : PyData} {k k' : Nat} (hw : toD S w = some d) (hu : toD S u = some e) (sd : Shp k d) (se : Shp k' e) (h : k ≤ 64 := by decide) (h' : k' ≤ 64 := by decide) {Q : U → Store → Prop} : Wp (oEq w u S) Q ↔ Q (.bl (PyData.eqv d e)) S := by
  unfold oEq
  rw [uEq_of hw hu sd se h h'] <;> rfl
theorem wp_neD {S : Store} {w u : U} {d e : PyData} {k k' : Nat} (hw : toD S w = some d) (hu : toD S u = some e) (sd : Shp k d) (se : Shp k' e) (h : k ≤ 64 := by decide) (h' : k' ≤ 64 := by decide) {Q : U → Store → Prop} : Wp (oNe w u S) Q ↔ Q (.bl (!PyData.eqv d e)) S := by
  unfold oNe
  rw [uEq_of hw hu sd se h h'] <;> rfl
/-- two values of the same data -/
theorem wp_neSame {S : Store} {w u : U} {d : PyData} {k : Nat} (hw : toD S w = some d) (hu : toD S u = some d) (sd : Shp k d) (h : k ≤ 64 := by decide) {Q : U → Store → Prop} : Wp (oNe w u S) Q ↔ Q (.bl false) S := by
  rw [wp_neD hw hu sd sd h h, PySem.SeqAt.eqv_refl d sd.lay] <;> rfl
theorem Shp.mono {d : PyData} {k k' : Nat} (h : Shp k d) (hk : k ≤ k') : Shp k' d := ⟨h.lay, Nat.le_trans h.dep hk⟩
theorem Shp.int (i : Int) : Shp 0 (.int i) := ⟨rfl, Nat.le_refl _⟩
theorem Shp.bool (b : Bool) : Shp 0 (.bool b) := ⟨rfl, Nat.le_refl _⟩
theorem Shp.none : Shp 0 PyData.none := ⟨rfl, Nat.le_refl _⟩
/-- a text of signs that can be laid -/
def Tx (t : List Nat) : Prop := ∀ c ∈ t, c < 0x110000
theorem Shp.str {t : List Nat} (h : Tx t) : Shp 0 (.str ⟨t.toArray⟩) := by
  refine ⟨?_, Nat.le_refl _⟩
  unfold PyData.canLay0 PyData.strOk
  rw [Array.all_eq_true']
  intro c hc
  exact decide_eq_true (h c (by simpa using hc))
theorem shpAll {k : Nat} : ∀ {xs : List PyData}, (∀ x ∈ xs, Shp k x) → PyData.canLayAll0 xs = true ∧ PyData.depthAll xs ≤ k
  | [], _ => ⟨rfl, Nat.zero_le _⟩
  | x :: xs, h => by
    obtain ⟨a, b⟩ := shpAll fun y hy => h y (List.mem_cons_of_mem _ hy)
    have hx := h x (List.mem_cons_self ..)
    refine ⟨?_, ?_⟩
    · rw [PyData.canLayAll0, hx.lay, a] <;> rfl
    · rw [PyData.depthAll]
      exact Nat.max_le.mpr ⟨hx.dep, b⟩
theorem Shp.list {k : Nat} {xs : List PyData} (h : ∀ x ∈ xs, Shp k x) : Shp (k + 1) (.list xs) := by
  obtain ⟨a, b⟩ := shpAll h
  refine ⟨?_, ?_⟩
  · rw [PyData.canLay0]
    exact a
  · rw [PyData.depth]
    omega
theorem Shp.tup {k : Nat} {xs : List PyData} (h : ∀ x ∈ xs, Shp k x) : Shp (k + 1) (.tuple xs) := by
  obtain ⟨a, b⟩ := shpAll h
  refine ⟨?_, ?_⟩
  · rw [PyData.canLay0]
    exact a
  · rw [PyData.depth]
    omega
theorem toDs_map {α : Type} {go : Nat → Option PyData} {f : α → U} {g : α → PyData} : ∀ {l : List α}, (∀ x ∈ l, toD1 go (f x) = some (g x)) → toDs1 go (l.map f) = some (l.map g)
  | [], _ => rfl
  | x :: l, h => by
    rw [List.map_cons, toDs1, h x (List.mem_cons_self ..), toDs_map fun y hy => h y (List.mem_cons_of_mem _ hy)] <;> rfl
/-- the data of a plain value -/
theorem toD_int {S : Store} {i : Int} : toD S (.int i) = some (.int i) := rfl
theorem toD_str {S : Store} {t : List Nat} : toD S (.str t) = some (.str ⟨t.toArray⟩) := rfl
theorem toD_non {S : Store} : toD S .non = some .none := rfl
theorem toD_tup {S : Store} {α : Type} {f : α → U} {g : α → PyData} {l : List α} (h : ∀ x ∈ l, toD1 (goD S 8) (f x) = some (g x)) : toD S (.tup (l.map f)) = some (.tuple (l.map g)) := by
  show (toDs1 (goD S 8) (l.map f)).map PyData.tuple = _
  rw [toDs_map h] <;> rfl
theorem toD_lst {S : Store} {α : Type} {f : α → U} {g : α → PyData} {l : List α} {n : Nat} (a : At S n (.lst (l.map f))) (h : ∀ x ∈ l, toD1 (goD S 7) (f x) = some (g x)) : toD S (.ref n) = some (.list (l.map g)) := by
  show goD S 8 n = _
  simp only [goD, a.get]
  show (toDs1 (goD S 7) (l.map f)).map PyData.list = _
  rw [toDs_map h] <;> rfl
theorem toD_ints {S : Store} {l : List Int} {n : Nat} (a : At S n (.lst (l.map U.int))) : toD S (.ref n) = some (.list (l.map .int)) := toD_lst a fun _ _ => rfl
theorem toD_strs {S : Store} {l : List (List Nat)} {n : Nat} (a : At S n (.lst (l.map U.str))) : toD S (.ref n) = some (.list (l.map fun t => .str ⟨t.toArray⟩)) := toD_lst a fun _ _ => rfl
theorem shp_ints {l : List Int} : Shp 1 (.list (l.map .int)) := Shp.list fun x h => by
  obtain ⟨i, _, rfl⟩ := List.mem_map.mp h
  exact Shp.int i
theorem shp_strs {l : List (List Nat)} (h : ∀ t ∈ l, Tx t) : Shp 1 (.list (l.map fun t => .str ⟨t.toArray⟩)) := Shp.list fun x hx => by
  obtain ⟨t, ht, rfl⟩ := List.mem_map.mp hx
  exact Shp.str (h t ht)
theorem eqv_nilL {l : List PyData} : PyData.eqv (.list l) (.list []) = l.isEmpty := by
  cases l <;> rfl
theorem eqv_nilT {l : List PyData} : PyData.eqv (.tuple l) (.tuple []) = l.isEmpty := by
  cases l <;> rfl
end Pl
/-! text Pl4 -/
namespace Pl
open Sm
theorem wps_unlk {lk : Option Nat} {o : OutS} {N : Env → Store → Prop} {R : U → Store → Prop} (h : WpS o (fun ρ S => ∃ S', unlk lk S = some S' ∧ N ρ S') (fun w S => ∃ S', unlk lk S = some S' ∧ R w S')) : WpS (unlkS lk o) N R := by
  cases lk with
  | none =>
    refine h.mono (fun ρ S h => ?_) (fun w S h => ?_)
    · obtain ⟨S', e, k⟩ := h
      cases e
      exact k
    · obtain ⟨S', e, k⟩ := h
      cases e
      exact k
  | some n =>
    cases o with
    | go f ρ S =>
      cases f with
      | nx =>
        obtain ⟨S', e, k⟩ := h
        unfold unlkS
        simp only [e]
        exact k
      | rt w =>
        obtain ⟨S', e, k⟩ := h
        unfold unlkS
        simp only [e]
        exact k
      | bk => exact h.elim
      | ct => exact h.elim
    | exc c ρ S => exact h.elim
    | bad => exact h.elim
/-- for, over a dict that is locked meanwhile -/
theorem wps_forD {mi : MI} {g : MG} {m : MS} {ρ : Env} {S : Store} (L : List U) (I : Nat → Env → Store → Prop) {N : Env → Store → Prop} {R : U → Store → Prop} (lk : Option Nat)
    (hi : Wp (mi ρ S) fun p S1 => p.2 = lk ∧ I 0 ρ S1 ∧ ∀ i ρ S, I i ρ S → Yld p.1 L S) (hl : L.length < fuel)
    (hs : ∀ i w ρ S, L[i]? = some w → I i ρ S → Wp (g w ρ S) fun ρ S => WpS (m ρ S) (I (i + 1)) fun w S => ∃ S', unlk lk S = some S' ∧ R w S') (he : ∀ ρ S, I L.length ρ S → ∃ S', unlk lk S = some S' ∧ N ρ S') : WpS (sFor mi g m ρ S) N R := by
  unfold sFor
  rw [wps_then]
  refine hi.mono fun p S1 h => ?_
  obtain ⟨e, h0, hy⟩ := h
  rw [e]
  exact wps_unlk (frl_from L I hy hs he fuel 0 ρ S1 (Nat.zero_le _) (by omega) h0)
end Pl
/-! text Pl5 -/
namespace Pl
open Sm
/-- a comprehension over told items that only extends: items filtered, then mapped -/
theorem wp_lcM {α : Type} {mi : MI} {g : MG} {mt : MT} {me : ME} {vs : List Nat} {ρ : Env} {S : Store} (l : List α) (f : α → U) (p : α → Bool) (h : α → U)
    (hi : Wp (mi ρ S) fun q S1 => q.2 = none ∧ Sx No S S1 ∧ ∀ S', Sx No S1 S' → Yld q.1 (l.map f) S')
    (hs : ∀ x S', x ∈ l → Sx No S S' → Wp (g (f x) (wipeU ρ vs) S') fun ρ2 S2 => Wp (mt ρ2 S2) fun b S3 => b = p x ∧ Sx No S' S3 ∧ (p x = true → Wp (me ρ2 S3) fun u S4 => u = h x ∧ Sx No S' S4)) (hl : l.length < fuel) :
    Wp (mLc mi g mt me vs ρ S) fun u S' => ∃ a, u = .ref a ∧ S.n ≤ a ∧ At S' a (.lst ((l.filter p).map h)) ∧ Sx No S S' := by
  obtain ⟨q, S1, e1, e, x, hy⟩ := wp_ex hi
  refine wp_lc (l.map f) (fun i acc S' => Sx No S1 S' ∧ S1.n < S'.n ∧ acc = ((l.take i).filter p).map h) ?_ (by rw [List.length_map]; exact hl)
  rw [e1]
  refine ⟨e, ⟨Sx.new, Nat.lt_succ_self _, rfl⟩, fun i acc S h => hy S h.1, fun i w acc S' e2 h2 a hl2 => ?_, fun acc S' h2 a => ?_⟩
  · rw [List.getElem?_map] at e2
    cases ew : l[i]? with
    | none => rw [ew] at e2; cases e2
    | some y =>
      rw [ew] at e2
      cases e2
      have t : l.take (i + 1) = l.take i ++ [y] := by rw [List.take_succ, ew] <;> rfl
      refine (hs y S' (List.mem_of_getElem? ew) (x.trans h2.1)).mono fun ρ2 S2 k => k.mono fun b S3 k => ?_
      obtain ⟨rfl, k1, k2⟩ := k
      refine ⟨fun hb => ⟨⟨h2.1.trans k1, Nat.lt_of_lt_of_le h2.2.1 k1.n, ?_⟩, a.sx k1⟩, fun hb => ?_⟩
      · rw [t, List.filter_append, h2.2.2]
        simp [hb]
      · refine (k2 hb).mono fun u S4 k => ?_
        obtain ⟨rfl, k4⟩ := k
        refine ⟨a.sx k4, Sx.put_above (h2.1.trans k4) (Nat.le_refl _), Nat.lt_of_lt_of_le h2.2.1 k4.n, ?_⟩
        rw [t, List.filter_append, h2.2.2]
        simp [hb]
  · rw [h2.2.2, List.length_map, List.take_length] at a
    exact ⟨_, rfl, x.n, a, x.trans h2.1⟩
theorem filter_yes {α : Type} (l : List α) : (l.filter fun _ => true) = l := List.filter_eq_self.mpr fun _ _ => rfl
/-- the same without a condition -/
theorem wp_lcA {α : Type} {mi : MI} {g : MG} {me : ME} {vs : List Nat} {ρ : Env} {S : Store} (l : List α) (f h : α → U)
    (hi : Wp (mi ρ S) fun q S1 => q.2 = none ∧ Sx No S S1 ∧ ∀ S', Sx No S1 S' → Yld q.1 (l.map f) S')
    (hs : ∀ x S', x ∈ l → Sx No S S' → Wp (g (f x) (wipeU ρ vs) S') fun ρ2 S2 => Sx No S' S2 ∧ Wp (me ρ2 S2) fun u S4 => u = h x ∧ Sx No S' S4) (hl : l.length < fuel) :
    Wp (mLc mi g mYes me vs ρ S) fun u S' => ∃ a, u = .ref a ∧ S.n ≤ a ∧ At S' a (.lst (l.map h)) ∧ Sx No S S' := by
  have k := wp_lcM (mt := mYes) (me := me) (g := g) (vs := vs) l f (fun _ => true) h hi (fun x S' hx y => ?_) hl
  · rw [filter_yes] at k
    exact k
  · exact (hs x S' hx y).mono fun ρ2 S2 k => ⟨rfl, k.1, fun _ => k.2⟩
/-- the numbers of a range -/
theorem yld_r0 {n : Nat} {S : Store} : Yld (srcR 0 n) ((List.range n).map fun i : Nat => U.int (i : Int)) S := by
  have e : ((List.range n).map fun i : Nat => U.int (i : Int)) = (List.range n).map fun i : Nat => U.int (0 + i) := by
    congr 1
    funext i
    rw [Int.zero_add]
  rw [e]
  exact yld_r
theorem inR_nat {n : Int} (h0 : 0 ≤ n) (h1 : n ≤ 1000000) : inR n = true := by
  unfold inR
  simp only [Bool.and_eq_true, decide_eq_true_eq]
  omega
/-- values that are all of one form -/
theorem all_of {α : Type} {f : α → U} {P : α → Prop} : ∀ {us : List U}, (∀ x ∈ us, ∃ a, x = f a ∧ P a) → ∃ l : List α, us = l.map f ∧ ∀ a ∈ l, P a
  | [], _ => ⟨[], rfl, fun _ h => nomatch h⟩
  | u :: us, h => by
    obtain ⟨a, rfl, ha⟩ := h u (List.mem_cons_self ..)
    obtain ⟨l, rfl, hl⟩ := all_of fun x hx => h x (List.mem_cons_of_mem _ hx)
    exact ⟨a :: l, rfl, fun b hb => by
      rcases List.mem_cons.mp hb with rfl | hb
      · exact ha
      · exact hl b hb⟩
/-- lists kept in the store -/
theorem lsts_sx {P : Nat → Prop} {S S' : Store} (x : Sx P S S') : ∀ {us : List U} {zs : List (List U)}, lstsU S us = some zs → (∀ u ∈ us, ∃ m, u = .ref m ∧ m < S.n ∧ ¬P m) → lstsU S' us = some zs
  | [], zs, h, _ => h
  | u :: us, zs, h, k => by
    obtain ⟨m, rfl, h1, h2⟩ := k u (List.mem_cons_self ..)
    have e := x.get m h1 h2
    have e2 : lstsU S (.ref m :: us) = (match S.get m, lstsU S us with
      | some ⟨.lst ws, 0⟩, some l => some (ws :: l)
      | _, _ => none) := rfl
    rw [e2] at h
    show (match S'.get m, lstsU S' us with
      | some ⟨.lst ws, 0⟩, some l => some (ws :: l)
      | _, _ => none) = some zs
    rw [e]
    cases h3 : lstsU S us with
    | none =>
      rw [h3] at h
      split at h
      · rename_i q; cases q
      · cases h
    | some l =>
      rw [lsts_sx x h3 fun v hv => k v (List.mem_cons_of_mem _ hv)]
      rw [h3] at h
      exact h
theorem lsts_snoc {S : Store} {m : Nat} {w : List U} (a : At S m (.lst w)) : ∀ {us : List U} {zs : List (List U)}, lstsU S us = some zs → lstsU S (us ++ [.ref m]) = some (zs ++ [w])
  | [], zs, h => by
    cases h
    show (match S.get m, lstsU S [] with
      | some ⟨.lst ws, 0⟩, some l => some (ws :: l)
      | _, _ => none) = _
    rw [a.get] <;> rfl
  | u :: us, zs, h => by
    cases u with
    | ref n =>
      have e2 : lstsU S (.ref n :: us) = (match S.get n, lstsU S us with
        | some ⟨.lst ws, 0⟩, some l => some (ws :: l)
        | _, _ => none) := rfl
      rw [e2] at h
      show (match S.get n, lstsU S (us ++ [.ref m]) with
        | some ⟨.lst ws, 0⟩, some l => some (ws :: l)
        | _, _ => none) = _
      cases h3 : lstsU S us with
      | none =>
        rw [h3] at h
        split at h
        · rename_i q; cases q
        · cases h
      | some l =>
        rw [lsts_snoc a h3]
        rw [h3] at h
        revert h
        split
        · rename_i h4 h5
          intro h
          cases h5
          cases h
          simp only [h4]
          rfl
        · intro h
          cases h
    | _ => cases h
theorem wp_lcL {α : Type} {mi : MI} {g : MG} {me : ME} {vs : List Nat} {ρ : Env} {S : Store} (l : List α) (f : α → U) (h : α → List U)
    (hi : Wp (mi ρ S) fun q S1 => q.2 = none ∧ Sx No S S1 ∧ ∀ S', Sx No S1 S' → Yld q.1 (l.map f) S')
    (hs : ∀ x S', x ∈ l → Sx No S S' → Wp (g (f x) (wipeU ρ vs) S') fun ρ2 S2 => Sx No S' S2 ∧ Wp (me ρ2 S2) fun u S4 => ∃ m, u = .ref m ∧ S2.n ≤ m ∧ At S4 m (.lst (h x)) ∧ Sx No S2 S4) (hl : l.length < fuel) :
    Wp (mLc mi g mYes me vs ρ S) fun u S' => ∃ a us, u = .ref a ∧ S.n ≤ a ∧ At S' a (.lst us) ∧ lstsU S' us = some (l.map h) ∧ (∀ u ∈ us, ∃ m, u = .ref m ∧ m < S'.n) ∧ Sx No S S' := by
  obtain ⟨q, S1, e1, e, x, hy⟩ := wp_ex hi
  refine wp_lc (l.map f) (fun i acc S' => Sx No S1 S' ∧ S1.n < S'.n ∧ lstsU S' acc = some ((l.take i).map h) ∧ ∀ u ∈ acc, ∃ m, u = .ref m ∧ m < S'.n ∧ m ≠ S1.n) ?_ (by rw [List.length_map]; exact hl)
  rw [e1]
  refine ⟨e, ⟨Sx.new, Nat.lt_succ_self _, rfl, fun _ z => (nomatch z)⟩, fun i acc S h => hy S h.1, fun i w acc S' e2 h2 a hl2 => ?_, fun acc S' h2 a => ?_⟩
  · rw [List.getElem?_map] at e2
    cases ew : l[i]? with
    | none => rw [ew] at e2; cases e2
    | some y =>
      rw [ew] at e2
      cases e2
      have t : l.take (i + 1) = l.take i ++ [y] := by rw [List.take_succ, ew] <;> rfl
      refine (hs y S' (List.mem_of_getElem? ew) (x.trans h2.1)).mono fun ρ2 S2 k => ?_
      obtain ⟨k1, k2⟩ := k
      refine ⟨fun hb => (nomatch hb), fun _ => k2.mono fun u S4 k => ?_⟩
      obtain ⟨m, rfl, gm, am, k4⟩ := k
      have y4 := k1.trans k4
      have nm : m ≠ S1.n := by have := k1.n; have := h2.2.1; omega
      have keep : ∀ u ∈ acc, ∃ m, u = .ref m ∧ m < S4.n ∧ m ≠ S1.n := fun u hu => by
        obtain ⟨m', e', h5, h6⟩ := h2.2.2.2 u hu
        exact ⟨m', e', Nat.lt_of_lt_of_le h5 y4.n, h6⟩
      have h7 : lstsU S4 acc = some ((l.take i).map h) := lsts_sx y4 h2.2.2.1 fun u hu => by
        obtain ⟨m', e', h5, h6⟩ := h2.2.2.2 u hu
        exact ⟨m', e', h5, id⟩
      have all : ∀ u ∈ acc ++ [U.ref m], ∃ m, u = .ref m ∧ m < S4.n ∧ m ≠ S1.n := fun u hu => by
        rcases List.mem_append.mp hu with hu | hu
        · exact keep u hu
        · obtain rfl := List.mem_singleton.mp hu
          exact ⟨m, rfl, am.lt, nm⟩
      refine ⟨a.sx y4, Sx.put_above (h2.1.trans y4) (Nat.le_refl _), Nat.lt_of_lt_of_le h2.2.1 y4.n, ?_, all⟩
      rw [t, List.map_append]
      exact lsts_sx (P := Only S1.n) Sx.own (lsts_snoc am h7) all
  · obtain ⟨h3, h4, h5, h6⟩ := h2
    rw [List.length_map, List.take_length] at h5
    exact ⟨_, acc, rfl, x.n, a, h5, fun u hu => let ⟨m, e, l, _⟩ := h6 u hu; ⟨m, e, l⟩, x.trans h3⟩
end Pl
/-! text K01a -/
namespace K01
open PySem PySem.Spec PyProof.Rows L2 Sm
def top (i : Nat) : Stmt := PySem.Challenge.pw_hashstack_k01_mixes_of_texts.main.body.getD i (.Pass ⟨0, 0, 0, 0⟩)
def L_SIGNS : List Nat := [32, 97, 98, 99, 100, 101, 102, 103, 104, 105, 106, 107, 108, 109, 110, 111, 112, 113, 114, 115, 116, 117, 118, 119, 120, 121, 122, 65, 66, 67, 68, 69, 70, 71, 72, 73, 74, 75, 76, 77, 78, 79, 80, 81, 82, 83, 84, 85, 86, 87, 88, 89, 90, 48, 49, 50, 51, 52, 53, 54, 55, 56, 57, 46, 44, 59, 58, 45, 95, 47, 43, 40, 41]
def NSX : List Str := [("MixError" : Str)]
def HIT_MixError (c : Str) : Option Bool := if c = ("MixError" : Str) then some true else none
def qLam : Str := ("_law_plain" : Str) ++ ".<locals>." ++ "<lambda>"
def lams : List LamD := lamsB (defBody (top 29))
abbrev FnP (K : PySem.W.Frag) (x : Str) (st : Stmt) (dv : List V) (fd : FuncData) : Prop := FunD K x x (defArgs st) (defBody st) (defScope st) dv [] (He.fAd K (x, none)) fd
structure Z (P : Program) (w : World) (K : PySem.W.Frag) (mg : Str → Option Value) (base : Heap) (Tb : Tbs) (c_MixError : Addr) : Prop where
  g_abs : mg "abs" = none
  g_any : mg "any" = none
  g_dict : mg "dict" = none
  g_int : mg "int" = none
  g_len : mg "len" = none
  g_list : mg "list" = none
  g_max : mg "max" = none
  g_range : mg "range" = none
  g_sorted : mg "sorted" = none
  g_str : mg "str" = none
  g_sum : mg "sum" = none
  g_tuple : mg "tuple" = none
  g_RING : ∃ t, mg "RING" = some (.int 1000003 t)
  g_SIGNS : ∃ t, mg "SIGNS" = some (.str " abcdefghijklmnopqrstuvwxyzABCDEFGHIJKLMNOPQRSTUVWXYZ0123456789.,;:-_/+()" t)
  x_MixError : ExS K mg "MixError" c_MixError
  hit_MixError : ∀ c Cc b, mg c = some (.ref Cc) → HIT_MixError c = some b → PySem.W.exmOne K (.ref Cc) (.ref c_MixError) = some b
  nsx : ∀ c ∈ NSX, ∀ C, mg c = some (.ref C) → PySem.W.subIn K (.ref C) (.type "StopIteration") = some false
  gxt_how_even : GxT K mg base Tb ("how_even", none)
  gxt_meeting_rows : GxT K mg base Tb ("meeting_rows", none)
  gxt_mix_of_set : GxT K mg base Tb ("mix_of_set", none)
  gxt_next_prime : GxT K mg base Tb ("next_prime", none)
  gxt_spots_of : GxT K mg base Tb ("spots_of", none)
  lamT : LmT K mg base Tb ("_law_plain", none) qLam
  lamL : lamsOf Tb = lams.map fun d => (qLam, d)
  f__law_dice : ∃ fd, FnP K "_law_dice" (top 22) [] fd
  m__law_dice : mg "_law_dice" = some (.ref (He.fAd K ("_law_dice", none)))
  f__law_rounds : ∃ fd, FnP K "_law_rounds" (top 24) [] fd
  m__law_rounds : mg "_law_rounds" = some (.ref (He.fAd K ("_law_rounds", none)))
  f_place_of : ∃ fd, FnP K "place_of" (top 6) [] fd
  m_place_of : mg "place_of" = some (.ref (He.fAd K ("place_of", none)))
  f_mixed : ∃ fd, FnP K "mixed" (top 7) [.int 0] fd
  m_mixed : mg "mixed" = some (.ref (He.fAd K ("mixed", none)))
  f_mix_number : ∃ fd, FnP K "mix_number" (top 8) [.int 0] fd
  m_mix_number : mg "mix_number" = some (.ref (He.fAd K ("mix_number", none)))
  f_spot_of : ∃ fd, FnP K "spot_of" (top 9) [.int 0] fd
  m_spot_of : mg "spot_of" = some (.ref (He.fAd K ("spot_of", none)))
  f_two_mixes : ∃ fd, FnP K "two_mixes" (top 10) [.int 0] fd
  m_two_mixes : mg "two_mixes" = some (.ref (He.fAd K ("two_mixes", none)))
  f_spots_of : ∃ fd, FnP K "spots_of" (top 11) [.int 0] fd
  m_spots_of : mg "spots_of" = some (.ref (He.fAd K ("spots_of", none)))
  f_joined_mix : ∃ fd, FnP K "joined_mix" (top 12) [] fd
  m_joined_mix : mg "joined_mix" = some (.ref (He.fAd K ("joined_mix", none)))
  f_mix_of_set : ∃ fd, FnP K "mix_of_set" (top 13) [.int 0] fd
  m_mix_of_set : mg "mix_of_set" = some (.ref (He.fAd K ("mix_of_set", none)))
  f_spot_loads : ∃ fd, FnP K "spot_loads" (top 14) [.int 0] fd
  m_spot_loads : mg "spot_loads" = some (.ref (He.fAd K ("spot_loads", none)))
  f_how_even : ∃ fd, FnP K "how_even" (top 15) [.int 0] fd
  m_how_even : mg "how_even" = some (.ref (He.fAd K ("how_even", none)))
  f_meeting_rows : ∃ fd, FnP K "meeting_rows" (top 16) [.int 0] fd
  m_meeting_rows : mg "meeting_rows" = some (.ref (He.fAd K ("meeting_rows", none)))
  f_first_seed : ∃ fd, FnP K "first_seed" (top 17) [] fd
  m_first_seed : mg "first_seed" = some (.ref (He.fAd K ("first_seed", none)))
  f_changed_spots : ∃ fd, FnP K "changed_spots" (top 18) [.int 0] fd
  m_changed_spots : mg "changed_spots" = some (.ref (He.fAd K ("changed_spots", none)))
  f_root_of : ∃ fd, FnP K "root_of" (top 20) [] fd
  m_root_of : mg "root_of" = some (.ref (He.fAd K ("root_of", none)))
  f_next_prime : ∃ fd, FnP K "next_prime" (top 19) [] fd
  m_next_prime : mg "next_prime" = some (.ref (He.fAd K ("next_prime", none)))
  f__law_told : ∃ fd, FnP K "_law_told" (top 25) [] fd
  m__law_told : mg "_law_told" = some (.ref (He.fAd K ("_law_told", none)))
  f__law_plain : ∃ fd, FnP K "_law_plain" (top 29) [] fd
  m__law_plain : mg "_law_plain" = some (.ref (He.fAd K ("_law_plain", none)))
  f__law_roll : ∃ fd, FnP K "_law_roll" (top 23) [] fd
  m__law_roll : mg "_law_roll" = some (.ref (He.fAd K ("_law_roll", none)))
  f__law_mix : ∃ fd, FnP K "_law_mix" (top 26) [] fd
  m__law_mix : mg "_law_mix" = some (.ref (He.fAd K ("_law_mix", none)))
  f__law_meet : ∃ fd, FnP K "_law_meet" (top 28) [] fd
  m__law_meet : mg "_law_meet" = some (.ref (He.fAd K ("_law_meet", none)))
  f__law_key : ∃ fd, FnP K "_law_key" (top 27) [] fd
  m__law_key : mg "_law_key" = some (.ref (He.fAd K ("_law_key", none)))
  f_law : ∃ fd, FnP K "law" (top 30) [] fd
  m_law : mg "law" = some (.ref (He.fAd K ("law", none)))
section
variable {P : Program} {w : World} {K : PySem.W.Frag} {mg : Str → Option Value} {base : Heap} {Tb : Tbs} {c_MixError : Addr}
/-! ### _law_dice -/
def m__law_dice : MS :=
  (sSeq (sIf (mB (mChain (oInt fun i j => decide (i < j)) (oInt fun i j => decide (i < j)) (mBin oSub (mC (.int 0)) (mC (.int 10))) (mVar 0) (mC (.int 10)))) (sRet (mLst (mCons (mCallC cAbs (mCons (mVar 0) mNil)) (mCons (mC (.int 0)) (mCons (mC (.int 2)) mNil))))) sNil)
  (sRet (mLst (mCons (mVar 0) (mCons (mBin oAdd (mC (.int 1)) (mBin oMod (mCallC cInt (mCons (mVar 0) mNil)) (mC (.int 1009)))) (mCons (mCallC cInt (mCons (mBin (oInt fun i j => decide (j ≤ i)) (mVar 0) (mBin oPow (mC (.int 10)) (mC (.int 18)))) mNil)) mNil))))))
def F__law_dice : Fn := callB m__law_dice 1
theorem sc__law_dice : FnScope ["cell"] ["cell"] (defScope (top 22)) := ⟨rfl, rfl, rfl, by decide +kernel, rfl, by decide +kernel, by decide +kernel⟩
theorem ok__law_dice (Z : Z P w K mg base Tb c_MixError)
    {fd : FuncData} (F : FnP K "_law_dice" (top 22) [] fd) : FnOk P w K mg base (L2.CX P w) 1 (He.fAd K ("_law_dice", none)) fd ["cell"] (spS K mg Tb 1 F__law_dice) := by
  refine fn_okC F sc__law_dice fun A outer s H E C => ?_
  show SSs _ Tb (WD E) (defBody (top 22)) m__law_dice
  exact (sss_cons (ss_if (st_chain os_lt os_lt (se_bin os_sub se_int se_int) (se_var 0) se_int) (sss_one (ss_ret (se_lst (sa_cons (se_callB cs_abs Z.g_abs (sa_cons (se_var 0) sa_nil) rfl bt_abs) (sa_cons se_int (sa_cons se_int sa_nil)))))) sss_nil)
  (sss_one (ss_ret (se_lst (sa_cons (se_var 0) (sa_cons (se_bin os_add se_int (se_bin os_mod (se_callTy cs_int Z.g_int (sa_cons (se_var 0) sa_nil) rfl bt_int) se_int)) (sa_cons (se_callTy cs_int Z.g_int (sa_cons (se_cmp os_ge (se_var 0) (se_bin os_pow se_int se_int) (nomark _)) sa_nil) rfl bt_int) sa_nil)))))))
theorem cal__law_dice (Z : Z P w K mg base Tb c_MixError)
    : CalS P w K mg base Tb "_law_dice" 1 1 [] F__law_dice := by
  obtain ⟨fd, F⟩ := Z.f__law_dice
  have G := ok__law_dice Z  F
  have b1 : Binds K fd ["cell"] [] := F.bindsN fun _ _ _ _ _ _ us hl => match us, hl with | [_], _ => rfl
  exact ⟨⟨_, fd, _, [], [], Z.m__law_dice, F.kp, G, b1, .nil, fun _ _ _ => rfl⟩⟩
/-! ### _law_rounds -/
def m__law_rounds : MS :=
  (sSeq (sSet 2 (mCut (mVar 0) oNo (oSo (mVar 1))))
  (sSeq (sIf (mB (mBin oEq (mVar 2) (mLst mNil))) (sSet 2 (mLst (mCons (mC (.int 0)) mNil))) sNil)
  (sRet (mLc (mIt (mVar 2)) (gN 3) mYes (mCall F__law_dice 1 [] (mCons (mVar 3) mNil)) [3]))))
def F__law_rounds : Fn := callB m__law_rounds 4
theorem sc__law_rounds : FnScope ["script", "most", "cells", "cell"] ["script", "most"] (defScope (top 24)) := ⟨rfl, rfl, rfl, by decide +kernel, rfl, by decide +kernel, by decide +kernel⟩
theorem ok__law_rounds (Z : Z P w K mg base Tb c_MixError)
    (Z__law_dice_1 : CalS P w K mg base Tb "_law_dice" 1 1 [] F__law_dice)
    {fd : FuncData} (F : FnP K "_law_rounds" (top 24) [] fd) : FnOk P w K mg base (L2.CX P w) 2 (He.fAd K ("_law_rounds", none)) fd ["script", "most"] (spS K mg Tb 2 F__law_rounds) := by
  refine fn_okC F sc__law_rounds fun A outer s H E C => ?_
  show SSs _ Tb (WD E) (defBody (top 24)) m__law_rounds
  exact (sss_cons (ss_set C 2 (se_cut (se_var 0) so_no (so_so (se_var 1))))
  (sss_cons (ss_if (st_cmp (os_eq C.hu) (se_var 2) (se_lst sa_nil) (nomark _)) (sss_one (ss_set C 2 (se_lst (sa_cons se_int sa_nil)))) sss_nil)
  (sss_one (ss_ret (se_lc C (si_it (se_var 2)) (blkOk_by (own := [("cell", 3)]) (by kernel_rfl)) (og := [3]) (by decide) (fun _ _ _ _ _ C => (sg_name C 3)) (fun _ _ _ _ _ C => sts_nil) (fun _ _ _ _ _ C => (se_callX C Z__law_dice_1 (sa_cons (se_var 3) sa_nil))))))))
theorem cal__law_rounds (Z : Z P w K mg base Tb c_MixError)
    (Z__law_dice_1 : CalS P w K mg base Tb "_law_dice" 1 1 [] F__law_dice)
    : CalS P w K mg base Tb "_law_rounds" 2 2 [] F__law_rounds := by
  obtain ⟨fd, F⟩ := Z.f__law_rounds
  have G := ok__law_rounds Z Z__law_dice_1 F
  have b2 : Binds K fd ["script", "most"] [] := F.bindsN fun _ _ _ _ _ _ us hl => match us, hl with | [_, _], _ => rfl
  exact ⟨⟨_, fd, _, [], [], Z.m__law_rounds, F.kp, G, b2, .nil, fun _ _ _ => rfl⟩⟩
/-! ### place_of -/
def m_place_of : MS :=
  (sSeq (sSet 1 (mBm "str" mtFind (mC (.str (L_SIGNS))) (mCons (mVar 0) mNil)))
  (sRet (mIf (mB (mBin (oInt fun i j => decide (j ≤ i)) (mVar 1) (mC (.int 0)))) (mBin oAdd (mVar 1) (mC (.int 1))) (mBin oAdd (mCallC cLen (mCons (mC (.str (L_SIGNS))) mNil)) (mC (.int 1))))))
def F_place_of : Fn := callB m_place_of 2
theorem sc_place_of : FnScope ["sign", "place"] ["sign"] (defScope (top 6)) := ⟨rfl, rfl, rfl, by decide +kernel, rfl, by decide +kernel, by decide +kernel⟩
theorem ok_place_of (Z : Z P w K mg base Tb c_MixError)
    {fd : FuncData} (F : FnP K "place_of" (top 6) [] fd) : FnOk P w K mg base (L2.CX P w) 1 (He.fAd K ("place_of", none)) fd ["sign"] (spS K mg Tb 1 F_place_of) := by
  refine fn_okC F sc_place_of fun A outer s H E C => ?_
  show SSs _ Tb (WD E) (defBody (top 6)) m_place_of
  exact (sss_cons (ss_set C 1 (se_bm ms_find PySem.F.plainAttrs_str PySem.F.slot_str_find PySem.F.type_str_find (se_gstr Z.g_SIGNS rfl) (sa_cons (se_var 0) sa_nil)))
  (sss_one (ss_ret (se_if (st_cmp os_ge (se_var 1) se_int (nomark _)) (se_bin os_add (se_var 1) se_int) (se_bin os_add (se_callB cs_len Z.g_len (sa_cons (se_gstr Z.g_SIGNS rfl) sa_nil) rfl bt_len) se_int)))))
theorem cal_place_of (Z : Z P w K mg base Tb c_MixError)
    : CalS P w K mg base Tb "place_of" 1 1 [] F_place_of := by
  obtain ⟨fd, F⟩ := Z.f_place_of
  have G := ok_place_of Z  F
  have b1 : Binds K fd ["sign"] [] := F.bindsN fun _ _ _ _ _ _ us hl => match us, hl with | [_], _ => rfl
  exact ⟨⟨_, fd, _, [], [], Z.m_place_of, F.kp, G, b1, .nil, fun _ _ _ => rfl⟩⟩
/-! ### mixed -/
def m_mixed : MS :=
  (sSeq (sIf (mB (mBin (oInt fun i j => decide (i < j)) (mVar 1) (mC (.int 0)))) (sRaise "MixError") sNil)
  (sSeq (sSet 2 (mBin oMod (mBin oAdd (mVar 1) (mC (.int 7))) (mC (.int 1000003))))
  (sSeq (sFor (mIt (mVar 0)) (gN 3) (sSet 2 (mBin oMod (mBin oAdd (mBin oMul (mVar 2) (mBin oAdd (mC (.int 131)) (mVar 1))) (mCall F_place_of 1 [] (mCons (mVar 3) mNil))) (mC (.int 1000003)))))
  (sRet (mBin oMod (mBin oAdd (mBin oMul (mVar 2) (mBin oAdd (mC (.int 48271)) (mBin oMul (mC (.int 7919)) (mVar 1)))) (mCallC cLen (mCons (mVar 0) mNil))) (mC (.int 1000003)))))))
def F_mixed : Fn := callB m_mixed 4
theorem sc_mixed : FnScope ["text", "seed", "value", "sign"] ["text", "seed"] (defScope (top 7)) := ⟨rfl, rfl, rfl, by decide +kernel, rfl, by decide +kernel, by decide +kernel⟩
theorem ok_mixed (Z : Z P w K mg base Tb c_MixError)
    (Z_place_of_1 : CalS P w K mg base Tb "place_of" 1 1 [] F_place_of)
    {fd : FuncData} (F : FnP K "mixed" (top 7) [.int 0] fd) : FnOk P w K mg base (L2.CX P w) 2 (He.fAd K ("mixed", none)) fd ["text", "seed"] (spS K mg Tb 2 F_mixed) := by
  refine fn_okC F sc_mixed fun A outer s H E C => ?_
  show SSs _ Tb (WD E) (defBody (top 7)) m_mixed
  exact (sss_cons (ss_if (st_cmp os_lt (se_var 1) se_int (nomark _)) (sss_one (ss_raiseX C Z.x_MixError)) sss_nil)
  (sss_cons (ss_set C 2 (se_bin os_mod (se_bin os_add (se_var 1) se_int) (se_gint Z.g_RING)))
  (sss_cons (ss_for C (si_it (se_var 0)) (sg_name C 3) (sss_one (ss_set C 2 (se_bin os_mod (se_bin os_add (se_bin os_mul (se_var 2) (se_bin os_add se_int (se_var 1))) (se_callX C Z_place_of_1 (sa_cons (se_var 3) sa_nil))) (se_gint Z.g_RING)))))
  (sss_one (ss_ret (se_bin os_mod (se_bin os_add (se_bin os_mul (se_var 2) (se_bin os_add se_int (se_bin os_mul se_int (se_var 1)))) (se_callB cs_len Z.g_len (sa_cons (se_var 0) sa_nil) rfl bt_len)) (se_gint Z.g_RING)))))))
theorem cal_mixed (Z : Z P w K mg base Tb c_MixError)
    (Z_place_of_1 : CalS P w K mg base Tb "place_of" 1 1 [] F_place_of)
    : CalS P w K mg base Tb "mixed" 2 2 [.int 0] F_mixed ∧ CalS P w K mg base Tb "mixed" 2 2 [] F_mixed := by
  obtain ⟨fd, F⟩ := Z.f_mixed
  have G := ok_mixed Z Z_place_of_1 F
  obtain ⟨ds1, v1, b1⟩ := F.binds1 (ps := ["text", "seed"]) 1 0 (by simp) rfl fun _ _ _ _ _ _ _ us its h1 h2 => match us, its, h1, h2 with | [_], [_], _, _ => ⟨_, rfl, rfl⟩
  obtain ⟨ds2, v2, b2⟩ := F.binds1 (ps := ["text", "seed"]) 2 1 (by simp) rfl fun _ _ _ _ _ _ _ us its h1 h2 => match us, its, h1, h2 with | [_, _], [_], _, _ => ⟨_, rfl, rfl⟩
  exact ⟨⟨⟨_, fd, _, _, ds1, Z.m_mixed, F.kp, G, b1, v1, fun _ _ _ => ⟨_, _, rfl, rfl, rfl⟩⟩⟩, ⟨⟨_, fd, _, _, ds2, Z.m_mixed, F.kp, G, b2, v2, fun _ _ _ => rfl⟩⟩⟩
/-! ### mix_number -/
def m_mix_number : MS :=
  (sRet (mCall F_mixed 2 [] (mCons (mCallC cStr (mCons (mVar 0) mNil)) (mCons (mVar 1) mNil))))
def F_mix_number : Fn := callB m_mix_number 2
theorem sc_mix_number : FnScope ["number", "seed"] ["number", "seed"] (defScope (top 8)) := ⟨rfl, rfl, rfl, by decide +kernel, rfl, by decide +kernel, by decide +kernel⟩
theorem ok_mix_number (Z : Z P w K mg base Tb c_MixError)
    (Z_mixed_2 : CalS P w K mg base Tb "mixed" 2 2 [] F_mixed)
    {fd : FuncData} (F : FnP K "mix_number" (top 8) [.int 0] fd) : FnOk P w K mg base (L2.CX P w) 3 (He.fAd K ("mix_number", none)) fd ["number", "seed"] (spS K mg Tb 2 F_mix_number) := by
  refine fn_okC F sc_mix_number fun A outer s H E C => ?_
  show SSs _ Tb (WD E) (defBody (top 8)) m_mix_number
  exact (sss_one (ss_ret (se_callX C Z_mixed_2 (sa_cons (se_callTy cs_str Z.g_str (sa_cons (se_var 0) sa_nil) rfl bt_str) (sa_cons (se_var 1) sa_nil)))))
theorem cal_mix_number (Z : Z P w K mg base Tb c_MixError)
    (Z_mixed_2 : CalS P w K mg base Tb "mixed" 2 2 [] F_mixed)
    : CalS P w K mg base Tb "mix_number" 3 2 [.int 0] F_mix_number ∧ CalS P w K mg base Tb "mix_number" 3 2 [] F_mix_number := by
  obtain ⟨fd, F⟩ := Z.f_mix_number
  have G := ok_mix_number Z Z_mixed_2 F
  obtain ⟨ds1, v1, b1⟩ := F.binds1 (ps := ["number", "seed"]) 1 0 (by simp) rfl fun _ _ _ _ _ _ _ us its h1 h2 => match us, its, h1, h2 with | [_], [_], _, _ => ⟨_, rfl, rfl⟩
  obtain ⟨ds2, v2, b2⟩ := F.binds1 (ps := ["number", "seed"]) 2 1 (by simp) rfl fun _ _ _ _ _ _ _ us its h1 h2 => match us, its, h1, h2 with | [_, _], [_], _, _ => ⟨_, rfl, rfl⟩
  exact ⟨⟨⟨_, fd, _, _, ds1, Z.m_mix_number, F.kp, G, b1, v1, fun _ _ _ => ⟨_, _, rfl, rfl, rfl⟩⟩⟩, ⟨⟨_, fd, _, _, ds2, Z.m_mix_number, F.kp, G, b2, v2, fun _ _ _ => rfl⟩⟩⟩
/-! ### spot_of -/
def m_spot_of : MS :=
  (sSeq (sIf (mB (mBin (oInt fun i j => decide (i < j)) (mVar 1) (mC (.int 1)))) (sRaise "MixError") sNil)
  (sRet (mBin oMod (mCall F_mixed 2 [] (mCons (mVar 0) (mCons (mVar 2) mNil))) (mVar 1))))
def F_spot_of : Fn := callB m_spot_of 3
theorem sc_spot_of : FnScope ["text", "many", "seed"] ["text", "many", "seed"] (defScope (top 9)) := ⟨rfl, rfl, rfl, by decide +kernel, rfl, by decide +kernel, by decide +kernel⟩
theorem ok_spot_of (Z : Z P w K mg base Tb c_MixError)
    (Z_mixed_2 : CalS P w K mg base Tb "mixed" 2 2 [] F_mixed)
    {fd : FuncData} (F : FnP K "spot_of" (top 9) [.int 0] fd) : FnOk P w K mg base (L2.CX P w) 3 (He.fAd K ("spot_of", none)) fd ["text", "many", "seed"] (spS K mg Tb 3 F_spot_of) := by
  refine fn_okC F sc_spot_of fun A outer s H E C => ?_
  show SSs _ Tb (WD E) (defBody (top 9)) m_spot_of
  exact (sss_cons (ss_if (st_cmp os_lt (se_var 1) se_int (nomark _)) (sss_one (ss_raiseX C Z.x_MixError)) sss_nil)
  (sss_one (ss_ret (se_bin os_mod (se_callX C Z_mixed_2 (sa_cons (se_var 0) (sa_cons (se_var 2) sa_nil))) (se_var 1)))))
theorem cal_spot_of (Z : Z P w K mg base Tb c_MixError)
    (Z_mixed_2 : CalS P w K mg base Tb "mixed" 2 2 [] F_mixed)
    : CalS P w K mg base Tb "spot_of" 3 3 [.int 0] F_spot_of ∧ CalS P w K mg base Tb "spot_of" 3 3 [] F_spot_of := by
  obtain ⟨fd, F⟩ := Z.f_spot_of
  have G := ok_spot_of Z Z_mixed_2 F
  obtain ⟨ds2, v2, b2⟩ := F.binds1 (ps := ["text", "many", "seed"]) 2 0 (by simp) rfl fun _ _ _ _ _ _ _ us its h1 h2 => match us, its, h1, h2 with | [_, _], [_], _, _ => ⟨_, rfl, rfl⟩
  obtain ⟨ds3, v3, b3⟩ := F.binds1 (ps := ["text", "many", "seed"]) 3 1 (by simp) rfl fun _ _ _ _ _ _ _ us its h1 h2 => match us, its, h1, h2 with | [_, _, _], [_], _, _ => ⟨_, rfl, rfl⟩
  exact ⟨⟨⟨_, fd, _, _, ds2, Z.m_spot_of, F.kp, G, b2, v2, fun _ _ _ => ⟨_, _, rfl, rfl, rfl⟩⟩⟩, ⟨⟨_, fd, _, _, ds3, Z.m_spot_of, F.kp, G, b3, v3, fun _ _ _ => rfl⟩⟩⟩
/-! ### two_mixes -/
def m_two_mixes : MS :=
  (sSeq (sSet 3 (mCall F_spot_of 3 [] (mCons (mVar 0) (mCons (mVar 1) (mCons (mVar 2) mNil)))))
  (sRet (mTup (mCons (mVar 3) (mCons (mIf (mB (mBin (oInt fun i j => decide (j < i)) (mVar 1) (mC (.int 2)))) (mBin oAdd (mBin oMod (mCall F_mixed 2 [] (mCons (mVar 0) (mCons (mBin oAdd (mVar 2) (mC (.int 1))) mNil))) (mBin oSub (mVar 1) (mC (.int 1)))) (mC (.int 1))) (mC (.int 1))) mNil)))))
def F_two_mixes : Fn := callB m_two_mixes 4
theorem sc_two_mixes : FnScope ["text", "many", "seed", "first"] ["text", "many", "seed"] (defScope (top 10)) := ⟨rfl, rfl, rfl, by decide +kernel, rfl, by decide +kernel, by decide +kernel⟩
theorem ok_two_mixes (Z : Z P w K mg base Tb c_MixError)
    (Z_mixed_2 : CalS P w K mg base Tb "mixed" 2 2 [] F_mixed)
    (Z_spot_of_3 : CalS P w K mg base Tb "spot_of" 3 3 [] F_spot_of)
    {fd : FuncData} (F : FnP K "two_mixes" (top 10) [.int 0] fd) : FnOk P w K mg base (L2.CX P w) 4 (He.fAd K ("two_mixes", none)) fd ["text", "many", "seed"] (spS K mg Tb 3 F_two_mixes) := by
  refine fn_okC F sc_two_mixes fun A outer s H E C => ?_
  show SSs _ Tb (WD E) (defBody (top 10)) m_two_mixes
  exact (sss_cons (ss_set C 3 (se_callX C Z_spot_of_3 (sa_cons (se_var 0) (sa_cons (se_var 1) (sa_cons (se_var 2) sa_nil)))))
  (sss_one (ss_ret (se_tup (sa_cons (se_var 3) (sa_cons (se_if (st_cmp os_gt (se_var 1) se_int (nomark _)) (se_bin os_add (se_bin os_mod (se_callX C Z_mixed_2 (sa_cons (se_var 0) (sa_cons (se_bin os_add (se_var 2) se_int) sa_nil))) (se_bin os_sub (se_var 1) se_int)) se_int) se_int) sa_nil))))))
theorem cal_two_mixes (Z : Z P w K mg base Tb c_MixError)
    (Z_mixed_2 : CalS P w K mg base Tb "mixed" 2 2 [] F_mixed)
    (Z_spot_of_3 : CalS P w K mg base Tb "spot_of" 3 3 [] F_spot_of)
    : CalS P w K mg base Tb "two_mixes" 4 3 [.int 0] F_two_mixes ∧ CalS P w K mg base Tb "two_mixes" 4 3 [] F_two_mixes := by
  obtain ⟨fd, F⟩ := Z.f_two_mixes
  have G := ok_two_mixes Z Z_mixed_2 Z_spot_of_3 F
  obtain ⟨ds2, v2, b2⟩ := F.binds1 (ps := ["text", "many", "seed"]) 2 0 (by simp) rfl fun _ _ _ _ _ _ _ us its h1 h2 => match us, its, h1, h2 with | [_, _], [_], _, _ => ⟨_, rfl, rfl⟩
  obtain ⟨ds3, v3, b3⟩ := F.binds1 (ps := ["text", "many", "seed"]) 3 1 (by simp) rfl fun _ _ _ _ _ _ _ us its h1 h2 => match us, its, h1, h2 with | [_, _, _], [_], _, _ => ⟨_, rfl, rfl⟩
  exact ⟨⟨⟨_, fd, _, _, ds2, Z.m_two_mixes, F.kp, G, b2, v2, fun _ _ _ => ⟨_, _, rfl, rfl, rfl⟩⟩⟩, ⟨⟨_, fd, _, _, ds3, Z.m_two_mixes, F.kp, G, b3, v3, fun _ _ _ => rfl⟩⟩⟩
/-! ### spots_of -/
def m_spots_of : MS :=
  (sSeq (sIf (mB (mBin (oInt fun i j => decide (i < j)) (mVar 1) (mC (.int 1)))) (sRaise "MixError") sNil)
  (sSeq (sAsg (mCall F_two_mixes 3 [] (mCons (mVar 0) (mCons (mVar 2) (mCons (mVar 3) mNil)))) (gT 2 (fun ws ρ S => noX (gsCons (gN 4) (fun ws ρ S => noX (gsCons (gN 5) gsNil ws ρ S)) ws ρ S))))
  (sRet (mGx NSX [none, some 2, some 4, some 5] stpL [] finTup (mRange1 (mCons (mVar 1) mNil)) (gN 0) mYes (mBin oMod (mBin oAdd (mVar 2) (mBin oMul (mVar 0) (mVar 3))) (mVar 1))))))
def F_spots_of : Fn := callB m_spots_of 6
theorem sc_spots_of : FnScope ["text", "times", "many", "seed", "first", "step"] ["text", "times", "many", "seed"] (defScope (top 11)) := ⟨rfl, rfl, rfl, by decide +kernel, rfl, by decide +kernel, by decide +kernel⟩
theorem ok_spots_of (Z : Z P w K mg base Tb c_MixError)
    (Z_two_mixes_3 : CalS P w K mg base Tb "two_mixes" 4 3 [] F_two_mixes)
    {fd : FuncData} (F : FnP K "spots_of" (top 11) [.int 0] fd) : FnOk P w K mg base (L2.CX P w) 10 (He.fAd K ("spots_of", none)) fd ["text", "times", "many", "seed"] (spS K mg Tb 4 F_spots_of) := by
  refine fn_okC F sc_spots_of fun A outer s H E C => ?_
  show SSs _ Tb (WD E) (defBody (top 11)) m_spots_of
  exact (sss_cons (ss_if (st_cmp os_lt (se_var 1) se_int (nomark _)) (sss_one (ss_raiseX C Z.x_MixError)) sss_nil)
  (sss_cons (ss_asg (se_callX C Z_two_mixes_3 (sa_cons (se_var 0) (sa_cons (se_var 2) (sa_cons (se_var 3) sa_nil)))) (sg_tup C (sgs_cons (sg_name C 4) (sgs_cons (sg_name C 5) sgs_nil))))
  (sss_one (ss_ret (se_gxTup (N := ["turn", "many", "first", "step"]) (lay := [none, some 2, some 4, some 5]) (ns := NSX) (j := 0) ⟨C.mono (by decide), Z.gxt_spots_of, GxI.gxS_by (by kernel_rfl), by decide, by kernel_rfl, Z.nsx⟩ (si_range1 Z.g_range (sa_cons (se_var 1) sa_nil)) ⟨fun E _ _ _ _ _ _ _ C => ⟨(sg_name C 0), sts_nil, (se_bin os_mod (se_bin os_add (se_var 2) (se_bin os_mul (se_var 0) (se_var 3))) (se_var 1))⟩⟩ Z.g_tuple)))))
theorem cal_spots_of (Z : Z P w K mg base Tb c_MixError)
    (Z_two_mixes_3 : CalS P w K mg base Tb "two_mixes" 4 3 [] F_two_mixes)
    : CalS P w K mg base Tb "spots_of" 10 4 [.int 0] F_spots_of ∧ CalS P w K mg base Tb "spots_of" 10 4 [] F_spots_of := by
  obtain ⟨fd, F⟩ := Z.f_spots_of
  have G := ok_spots_of Z Z_two_mixes_3 F
  obtain ⟨ds3, v3, b3⟩ := F.binds1 (ps := ["text", "times", "many", "seed"]) 3 0 (by simp) rfl fun _ _ _ _ _ _ _ us its h1 h2 => match us, its, h1, h2 with | [_, _, _], [_], _, _ => ⟨_, rfl, rfl⟩
  obtain ⟨ds4, v4, b4⟩ := F.binds1 (ps := ["text", "times", "many", "seed"]) 4 1 (by simp) rfl fun _ _ _ _ _ _ _ us its h1 h2 => match us, its, h1, h2 with | [_, _, _, _], [_], _, _ => ⟨_, rfl, rfl⟩
  exact ⟨⟨⟨_, fd, _, _, ds3, Z.m_spots_of, F.kp, G, b3, v3, fun _ _ _ => ⟨_, _, rfl, rfl, rfl⟩⟩⟩, ⟨⟨_, fd, _, _, ds4, Z.m_spots_of, F.kp, G, b4, v4, fun _ _ _ => rfl⟩⟩⟩
/-! ### joined_mix -/
def m_joined_mix : MS :=
  (sRet (mBin oMod (mBin oAdd (mBin oAdd (mBin oMul (mVar 0) (mC (.int 31))) (mBin oMul (mVar 1) (mC (.int 17)))) (mC (.int 5))) (mC (.int 1000003))))
def F_joined_mix : Fn := callB m_joined_mix 2
theorem sc_joined_mix : FnScope ["one", "other"] ["one", "other"] (defScope (top 12)) := ⟨rfl, rfl, rfl, by decide +kernel, rfl, by decide +kernel, by decide +kernel⟩
theorem ok_joined_mix (Z : Z P w K mg base Tb c_MixError)
    {fd : FuncData} (F : FnP K "joined_mix" (top 12) [] fd) : FnOk P w K mg base (L2.CX P w) 1 (He.fAd K ("joined_mix", none)) fd ["one", "other"] (spS K mg Tb 2 F_joined_mix) := by
  refine fn_okC F sc_joined_mix fun A outer s H E C => ?_
  show SSs _ Tb (WD E) (defBody (top 12)) m_joined_mix
  exact (sss_one (ss_ret (se_bin os_mod (se_bin os_add (se_bin os_add (se_bin os_mul (se_var 0) se_int) (se_bin os_mul (se_var 1) se_int)) se_int) (se_gint Z.g_RING))))
theorem cal_joined_mix (Z : Z P w K mg base Tb c_MixError)
    : CalS P w K mg base Tb "joined_mix" 1 2 [] F_joined_mix := by
  obtain ⟨fd, F⟩ := Z.f_joined_mix
  have G := ok_joined_mix Z  F
  have b2 : Binds K fd ["one", "other"] [] := F.bindsN fun _ _ _ _ _ _ us hl => match us, hl with | [_, _], _ => rfl
  exact ⟨⟨_, fd, _, [], [], Z.m_joined_mix, F.kp, G, b2, .nil, fun _ _ _ => rfl⟩⟩
/-! ### mix_of_set -/
def m_mix_of_set : MS :=
  (sRet (mBin oMod (mGx NSX [none, some 1] stpS 0 finSum (mIt (mDc (mIt (mVar 0)) (gN 2) mYes (mVar 2) (mC (.bl true)) [2])) (gN 0) mYes (mCall F_mixed 2 [] (mCons (mVar 0) (mCons (mVar 1) mNil)))) (mC (.int 1000003))))
def F_mix_of_set : Fn := callB m_mix_of_set 3
theorem sc_mix_of_set : FnScope ["texts", "seed", "text"] ["texts", "seed"] (defScope (top 13)) := ⟨rfl, rfl, rfl, by decide +kernel, rfl, by decide +kernel, by decide +kernel⟩
theorem ok_mix_of_set (Z : Z P w K mg base Tb c_MixError)
    (Z_mixed_2 : CalS P w K mg base Tb "mixed" 2 2 [] F_mixed)
    {fd : FuncData} (F : FnP K "mix_of_set" (top 13) [.int 0] fd) : FnOk P w K mg base (L2.CX P w) 12 (He.fAd K ("mix_of_set", none)) fd ["texts", "seed"] (spS K mg Tb 2 F_mix_of_set) := by
  refine fn_okC F sc_mix_of_set fun A outer s H E C => ?_
  show SSs _ Tb (WD E) (defBody (top 13)) m_mix_of_set
  exact (sss_one (ss_ret (se_bin os_mod (se_gxSum (N := ["text", "seed"]) (lay := [none, some 1]) (ns := NSX) (j := 2) ⟨C.mono (by decide), Z.gxt_mix_of_set, GxI.gxS_by (by kernel_rfl), by decide, by kernel_rfl, Z.nsx⟩ (si_it (se_dc C (si_it (se_var 0)) (blkOk_by (own := [("text", 2)]) (by kernel_rfl)) (og := [2]) (by decide) (fun _ _ _ _ _ C => (sg_name C 2)) (fun _ _ _ _ _ C => sts_nil) (fun _ _ _ _ _ C => (se_var 2)) (fun _ _ _ _ _ C => se_bl))) ⟨fun E _ _ _ _ _ _ _ C => ⟨(sg_name C 0), sts_nil, (se_callX C Z_mixed_2 (sa_cons (se_var 0) (sa_cons (se_var 1) sa_nil)))⟩⟩ Z.g_sum) (se_gint Z.g_RING))))
theorem cal_mix_of_set (Z : Z P w K mg base Tb c_MixError)
    (Z_mixed_2 : CalS P w K mg base Tb "mixed" 2 2 [] F_mixed)
    : CalS P w K mg base Tb "mix_of_set" 12 2 [.int 0] F_mix_of_set ∧ CalS P w K mg base Tb "mix_of_set" 12 2 [] F_mix_of_set := by
  obtain ⟨fd, F⟩ := Z.f_mix_of_set
  have G := ok_mix_of_set Z Z_mixed_2 F
  obtain ⟨ds1, v1, b1⟩ := F.binds1 (ps := ["texts", "seed"]) 1 0 (by simp) rfl fun _ _ _ _ _ _ _ us its h1 h2 => match us, its, h1, h2 with | [_], [_], _, _ => ⟨_, rfl, rfl⟩
  obtain ⟨ds2, v2, b2⟩ := F.binds1 (ps := ["texts", "seed"]) 2 1 (by simp) rfl fun _ _ _ _ _ _ _ us its h1 h2 => match us, its, h1, h2 with | [_, _], [_], _, _ => ⟨_, rfl, rfl⟩
  exact ⟨⟨⟨_, fd, _, _, ds1, Z.m_mix_of_set, F.kp, G, b1, v1, fun _ _ _ => ⟨_, _, rfl, rfl, rfl⟩⟩⟩, ⟨⟨_, fd, _, _, ds2, Z.m_mix_of_set, F.kp, G, b2, v2, fun _ _ _ => rfl⟩⟩⟩
/-! ### spot_loads -/
def m_spot_loads : MS :=
  (sSeq (sIf (mB (mBin (oInt fun i j => decide (i < j)) (mVar 1) (mC (.int 1)))) (sRaise "MixError") sNil)
  (sSeq (sSet 3 (mBin oMul (mLst (mCons (mC (.int 0)) mNil)) (mVar 1)))
  (sSeq (sFor (mIt (mVar 0)) (gN 4) (sAugS iAdd (mVar 3) (mCall F_spot_of 3 [] (mCons (mVar 4) (mCons (mVar 1) (mCons (mVar 2) mNil)))) (mC (.int 1))))
  (sRet (mCallC cTup (mCons (mVar 3) mNil))))))
def F_spot_loads : Fn := callB m_spot_loads 5
theorem sc_spot_loads : FnScope ["texts", "many", "seed", "found", "text"] ["texts", "many", "seed"] (defScope (top 14)) := ⟨rfl, rfl, rfl, by decide +kernel, rfl, by decide +kernel, by decide +kernel⟩
theorem ok_spot_loads (Z : Z P w K mg base Tb c_MixError)
    (Z_spot_of_3 : CalS P w K mg base Tb "spot_of" 3 3 [] F_spot_of)
    {fd : FuncData} (F : FnP K "spot_loads" (top 14) [.int 0] fd) : FnOk P w K mg base (L2.CX P w) 4 (He.fAd K ("spot_loads", none)) fd ["texts", "many", "seed"] (spS K mg Tb 3 F_spot_loads) := by
  refine fn_okC F sc_spot_loads fun A outer s H E C => ?_
  show SSs _ Tb (WD E) (defBody (top 14)) m_spot_loads
  exact (sss_cons (ss_if (st_cmp os_lt (se_var 1) se_int (nomark _)) (sss_one (ss_raiseX C Z.x_MixError)) sss_nil)
  (sss_cons (ss_set C 3 (se_bin os_mul (se_lst (sa_cons se_int sa_nil)) (se_var 1)))
  (sss_cons (ss_for C (si_it (se_var 0)) (sg_name C 4) (sss_one (ss_augS C is_add (se_var 3) (se_callX C Z_spot_of_3 (sa_cons (se_var 4) (sa_cons (se_var 1) (sa_cons (se_var 2) sa_nil)))) se_int)))
  (sss_one (ss_ret (se_callTy cs_tup Z.g_tuple (sa_cons (se_var 3) sa_nil) rfl bt_tuple))))))
theorem cal_spot_loads (Z : Z P w K mg base Tb c_MixError)
    (Z_spot_of_3 : CalS P w K mg base Tb "spot_of" 3 3 [] F_spot_of)
    : CalS P w K mg base Tb "spot_loads" 4 3 [.int 0] F_spot_loads ∧ CalS P w K mg base Tb "spot_loads" 4 3 [] F_spot_loads := by
  obtain ⟨fd, F⟩ := Z.f_spot_loads
  have G := ok_spot_loads Z Z_spot_of_3 F
  obtain ⟨ds2, v2, b2⟩ := F.binds1 (ps := ["texts", "many", "seed"]) 2 0 (by simp) rfl fun _ _ _ _ _ _ _ us its h1 h2 => match us, its, h1, h2 with | [_, _], [_], _, _ => ⟨_, rfl, rfl⟩
  obtain ⟨ds3, v3, b3⟩ := F.binds1 (ps := ["texts", "many", "seed"]) 3 1 (by simp) rfl fun _ _ _ _ _ _ _ us its h1 h2 => match us, its, h1, h2 with | [_, _, _], [_], _, _ => ⟨_, rfl, rfl⟩
  exact ⟨⟨⟨_, fd, _, _, ds2, Z.m_spot_loads, F.kp, G, b2, v2, fun _ _ _ => ⟨_, _, rfl, rfl, rfl⟩⟩⟩, ⟨⟨_, fd, _, _, ds3, Z.m_spot_loads, F.kp, G, b3, v3, fun _ _ _ => rfl⟩⟩⟩
/-! ### how_even -/
def m_how_even : MS :=
  (sSeq (sSet 3 (mCall F_spot_loads 3 [] (mCons (mVar 0) (mCons (mVar 1) (mCons (mVar 2) mNil)))))
  (sSeq (sSet 4 (mCallC cSum (mCons (mVar 3) mNil)))
  (sRet (mIf (mB (mBin (oInt fun i j => decide (j < i)) (mVar 4) (mC (.int 0)))) (mBin oDiv (mBin oMul (mBin oMul (mC (.int 100)) (mVar 1)) (mGx NSX [none] stpS 0 finSum (mIt (mVar 3)) (gN 0) mYes (mBin oMul (mVar 0) (mVar 0)))) (mBin oMul (mVar 4) (mVar 4))) (mC .non)))))
def F_how_even : Fn := callB m_how_even 5
theorem sc_how_even : FnScope ["texts", "many", "seed", "counts", "whole"] ["texts", "many", "seed"] (defScope (top 15)) := ⟨rfl, rfl, rfl, by decide +kernel, rfl, by decide +kernel, by decide +kernel⟩
theorem ok_how_even (Z : Z P w K mg base Tb c_MixError)
    (Z_spot_loads_3 : CalS P w K mg base Tb "spot_loads" 4 3 [] F_spot_loads)
    {fd : FuncData} (F : FnP K "how_even" (top 15) [.int 0] fd) : FnOk P w K mg base (L2.CX P w) 10 (He.fAd K ("how_even", none)) fd ["texts", "many", "seed"] (spS K mg Tb 3 F_how_even) := by
  refine fn_okC F sc_how_even fun A outer s H E C => ?_
  show SSs _ Tb (WD E) (defBody (top 15)) m_how_even
  exact (sss_cons (ss_set C 3 (se_callX C Z_spot_loads_3 (sa_cons (se_var 0) (sa_cons (se_var 1) (sa_cons (se_var 2) sa_nil)))))
  (sss_cons (ss_set C 4 (se_callB (cs_sum C.calm) Z.g_sum (sa_cons (se_var 3) sa_nil) rfl bt_sum))
  (sss_one (ss_ret (se_if (st_cmp os_gt (se_var 4) se_int (nomark _)) (se_bin os_div (se_bin os_mul (se_bin os_mul se_int (se_var 1)) (se_gxSum (N := ["count"]) (lay := [none]) (ns := NSX) (j := 0) ⟨C.mono (by decide), Z.gxt_how_even, GxI.gxS_by (by kernel_rfl), by decide, by kernel_rfl, Z.nsx⟩ (si_it (se_var 3)) ⟨fun E _ _ _ _ _ _ _ C => ⟨(sg_name C 0), sts_nil, (se_bin os_mul (se_var 0) (se_var 0))⟩⟩ Z.g_sum)) (se_bin os_mul (se_var 4) (se_var 4))) se_non)))))
theorem cal_how_even (Z : Z P w K mg base Tb c_MixError)
    (Z_spot_loads_3 : CalS P w K mg base Tb "spot_loads" 4 3 [] F_spot_loads)
    : CalS P w K mg base Tb "how_even" 10 3 [.int 0] F_how_even ∧ CalS P w K mg base Tb "how_even" 10 3 [] F_how_even := by
  obtain ⟨fd, F⟩ := Z.f_how_even
  have G := ok_how_even Z Z_spot_loads_3 F
  obtain ⟨ds2, v2, b2⟩ := F.binds1 (ps := ["texts", "many", "seed"]) 2 0 (by simp) rfl fun _ _ _ _ _ _ _ us its h1 h2 => match us, its, h1, h2 with | [_, _], [_], _, _ => ⟨_, rfl, rfl⟩
  obtain ⟨ds3, v3, b3⟩ := F.binds1 (ps := ["texts", "many", "seed"]) 3 1 (by simp) rfl fun _ _ _ _ _ _ _ us its h1 h2 => match us, its, h1, h2 with | [_, _, _], [_], _, _ => ⟨_, rfl, rfl⟩
  exact ⟨⟨⟨_, fd, _, _, ds2, Z.m_how_even, F.kp, G, b2, v2, fun _ _ _ => ⟨_, _, rfl, rfl, rfl⟩⟩⟩, ⟨⟨_, fd, _, _, ds3, Z.m_how_even, F.kp, G, b3, v3, fun _ _ _ => rfl⟩⟩⟩
/-! ### meeting_rows -/
def m_meeting_rows : MS :=
  (sSeq (sSet 3 mDict0)
  (sSeq (sFor (mIt (mDc (mIt (mVar 0)) (gN 4) mYes (mVar 4) (mC (.bl true)) [4])) (gN 4) (sSeq (sSet 5 (mCall F_spot_of 3 [] (mCons (mVar 4) (mCons (mVar 1) (mCons (mVar 2) mNil)))))
  (sAsg (mBin oAdd (mDget2 (mVar 3) (mVar 5) (mTup mNil)) (mTup (mCons (mVar 4) mNil))) (gS (mVar 3) (mVar 5)))))
  (sRet (mGx NSX [none, some 3] stpL [] finTup (mIt (mCallC cSorted (mCons (mVar 3) mNil))) (gN 0) (mB (mBin (oInt fun i j => decide (j < i)) (mCallC cLen (mCons (mBin oIx (mVar 1) (mVar 0)) mNil)) (mC (.int 1)))) (mBin oIx (mVar 1) (mVar 0))))))
def F_meeting_rows : Fn := callB m_meeting_rows 6
theorem sc_meeting_rows : FnScope ["texts", "many", "seed", "found", "text", "spot"] ["texts", "many", "seed"] (defScope (top 16)) := ⟨rfl, rfl, rfl, by decide +kernel, rfl, by decide +kernel, by decide +kernel⟩
theorem ok_meeting_rows (Z : Z P w K mg base Tb c_MixError)
    (Z_spot_of_3 : CalS P w K mg base Tb "spot_of" 3 3 [] F_spot_of)
    {fd : FuncData} (F : FnP K "meeting_rows" (top 16) [.int 0] fd) : FnOk P w K mg base (L2.CX P w) 10 (He.fAd K ("meeting_rows", none)) fd ["texts", "many", "seed"] (spS K mg Tb 3 F_meeting_rows) := by
  refine fn_okC F sc_meeting_rows fun A outer s H E C => ?_
  show SSs _ Tb (WD E) (defBody (top 16)) m_meeting_rows
  exact (sss_cons (ss_set C 3 se_dict0)
  (sss_cons (ss_for C (si_it (se_dc C (si_it (se_var 0)) (blkOk_by (own := [("text", 4)]) (by kernel_rfl)) (og := [4]) (by decide) (fun _ _ _ _ _ C => (sg_name C 4)) (fun _ _ _ _ _ C => sts_nil) (fun _ _ _ _ _ C => (se_var 4)) (fun _ _ _ _ _ C => se_bl))) (sg_name C 4) (sss_cons (ss_set C 5 (se_callX C Z_spot_of_3 (sa_cons (se_var 4) (sa_cons (se_var 1) (sa_cons (se_var 2) sa_nil)))))
  (sss_one (ss_asg (se_bin os_add (se_dget2 C (se_var 3) (se_var 5) (se_tup sa_nil)) (se_tup (sa_cons (se_var 4) sa_nil))) (sg_sub C (se_var 3) (se_var 5))))))
  (sss_one (ss_ret (se_gxTup (N := ["spot", "found"]) (lay := [none, some 3]) (ns := NSX) (j := 0) ⟨C.mono (by decide), Z.gxt_meeting_rows, GxI.gxS_by (by kernel_rfl), by decide, by kernel_rfl, Z.nsx⟩ (si_it (se_callB (cs_sorted C.calm) Z.g_sorted (sa_cons (se_var 3) sa_nil) rfl bt_sorted)) ⟨fun E _ _ _ _ _ _ _ C => ⟨(sg_name C 0), (sts_one (st_cmp os_gt (se_callB cs_len Z.g_len (sa_cons (se_ix C (se_var 1) (se_var 0)) sa_nil) rfl bt_len) se_int (nomark _))), (se_ix C (se_var 1) (se_var 0))⟩⟩ Z.g_tuple)))))
theorem cal_meeting_rows (Z : Z P w K mg base Tb c_MixError)
    (Z_spot_of_3 : CalS P w K mg base Tb "spot_of" 3 3 [] F_spot_of)
    : CalS P w K mg base Tb "meeting_rows" 10 3 [.int 0] F_meeting_rows ∧ CalS P w K mg base Tb "meeting_rows" 10 3 [] F_meeting_rows := by
  obtain ⟨fd, F⟩ := Z.f_meeting_rows
  have G := ok_meeting_rows Z Z_spot_of_3 F
  obtain ⟨ds2, v2, b2⟩ := F.binds1 (ps := ["texts", "many", "seed"]) 2 0 (by simp) rfl fun _ _ _ _ _ _ _ us its h1 h2 => match us, its, h1, h2 with | [_, _], [_], _, _ => ⟨_, rfl, rfl⟩
  obtain ⟨ds3, v3, b3⟩ := F.binds1 (ps := ["texts", "many", "seed"]) 3 1 (by simp) rfl fun _ _ _ _ _ _ _ us its h1 h2 => match us, its, h1, h2 with | [_, _, _], [_], _, _ => ⟨_, rfl, rfl⟩
  exact ⟨⟨⟨_, fd, _, _, ds2, Z.m_meeting_rows, F.kp, G, b2, v2, fun _ _ _ => ⟨_, _, rfl, rfl, rfl⟩⟩⟩, ⟨⟨_, fd, _, _, ds3, Z.m_meeting_rows, F.kp, G, b3, v3, fun _ _ _ => rfl⟩⟩⟩
/-! ### first_seed -/
def m_first_seed : MS :=
  (sSeq (sIf (mOr (mB (mBin (oInt fun i j => decide (i < j)) (mVar 2) (mC (.int 1)))) (mB (mBin (oInt fun i j => decide (i < j)) (mVar 1) (mC (.int 1))))) (sRaise "MixError") sNil)
  (sSeq (sFor (mRange1 (mCons (mVar 2) mNil)) (gN 3) (sIf (mB (mBin oEq (mCall F_meeting_rows 3 [] (mCons (mVar 0) (mCons (mVar 1) (mCons (mVar 3) mNil)))) (mTup mNil))) (sRet (mVar 3)) sNil))
  (sRet (mC .non))))
def F_first_seed : Fn := callB m_first_seed 4
theorem sc_first_seed : FnScope ["texts", "many", "most", "seed"] ["texts", "many", "most"] (defScope (top 17)) := ⟨rfl, rfl, rfl, by decide +kernel, rfl, by decide +kernel, by decide +kernel⟩
theorem ok_first_seed (Z : Z P w K mg base Tb c_MixError)
    (Z_meeting_rows_3 : CalS P w K mg base Tb "meeting_rows" 10 3 [] F_meeting_rows)
    {fd : FuncData} (F : FnP K "first_seed" (top 17) [] fd) : FnOk P w K mg base (L2.CX P w) 11 (He.fAd K ("first_seed", none)) fd ["texts", "many", "most"] (spS K mg Tb 3 F_first_seed) := by
  refine fn_okC F sc_first_seed fun A outer s H E C => ?_
  show SSs _ Tb (WD E) (defBody (top 17)) m_first_seed
  exact (sss_cons (ss_if (sw_or (st_cmp os_lt (se_var 2) se_int (nomark _)) (sw_or1 (st_cmp os_lt (se_var 1) se_int (nomark _)))).st (sss_one (ss_raiseX C Z.x_MixError)) sss_nil)
  (sss_cons (ss_for C (si_range1 Z.g_range (sa_cons (se_var 2) sa_nil)) (sg_name C 3) (sss_one (ss_if (st_cmp (os_eq C.hu) (se_callX C Z_meeting_rows_3 (sa_cons (se_var 0) (sa_cons (se_var 1) (sa_cons (se_var 3) sa_nil)))) (se_tup sa_nil) (nomark _)) (sss_one (ss_ret (se_var 3))) sss_nil)))
  (sss_one (ss_ret se_non))))
theorem cal_first_seed (Z : Z P w K mg base Tb c_MixError)
    (Z_meeting_rows_3 : CalS P w K mg base Tb "meeting_rows" 10 3 [] F_meeting_rows)
    : CalS P w K mg base Tb "first_seed" 11 3 [] F_first_seed := by
  obtain ⟨fd, F⟩ := Z.f_first_seed
  have G := ok_first_seed Z Z_meeting_rows_3 F
  have b3 : Binds K fd ["texts", "many", "most"] [] := F.bindsN fun _ _ _ _ _ _ us hl => match us, hl with | [_, _, _], _ => rfl
  exact ⟨⟨_, fd, _, [], [], Z.m_first_seed, F.kp, G, b3, .nil, fun _ _ _ => rfl⟩⟩
/-! ### changed_spots -/
def m_changed_spots : MS :=
  (sSeq (sPar3 3 4 5 (mCons (mCall F_spot_of 3 [] (mCons (mVar 0) (mCons (mVar 1) (mCons (mVar 2) mNil)))) (mCons (mC (.int 0)) (mCons (mC (.int 0)) mNil))))
  (sSeq (sFor (mRange1 (mCons (mCallC cLen (mCons (mVar 0) mNil)) mNil)) (gN 6) (sFor (mIt (mLc (mIt (mCut (mC (.str (L_SIGNS))) (oSo (mC (.int 1))) (oSo (mC (.int 27))))) (gN 7) (mB (mBin oNe (mVar 7) (mBin oIx (mVar 0) (mVar 6)))) (mVar 7) [7])) (gN 8) (sSeq (sSet 9 (mBin oAdd (mBin oAdd (mCut (mVar 0) oNo (oSo (mVar 6))) (mVar 8)) (mCut (mVar 0) (oSo (mBin oAdd (mVar 6) (mC (.int 1)))) oNo)))
  (sSeq (sAug 4 iAdd (mIf (mB (mBin oNe (mCall F_spot_of 3 [] (mCons (mVar 9) (mCons (mVar 1) (mCons (mVar 2) mNil)))) (mVar 3))) (mC (.int 1)) (mC (.int 0))))
  (sAug 5 iAdd (mC (.int 1)))))))
  (sRet (mTup (mCons (mVar 4) (mCons (mVar 5) mNil))))))
def F_changed_spots : Fn := callB m_changed_spots 10
theorem sc_changed_spots : FnScope ["text", "many", "seed", "here", "found", "whole", "place", "one", "sign", "other"] ["text", "many", "seed"] (defScope (top 18)) := ⟨rfl, rfl, rfl, by decide +kernel, rfl, by decide +kernel, by decide +kernel⟩
theorem ok_changed_spots (Z : Z P w K mg base Tb c_MixError)
    (Z_spot_of_3 : CalS P w K mg base Tb "spot_of" 3 3 [] F_spot_of)
    {fd : FuncData} (F : FnP K "changed_spots" (top 18) [.int 0] fd) : FnOk P w K mg base (L2.CX P w) 4 (He.fAd K ("changed_spots", none)) fd ["text", "many", "seed"] (spS K mg Tb 3 F_changed_spots) := by
  refine fn_okC F sc_changed_spots fun A outer s H E C => ?_
  show SSs _ Tb (WD E) (defBody (top 18)) m_changed_spots
  exact (sss_cons (ss_par3 C 3 4 5 (sa_cons (se_callX C Z_spot_of_3 (sa_cons (se_var 0) (sa_cons (se_var 1) (sa_cons (se_var 2) sa_nil)))) (sa_cons se_int (sa_cons se_int sa_nil))))
  (sss_cons (ss_for C (si_range1 Z.g_range (sa_cons (se_callB cs_len Z.g_len (sa_cons (se_var 0) sa_nil) rfl bt_len) sa_nil)) (sg_name C 6) (sss_one (ss_for C (si_it (se_lc C (si_it (se_cut (se_gstr Z.g_SIGNS rfl) (so_so se_int) (so_so se_int))) (blkOk_by (own := [("one", 7)]) (by kernel_rfl)) (og := [7]) (by decide) (fun _ _ _ _ _ C => (sg_name C 7)) (fun _ _ _ _ _ C => (sts_one (st_cmp (os_ne C.hu) (se_var 7) (se_ix C (se_var 0) (se_var 6)) (nomark _)))) (fun _ _ _ _ _ C => (se_var 7)))) (sg_name C 8) (sss_cons (ss_set C 9 (se_bin os_add (se_bin os_add (se_cut (se_var 0) so_no (so_so (se_var 6))) (se_var 8)) (se_cut (se_var 0) (so_so (se_bin os_add (se_var 6) se_int)) so_no)))
  (sss_cons (ss_aug C 4 is_add (se_if (st_cmp (os_ne C.hu) (se_callX C Z_spot_of_3 (sa_cons (se_var 9) (sa_cons (se_var 1) (sa_cons (se_var 2) sa_nil)))) (se_var 3) (nomark _)) se_int se_int))
  (sss_one (ss_aug C 5 is_add se_int)))))))
  (sss_one (ss_ret (se_tup (sa_cons (se_var 4) (sa_cons (se_var 5) sa_nil)))))))
theorem cal_changed_spots (Z : Z P w K mg base Tb c_MixError)
    (Z_spot_of_3 : CalS P w K mg base Tb "spot_of" 3 3 [] F_spot_of)
    : CalS P w K mg base Tb "changed_spots" 4 3 [.int 0] F_changed_spots ∧ CalS P w K mg base Tb "changed_spots" 4 3 [] F_changed_spots := by
  obtain ⟨fd, F⟩ := Z.f_changed_spots
  have G := ok_changed_spots Z Z_spot_of_3 F
  obtain ⟨ds2, v2, b2⟩ := F.binds1 (ps := ["text", "many", "seed"]) 2 0 (by simp) rfl fun _ _ _ _ _ _ _ us its h1 h2 => match us, its, h1, h2 with | [_, _], [_], _, _ => ⟨_, rfl, rfl⟩
  obtain ⟨ds3, v3, b3⟩ := F.binds1 (ps := ["text", "many", "seed"]) 3 1 (by simp) rfl fun _ _ _ _ _ _ _ us its h1 h2 => match us, its, h1, h2 with | [_, _, _], [_], _, _ => ⟨_, rfl, rfl⟩
  exact ⟨⟨⟨_, fd, _, _, ds2, Z.m_changed_spots, F.kp, G, b2, v2, fun _ _ _ => ⟨_, _, rfl, rfl, rfl⟩⟩⟩, ⟨⟨_, fd, _, _, ds3, Z.m_changed_spots, F.kp, G, b3, v3, fun _ _ _ => rfl⟩⟩⟩
/-! ### root_of -/
def m_root_of : MS :=
  (sSeq (sIf (mB (mBin (oInt fun i j => decide (i < j)) (mVar 0) (mC (.int 0)))) (sRaise "MixError") sNil)
  (sSeq (sSet 1 (mC (.int 0)))
  (sSeq (sWhile (mB (mBin (oInt fun i j => decide (i ≤ j)) (mBin oMul (mBin oAdd (mVar 1) (mC (.int 1))) (mBin oAdd (mVar 1) (mC (.int 1)))) (mVar 0))) (sAug 1 iAdd (mC (.int 1))))
  (sRet (mVar 1)))))
def F_root_of : Fn := callB m_root_of 2
theorem sc_root_of : FnScope ["number", "found"] ["number"] (defScope (top 20)) := ⟨rfl, rfl, rfl, by decide +kernel, rfl, by decide +kernel, by decide +kernel⟩
theorem ok_root_of (Z : Z P w K mg base Tb c_MixError)
    {fd : FuncData} (F : FnP K "root_of" (top 20) [] fd) : FnOk P w K mg base (L2.CX P w) 1 (He.fAd K ("root_of", none)) fd ["number"] (spS K mg Tb 1 F_root_of) := by
  refine fn_okC F sc_root_of fun A outer s H E C => ?_
  show SSs _ Tb (WD E) (defBody (top 20)) m_root_of
  exact (sss_cons (ss_if (st_cmp os_lt (se_var 0) se_int (nomark _)) (sss_one (ss_raiseX C Z.x_MixError)) sss_nil)
  (sss_cons (ss_set C 1 se_int)
  (sss_cons (ss_while C (st_cmp os_le (se_bin os_mul (se_bin os_add (se_var 1) se_int) (se_bin os_add (se_var 1) se_int)) (se_var 0) (nomark _)) (sss_one (ss_aug C 1 is_add se_int)))
  (sss_one (ss_ret (se_var 1))))))
theorem cal_root_of (Z : Z P w K mg base Tb c_MixError)
    : CalS P w K mg base Tb "root_of" 1 1 [] F_root_of := by
  obtain ⟨fd, F⟩ := Z.f_root_of
  have G := ok_root_of Z  F
  have b1 : Binds K fd ["number"] [] := F.bindsN fun _ _ _ _ _ _ us hl => match us, hl with | [_], _ => rfl
  exact ⟨⟨_, fd, _, [], [], Z.m_root_of, F.kp, G, b1, .nil, fun _ _ _ => rfl⟩⟩
/-! ### next_prime -/
def m_next_prime : MS :=
  (sSeq (sSet 1 (mCallC cMax (mCons (mC (.int 2)) (mCons (mVar 0) mNil))))
  (sSeq (sWhile (mB (mGx NSX [none, some 1] (stpB true) () finAny (mRange2 (mCons (mC (.int 2)) (mCons (mBin oAdd (mCall F_root_of 1 [] (mCons (mVar 1) mNil)) (mC (.int 1))) mNil))) (gN 0) mYes (mBin oEq (mBin oMod (mVar 1) (mVar 0)) (mC (.int 0))))) (sAug 1 iAdd (mC (.int 1))))
  (sRet (mVar 1))))
def F_next_prime : Fn := callB m_next_prime 2
theorem sc_next_prime : FnScope ["number", "here"] ["number"] (defScope (top 19)) := ⟨rfl, rfl, rfl, by decide +kernel, rfl, by decide +kernel, by decide +kernel⟩
theorem ok_next_prime (Z : Z P w K mg base Tb c_MixError)
    (Z_root_of_1 : CalS P w K mg base Tb "root_of" 1 1 [] F_root_of)
    {fd : FuncData} (F : FnP K "next_prime" (top 19) [] fd) : FnOk P w K mg base (L2.CX P w) 10 (He.fAd K ("next_prime", none)) fd ["number"] (spS K mg Tb 1 F_next_prime) := by
  refine fn_okC F sc_next_prime fun A outer s H E C => ?_
  show SSs _ Tb (WD E) (defBody (top 19)) m_next_prime
  exact (sss_cons (ss_set C 1 (se_callB (cs_max C.calm) Z.g_max (sa_cons se_int (sa_cons (se_var 0) sa_nil)) rfl bt_max))
  (sss_cons (ss_while C (st_val (se_gxAny (N := ["part", "here"]) (lay := [none, some 1]) (ns := NSX) (j := 0) ⟨C.mono (by decide), Z.gxt_next_prime, GxI.gxS_by (by kernel_rfl), by decide, by kernel_rfl, Z.nsx⟩ (si_range2 Z.g_range (sa_cons se_int (sa_cons (se_bin os_add (se_callX C Z_root_of_1 (sa_cons (se_var 1) sa_nil)) se_int) sa_nil))) ⟨fun E _ _ _ _ _ _ _ C => ⟨(sg_name C 0), sts_nil, (se_cmp (os_eq C.hu) (se_bin os_mod (se_var 1) (se_var 0)) se_int (nomark _))⟩⟩ Z.g_any)) (sss_one (ss_aug C 1 is_add se_int)))
  (sss_one (ss_ret (se_var 1)))))
theorem cal_next_prime (Z : Z P w K mg base Tb c_MixError)
    (Z_root_of_1 : CalS P w K mg base Tb "root_of" 1 1 [] F_root_of)
    : CalS P w K mg base Tb "next_prime" 10 1 [] F_next_prime := by
  obtain ⟨fd, F⟩ := Z.f_next_prime
  have G := ok_next_prime Z Z_root_of_1 F
  have b1 : Binds K fd ["number"] [] := F.bindsN fun _ _ _ _ _ _ us hl => match us, hl with | [_], _ => rfl
  exact ⟨⟨_, fd, _, [], [], Z.m_next_prime, F.kp, G, b1, .nil, fun _ _ _ => rfl⟩⟩
/-! ### _law_told -/
def m_lam0 : ME := (mCall F_mixed 2 [] (mCons (mC (.str [97])) (mCons (mNeg (mC (.int 1))) mNil)))
def m_lam1 : ME := (mCall F_mix_number 2 [] (mCons (mC (.int 1)) (mCons (mNeg (mC (.int 1))) mNil)))
def m_lam2 : ME := (mCall F_spot_of 3 [.int 0] (mCons (mC (.str [97])) (mCons (mC (.int 0)) mNil)))
def m_lam3 : ME := (mCall F_spot_of 3 [] (mCons (mC (.str [97])) (mCons (mC (.int 1)) (mCons (mNeg (mC (.int 1))) mNil))))
def m_lam4 : ME := (mCall F_two_mixes 3 [.int 0] (mCons (mC (.str [97])) (mCons (mC (.int 0)) mNil)))
def m_lam5 : ME := (mCall F_spots_of 4 [.int 0] (mCons (mC (.str [97])) (mCons (mC (.int 0)) (mCons (mC (.int 1)) mNil))))
def m_lam6 : ME := (mCall F_mix_of_set 2 [] (mCons (mTup (mCons (mC (.str [97])) mNil)) (mCons (mNeg (mC (.int 1))) mNil)))
def m_lam7 : ME := (mCall F_spot_loads 3 [.int 0] (mCons (mTup mNil) (mCons (mC (.int 0)) mNil)))
def m_lam8 : ME := (mCall F_how_even 3 [.int 0] (mCons (mTup mNil) (mCons (mC (.int 0)) mNil)))
def m_lam9 : ME := (mCall F_meeting_rows 3 [.int 0] (mCons (mTup (mCons (mC (.str [97])) mNil)) (mCons (mC (.int 0)) mNil)))
def m_lam10 : ME := (mCall F_first_seed 3 [] (mCons (mTup mNil) (mCons (mC (.int 1)) (mCons (mC (.int 0)) mNil))))
def m_lam11 : ME := (mCall F_first_seed 3 [] (mCons (mTup mNil) (mCons (mC (.int 0)) (mCons (mC (.int 1)) mNil))))
def m_lam12 : ME := (mCall F_changed_spots 3 [.int 0] (mCons (mC (.str [97])) (mCons (mC (.int 0)) mNil)))
def m_lam13 : ME := (mCall F_root_of 1 [] (mCons (mNeg (mC (.int 1))) mNil))
def F_lam (j : Nat) (S : Store) : Out U := match j with
  | 0 => callL m_lam0 S
  | 1 => callL m_lam1 S
  | 2 => callL m_lam2 S
  | 3 => callL m_lam3 S
  | 4 => callL m_lam4 S
  | 5 => callL m_lam5 S
  | 6 => callL m_lam6 S
  | 7 => callL m_lam7 S
  | 8 => callL m_lam8 S
  | 9 => callL m_lam9 S
  | 10 => callL m_lam10 S
  | 11 => callL m_lam11 S
  | 12 => callL m_lam12 S
  | 13 => callL m_lam13 S
  | _ => .bad
theorem lamB (Z : Z P w K mg base Tb c_MixError)
    (Z_changed_spots_2 : CalS P w K mg base Tb "changed_spots" 4 3 [.int 0] F_changed_spots)
    (Z_first_seed_3 : CalS P w K mg base Tb "first_seed" 11 3 [] F_first_seed)
    (Z_how_even_2 : CalS P w K mg base Tb "how_even" 10 3 [.int 0] F_how_even)
    (Z_meeting_rows_2 : CalS P w K mg base Tb "meeting_rows" 10 3 [.int 0] F_meeting_rows)
    (Z_mix_number_2 : CalS P w K mg base Tb "mix_number" 3 2 [] F_mix_number)
    (Z_mix_of_set_2 : CalS P w K mg base Tb "mix_of_set" 12 2 [] F_mix_of_set)
    (Z_mixed_2 : CalS P w K mg base Tb "mixed" 2 2 [] F_mixed)
    (Z_root_of_1 : CalS P w K mg base Tb "root_of" 1 1 [] F_root_of)
    (Z_spot_loads_2 : CalS P w K mg base Tb "spot_loads" 4 3 [.int 0] F_spot_loads)
    (Z_spot_of_2 : CalS P w K mg base Tb "spot_of" 3 3 [.int 0] F_spot_of)
    (Z_spot_of_3 : CalS P w K mg base Tb "spot_of" 3 3 [] F_spot_of)
    (Z_spots_of_3 : CalS P w K mg base Tb "spots_of" 10 4 [.int 0] F_spots_of)
    (Z_two_mixes_2 : CalS P w K mg base Tb "two_mixes" 4 3 [.int 0] F_two_mixes)
    {X : Cx} (h1 : X.prog = P) (h2 : X.w = w) (h3 : X.K = K) (h4 : X.mg = mg) (h5 : X.base = base) : ∀ j q d, (lamsOf Tb)[j]? = some (q, d) → ∃ m, LamB X Tb q d 12 m ∧ ∀ S, F_lam j S = callL m S := by
  subst h1 h2 h3 h4 h5
  intro j q d h
  rw [Z.lamL] at h
  match j, h with
  | 0, h =>
    cases h
    exact ⟨m_lam0, ⟨lamP_by (by decide +kernel), fun _ _ _ => rfl, fun _ _ _ _ E _ _ C => (se_callX C Z_mixed_2 (sa_cons (se_str rfl) (sa_cons (se_neg se_int) sa_nil)))⟩, fun _ => rfl⟩
  | 1, h =>
    cases h
    exact ⟨m_lam1, ⟨lamP_by (by decide +kernel), fun _ _ _ => rfl, fun _ _ _ _ E _ _ C => (se_callX C Z_mix_number_2 (sa_cons se_int (sa_cons (se_neg se_int) sa_nil)))⟩, fun _ => rfl⟩
  | 2, h =>
    cases h
    exact ⟨m_lam2, ⟨lamP_by (by decide +kernel), fun _ _ _ => rfl, fun _ _ _ _ E _ _ C => (se_callX C Z_spot_of_2 (sa_cons (se_str rfl) (sa_cons se_int sa_nil)))⟩, fun _ => rfl⟩
  | 3, h =>
    cases h
    exact ⟨m_lam3, ⟨lamP_by (by decide +kernel), fun _ _ _ => rfl, fun _ _ _ _ E _ _ C => (se_callX C Z_spot_of_3 (sa_cons (se_str rfl) (sa_cons se_int (sa_cons (se_neg se_int) sa_nil))))⟩, fun _ => rfl⟩
  | 4, h =>
    cases h
    exact ⟨m_lam4, ⟨lamP_by (by decide +kernel), fun _ _ _ => rfl, fun _ _ _ _ E _ _ C => (se_callX C Z_two_mixes_2 (sa_cons (se_str rfl) (sa_cons se_int sa_nil)))⟩, fun _ => rfl⟩
  | 5, h =>
    cases h
    exact ⟨m_lam5, ⟨lamP_by (by decide +kernel), fun _ _ _ => rfl, fun _ _ _ _ E _ _ C => (se_callX C Z_spots_of_3 (sa_cons (se_str rfl) (sa_cons se_int (sa_cons se_int sa_nil))))⟩, fun _ => rfl⟩
  | 6, h =>
    cases h
    exact ⟨m_lam6, ⟨lamP_by (by decide +kernel), fun _ _ _ => rfl, fun _ _ _ _ E _ _ C => (se_callX C Z_mix_of_set_2 (sa_cons (se_tup (sa_cons (se_str rfl) sa_nil)) (sa_cons (se_neg se_int) sa_nil)))⟩, fun _ => rfl⟩
  | 7, h =>
    cases h
    exact ⟨m_lam7, ⟨lamP_by (by decide +kernel), fun _ _ _ => rfl, fun _ _ _ _ E _ _ C => (se_callX C Z_spot_loads_2 (sa_cons (se_tup sa_nil) (sa_cons se_int sa_nil)))⟩, fun _ => rfl⟩
  | 8, h =>
    cases h
    exact ⟨m_lam8, ⟨lamP_by (by decide +kernel), fun _ _ _ => rfl, fun _ _ _ _ E _ _ C => (se_callX C Z_how_even_2 (sa_cons (se_tup sa_nil) (sa_cons se_int sa_nil)))⟩, fun _ => rfl⟩
  | 9, h =>
    cases h
    exact ⟨m_lam9, ⟨lamP_by (by decide +kernel), fun _ _ _ => rfl, fun _ _ _ _ E _ _ C => (se_callX C Z_meeting_rows_2 (sa_cons (se_tup (sa_cons (se_str rfl) sa_nil)) (sa_cons se_int sa_nil)))⟩, fun _ => rfl⟩
  | 10, h =>
    cases h
    exact ⟨m_lam10, ⟨lamP_by (by decide +kernel), fun _ _ _ => rfl, fun _ _ _ _ E _ _ C => (se_callX C Z_first_seed_3 (sa_cons (se_tup sa_nil) (sa_cons se_int (sa_cons se_int sa_nil))))⟩, fun _ => rfl⟩
  | 11, h =>
    cases h
    exact ⟨m_lam11, ⟨lamP_by (by decide +kernel), fun _ _ _ => rfl, fun _ _ _ _ E _ _ C => (se_callX C Z_first_seed_3 (sa_cons (se_tup sa_nil) (sa_cons se_int (sa_cons se_int sa_nil))))⟩, fun _ => rfl⟩
  | 12, h =>
    cases h
    exact ⟨m_lam12, ⟨lamP_by (by decide +kernel), fun _ _ _ => rfl, fun _ _ _ _ E _ _ C => (se_callX C Z_changed_spots_2 (sa_cons (se_str rfl) (sa_cons se_int sa_nil)))⟩, fun _ => rfl⟩
  | 13, h =>
    cases h
    exact ⟨m_lam13, ⟨lamP_by (by decide +kernel), fun _ _ _ => rfl, fun _ _ _ _ E _ _ C => (se_callX C Z_root_of_1 (sa_cons (se_neg se_int) sa_nil))⟩, fun _ => rfl⟩
  | n + 14, h =>
    rw [List.getElem?_eq_none (by rw [List.length_map, show lams.length = 14 by kernel_rfl]; omega)] at h
    cases h
def m__law_told : MS :=
  (sTry HIT_MixError (sRet (mCallV 0 F_lam)) (sRet (mC (.str [77, 105, 120, 69, 114, 114, 111, 114]))))
def F__law_told : Fn := callB m__law_told 1
theorem sc__law_told : FnScope ["what"] ["what"] (defScope (top 25)) := ⟨rfl, rfl, rfl, by decide +kernel, rfl, by decide +kernel, by decide +kernel⟩
theorem ok__law_told (Z : Z P w K mg base Tb c_MixError)
    (Z_changed_spots_2 : CalS P w K mg base Tb "changed_spots" 4 3 [.int 0] F_changed_spots)
    (Z_first_seed_3 : CalS P w K mg base Tb "first_seed" 11 3 [] F_first_seed)
    (Z_how_even_2 : CalS P w K mg base Tb "how_even" 10 3 [.int 0] F_how_even)
    (Z_meeting_rows_2 : CalS P w K mg base Tb "meeting_rows" 10 3 [.int 0] F_meeting_rows)
    (Z_mix_number_2 : CalS P w K mg base Tb "mix_number" 3 2 [] F_mix_number)
    (Z_mix_of_set_2 : CalS P w K mg base Tb "mix_of_set" 12 2 [] F_mix_of_set)
    (Z_mixed_2 : CalS P w K mg base Tb "mixed" 2 2 [] F_mixed)
    (Z_root_of_1 : CalS P w K mg base Tb "root_of" 1 1 [] F_root_of)
    (Z_spot_loads_2 : CalS P w K mg base Tb "spot_loads" 4 3 [.int 0] F_spot_loads)
    (Z_spot_of_2 : CalS P w K mg base Tb "spot_of" 3 3 [.int 0] F_spot_of)
    (Z_spot_of_3 : CalS P w K mg base Tb "spot_of" 3 3 [] F_spot_of)
    (Z_spots_of_3 : CalS P w K mg base Tb "spots_of" 10 4 [.int 0] F_spots_of)
    (Z_two_mixes_2 : CalS P w K mg base Tb "two_mixes" 4 3 [.int 0] F_two_mixes)
    {fd : FuncData} (F : FnP K "_law_told" (top 25) [] fd) : FnOk P w K mg base (L2.CX P w) 15 (He.fAd K ("_law_told", none)) fd ["what"] (spS K mg Tb 1 F__law_told) := by
  refine fn_okC F sc__law_told fun A outer s H E C => ?_
  show SSs _ Tb (WD E) (defBody (top 25)) m__law_told
  exact (sss_one (ss_try C rfl rfl rfl Z.x_MixError.gP (by decide) Z.hit_MixError (fun _ _ _ C => (sss_one (ss_ret (se_callV (C.mono (j := 12 + 2) (by decide)) 0 (lamB Z Z_changed_spots_2 Z_first_seed_3 Z_how_even_2 Z_meeting_rows_2 Z_mix_number_2 Z_mix_of_set_2 Z_mixed_2 Z_root_of_1 Z_spot_loads_2 Z_spot_of_2 Z_spot_of_3 Z_spots_of_3 Z_two_mixes_2 rfl rfl rfl rfl rfl))))) (fun _ _ _ => (sss_one (ss_ret (se_str rfl))))))
theorem cal__law_told (Z : Z P w K mg base Tb c_MixError)
    (Z_changed_spots_2 : CalS P w K mg base Tb "changed_spots" 4 3 [.int 0] F_changed_spots)
    (Z_first_seed_3 : CalS P w K mg base Tb "first_seed" 11 3 [] F_first_seed)
    (Z_how_even_2 : CalS P w K mg base Tb "how_even" 10 3 [.int 0] F_how_even)
    (Z_meeting_rows_2 : CalS P w K mg base Tb "meeting_rows" 10 3 [.int 0] F_meeting_rows)
    (Z_mix_number_2 : CalS P w K mg base Tb "mix_number" 3 2 [] F_mix_number)
    (Z_mix_of_set_2 : CalS P w K mg base Tb "mix_of_set" 12 2 [] F_mix_of_set)
    (Z_mixed_2 : CalS P w K mg base Tb "mixed" 2 2 [] F_mixed)
    (Z_root_of_1 : CalS P w K mg base Tb "root_of" 1 1 [] F_root_of)
    (Z_spot_loads_2 : CalS P w K mg base Tb "spot_loads" 4 3 [.int 0] F_spot_loads)
    (Z_spot_of_2 : CalS P w K mg base Tb "spot_of" 3 3 [.int 0] F_spot_of)
    (Z_spot_of_3 : CalS P w K mg base Tb "spot_of" 3 3 [] F_spot_of)
    (Z_spots_of_3 : CalS P w K mg base Tb "spots_of" 10 4 [.int 0] F_spots_of)
    (Z_two_mixes_2 : CalS P w K mg base Tb "two_mixes" 4 3 [.int 0] F_two_mixes)
    : CalS P w K mg base Tb "_law_told" 15 1 [] F__law_told := by
  obtain ⟨fd, F⟩ := Z.f__law_told
  have G := ok__law_told Z Z_changed_spots_2 Z_first_seed_3 Z_how_even_2 Z_meeting_rows_2 Z_mix_number_2 Z_mix_of_set_2 Z_mixed_2 Z_root_of_1 Z_spot_loads_2 Z_spot_of_2 Z_spot_of_3 Z_spots_of_3 Z_two_mixes_2 F
  have b1 : Binds K fd ["what"] [] := F.bindsN fun _ _ _ _ _ _ us hl => match us, hl with | [_], _ => rfl
  exact ⟨⟨_, fd, _, [], [], Z.m__law_told, F.kp, G, b1, .nil, fun _ _ _ => rfl⟩⟩
/-! ### _law_plain -/
def m__law_plain : MS :=
  (sSeq (sSet 0 (mTup (mCons (mC (.str [112, 101, 110])) (mCons (mC (.str [105, 110, 107])) (mCons (mC (.str [112, 97, 100])) (mCons (mC (.str [99, 117, 112])) (mCons (mC (.str [104, 97, 116])) (mCons (mC (.str [98, 111, 120])) (mCons (mC (.str [107, 101, 121])) (mCons (mC (.str [109, 97, 112])) mNil))))))))))
  (sSeq (sSet 1 (mLst (mCons (mCall F_place_of 1 [] (mCons (mC (.str [97])) mNil)) (mCons (mCall F_place_of 1 [] (mCons (mC (.str [33])) mNil)) (mCons (mCall F_mixed 2 [.int 0] (mCons (mC (.str [112, 101, 110])) mNil)) (mCons (mCall F_mixed 2 [] (mCons (mC (.str [112, 101, 110])) (mCons (mC (.int 1)) mNil))) (mCons (mCall F_mixed 2 [.int 0] (mCons (mC (.str [])) mNil)) (mCons (mCall F_mix_number 2 [.int 0] (mCons (mC (.int 42)) mNil)) (mCons (mCall F_spot_of 3 [.int 0] (mCons (mC (.str [112, 101, 110])) (mCons (mC (.int 10)) mNil))) (mCons (mCall F_two_mixes 3 [.int 0] (mCons (mC (.str [112, 101, 110])) (mCons (mC (.int 10)) mNil))) mNil))))))))))
  (sSeq (sSet 1 (mBin oAdd (mVar 1) (mLst (mCons (mCall F_spots_of 4 [.int 0] (mCons (mC (.str [112, 101, 110])) (mCons (mC (.int 4)) (mCons (mC (.int 10)) mNil)))) (mCons (mCall F_joined_mix 2 [] (mCons (mC (.int 3)) (mCons (mC (.int 4)) mNil))) (mCons (mCall F_joined_mix 2 [] (mCons (mC (.int 4)) (mCons (mC (.int 3)) mNil))) (mCons (mCall F_mix_of_set 2 [.int 0] (mCons (mTup (mCons (mC (.str [97])) (mCons (mC (.str [98])) (mCons (mC (.str [97])) mNil)))) mNil)) (mCons (mCall F_spot_loads 3 [.int 0] (mCons (mVar 0) (mCons (mC (.int 4)) mNil))) (mCons (mCall F_how_even 3 [.int 0] (mCons (mVar 0) (mCons (mC (.int 4)) mNil))) mNil)))))))))
  (sSeq (sSet 1 (mBin oAdd (mVar 1) (mLst (mCons (mCall F_meeting_rows 3 [.int 0] (mCons (mVar 0) (mCons (mC (.int 4)) mNil))) (mCons (mCall F_first_seed 3 [] (mCons (mVar 0) (mCons (mC (.int 16)) (mCons (mC (.int 500)) mNil)))) (mCons (mCall F_changed_spots 3 [.int 0] (mCons (mC (.str [97, 98])) (mCons (mC (.int 8)) mNil))) (mCons (mCall F_next_prime 1 [] (mCons (mC (.int 90)) mNil)) (mCons (mCall F_root_of 1 [] (mCons (mC (.int 99)) mNil)) (mCons (mCall F_how_even 3 [.int 0] (mCons (mTup mNil) (mCons (mC (.int 3)) mNil))) (mCons (mCall F_next_prime 1 [] (mCons (mC (.int 0)) mNil)) mNil))))))))))
  (sSeq (sSet 2 (mLst (mCons (mC (.lam 0)) (mCons (mC (.lam 1)) (mCons (mC (.lam 2)) (mCons (mC (.lam 3)) (mCons (mC (.lam 4)) mNil)))))))
  (sSeq (sSet 2 (mBin oAdd (mVar 2) (mLst (mCons (mC (.lam 5)) (mCons (mC (.lam 6)) (mCons (mC (.lam 7)) (mCons (mC (.lam 8)) mNil)))))))
  (sSeq (sSet 2 (mBin oAdd (mVar 2) (mLst (mCons (mC (.lam 9)) (mCons (mC (.lam 10)) (mCons (mC (.lam 11)) (mCons (mC (.lam 12)) mNil)))))))
  (sSeq (sSet 2 (mBin oAdd (mVar 2) (mLst (mCons (mC (.lam 13)) mNil))))
  (sSeq (sIf (mOr (mB (mBin oNe (mLc (mIt (mVar 2)) (gN 3) (mB (mBin oNe (mCall F__law_told 1 [] (mCons (mVar 3) mNil)) (mC (.str [77, 105, 120, 69, 114, 114, 111, 114])))) (mC (.int 1)) [3]) (mLst mNil))) (mB (mBin oNe (mTup (mCons (mC (.int 1000003)) (mCons (mCallC cLen (mCons (mC (.str (L_SIGNS))) mNil)) mNil))) (mTup (mCons (mC (.int 1000003)) (mCons (mC (.int 73)) mNil)))))) (sRet (mC (.bl false))) sNil)
  (sSeq (sSet 4 (mLst (mCons (mC (.int 2)) (mCons (mC (.int 74)) (mCons (mC (.int 985205)) (mCons (mC (.int 260312)) (mCons (mC (.int 337897)) (mCons (mC (.int 98149)) (mCons (mC (.int 5)) (mCons (mTup (mCons (mC (.int 5)) (mCons (mC (.int 6)) mNil))) (mCons (mTup (mCons (mC (.int 5)) (mCons (mC (.int 1)) (mCons (mC (.int 7)) (mCons (mC (.int 3)) mNil))))) (mCons (mC (.int 166)) (mCons (mC (.int 180)) (mCons (mC (.int 770107)) (mCons (mTup (mCons (mC (.int 1)) (mCons (mC (.int 2)) (mCons (mC (.int 3)) (mCons (mC (.int 2)) mNil))))) (mCons (mC (.int 112)) mNil))))))))))))))))
  (sSeq (sSet 4 (mBin oAdd (mVar 4) (mLst (mCons (mTup (mCons (mTup (mCons (mC (.str [112, 101, 110])) (mCons (mC (.str [99, 117, 112])) mNil))) (mCons (mTup (mCons (mC (.str [112, 97, 100])) (mCons (mC (.str [98, 111, 120])) (mCons (mC (.str [107, 101, 121])) mNil)))) (mCons (mTup (mCons (mC (.str [105, 110, 107])) (mCons (mC (.str [104, 97, 116])) mNil))) mNil)))) (mCons (mC (.int 0)) (mCons (mTup (mCons (mC (.int 43)) (mCons (mC (.int 50)) mNil))) (mCons (mC (.int 97)) (mCons (mC (.int 9)) (mCons (mC .non) (mCons (mC (.int 2)) mNil))))))))))
  (sRet (mBin oEq (mVar 1) (mLst (mCons (mC (.int 2)) (mCons (mC (.int 74)) (mCons (mC (.int 985205)) (mCons (mC (.int 736512)) (mCons (mC (.int 337897)) (mCons (mC (.int 98149)) (mCons (mC (.int 5)) (mCons (mTup (mCons (mC (.int 5)) (mCons (mC (.int 7)) mNil))) (mCons (mTup (mCons (mC (.int 5)) (mCons (mC (.int 2)) (mCons (mC (.int 9)) (mCons (mC (.int 6)) mNil))))) (mCons (mC (.int 166)) (mCons (mC (.int 180)) (mCons (mC (.int 770107)) (mCons (mTup (mCons (mC (.int 1)) (mCons (mC (.int 2)) (mCons (mC (.int 3)) (mCons (mC (.int 2)) mNil))))) (mCons (mC (.int 112)) (mCons (mTup (mCons (mTup (mCons (mC (.str [112, 101, 110])) (mCons (mC (.str [99, 117, 112])) mNil))) (mCons (mTup (mCons (mC (.str [112, 97, 100])) (mCons (mC (.str [98, 111, 120])) (mCons (mC (.str [107, 101, 121])) mNil)))) (mCons (mTup (mCons (mC (.str [105, 110, 107])) (mCons (mC (.str [104, 97, 116])) mNil))) mNil)))) (mCons (mC (.int 0)) (mCons (mTup (mCons (mC (.int 43)) (mCons (mC (.int 50)) mNil))) (mCons (mC (.int 97)) (mCons (mC (.int 9)) (mCons (mC .non) (mCons (mC (.int 2)) mNil)))))))))))))))))))))))))))))))))))
def F__law_plain : Fn := callB m__law_plain 5
theorem sc__law_plain : FnScope ["keys", "told", "bad", "f", "due"] [] (defScope (top 29)) := ⟨rfl, rfl, rfl, by decide +kernel, rfl, by decide +kernel, by decide +kernel⟩
theorem ok__law_plain (Z : Z P w K mg base Tb c_MixError)
    (Z__law_told_1 : CalS P w K mg base Tb "_law_told" 15 1 [] F__law_told)
    (Z_changed_spots_2 : CalS P w K mg base Tb "changed_spots" 4 3 [.int 0] F_changed_spots)
    (Z_first_seed_3 : CalS P w K mg base Tb "first_seed" 11 3 [] F_first_seed)
    (Z_how_even_2 : CalS P w K mg base Tb "how_even" 10 3 [.int 0] F_how_even)
    (Z_joined_mix_2 : CalS P w K mg base Tb "joined_mix" 1 2 [] F_joined_mix)
    (Z_meeting_rows_2 : CalS P w K mg base Tb "meeting_rows" 10 3 [.int 0] F_meeting_rows)
    (Z_mix_number_1 : CalS P w K mg base Tb "mix_number" 3 2 [.int 0] F_mix_number)
    (Z_mix_of_set_1 : CalS P w K mg base Tb "mix_of_set" 12 2 [.int 0] F_mix_of_set)
    (Z_mixed_1 : CalS P w K mg base Tb "mixed" 2 2 [.int 0] F_mixed)
    (Z_mixed_2 : CalS P w K mg base Tb "mixed" 2 2 [] F_mixed)
    (Z_next_prime_1 : CalS P w K mg base Tb "next_prime" 10 1 [] F_next_prime)
    (Z_place_of_1 : CalS P w K mg base Tb "place_of" 1 1 [] F_place_of)
    (Z_root_of_1 : CalS P w K mg base Tb "root_of" 1 1 [] F_root_of)
    (Z_spot_loads_2 : CalS P w K mg base Tb "spot_loads" 4 3 [.int 0] F_spot_loads)
    (Z_spot_of_2 : CalS P w K mg base Tb "spot_of" 3 3 [.int 0] F_spot_of)
    (Z_spots_of_3 : CalS P w K mg base Tb "spots_of" 10 4 [.int 0] F_spots_of)
    (Z_two_mixes_2 : CalS P w K mg base Tb "two_mixes" 4 3 [.int 0] F_two_mixes)
    {fd : FuncData} (F : FnP K "_law_plain" (top 29) [] fd) : FnOk P w K mg base (L2.CX P w) 16 (He.fAd K ("_law_plain", none)) fd [] (spS K mg Tb 0 F__law_plain) := by
  refine fn_okC F sc__law_plain fun A outer s H E C => ?_
  show SSs _ Tb (WD E) (defBody (top 29)) m__law_plain
  exact (sss_cons (ss_set C 0 (se_tup (sa_cons (se_str rfl) (sa_cons (se_str rfl) (sa_cons (se_str rfl) (sa_cons (se_str rfl) (sa_cons (se_str rfl) (sa_cons (se_str rfl) (sa_cons (se_str rfl) (sa_cons (se_str rfl) sa_nil))))))))))
  (sss_cons (ss_set C 1 (se_lst (sa_cons (se_callX C Z_place_of_1 (sa_cons (se_str rfl) sa_nil)) (sa_cons (se_callX C Z_place_of_1 (sa_cons (se_str rfl) sa_nil)) (sa_cons (se_callX C Z_mixed_1 (sa_cons (se_str rfl) sa_nil)) (sa_cons (se_callX C Z_mixed_2 (sa_cons (se_str rfl) (sa_cons se_int sa_nil))) (sa_cons (se_callX C Z_mixed_1 (sa_cons (se_str rfl) sa_nil)) (sa_cons (se_callX C Z_mix_number_1 (sa_cons se_int sa_nil)) (sa_cons (se_callX C Z_spot_of_2 (sa_cons (se_str rfl) (sa_cons se_int sa_nil))) (sa_cons (se_callX C Z_two_mixes_2 (sa_cons (se_str rfl) (sa_cons se_int sa_nil))) sa_nil))))))))))
  (sss_cons (ss_set C 1 (se_bin os_add (se_var 1) (se_lst (sa_cons (se_callX C Z_spots_of_3 (sa_cons (se_str rfl) (sa_cons se_int (sa_cons se_int sa_nil)))) (sa_cons (se_callX C Z_joined_mix_2 (sa_cons se_int (sa_cons se_int sa_nil))) (sa_cons (se_callX C Z_joined_mix_2 (sa_cons se_int (sa_cons se_int sa_nil))) (sa_cons (se_callX C Z_mix_of_set_1 (sa_cons (se_tup (sa_cons (se_str rfl) (sa_cons (se_str rfl) (sa_cons (se_str rfl) sa_nil)))) sa_nil)) (sa_cons (se_callX C Z_spot_loads_2 (sa_cons (se_var 0) (sa_cons se_int sa_nil))) (sa_cons (se_callX C Z_how_even_2 (sa_cons (se_var 0) (sa_cons se_int sa_nil))) sa_nil)))))))))
  (sss_cons (ss_set C 1 (se_bin os_add (se_var 1) (se_lst (sa_cons (se_callX C Z_meeting_rows_2 (sa_cons (se_var 0) (sa_cons se_int sa_nil))) (sa_cons (se_callX C Z_first_seed_3 (sa_cons (se_var 0) (sa_cons se_int (sa_cons se_int sa_nil)))) (sa_cons (se_callX C Z_changed_spots_2 (sa_cons (se_str rfl) (sa_cons se_int sa_nil))) (sa_cons (se_callX C Z_next_prime_1 (sa_cons se_int sa_nil)) (sa_cons (se_callX C Z_root_of_1 (sa_cons se_int sa_nil)) (sa_cons (se_callX C Z_how_even_2 (sa_cons (se_tup sa_nil) (sa_cons se_int sa_nil))) (sa_cons (se_callX C Z_next_prime_1 (sa_cons se_int sa_nil)) sa_nil))))))))))
  (sss_cons (ss_set C 2 (se_lst (sa_cons (se_lam (q := qLam) (by exact ⟨rfl, Z.lamT⟩) 0 (lamP_by (by decide +kernel)) (by rw [Z.lamL]; rfl)) (sa_cons (se_lam (q := qLam) (by exact ⟨rfl, Z.lamT⟩) 1 (lamP_by (by decide +kernel)) (by rw [Z.lamL]; rfl)) (sa_cons (se_lam (q := qLam) (by exact ⟨rfl, Z.lamT⟩) 2 (lamP_by (by decide +kernel)) (by rw [Z.lamL]; rfl)) (sa_cons (se_lam (q := qLam) (by exact ⟨rfl, Z.lamT⟩) 3 (lamP_by (by decide +kernel)) (by rw [Z.lamL]; rfl)) (sa_cons (se_lam (q := qLam) (by exact ⟨rfl, Z.lamT⟩) 4 (lamP_by (by decide +kernel)) (by rw [Z.lamL]; rfl)) sa_nil)))))))
  (sss_cons (ss_set C 2 (se_bin os_add (se_var 2) (se_lst (sa_cons (se_lam (q := qLam) (by exact ⟨rfl, Z.lamT⟩) 5 (lamP_by (by decide +kernel)) (by rw [Z.lamL]; rfl)) (sa_cons (se_lam (q := qLam) (by exact ⟨rfl, Z.lamT⟩) 6 (lamP_by (by decide +kernel)) (by rw [Z.lamL]; rfl)) (sa_cons (se_lam (q := qLam) (by exact ⟨rfl, Z.lamT⟩) 7 (lamP_by (by decide +kernel)) (by rw [Z.lamL]; rfl)) (sa_cons (se_lam (q := qLam) (by exact ⟨rfl, Z.lamT⟩) 8 (lamP_by (by decide +kernel)) (by rw [Z.lamL]; rfl)) sa_nil)))))))
  (sss_cons (ss_set C 2 (se_bin os_add (se_var 2) (se_lst (sa_cons (se_lam (q := qLam) (by exact ⟨rfl, Z.lamT⟩) 9 (lamP_by (by decide +kernel)) (by rw [Z.lamL]; rfl)) (sa_cons (se_lam (q := qLam) (by exact ⟨rfl, Z.lamT⟩) 10 (lamP_by (by decide +kernel)) (by rw [Z.lamL]; rfl)) (sa_cons (se_lam (q := qLam) (by exact ⟨rfl, Z.lamT⟩) 11 (lamP_by (by decide +kernel)) (by rw [Z.lamL]; rfl)) (sa_cons (se_lam (q := qLam) (by exact ⟨rfl, Z.lamT⟩) 12 (lamP_by (by decide +kernel)) (by rw [Z.lamL]; rfl)) sa_nil)))))))
  (sss_cons (ss_set C 2 (se_bin os_add (se_var 2) (se_lst (sa_cons (se_lam (q := qLam) (by exact ⟨rfl, Z.lamT⟩) 13 (lamP_by (by decide +kernel)) (by rw [Z.lamL]; rfl)) sa_nil))))
  (sss_cons (ss_if (sw_or (st_cmp (os_ne C.hu) (se_lc C (si_it (se_var 2)) (blkOk_by (own := [("f", 3)]) (by kernel_rfl)) (og := [3]) (by decide) (fun _ _ _ _ _ C => (sg_name C 3)) (fun _ _ _ _ _ C => (sts_one (st_cmp (os_ne C.hu) (se_callX C Z__law_told_1 (sa_cons (se_var 3) sa_nil)) (se_str rfl) (nomark _)))) (fun _ _ _ _ _ C => se_int)) (se_lst sa_nil) (nomark _)) (sw_or1 (st_cmp (os_ne C.hu) (se_tup (sa_cons (se_gint Z.g_RING) (sa_cons (se_callB cs_len Z.g_len (sa_cons (se_gstr Z.g_SIGNS rfl) sa_nil) rfl bt_len) sa_nil))) (se_tup (sa_cons se_int (sa_cons se_int sa_nil))) (nomark _)))).st (sss_one (ss_ret se_bl)) sss_nil)
  (sss_cons (ss_set C 4 (se_lst (sa_cons se_int (sa_cons se_int (sa_cons se_int (sa_cons se_int (sa_cons se_int (sa_cons se_int (sa_cons se_int (sa_cons (se_tup (sa_cons se_int (sa_cons se_int sa_nil))) (sa_cons (se_tup (sa_cons se_int (sa_cons se_int (sa_cons se_int (sa_cons se_int sa_nil))))) (sa_cons se_int (sa_cons se_int (sa_cons se_int (sa_cons (se_tup (sa_cons se_int (sa_cons se_int (sa_cons se_int (sa_cons se_int sa_nil))))) (sa_cons se_int sa_nil))))))))))))))))
  (sss_cons (ss_set C 4 (se_bin os_add (se_var 4) (se_lst (sa_cons (se_tup (sa_cons (se_tup (sa_cons (se_str rfl) (sa_cons (se_str rfl) sa_nil))) (sa_cons (se_tup (sa_cons (se_str rfl) (sa_cons (se_str rfl) (sa_cons (se_str rfl) sa_nil)))) (sa_cons (se_tup (sa_cons (se_str rfl) (sa_cons (se_str rfl) sa_nil))) sa_nil)))) (sa_cons se_int (sa_cons (se_tup (sa_cons se_int (sa_cons se_int sa_nil))) (sa_cons se_int (sa_cons se_int (sa_cons se_non (sa_cons se_int sa_nil))))))))))
  (sss_one (ss_ret (se_cmp (os_eq C.hu) (se_var 1) (se_lst (sa_cons se_int (sa_cons se_int (sa_cons se_int (sa_cons se_int (sa_cons se_int (sa_cons se_int (sa_cons se_int (sa_cons (se_tup (sa_cons se_int (sa_cons se_int sa_nil))) (sa_cons (se_tup (sa_cons se_int (sa_cons se_int (sa_cons se_int (sa_cons se_int sa_nil))))) (sa_cons se_int (sa_cons se_int (sa_cons se_int (sa_cons (se_tup (sa_cons se_int (sa_cons se_int (sa_cons se_int (sa_cons se_int sa_nil))))) (sa_cons se_int (sa_cons (se_tup (sa_cons (se_tup (sa_cons (se_str rfl) (sa_cons (se_str rfl) sa_nil))) (sa_cons (se_tup (sa_cons (se_str rfl) (sa_cons (se_str rfl) (sa_cons (se_str rfl) sa_nil)))) (sa_cons (se_tup (sa_cons (se_str rfl) (sa_cons (se_str rfl) sa_nil))) sa_nil)))) (sa_cons se_int (sa_cons (se_tup (sa_cons se_int (sa_cons se_int sa_nil))) (sa_cons se_int (sa_cons se_int (sa_cons se_non (sa_cons se_int sa_nil)))))))))))))))))))))) (nomark _)))))))))))))))
theorem cal__law_plain (Z : Z P w K mg base Tb c_MixError)
    (Z__law_told_1 : CalS P w K mg base Tb "_law_told" 15 1 [] F__law_told)
    (Z_changed_spots_2 : CalS P w K mg base Tb "changed_spots" 4 3 [.int 0] F_changed_spots)
    (Z_first_seed_3 : CalS P w K mg base Tb "first_seed" 11 3 [] F_first_seed)
    (Z_how_even_2 : CalS P w K mg base Tb "how_even" 10 3 [.int 0] F_how_even)
    (Z_joined_mix_2 : CalS P w K mg base Tb "joined_mix" 1 2 [] F_joined_mix)
    (Z_meeting_rows_2 : CalS P w K mg base Tb "meeting_rows" 10 3 [.int 0] F_meeting_rows)
    (Z_mix_number_1 : CalS P w K mg base Tb "mix_number" 3 2 [.int 0] F_mix_number)
    (Z_mix_of_set_1 : CalS P w K mg base Tb "mix_of_set" 12 2 [.int 0] F_mix_of_set)
    (Z_mixed_1 : CalS P w K mg base Tb "mixed" 2 2 [.int 0] F_mixed)
    (Z_mixed_2 : CalS P w K mg base Tb "mixed" 2 2 [] F_mixed)
    (Z_next_prime_1 : CalS P w K mg base Tb "next_prime" 10 1 [] F_next_prime)
    (Z_place_of_1 : CalS P w K mg base Tb "place_of" 1 1 [] F_place_of)
    (Z_root_of_1 : CalS P w K mg base Tb "root_of" 1 1 [] F_root_of)
    (Z_spot_loads_2 : CalS P w K mg base Tb "spot_loads" 4 3 [.int 0] F_spot_loads)
    (Z_spot_of_2 : CalS P w K mg base Tb "spot_of" 3 3 [.int 0] F_spot_of)
    (Z_spots_of_3 : CalS P w K mg base Tb "spots_of" 10 4 [.int 0] F_spots_of)
    (Z_two_mixes_2 : CalS P w K mg base Tb "two_mixes" 4 3 [.int 0] F_two_mixes)
    : CalS P w K mg base Tb "_law_plain" 16 0 [] F__law_plain := by
  obtain ⟨fd, F⟩ := Z.f__law_plain
  have G := ok__law_plain Z Z__law_told_1 Z_changed_spots_2 Z_first_seed_3 Z_how_even_2 Z_joined_mix_2 Z_meeting_rows_2 Z_mix_number_1 Z_mix_of_set_1 Z_mixed_1 Z_mixed_2 Z_next_prime_1 Z_place_of_1 Z_root_of_1 Z_spot_loads_2 Z_spot_of_2 Z_spots_of_3 Z_two_mixes_2 F
  have b0 : Binds K fd [] [] := F.bindsN fun _ _ _ _ _ _ us hl => match us, hl with | [], _ => rfl
  exact ⟨⟨_, fd, _, [], [], Z.m__law_plain, F.kp, G, b0, .nil, fun _ _ _ => rfl⟩⟩
/-! ### _law_roll -/
def m__law_roll : MS :=
  (sSeq (sIf (mOr (mB (mBin oEq (mBin oIx (mVar 0) (mC (.int 2))) (mC (.int 2)))) (mAnd (mB (mBin oEq (mBin oIx (mVar 0) (mC (.int 2))) (mC (.int 1)))) (mB (mBin (oInt fun i j => decide (j < i)) (mBin oIx (mVar 0) (mC (.int 0))) (mC (.int 0)))))) (sSeq (sSet 2 (mBin oMod (mCallC cInt (mCons (mBin oIx (mVar 0) (mC (.int 0))) mNil)) (mVar 1)))
  (sSeq (sAsg (mBin oDiv (mBin oIx (mVar 0) (mC (.int 0))) (mVar 1)) (gS (mVar 0) (mC (.int 0))))
  (sRet (mVar 2)))) sNil)
  (sSeq (sAsg (mC (.int 0)) (gS (mVar 0) (mC (.int 2))))
  (sSeq (sIf (mB (mBin (oInt fun i j => decide (j < i)) (mVar 1) (mC (.int 100000000)))) (sRet (mBin oMod (mCallC cInt (mCons (mBin oAdd (mBin oMul mBad (mC (.int 100000000))) mBad) mNil)) (mVar 1))) sNil)
  (sSeq (sAsg (mBin oMod (mCallC cInt (mCons (mBin oAdd (mBin oAdd (mBin oMul (mBin oIx (mVar 0) (mC (.int 0))) (mC (.int 48271))) (mBin oMul (mBin oIx (mVar 0) (mC (.int 1))) (mC (.int 69621)))) (mC (.int 11))) mNil)) (mC (.int 2147483647))) (gS (mVar 0) (mC (.int 0))))
  (sSeq (sAsg (mBin oAdd (mBin oIx (mVar 0) (mC (.int 1))) (mC (.int 1))) (gS (mVar 0) (mC (.int 1))))
  (sRet (mBin oMod (mCallC cInt (mCons (mBin oDiv (mBin oIx (mVar 0) (mC (.int 0))) (mC (.int 7))) mNil)) (mVar 1))))))))
def F__law_roll : Fn := callB m__law_roll 3
theorem sc__law_roll : FnScope ["dice", "many", "found"] ["dice", "many"] (defScope (top 23)) := ⟨rfl, rfl, rfl, by decide +kernel, rfl, by decide +kernel, by decide +kernel⟩
theorem ok__law_roll (Z : Z P w K mg base Tb c_MixError)
    {fd : FuncData} (F : FnP K "_law_roll" (top 23) [] fd) : FnOk P w K mg base (L2.CX P w) 1 (He.fAd K ("_law_roll", none)) fd ["dice", "many"] (spS K mg Tb 2 F__law_roll) := by
  refine fn_okC F sc__law_roll fun A outer s H E C => ?_
  show SSs _ Tb (WD E) (defBody (top 23)) m__law_roll
  exact (sss_cons (ss_if (sw_or (st_cmp (os_eq C.hu) (se_ix C (se_var 0) se_int) se_int (nomark _)) (sw_or1 (sw_and (st_cmp (os_eq C.hu) (se_ix C (se_var 0) se_int) se_int (nomark _)) (sw_and1 (st_cmp os_gt (se_ix C (se_var 0) se_int) se_int (nomark _)))).st)).st (sss_cons (ss_set C 2 (se_bin os_mod (se_callTy cs_int Z.g_int (sa_cons (se_ix C (se_var 0) se_int) sa_nil) rfl bt_int) (se_var 1)))
  (sss_cons (ss_asg (se_bin os_div (se_ix C (se_var 0) se_int) (se_var 1)) (sg_sub C (se_var 0) se_int))
  (sss_one (ss_ret (se_var 2))))) sss_nil)
  (sss_cons (ss_asg se_int (sg_sub C (se_var 0) se_int))
  (sss_cons (ss_if (st_cmp os_gt (se_var 1) se_int (nomark _)) (sss_one (ss_ret (se_bin os_mod (se_callTy cs_int Z.g_int (sa_cons (se_bin os_add (se_bin os_mul se_bad se_int) se_bad) sa_nil) rfl bt_int) (se_var 1)))) sss_nil)
  (sss_cons (ss_asg (se_bin os_mod (se_callTy cs_int Z.g_int (sa_cons (se_bin os_add (se_bin os_add (se_bin os_mul (se_ix C (se_var 0) se_int) se_int) (se_bin os_mul (se_ix C (se_var 0) se_int) se_int)) se_int) sa_nil) rfl bt_int) se_int) (sg_sub C (se_var 0) se_int))
  (sss_cons (ss_asg (se_bin os_add (se_ix C (se_var 0) se_int) se_int) (sg_sub C (se_var 0) se_int))
  (sss_one (ss_ret (se_bin os_mod (se_callTy cs_int Z.g_int (sa_cons (se_bin os_div (se_ix C (se_var 0) se_int) se_int) sa_nil) rfl bt_int) (se_var 1)))))))))
theorem cal__law_roll (Z : Z P w K mg base Tb c_MixError)
    : CalS P w K mg base Tb "_law_roll" 1 2 [] F__law_roll := by
  obtain ⟨fd, F⟩ := Z.f__law_roll
  have G := ok__law_roll Z  F
  have b2 : Binds K fd ["dice", "many"] [] := F.bindsN fun _ _ _ _ _ _ us hl => match us, hl with | [_, _], _ => rfl
  exact ⟨⟨_, fd, _, [], [], Z.m__law_roll, F.kp, G, b2, .nil, fun _ _ _ => rfl⟩⟩
/-! ### _law_mix -/
def m__law_mix : MS :=
  (sSeq (sSet 2 (mC (.str [32, 97, 98, 99, 100, 101, 102, 103, 104, 105, 106, 107, 108, 109, 110, 111, 112, 113, 114, 115, 116, 117, 118, 119, 120, 121, 122, 65, 66, 67, 68, 69, 70, 71, 72, 73, 74, 75, 76, 77, 78, 79, 80, 81, 82, 83, 84, 85, 86, 87, 88, 89, 90, 48, 49, 50, 51, 52, 53, 54, 55, 56, 57, 46, 44, 59, 58, 45, 95, 47, 43, 40, 41])))
  (sSeq (sSet 3 (mBin oMod (mBin oAdd (mVar 1) (mC (.int 7))) (mC (.int 1000003))))
  (sSeq (sFor (mIt (mVar 0)) (gN 4) (sSet 3 (mBin oMod (mBin oAdd (mBin oMul (mBin oAdd (mC (.int 131)) (mVar 1)) (mVar 3)) (mIf (mB (mBin oIn (mVar 4) (mVar 2))) (mBin oAdd (mBm "str" mtIndex (mVar 2) (mCons (mVar 4) mNil)) (mC (.int 1))) (mC (.int 74)))) (mC (.int 1000003)))))
  (sRet (mBin oMod (mBin oAdd (mBin oMul (mBin oAdd (mC (.int 48271)) (mBin oMul (mC (.int 7919)) (mVar 1))) (mVar 3)) (mCallC cLen (mCons (mVar 0) mNil))) (mC (.int 1000003)))))))
def F__law_mix : Fn := callB m__law_mix 5
theorem sc__law_mix : FnScope ["text", "seed", "signs", "value", "sign"] ["text", "seed"] (defScope (top 26)) := ⟨rfl, rfl, rfl, by decide +kernel, rfl, by decide +kernel, by decide +kernel⟩
theorem ok__law_mix (Z : Z P w K mg base Tb c_MixError)
    {fd : FuncData} (F : FnP K "_law_mix" (top 26) [] fd) : FnOk P w K mg base (L2.CX P w) 1 (He.fAd K ("_law_mix", none)) fd ["text", "seed"] (spS K mg Tb 2 F__law_mix) := by
  refine fn_okC F sc__law_mix fun A outer s H E C => ?_
  show SSs _ Tb (WD E) (defBody (top 26)) m__law_mix
  exact (sss_cons (ss_set C 2 (se_str rfl))
  (sss_cons (ss_set C 3 (se_bin os_mod (se_bin os_add (se_var 1) se_int) se_int))
  (sss_cons (ss_for C (si_it (se_var 0)) (sg_name C 4) (sss_one (ss_set C 3 (se_bin os_mod (se_bin os_add (se_bin os_mul (se_bin os_add se_int (se_var 1)) (se_var 3)) (se_if (st_cmp (os_in C.hu) (se_var 4) (se_var 2) rfl) (se_bin os_add (se_bm ms_index PySem.F.plainAttrs_str PySem.F.slot_str_index PySem.F.type_str_index (se_var 2) (sa_cons (se_var 4) sa_nil)) se_int) se_int)) se_int))))
  (sss_one (ss_ret (se_bin os_mod (se_bin os_add (se_bin os_mul (se_bin os_add se_int (se_bin os_mul se_int (se_var 1))) (se_var 3)) (se_callB cs_len Z.g_len (sa_cons (se_var 0) sa_nil) rfl bt_len)) se_int))))))
theorem cal__law_mix (Z : Z P w K mg base Tb c_MixError)
    : CalS P w K mg base Tb "_law_mix" 1 2 [] F__law_mix := by
  obtain ⟨fd, F⟩ := Z.f__law_mix
  have G := ok__law_mix Z  F
  have b2 : Binds K fd ["text", "seed"] [] := F.bindsN fun _ _ _ _ _ _ us hl => match us, hl with | [_, _], _ => rfl
  exact ⟨⟨_, fd, _, [], [], Z.m__law_mix, F.kp, G, b2, .nil, fun _ _ _ => rfl⟩⟩
/-! ### _law_meet -/
def m__law_meet : MS :=
  (sSeq (sSet 4 (mCallC cList (mCons (mCallC cDict (mCons (mLc (mIt (mVar 0)) (gN 3) mYes (mTup (mCons (mVar 3) (mCons (mC (.int 1)) mNil))) [3]) mNil)) mNil)))
  (sSeq (sSet 6 (mLc (mRange1 (mCons (mVar 1) mNil)) (gN 5) mYes (mCallC cTup (mCons (mLc (mIt (mVar 4)) (gN 3) (mB (mBin oEq (mBin oMod (mCall F__law_mix 2 [] (mCons (mVar 3) (mCons (mVar 2) mNil))) (mVar 1)) (mVar 5))) (mVar 3) [3]) mNil)) [5]))
  (sRet (mCallC cTup (mCons (mLc (mIt (mVar 6)) (gN 7) (mB (mBin (oInt fun i j => decide (j < i)) (mCallC cLen (mCons (mVar 7) mNil)) (mC (.int 1)))) (mVar 7) [7]) mNil)))))
def F__law_meet : Fn := callB m__law_meet 8
theorem sc__law_meet : FnScope ["texts", "many", "seed", "text", "names", "spot", "rows", "row"] ["texts", "many", "seed"] (defScope (top 28)) := ⟨rfl, rfl, rfl, by decide +kernel, rfl, by decide +kernel, by decide +kernel⟩
theorem ok__law_meet (Z : Z P w K mg base Tb c_MixError)
    (Z__law_mix_2 : CalS P w K mg base Tb "_law_mix" 1 2 [] F__law_mix)
    {fd : FuncData} (F : FnP K "_law_meet" (top 28) [] fd) : FnOk P w K mg base (L2.CX P w) 2 (He.fAd K ("_law_meet", none)) fd ["texts", "many", "seed"] (spS K mg Tb 3 F__law_meet) := by
  refine fn_okC F sc__law_meet fun A outer s H E C => ?_
  show SSs _ Tb (WD E) (defBody (top 28)) m__law_meet
  exact (sss_cons (ss_set C 4 (se_callTy (cs_list C.calm) Z.g_list (sa_cons (se_callTy (cs_dict C.calm) Z.g_dict (sa_cons (se_lc C (si_it (se_var 0)) (blkOk_by (own := [("text", 3)]) (by kernel_rfl)) (og := [3]) (by decide) (fun _ _ _ _ _ C => (sg_name C 3)) (fun _ _ _ _ _ C => sts_nil) (fun _ _ _ _ _ C => (se_tup (sa_cons (se_var 3) (sa_cons se_int sa_nil))))) sa_nil) rfl bt_dict) sa_nil) rfl bt_list))
  (sss_cons (ss_setLc C 6 (by rfl) (si_range1 Z.g_range (sa_cons (se_var 1) sa_nil)) (blkOk_by (own := [("spot", 5)]) (by kernel_rfl)) (og := [5]) (by decide) (fun _ _ _ _ _ C => (sg_name C 5)) (fun _ _ _ _ _ C => sts_nil) (fun _ _ _ _ _ C => (se_callTy cs_tup Z.g_tuple (sa_cons (se_lc C (si_it (se_var 4)) (blkOk_by (own := [("text", 3)]) (by kernel_rfl)) (og := [3]) (by decide) (fun _ _ _ _ _ C => (sg_name C 3)) (fun _ _ _ _ _ C => (sts_one (st_cmp (os_eq C.hu) (se_bin os_mod (se_callX C Z__law_mix_2 (sa_cons (se_var 3) (sa_cons (se_var 2) sa_nil))) (se_var 1)) (se_var 5) (nomark _)))) (fun _ _ _ _ _ C => (se_var 3))) sa_nil) rfl bt_tuple)))
  (sss_one (ss_ret (se_callTy cs_tup Z.g_tuple (sa_cons (se_lc C (si_it (se_var 6)) (blkOk_by (own := [("row", 7)]) (by kernel_rfl)) (og := [7]) (by decide) (fun _ _ _ _ _ C => (sg_name C 7)) (fun _ _ _ _ _ C => (sts_one (st_cmp os_gt (se_callB cs_len Z.g_len (sa_cons (se_var 7) sa_nil) rfl bt_len) se_int (nomark _)))) (fun _ _ _ _ _ C => (se_var 7))) sa_nil) rfl bt_tuple)))))
theorem cal__law_meet (Z : Z P w K mg base Tb c_MixError)
    (Z__law_mix_2 : CalS P w K mg base Tb "_law_mix" 1 2 [] F__law_mix)
    : CalS P w K mg base Tb "_law_meet" 2 3 [] F__law_meet := by
  obtain ⟨fd, F⟩ := Z.f__law_meet
  have G := ok__law_meet Z Z__law_mix_2 F
  have b3 : Binds K fd ["texts", "many", "seed"] [] := F.bindsN fun _ _ _ _ _ _ us hl => match us, hl with | [_, _, _], _ => rfl
  exact ⟨⟨_, fd, _, [], [], Z.m__law_meet, F.kp, G, b3, .nil, fun _ _ _ => rfl⟩⟩
/-! ### _law_key -/
def m__law_key : MS :=
  (sRet (mBm "str" mtJoin (mC (.str [])) (mCons (mLc (mRange1 (mCons (mBin oAdd (mC (.int 1)) (mCall F__law_roll 2 [] (mCons (mVar 0) (mCons (mC (.int 3)) mNil)))) mNil)) (gN 1) mYes (mBin oIx (mC (.str [97, 98, 99, 100, 88, 89, 55, 45])) (mCall F__law_roll 2 [] (mCons (mVar 0) (mCons (mC (.int 8)) mNil)))) [1]) mNil)))
def F__law_key : Fn := callB m__law_key 2
theorem sc__law_key : FnScope ["dice", "k"] ["dice"] (defScope (top 27)) := ⟨rfl, rfl, rfl, by decide +kernel, rfl, by decide +kernel, by decide +kernel⟩
theorem ok__law_key (Z : Z P w K mg base Tb c_MixError)
    (Z__law_roll_2 : CalS P w K mg base Tb "_law_roll" 1 2 [] F__law_roll)
    {fd : FuncData} (F : FnP K "_law_key" (top 27) [] fd) : FnOk P w K mg base (L2.CX P w) 2 (He.fAd K ("_law_key", none)) fd ["dice"] (spS K mg Tb 1 F__law_key) := by
  refine fn_okC F sc__law_key fun A outer s H E C => ?_
  show SSs _ Tb (WD E) (defBody (top 27)) m__law_key
  exact (sss_one (ss_ret (se_bm ms_join PySem.F.plainAttrs_str PySem.F.slot_str_join PySem.F.type_str_join (se_str rfl) (sa_cons (se_lc C (si_range1 Z.g_range (sa_cons (se_bin os_add se_int (se_callX C Z__law_roll_2 (sa_cons (se_var 0) (sa_cons se_int sa_nil)))) sa_nil)) (blkOk_by (own := [("k", 1)]) (by kernel_rfl)) (og := [1]) (by decide) (fun _ _ _ _ _ C => (sg_name C 1)) (fun _ _ _ _ _ C => sts_nil) (fun _ _ _ _ _ C => (se_ix C (se_str rfl) (se_callX C Z__law_roll_2 (sa_cons (se_var 0) (sa_cons se_int sa_nil)))))) sa_nil))))
theorem cal__law_key (Z : Z P w K mg base Tb c_MixError)
    (Z__law_roll_2 : CalS P w K mg base Tb "_law_roll" 1 2 [] F__law_roll)
    : CalS P w K mg base Tb "_law_key" 2 1 [] F__law_key := by
  obtain ⟨fd, F⟩ := Z.f__law_key
  have G := ok__law_key Z Z__law_roll_2 F
  have b1 : Binds K fd ["dice"] [] := F.bindsN fun _ _ _ _ _ _ us hl => match us, hl with | [_], _ => rfl
  exact ⟨⟨_, fd, _, [], [], Z.m__law_key, F.kp, G, b1, .nil, fun _ _ _ => rfl⟩⟩
/-! ### law -/
def m_law : MS :=
  (sSeq (sFor (mIt (mCall F__law_rounds 2 [] (mCons (mVar 0) (mCons (mC (.int 1)) mNil)))) (gN 1) (sSeq (sAsg (mTup (mCons (mBm "str" mtJoin (mC (.str [])) (mCons (mLc (mRange1 (mCons (mCall F__law_roll 2 [] (mCons (mVar 1) (mCons (mC (.int 9)) mNil))) mNil)) (gN 2) mYes (mBin oIx (mC (.str [32, 97, 98, 122, 65, 90, 48, 57, 46, 33])) (mCall F__law_roll 2 [] (mCons (mVar 1) (mCons (mC (.int 10)) mNil)))) [2]) mNil)) (mCons (mCall F__law_roll 2 [] (mCons (mVar 1) (mCons (mC (.int 2000000)) mNil))) (mCons (mBin oAdd (mC (.int 1)) (mCall F__law_roll 2 [] (mCons (mVar 1) (mCons (mC (.int 12)) mNil)))) (mCons (mBin oAdd (mC (.int 1)) (mCall F__law_roll 2 [] (mCons (mVar 1) (mCons (mC (.int 6)) mNil)))) mNil))))) (gT 4 (fun ws ρ S => noX (gsCons (gN 3) (fun ws ρ S => noX (gsCons (gN 4) (fun ws ρ S => noX (gsCons (gN 5) (fun ws ρ S => noX (gsCons (gN 6) gsNil ws ρ S)) ws ρ S)) ws ρ S)) ws ρ S))))
  (sSeq (sAsg (mTup (mCons (mBin oMod (mCall F__law_mix 2 [] (mCons (mVar 3) (mCons (mVar 4) mNil))) (mVar 5)) (mCons (mIf (mB (mBin (oInt fun i j => decide (j < i)) (mVar 5) (mC (.int 2)))) (mBin oAdd (mBin oMod (mCall F__law_mix 2 [] (mCons (mVar 3) (mCons (mBin oAdd (mVar 4) (mC (.int 1))) mNil))) (mBin oSub (mVar 5) (mC (.int 1)))) (mC (.int 1))) (mC (.int 1))) mNil))) (gT 2 (fun ws ρ S => noX (gsCons (gN 7) (fun ws ρ S => noX (gsCons (gN 8) gsNil ws ρ S)) ws ρ S))))
  (sSeq (sIf (mOr (mB (mBin oNe (mCall F_mixed 2 [] (mCons (mVar 3) (mCons (mVar 4) mNil))) (mCall F__law_mix 2 [] (mCons (mVar 3) (mCons (mVar 4) mNil))))) (mB (mBin oNe (mCall F_spot_of 3 [] (mCons (mVar 3) (mCons (mVar 5) (mCons (mVar 4) mNil)))) (mVar 7)))) (sRet (mC (.bl false))) sNil)
  (sSeq (sIf (mB (mBin oNe (mCall F_two_mixes 3 [] (mCons (mVar 3) (mCons (mVar 5) (mCons (mVar 4) mNil)))) (mTup (mCons (mVar 7) (mCons (mVar 8) mNil))))) (sRet (mC (.bl false))) sNil)
  (sSeq (sIf (mB (mBin oNe (mCallC cList (mCons (mCall F_spots_of 4 [] (mCons (mVar 3) (mCons (mVar 6) (mCons (mVar 5) (mCons (mVar 4) mNil))))) mNil)) (mLc (mRange1 (mCons (mVar 6) mNil)) (gN 2) mYes (mBin oMod (mBin oAdd (mVar 7) (mBin oMul (mVar 2) (mVar 8))) (mVar 5)) [2]))) (sRet (mC (.bl false))) sNil)
  (sSeq (sIf (mB (mBin oNe (mCall F_mix_number 2 [] (mCons (mNeg (mVar 5)) (mCons (mVar 4) mNil))) (mCall F__law_mix 2 [] (mCons (mBin oAdd (mC (.str [45])) (mCallC cStr (mCons (mVar 5) mNil))) (mCons (mVar 4) mNil))))) (sRet (mC (.bl false))) sNil)
  (sSeq (sAsg (mTup (mCons (mLc (mRange1 (mCons (mCall F__law_roll 2 [] (mCons (mVar 1) (mCons (mC (.int 9)) mNil))) mNil)) (gN 2) mYes (mCall F__law_key 1 [] (mCons (mVar 1) mNil)) [2]) (mCons (mLst mNil) mNil))) (gT 2 (fun ws ρ S => noX (gsCons (gN 9) (fun ws ρ S => noX (gsCons (gN 10) gsNil ws ρ S)) ws ρ S))))
  (sSeq (sSet 13 (mLc (mRange1 (mCons (mVar 5) mNil)) (gN 11) mYes (mCallC cLen (mCons (mLc (mIt (mVar 9)) (gN 12) (mB (mBin oEq (mBin oMod (mCall F__law_mix 2 [] (mCons (mVar 12) (mCons (mVar 4) mNil))) (mVar 5)) (mVar 11))) (mC (.int 1)) [12]) mNil)) [11]))
  (sSeq (sSet 14 (mCallC cList (mCons (mCallC cDict (mCons (mLc (mIt (mVar 9)) (gN 12) mYes (mTup (mCons (mVar 12) (mCons (mC (.int 1)) mNil))) [12]) mNil)) mNil)))
  (sSeq (sSet 16 (mBin oMul (mBin oMul (mC (.int 100)) (mVar 5)) (mCallC cSum (mCons (mLc (mIt (mVar 13)) (gN 15) mYes (mBin oMul (mVar 15) (mVar 15)) [15]) mNil))))
  (sSeq (sSet 17 (mIf (mB (mBin oNe (mVar 9) (mLst mNil))) (mBin oDiv (mVar 16) (mBin oMul (mCallC cLen (mCons (mVar 9) mNil)) (mCallC cLen (mCons (mVar 9) mNil)))) (mC .non)))
  (sSeq (sIf (mOr (mB (mBin oNe (mCallC cList (mCons (mCall F_spot_loads 3 [] (mCons (mVar 9) (mCons (mVar 5) (mCons (mVar 4) mNil)))) mNil)) (mVar 13))) (mB (mBin oNe (mCall F_how_even 3 [] (mCons (mVar 9) (mCons (mVar 5) (mCons (mVar 4) mNil)))) (mVar 17)))) (sRet (mC (.bl false))) sNil)
  (sSeq (sIf (mB (mBin oNe (mCall F_mix_of_set 2 [] (mCons (mRev (mVar 9)) (mCons (mVar 4) mNil))) (mBin oMod (mCallC cSum (mCons (mLc (mIt (mVar 14)) (gN 12) mYes (mCall F__law_mix 2 [] (mCons (mVar 12) (mCons (mVar 4) mNil))) [12]) mNil)) (mC (.int 1000003))))) (sRet (mC (.bl false))) sNil)
  (sSeq (sIf (mB (mBin oNe (mCall F_meeting_rows 3 [] (mCons (mVar 9) (mCons (mVar 5) (mCons (mVar 4) mNil)))) (mCall F__law_meet 3 [] (mCons (mVar 9) (mCons (mVar 5) (mCons (mVar 4) mNil)))))) (sRet (mC (.bl false))) sNil)
  (sSeq (sSet 18 (mBin oAdd (mC (.int 1)) (mCall F__law_roll 2 [] (mCons (mVar 1) (mCons (mC (.int 12)) mNil)))))
  (sSeq (sSet 19 (mLc (mRange1 (mCons (mVar 18) mNil)) (gN 12) (mB (mBin oEq (mCall F__law_meet 3 [] (mCons (mVar 9) (mCons (mVar 5) (mCons (mVar 12) mNil)))) (mTup mNil))) (mVar 12) [12]))
  (sSeq (sIf (mB (mBin oNe (mCall F_first_seed 3 [] (mCons (mVar 9) (mCons (mVar 5) (mCons (mVar 18) mNil)))) (mIf (mB (mBin oNe (mVar 19) (mLst mNil))) (mBin oIx (mVar 19) (mC (.int 0))) (mC .non)))) (sRet (mC (.bl false))) sNil)
  (sSeq (sAsg (mTup (mCons (mCut (mVar 3) oNo (oSo (mC (.int 3)))) (mCons (mC (.int 0)) mNil))) (gT 2 (fun ws ρ S => noX (gsCons (gN 20) (fun ws ρ S => noX (gsCons (gN 21) gsNil ws ρ S)) ws ρ S))))
  (sSeq (sSet 23 (mCallC cSumL (mCons (mLc (mRange1 (mCons (mCallC cLen (mCons (mVar 20) mNil)) mNil)) (gN 2) mYes (mLc (mIt (mC (.str [97, 98, 99, 100, 101, 102, 103, 104, 105, 106, 107, 108, 109, 110, 111, 112, 113, 114, 115, 116, 117, 118, 119, 120, 121, 122]))) (gN 22) (mB (mBin oNe (mVar 22) (mBin oIx (mVar 20) (mVar 2)))) (mBin oAdd (mBin oAdd (mCut (mVar 20) oNo (oSo (mVar 2))) (mVar 22)) (mCut (mVar 20) (oSo (mBin oAdd (mVar 2) (mC (.int 1)))) oNo)) [22]) [2]) (mCons (mLst mNil) mNil))))
  (sSeq (sIf (mB (mBin oNe (mCall F_changed_spots 3 [] (mCons (mVar 20) (mCons (mVar 5) (mCons (mVar 4) mNil)))) (mTup (mCons (mCallC cLen (mCons (mLc (mIt (mVar 23)) (gN 12) (mB (mBin oNe (mBin oMod (mCall F__law_mix 2 [] (mCons (mVar 12) (mCons (mVar 4) mNil))) (mVar 5)) (mBin oMod (mCall F__law_mix 2 [] (mCons (mVar 20) (mCons (mVar 4) mNil))) (mVar 5)))) (mC (.int 1)) [12]) mNil)) (mCons (mCallC cLen (mCons (mVar 23) mNil)) mNil))))) (sRet (mC (.bl false))) sNil)
  (sSeq (sSet 24 (mCall F__law_roll 2 [] (mCons (mVar 1) (mCons (mC (.int 400)) mNil))))
  (sSeq (sSet 26 (mLc (mRange2 (mCons (mC (.int 2)) (mCons (mC (.int 500)) mNil))) (gN 12) (mB (mBin oEq (mLc (mRange2 (mCons (mC (.int 2)) (mCons (mVar 12) mNil))) (gN 25) (mAnd (mB (mBin (oInt fun i j => decide (i ≤ j)) (mBin oMul (mVar 25) (mVar 25)) (mVar 12))) (mB (mBin oEq (mBin oMod (mVar 12) (mVar 25)) (mC (.int 0))))) (mVar 25) [25]) (mLst mNil))) (mVar 12) [12]))
  (sSeq (sIf (mB (mBin oNe (mCall F_next_prime 1 [] (mCons (mVar 24) mNil)) (mBin oIx (mLc (mIt (mVar 26)) (gN 12) (mB (mBin (oInt fun i j => decide (j ≤ i)) (mVar 12) (mVar 24))) (mVar 12) [12]) (mC (.int 0))))) (sRet (mC (.bl false))) sNil)
  (sSeq (sIf (mB (mBin oNe (mCall F_root_of 1 [] (mCons (mVar 24) mNil)) (mBin oIx (mLc (mRange1 (mCons (mC (.int 25)) mNil)) (gN 12) (mB (mBin (oInt fun i j => decide (i ≤ j)) (mBin oMul (mVar 12) (mVar 12)) (mVar 24))) (mVar 12) [12]) (mNeg (mC (.int 1)))))) (sRet (mC (.bl false))) sNil)
  (sIf (mB (mBin oNe (mCall F_joined_mix 2 [] (mCons (mVar 24) (mCons (mVar 4) mNil))) (mBin oMod (mBin oAdd (mBin oAdd (mBin oMul (mC (.int 31)) (mVar 24)) (mBin oMul (mC (.int 17)) (mVar 4))) (mC (.int 5))) (mC (.int 1000003))))) (sRet (mC (.bl false))) sNil))))))))))))))))))))))))))
  (sRet (mCall0 F__law_plain 0 [])))
def F_law : Fn := callB m_law 27
theorem sc_law : FnScope ["script", "dice", "k", "text", "seed", "many", "times", "first", "step", "texts", "order", "spot", "one", "loads", "names", "load", "squares", "even", "most", "able", "short", "apart", "sign", "others", "number", "part", "primes"] ["script"] (defScope (top 30)) := ⟨rfl, rfl, rfl, by decide +kernel, rfl, by decide +kernel, by decide +kernel⟩
theorem ok_law (Z : Z P w K mg base Tb c_MixError)
    (Z__law_key_1 : CalS P w K mg base Tb "_law_key" 2 1 [] F__law_key)
    (Z__law_meet_3 : CalS P w K mg base Tb "_law_meet" 2 3 [] F__law_meet)
    (Z__law_mix_2 : CalS P w K mg base Tb "_law_mix" 1 2 [] F__law_mix)
    (Z__law_plain_0 : CalS P w K mg base Tb "_law_plain" 16 0 [] F__law_plain)
    (Z__law_roll_2 : CalS P w K mg base Tb "_law_roll" 1 2 [] F__law_roll)
    (Z__law_rounds_2 : CalS P w K mg base Tb "_law_rounds" 2 2 [] F__law_rounds)
    (Z_changed_spots_3 : CalS P w K mg base Tb "changed_spots" 4 3 [] F_changed_spots)
    (Z_first_seed_3 : CalS P w K mg base Tb "first_seed" 11 3 [] F_first_seed)
    (Z_how_even_3 : CalS P w K mg base Tb "how_even" 10 3 [] F_how_even)
    (Z_joined_mix_2 : CalS P w K mg base Tb "joined_mix" 1 2 [] F_joined_mix)
    (Z_meeting_rows_3 : CalS P w K mg base Tb "meeting_rows" 10 3 [] F_meeting_rows)
    (Z_mix_number_2 : CalS P w K mg base Tb "mix_number" 3 2 [] F_mix_number)
    (Z_mix_of_set_2 : CalS P w K mg base Tb "mix_of_set" 12 2 [] F_mix_of_set)
    (Z_mixed_2 : CalS P w K mg base Tb "mixed" 2 2 [] F_mixed)
    (Z_next_prime_1 : CalS P w K mg base Tb "next_prime" 10 1 [] F_next_prime)
    (Z_root_of_1 : CalS P w K mg base Tb "root_of" 1 1 [] F_root_of)
    (Z_spot_loads_3 : CalS P w K mg base Tb "spot_loads" 4 3 [] F_spot_loads)
    (Z_spot_of_3 : CalS P w K mg base Tb "spot_of" 3 3 [] F_spot_of)
    (Z_spots_of_4 : CalS P w K mg base Tb "spots_of" 10 4 [] F_spots_of)
    (Z_two_mixes_3 : CalS P w K mg base Tb "two_mixes" 4 3 [] F_two_mixes)
    {fd : FuncData} (F : FnP K "law" (top 30) [] fd) : FnOk P w K mg base (L2.CX P w) 17 (He.fAd K ("law", none)) fd ["script"] (spS K mg Tb 1 F_law) := by
  refine fn_okC F sc_law fun A outer s H E C => ?_
  show SSs _ Tb (WD E) (defBody (top 30)) m_law
  exact (sss_cons (ss_for C (si_it (se_callX C Z__law_rounds_2 (sa_cons (se_var 0) (sa_cons se_int sa_nil)))) (sg_name C 1) (sss_cons (ss_asg (se_tup (sa_cons (se_bm ms_join PySem.F.plainAttrs_str PySem.F.slot_str_join PySem.F.type_str_join (se_str rfl) (sa_cons (se_lc C (si_range1 Z.g_range (sa_cons (se_callX C Z__law_roll_2 (sa_cons (se_var 1) (sa_cons se_int sa_nil))) sa_nil)) (blkOk_by (own := [("k", 2)]) (by kernel_rfl)) (og := [2]) (by decide) (fun _ _ _ _ _ C => (sg_name C 2)) (fun _ _ _ _ _ C => sts_nil) (fun _ _ _ _ _ C => (se_ix C (se_str rfl) (se_callX C Z__law_roll_2 (sa_cons (se_var 1) (sa_cons se_int sa_nil)))))) sa_nil)) (sa_cons (se_callX C Z__law_roll_2 (sa_cons (se_var 1) (sa_cons se_int sa_nil))) (sa_cons (se_bin os_add se_int (se_callX C Z__law_roll_2 (sa_cons (se_var 1) (sa_cons se_int sa_nil)))) (sa_cons (se_bin os_add se_int (se_callX C Z__law_roll_2 (sa_cons (se_var 1) (sa_cons se_int sa_nil)))) sa_nil))))) (sg_tup C (sgs_cons (sg_name C 3) (sgs_cons (sg_name C 4) (sgs_cons (sg_name C 5) (sgs_cons (sg_name C 6) sgs_nil))))))
  (sss_cons (ss_asg (se_tup (sa_cons (se_bin os_mod (se_callX C Z__law_mix_2 (sa_cons (se_var 3) (sa_cons (se_var 4) sa_nil))) (se_var 5)) (sa_cons (se_if (st_cmp os_gt (se_var 5) se_int (nomark _)) (se_bin os_add (se_bin os_mod (se_callX C Z__law_mix_2 (sa_cons (se_var 3) (sa_cons (se_bin os_add (se_var 4) se_int) sa_nil))) (se_bin os_sub (se_var 5) se_int)) se_int) se_int) sa_nil))) (sg_tup C (sgs_cons (sg_name C 7) (sgs_cons (sg_name C 8) sgs_nil))))
  (sss_cons (ss_if (sw_or (st_cmp (os_ne C.hu) (se_callX C Z_mixed_2 (sa_cons (se_var 3) (sa_cons (se_var 4) sa_nil))) (se_callX C Z__law_mix_2 (sa_cons (se_var 3) (sa_cons (se_var 4) sa_nil))) (nomark _)) (sw_or1 (st_cmp (os_ne C.hu) (se_callX C Z_spot_of_3 (sa_cons (se_var 3) (sa_cons (se_var 5) (sa_cons (se_var 4) sa_nil)))) (se_var 7) (nomark _)))).st (sss_one (ss_ret se_bl)) sss_nil)
  (sss_cons (ss_if (st_cmp (os_ne C.hu) (se_callX C Z_two_mixes_3 (sa_cons (se_var 3) (sa_cons (se_var 5) (sa_cons (se_var 4) sa_nil)))) (se_tup (sa_cons (se_var 7) (sa_cons (se_var 8) sa_nil))) (nomark _)) (sss_one (ss_ret se_bl)) sss_nil)
  (sss_cons (ss_if (st_cmp (os_ne C.hu) (se_callTy (cs_list C.calm) Z.g_list (sa_cons (se_callX C Z_spots_of_4 (sa_cons (se_var 3) (sa_cons (se_var 6) (sa_cons (se_var 5) (sa_cons (se_var 4) sa_nil))))) sa_nil) rfl bt_list) (se_lc C (si_range1 Z.g_range (sa_cons (se_var 6) sa_nil)) (blkOk_by (own := [("k", 2)]) (by kernel_rfl)) (og := [2]) (by decide) (fun _ _ _ _ _ C => (sg_name C 2)) (fun _ _ _ _ _ C => sts_nil) (fun _ _ _ _ _ C => (se_bin os_mod (se_bin os_add (se_var 7) (se_bin os_mul (se_var 2) (se_var 8))) (se_var 5)))) (nomark _)) (sss_one (ss_ret se_bl)) sss_nil)
  (sss_cons (ss_if (st_cmp (os_ne C.hu) (se_callX C Z_mix_number_2 (sa_cons (se_neg (se_var 5)) (sa_cons (se_var 4) sa_nil))) (se_callX C Z__law_mix_2 (sa_cons (se_bin os_add (se_str rfl) (se_callTy cs_str Z.g_str (sa_cons (se_var 5) sa_nil) rfl bt_str)) (sa_cons (se_var 4) sa_nil))) (nomark _)) (sss_one (ss_ret se_bl)) sss_nil)
  (sss_cons (ss_asg (se_tup (sa_cons (se_lc C (si_range1 Z.g_range (sa_cons (se_callX C Z__law_roll_2 (sa_cons (se_var 1) (sa_cons se_int sa_nil))) sa_nil)) (blkOk_by (own := [("k", 2)]) (by kernel_rfl)) (og := [2]) (by decide) (fun _ _ _ _ _ C => (sg_name C 2)) (fun _ _ _ _ _ C => sts_nil) (fun _ _ _ _ _ C => (se_callX C Z__law_key_1 (sa_cons (se_var 1) sa_nil)))) (sa_cons (se_lst sa_nil) sa_nil))) (sg_tup C (sgs_cons (sg_name C 9) (sgs_cons (sg_name C 10) sgs_nil))))
  (sss_cons (ss_setLc C 13 (by rfl) (si_range1 Z.g_range (sa_cons (se_var 5) sa_nil)) (blkOk_by (own := [("spot", 11)]) (by kernel_rfl)) (og := [11]) (by decide) (fun _ _ _ _ _ C => (sg_name C 11)) (fun _ _ _ _ _ C => sts_nil) (fun _ _ _ _ _ C => (se_callB cs_len Z.g_len (sa_cons (se_lc C (si_it (se_var 9)) (blkOk_by (own := [("one", 12)]) (by kernel_rfl)) (og := [12]) (by decide) (fun _ _ _ _ _ C => (sg_name C 12)) (fun _ _ _ _ _ C => (sts_one (st_cmp (os_eq C.hu) (se_bin os_mod (se_callX C Z__law_mix_2 (sa_cons (se_var 12) (sa_cons (se_var 4) sa_nil))) (se_var 5)) (se_var 11) (nomark _)))) (fun _ _ _ _ _ C => se_int)) sa_nil) rfl bt_len)))
  (sss_cons (ss_set C 14 (se_callTy (cs_list C.calm) Z.g_list (sa_cons (se_callTy (cs_dict C.calm) Z.g_dict (sa_cons (se_lc C (si_it (se_var 9)) (blkOk_by (own := [("one", 12)]) (by kernel_rfl)) (og := [12]) (by decide) (fun _ _ _ _ _ C => (sg_name C 12)) (fun _ _ _ _ _ C => sts_nil) (fun _ _ _ _ _ C => (se_tup (sa_cons (se_var 12) (sa_cons se_int sa_nil))))) sa_nil) rfl bt_dict) sa_nil) rfl bt_list))
  (sss_cons (ss_set C 16 (se_bin os_mul (se_bin os_mul se_int (se_var 5)) (se_callB (cs_sum C.calm) Z.g_sum (sa_cons (se_lc C (si_it (se_var 13)) (blkOk_by (own := [("load", 15)]) (by kernel_rfl)) (og := [15]) (by decide) (fun _ _ _ _ _ C => (sg_name C 15)) (fun _ _ _ _ _ C => sts_nil) (fun _ _ _ _ _ C => (se_bin os_mul (se_var 15) (se_var 15)))) sa_nil) rfl bt_sum)))
  (sss_cons (ss_set C 17 (se_if (st_cmp (os_ne C.hu) (se_var 9) (se_lst sa_nil) (nomark _)) (se_bin os_div (se_var 16) (se_bin os_mul (se_callB cs_len Z.g_len (sa_cons (se_var 9) sa_nil) rfl bt_len) (se_callB cs_len Z.g_len (sa_cons (se_var 9) sa_nil) rfl bt_len))) se_non))
  (sss_cons (ss_if (sw_or (st_cmp (os_ne C.hu) (se_callTy (cs_list C.calm) Z.g_list (sa_cons (se_callX C Z_spot_loads_3 (sa_cons (se_var 9) (sa_cons (se_var 5) (sa_cons (se_var 4) sa_nil)))) sa_nil) rfl bt_list) (se_var 13) (nomark _)) (sw_or1 (st_cmp (os_ne C.hu) (se_callX C Z_how_even_3 (sa_cons (se_var 9) (sa_cons (se_var 5) (sa_cons (se_var 4) sa_nil)))) (se_var 17) (nomark _)))).st (sss_one (ss_ret se_bl)) sss_nil)
  (sss_cons (ss_if (st_cmp (os_ne C.hu) (se_callX C Z_mix_of_set_2 (sa_cons (se_rev (se_var 9)) (sa_cons (se_var 4) sa_nil))) (se_bin os_mod (se_callB (cs_sum C.calm) Z.g_sum (sa_cons (se_lc C (si_it (se_var 14)) (blkOk_by (own := [("one", 12)]) (by kernel_rfl)) (og := [12]) (by decide) (fun _ _ _ _ _ C => (sg_name C 12)) (fun _ _ _ _ _ C => sts_nil) (fun _ _ _ _ _ C => (se_callX C Z__law_mix_2 (sa_cons (se_var 12) (sa_cons (se_var 4) sa_nil))))) sa_nil) rfl bt_sum) se_int) (nomark _)) (sss_one (ss_ret se_bl)) sss_nil)
  (sss_cons (ss_if (st_cmp (os_ne C.hu) (se_callX C Z_meeting_rows_3 (sa_cons (se_var 9) (sa_cons (se_var 5) (sa_cons (se_var 4) sa_nil)))) (se_callX C Z__law_meet_3 (sa_cons (se_var 9) (sa_cons (se_var 5) (sa_cons (se_var 4) sa_nil)))) (nomark _)) (sss_one (ss_ret se_bl)) sss_nil)
  (sss_cons (ss_set C 18 (se_bin os_add se_int (se_callX C Z__law_roll_2 (sa_cons (se_var 1) (sa_cons se_int sa_nil)))))
  (sss_cons (ss_setLc C 19 (by rfl) (si_range1 Z.g_range (sa_cons (se_var 18) sa_nil)) (blkOk_by (own := [("one", 12)]) (by kernel_rfl)) (og := [12]) (by decide) (fun _ _ _ _ _ C => (sg_name C 12)) (fun _ _ _ _ _ C => (sts_one (st_cmp (os_eq C.hu) (se_callX C Z__law_meet_3 (sa_cons (se_var 9) (sa_cons (se_var 5) (sa_cons (se_var 12) sa_nil)))) (se_tup sa_nil) (nomark _)))) (fun _ _ _ _ _ C => (se_var 12)))
  (sss_cons (ss_if (st_cmp (os_ne C.hu) (se_callX C Z_first_seed_3 (sa_cons (se_var 9) (sa_cons (se_var 5) (sa_cons (se_var 18) sa_nil)))) (se_if (st_cmp (os_ne C.hu) (se_var 19) (se_lst sa_nil) (nomark _)) (se_ix C (se_var 19) se_int) se_non) (nomark _)) (sss_one (ss_ret se_bl)) sss_nil)
  (sss_cons (ss_asg (se_tup (sa_cons (se_cut (se_var 3) so_no (so_so se_int)) (sa_cons se_int sa_nil))) (sg_tup C (sgs_cons (sg_name C 20) (sgs_cons (sg_name C 21) sgs_nil))))
  (sss_cons (ss_set C 23 (se_callB (cs_sumL C.calm) Z.g_sum (sa_cons (se_lc C (si_range1 Z.g_range (sa_cons (se_callB cs_len Z.g_len (sa_cons (se_var 20) sa_nil) rfl bt_len) sa_nil)) (blkOk_by (own := [("k", 2)]) (by kernel_rfl)) (og := [2]) (by decide) (fun _ _ _ _ _ C => (sg_name C 2)) (fun _ _ _ _ _ C => sts_nil) (fun _ _ _ _ _ C => (se_lc C (si_it (se_str rfl)) (blkOk_by (own := [("sign", 22)]) (by kernel_rfl)) (og := [22]) (by decide) (fun _ _ _ _ _ C => (sg_name C 22)) (fun _ _ _ _ _ C => (sts_one (st_cmp (os_ne C.hu) (se_var 22) (se_ix C (se_var 20) (se_var 2)) (nomark _)))) (fun _ _ _ _ _ C => (se_bin os_add (se_bin os_add (se_cut (se_var 20) so_no (so_so (se_var 2))) (se_var 22)) (se_cut (se_var 20) (so_so (se_bin os_add (se_var 2) se_int)) so_no)))))) (sa_cons (se_lst sa_nil) sa_nil)) rfl bt_sum))
  (sss_cons (ss_if (st_cmp (os_ne C.hu) (se_callX C Z_changed_spots_3 (sa_cons (se_var 20) (sa_cons (se_var 5) (sa_cons (se_var 4) sa_nil)))) (se_tup (sa_cons (se_callB cs_len Z.g_len (sa_cons (se_lc C (si_it (se_var 23)) (blkOk_by (own := [("one", 12)]) (by kernel_rfl)) (og := [12]) (by decide) (fun _ _ _ _ _ C => (sg_name C 12)) (fun _ _ _ _ _ C => (sts_one (st_cmp (os_ne C.hu) (se_bin os_mod (se_callX C Z__law_mix_2 (sa_cons (se_var 12) (sa_cons (se_var 4) sa_nil))) (se_var 5)) (se_bin os_mod (se_callX C Z__law_mix_2 (sa_cons (se_var 20) (sa_cons (se_var 4) sa_nil))) (se_var 5)) (nomark _)))) (fun _ _ _ _ _ C => se_int)) sa_nil) rfl bt_len) (sa_cons (se_callB cs_len Z.g_len (sa_cons (se_var 23) sa_nil) rfl bt_len) sa_nil))) (nomark _)) (sss_one (ss_ret se_bl)) sss_nil)
  (sss_cons (ss_set C 24 (se_callX C Z__law_roll_2 (sa_cons (se_var 1) (sa_cons se_int sa_nil))))
  (sss_cons (ss_setLc C 26 (by rfl) (si_range2 Z.g_range (sa_cons se_int (sa_cons se_int sa_nil))) (blkOk_by (own := [("one", 12)]) (by kernel_rfl)) (og := [12]) (by decide) (fun _ _ _ _ _ C => (sg_name C 12)) (fun _ _ _ _ _ C => (sts_one (st_cmp (os_eq C.hu) (se_lc C (si_range2 Z.g_range (sa_cons se_int (sa_cons (se_var 12) sa_nil))) (blkOk_by (own := [("part", 25)]) (by kernel_rfl)) (og := [25]) (by decide) (fun _ _ _ _ _ C => (sg_name C 25)) (fun _ _ _ _ _ C => (sts_one (sw_and (st_cmp os_le (se_bin os_mul (se_var 25) (se_var 25)) (se_var 12) (nomark _)) (sw_and1 (st_cmp (os_eq C.hu) (se_bin os_mod (se_var 12) (se_var 25)) se_int (nomark _)))).st)) (fun _ _ _ _ _ C => (se_var 25))) (se_lst sa_nil) (nomark _)))) (fun _ _ _ _ _ C => (se_var 12)))
  (sss_cons (ss_if (st_cmp (os_ne C.hu) (se_callX C Z_next_prime_1 (sa_cons (se_var 24) sa_nil)) (se_ix C (se_lc C (si_it (se_var 26)) (blkOk_by (own := [("one", 12)]) (by kernel_rfl)) (og := [12]) (by decide) (fun _ _ _ _ _ C => (sg_name C 12)) (fun _ _ _ _ _ C => (sts_one (st_cmp os_ge (se_var 12) (se_var 24) (nomark _)))) (fun _ _ _ _ _ C => (se_var 12))) se_int) (nomark _)) (sss_one (ss_ret se_bl)) sss_nil)
  (sss_cons (ss_if (st_cmp (os_ne C.hu) (se_callX C Z_root_of_1 (sa_cons (se_var 24) sa_nil)) (se_ix C (se_lc C (si_range1 Z.g_range (sa_cons se_int sa_nil)) (blkOk_by (own := [("one", 12)]) (by kernel_rfl)) (og := [12]) (by decide) (fun _ _ _ _ _ C => (sg_name C 12)) (fun _ _ _ _ _ C => (sts_one (st_cmp os_le (se_bin os_mul (se_var 12) (se_var 12)) (se_var 24) (nomark _)))) (fun _ _ _ _ _ C => (se_var 12))) (se_neg se_int)) (nomark _)) (sss_one (ss_ret se_bl)) sss_nil)
  (sss_one (ss_if (st_cmp (os_ne C.hu) (se_callX C Z_joined_mix_2 (sa_cons (se_var 24) (sa_cons (se_var 4) sa_nil))) (se_bin os_mod (se_bin os_add (se_bin os_add (se_bin os_mul se_int (se_var 24)) (se_bin os_mul se_int (se_var 4))) se_int) se_int) (nomark _)) (sss_one (ss_ret se_bl)) sss_nil)))))))))))))))))))))))))))
  (sss_one (ss_ret (se_callX0 C Z__law_plain_0))))
end
end K01
/-! text K01h -/
set_option maxHeartbeats 0
namespace K01
open PySem PySem.Spec PyProof.Rows L2 Sm
def fa : List He.Fa := [.free "abs", .free "any", .free "dict", .free "int", .free "len", .free "list", .free "max", .free "range", .free "sorted", .free "str", .free "sum", .free "tuple", .int "RING" 1000003, .str "SIGNS" " abcdefghijklmnopqrstuvwxyzABCDEFGHIJKLMNOPQRSTUVWXYZ0123456789.,;:-_/+()", .glo "MixError", .exc "MixError", .exm "MixError" "MixError" true, .glo "_law_dice", .glo "_law_rounds", .glo "place_of", .glo "mixed", .glo "mix_number", .glo "spot_of", .glo "two_mixes", .glo "spots_of", .glo "joined_mix", .glo "mix_of_set", .glo "spot_loads", .glo "how_even", .glo "meeting_rows", .glo "first_seed", .glo "changed_spots", .glo "root_of", .glo "next_prime", .glo "_law_told", .glo "_law_plain", .glo "_law_roll", .glo "_law_mix", .glo "_law_meet", .glo "_law_key", .glo "law"]
def fn : List He.DefD := [⟨("_law_dice", none), "_law_dice", "_law_dice", defArgs (top 22), defBody (top 22), defScope (top 22), [], []⟩, ⟨("_law_rounds", none), "_law_rounds", "_law_rounds", defArgs (top 24), defBody (top 24), defScope (top 24), [], []⟩, ⟨("place_of", none), "place_of", "place_of", defArgs (top 6), defBody (top 6), defScope (top 6), [], []⟩, ⟨("mixed", none), "mixed", "mixed", defArgs (top 7), defBody (top 7), defScope (top 7), [.int 0], []⟩, ⟨("mix_number", none), "mix_number", "mix_number", defArgs (top 8), defBody (top 8), defScope (top 8), [.int 0], []⟩, ⟨("spot_of", none), "spot_of", "spot_of", defArgs (top 9), defBody (top 9), defScope (top 9), [.int 0], []⟩, ⟨("two_mixes", none), "two_mixes", "two_mixes", defArgs (top 10), defBody (top 10), defScope (top 10), [.int 0], []⟩, ⟨("spots_of", none), "spots_of", "spots_of", defArgs (top 11), defBody (top 11), defScope (top 11), [.int 0], []⟩, ⟨("joined_mix", none), "joined_mix", "joined_mix", defArgs (top 12), defBody (top 12), defScope (top 12), [], []⟩, ⟨("mix_of_set", none), "mix_of_set", "mix_of_set", defArgs (top 13), defBody (top 13), defScope (top 13), [.int 0], []⟩, ⟨("spot_loads", none), "spot_loads", "spot_loads", defArgs (top 14), defBody (top 14), defScope (top 14), [.int 0], []⟩, ⟨("how_even", none), "how_even", "how_even", defArgs (top 15), defBody (top 15), defScope (top 15), [.int 0], []⟩, ⟨("meeting_rows", none), "meeting_rows", "meeting_rows", defArgs (top 16), defBody (top 16), defScope (top 16), [.int 0], []⟩, ⟨("first_seed", none), "first_seed", "first_seed", defArgs (top 17), defBody (top 17), defScope (top 17), [], []⟩, ⟨("changed_spots", none), "changed_spots", "changed_spots", defArgs (top 18), defBody (top 18), defScope (top 18), [.int 0], []⟩, ⟨("root_of", none), "root_of", "root_of", defArgs (top 20), defBody (top 20), defScope (top 20), [], []⟩, ⟨("next_prime", none), "next_prime", "next_prime", defArgs (top 19), defBody (top 19), defScope (top 19), [], []⟩, ⟨("_law_told", none), "_law_told", "_law_told", defArgs (top 25), defBody (top 25), defScope (top 25), [], []⟩, ⟨("_law_plain", none), "_law_plain", "_law_plain", defArgs (top 29), defBody (top 29), defScope (top 29), [], []⟩, ⟨("_law_roll", none), "_law_roll", "_law_roll", defArgs (top 23), defBody (top 23), defScope (top 23), [], []⟩, ⟨("_law_mix", none), "_law_mix", "_law_mix", defArgs (top 26), defBody (top 26), defScope (top 26), [], []⟩, ⟨("_law_meet", none), "_law_meet", "_law_meet", defArgs (top 28), defBody (top 28), defScope (top 28), [], []⟩, ⟨("_law_key", none), "_law_key", "_law_key", defArgs (top 27), defBody (top 27), defScope (top 27), [], []⟩, ⟨("law", none), "law", "law", defArgs (top 30), defBody (top 30), defScope (top 30), [], []⟩]
def tf : List He.Defn := [("how_even", none), ("meeting_rows", none), ("mix_of_set", none), ("next_prime", none), ("spots_of", none), ("_law_plain", none)]
def ex (K : PySem.W.Frag) : Bool := decide (PySem.W.subIn K (.ref (He.ga K "MixError")) (.type "StopIteration") = some false) && decide ((tf.map fun p => (He.cT K p).2).Nodup)
abbrev R : PySem.W.OpenRow := PySem.W.OpenLaw.row PySem.Challenge.rw_hashstack_k01_mixes_of_texts
abbrev hk : PySem.W.Hook := He.hookX 6 fa fn [] tf ex
def ob (s : PySem.W.SharedT) : He.AlX := He.obsX 6 fa fn [] tf ex (HandSHeadRun.getT s)
theorem ob_eq (s : PySem.W.SharedT) : ob s = hk.obs s.abs := He.obsX_eq (HandSHeadRun.getT_eq s)
def loose : List PySem.Str := ["HashFault", "MixError", "RING", "SIGNS", "place_of", "mixed", "mix_number", "spot_of", "two_mixes", "spots_of", "joined_mix", "mix_of_set", "spot_loads", "how_even", "meeting_rows", "first_seed", "changed_spots", "next_prime", "root_of", "_law_dice", "_law_roll", "_law_rounds", "_law_told", "_law_mix", "_law_key", "_law_meet", "_law_plain"]
theorem run (w : World) : HandSHeadRun.RunEq R (PySem.W.view R.prog [30]) hk ob 4000 loose w := by
  intro os
  kernel_rfl
end K01
/-! text K01z -/
set_option maxHeartbeats 0
namespace K01
open PySem PySem.Spec PyProof.Rows L2 Sm
def gx : List He.Defn := [("how_even", none), ("meeting_rows", none), ("mix_of_set", none), ("next_prime", none), ("spots_of", none)]
def lm : List (He.Defn × Str × List LamD) := [(("_law_plain", none), qLam, lams)]
theorem tf_eq : tf = gx ++ lm.map (·.1) := rfl
abbrev TB (K : PySem.W.Frag) : Tbs := tbsOf K gx lm
abbrev ZK (P : Program) (w : World) (K : PySem.W.Frag) (mg : Str → Option Value) (base : Heap) : Prop := Z P w K mg base (TB K) (He.ga K "MixError")
theorem zOf {P : Program} {w : World} {h : Heap} {K : PySem.W.Frag} {mg : Str → Option Value} {base : Heap} (X : K.In base) (G : base.Ns mainGlobals mg) (c : He.SaysX fa fn [] tf ex w h K) (T : ∀ p ∈ tf.map (He.cT K), LamX.TabB base mg p.1 p.2) : ZK P w K mg base := by
  have m0 := c.more
  unfold ex at m0
  simp only [Bool.and_eq_true, decide_eq_true_eq] at m0
  have nd : ((gx ++ lm.map (·.1)).map fun p => (He.cT K p).2).Nodup := m0.2
  have si_MixError : PySem.W.subIn K (.ref (He.ga K "MixError")) (.type "StopIteration") = some false := m0.1
  have gl_MixError : mg "MixError" = some (.ref (He.ga K "MixError")) := He.glo_ok X G (c.t.d.fact 14 (f := .glo "MixError") rfl)
  obtain ⟨xa, xb, xc, xd⟩ := He.exc_ok (c.t.d.fact 15 (f := .exc "MixError") rfl)
  have xs_MixError : ExS K mg "MixError" (He.ga K "MixError") := ⟨xa, gl_MixError, xb, xc, xd⟩
  have xm_MixError := He.exm_ok (c.t.d.fact 16 (f := .exm "MixError" "MixError" true) rfl)
  have nsx : ∀ c ∈ NSX, ∀ C, mg c = some (.ref C) → PySem.W.subIn K (.ref C) (.type "StopIteration") = some false := by
    intro c hc C hC
    simp only [NSX, List.mem_cons, List.not_mem_nil, or_false] at hc
    subst hc
    rw [gl_MixError] at hC
    cases hC
    exact si_MixError
  have gt_how_even : GxT K mg base (TB K) ("how_even", none) := gxT_of nd (p := ("how_even", none)) (by decide) (T _ (List.mem_map_of_mem (by decide)))
  have gt_meeting_rows : GxT K mg base (TB K) ("meeting_rows", none) := gxT_of nd (p := ("meeting_rows", none)) (by decide) (T _ (List.mem_map_of_mem (by decide)))
  have gt_mix_of_set : GxT K mg base (TB K) ("mix_of_set", none) := gxT_of nd (p := ("mix_of_set", none)) (by decide) (T _ (List.mem_map_of_mem (by decide)))
  have gt_next_prime : GxT K mg base (TB K) ("next_prime", none) := gxT_of nd (p := ("next_prime", none)) (by decide) (T _ (List.mem_map_of_mem (by decide)))
  have gt_spots_of : GxT K mg base (TB K) ("spots_of", none) := gxT_of nd (p := ("spots_of", none)) (by decide) (T _ (List.mem_map_of_mem (by decide)))
  exact {
    g_abs := He.free_ok X G (c.t.d.fact 0 (f := .free "abs") rfl)
    g_any := He.free_ok X G (c.t.d.fact 1 (f := .free "any") rfl)
    g_dict := He.free_ok X G (c.t.d.fact 2 (f := .free "dict") rfl)
    g_int := He.free_ok X G (c.t.d.fact 3 (f := .free "int") rfl)
    g_len := He.free_ok X G (c.t.d.fact 4 (f := .free "len") rfl)
    g_list := He.free_ok X G (c.t.d.fact 5 (f := .free "list") rfl)
    g_max := He.free_ok X G (c.t.d.fact 6 (f := .free "max") rfl)
    g_range := He.free_ok X G (c.t.d.fact 7 (f := .free "range") rfl)
    g_sorted := He.free_ok X G (c.t.d.fact 8 (f := .free "sorted") rfl)
    g_str := He.free_ok X G (c.t.d.fact 9 (f := .free "str") rfl)
    g_sum := He.free_ok X G (c.t.d.fact 10 (f := .free "sum") rfl)
    g_tuple := He.free_ok X G (c.t.d.fact 11 (f := .free "tuple") rfl)
    g_RING := He.int_ok X G (c.t.d.fact 12 rfl)
    g_SIGNS := He.str_ok X G (c.t.d.fact 13 rfl)
    x_MixError := xs_MixError
    hit_MixError := fun c Cc b h1 h2 => by
      unfold HIT_MixError at h2
      split at h2
      · rename_i e
        subst e
        rw [gl_MixError] at h1
        cases h1
        cases h2
        exact xm_MixError
      · cases h2
    nsx := nsx
    gxt_how_even := gt_how_even
    gxt_meeting_rows := gt_meeting_rows
    gxt_mix_of_set := gt_mix_of_set
    gxt_next_prime := gt_next_prime
    gxt_spots_of := gt_spots_of
    lamT := lmT_of nd (T _ (List.mem_map_of_mem (by decide)))
    lamL := lamsOf_tbs K gx _ _ _
    f__law_dice := c.t.d.def_ 0 rfl
    m__law_dice := He.glo_ok X G (c.t.d.fact 17 (f := .glo "_law_dice") rfl)
    f__law_rounds := c.t.d.def_ 1 rfl
    m__law_rounds := He.glo_ok X G (c.t.d.fact 18 (f := .glo "_law_rounds") rfl)
    f_place_of := c.t.d.def_ 2 rfl
    m_place_of := He.glo_ok X G (c.t.d.fact 19 (f := .glo "place_of") rfl)
    f_mixed := c.t.d.def_ 3 rfl
    m_mixed := He.glo_ok X G (c.t.d.fact 20 (f := .glo "mixed") rfl)
    f_mix_number := c.t.d.def_ 4 rfl
    m_mix_number := He.glo_ok X G (c.t.d.fact 21 (f := .glo "mix_number") rfl)
    f_spot_of := c.t.d.def_ 5 rfl
    m_spot_of := He.glo_ok X G (c.t.d.fact 22 (f := .glo "spot_of") rfl)
    f_two_mixes := c.t.d.def_ 6 rfl
    m_two_mixes := He.glo_ok X G (c.t.d.fact 23 (f := .glo "two_mixes") rfl)
    f_spots_of := c.t.d.def_ 7 rfl
    m_spots_of := He.glo_ok X G (c.t.d.fact 24 (f := .glo "spots_of") rfl)
    f_joined_mix := c.t.d.def_ 8 rfl
    m_joined_mix := He.glo_ok X G (c.t.d.fact 25 (f := .glo "joined_mix") rfl)
    f_mix_of_set := c.t.d.def_ 9 rfl
    m_mix_of_set := He.glo_ok X G (c.t.d.fact 26 (f := .glo "mix_of_set") rfl)
    f_spot_loads := c.t.d.def_ 10 rfl
    m_spot_loads := He.glo_ok X G (c.t.d.fact 27 (f := .glo "spot_loads") rfl)
    f_how_even := c.t.d.def_ 11 rfl
    m_how_even := He.glo_ok X G (c.t.d.fact 28 (f := .glo "how_even") rfl)
    f_meeting_rows := c.t.d.def_ 12 rfl
    m_meeting_rows := He.glo_ok X G (c.t.d.fact 29 (f := .glo "meeting_rows") rfl)
    f_first_seed := c.t.d.def_ 13 rfl
    m_first_seed := He.glo_ok X G (c.t.d.fact 30 (f := .glo "first_seed") rfl)
    f_changed_spots := c.t.d.def_ 14 rfl
    m_changed_spots := He.glo_ok X G (c.t.d.fact 31 (f := .glo "changed_spots") rfl)
    f_root_of := c.t.d.def_ 15 rfl
    m_root_of := He.glo_ok X G (c.t.d.fact 32 (f := .glo "root_of") rfl)
    f_next_prime := c.t.d.def_ 16 rfl
    m_next_prime := He.glo_ok X G (c.t.d.fact 33 (f := .glo "next_prime") rfl)
    f__law_told := c.t.d.def_ 17 rfl
    m__law_told := He.glo_ok X G (c.t.d.fact 34 (f := .glo "_law_told") rfl)
    f__law_plain := c.t.d.def_ 18 rfl
    m__law_plain := He.glo_ok X G (c.t.d.fact 35 (f := .glo "_law_plain") rfl)
    f__law_roll := c.t.d.def_ 19 rfl
    m__law_roll := He.glo_ok X G (c.t.d.fact 36 (f := .glo "_law_roll") rfl)
    f__law_mix := c.t.d.def_ 20 rfl
    m__law_mix := He.glo_ok X G (c.t.d.fact 37 (f := .glo "_law_mix") rfl)
    f__law_meet := c.t.d.def_ 21 rfl
    m__law_meet := He.glo_ok X G (c.t.d.fact 38 (f := .glo "_law_meet") rfl)
    f__law_key := c.t.d.def_ 22 rfl
    m__law_key := He.glo_ok X G (c.t.d.fact 39 (f := .glo "_law_key") rfl)
    f_law := c.t.d.def_ 23 rfl
    m_law := He.glo_ok X G (c.t.d.fact 40 (f := .glo "law") rfl)
  }
theorem lawOk {P : Program} {w : World} {K : PySem.W.Frag} {mg : Str → Option Value} {base : Heap} (Z : ZK P w K mg base) {fd : FuncData} (F : FnP K "law" (top 30) [] fd) : FnOk P w K mg base (L2.CX P w) 17 (He.fAd K ("law", none)) fd ["script"] (spS K mg (TB K) 1 F_law) := by
  have Z__law_dice_1 := cal__law_dice Z 
  have Z__law_rounds_2 := cal__law_rounds Z Z__law_dice_1
  have Z_place_of_1 := cal_place_of Z 
  obtain ⟨Z_mixed_1, Z_mixed_2⟩ := cal_mixed Z Z_place_of_1
  obtain ⟨Z_mix_number_1, Z_mix_number_2⟩ := cal_mix_number Z Z_mixed_2
  obtain ⟨Z_spot_of_2, Z_spot_of_3⟩ := cal_spot_of Z Z_mixed_2
  obtain ⟨Z_two_mixes_2, Z_two_mixes_3⟩ := cal_two_mixes Z Z_mixed_2 Z_spot_of_3
  obtain ⟨Z_spots_of_3, Z_spots_of_4⟩ := cal_spots_of Z Z_two_mixes_3
  have Z_joined_mix_2 := cal_joined_mix Z 
  obtain ⟨Z_mix_of_set_1, Z_mix_of_set_2⟩ := cal_mix_of_set Z Z_mixed_2
  obtain ⟨Z_spot_loads_2, Z_spot_loads_3⟩ := cal_spot_loads Z Z_spot_of_3
  obtain ⟨Z_how_even_2, Z_how_even_3⟩ := cal_how_even Z Z_spot_loads_3
  obtain ⟨Z_meeting_rows_2, Z_meeting_rows_3⟩ := cal_meeting_rows Z Z_spot_of_3
  have Z_first_seed_3 := cal_first_seed Z Z_meeting_rows_3
  obtain ⟨Z_changed_spots_2, Z_changed_spots_3⟩ := cal_changed_spots Z Z_spot_of_3
  have Z_root_of_1 := cal_root_of Z 
  have Z_next_prime_1 := cal_next_prime Z Z_root_of_1
  have Z__law_told_1 := cal__law_told Z Z_changed_spots_2 Z_first_seed_3 Z_how_even_2 Z_meeting_rows_2 Z_mix_number_2 Z_mix_of_set_2 Z_mixed_2 Z_root_of_1 Z_spot_loads_2 Z_spot_of_2 Z_spot_of_3 Z_spots_of_3 Z_two_mixes_2
  have Z__law_plain_0 := cal__law_plain Z Z__law_told_1 Z_changed_spots_2 Z_first_seed_3 Z_how_even_2 Z_joined_mix_2 Z_meeting_rows_2 Z_mix_number_1 Z_mix_of_set_1 Z_mixed_1 Z_mixed_2 Z_next_prime_1 Z_place_of_1 Z_root_of_1 Z_spot_loads_2 Z_spot_of_2 Z_spots_of_3 Z_two_mixes_2
  have Z__law_roll_2 := cal__law_roll Z 
  have Z__law_mix_2 := cal__law_mix Z 
  have Z__law_meet_3 := cal__law_meet Z Z__law_mix_2
  have Z__law_key_1 := cal__law_key Z Z__law_roll_2
  exact ok_law Z Z__law_key_1 Z__law_meet_3 Z__law_mix_2 Z__law_plain_0 Z__law_roll_2 Z__law_rounds_2 Z_changed_spots_3 Z_first_seed_3 Z_how_even_3 Z_joined_mix_2 Z_meeting_rows_3 Z_mix_number_2 Z_mix_of_set_2 Z_mixed_2 Z_next_prime_1 Z_root_of_1 Z_spot_loads_3 Z_spot_of_3 Z_spots_of_4 Z_two_mixes_3 F
def LawTrue : Prop := ∀ (ns : List Int), ns.length ≤ 63 → (∀ z ∈ ns, Builtin.Int.intBits z ≤ 1048576) → ∀ (u : U) (S : Store), lstU S u = some (ns.map U.int) → (∀ n c, S.get n = some c → ∃ ws, c.o = .lst ws) → ∃ S', F_law [u] S = .ok (.bl true) S'
theorem lawAt (hT : LawTrue) (w : World) (mg : Str → Option Value) (fA : Addr) (h : Heap) (Y : hk.says w h) (G : h.Ns mainGlobals mg) (hmg : mg ("law" : PySem.Str) = some (.ref fA)) : ∃ K : PySem.W.Frag, K.In h ∧ LamX.LawAtS PySem.Challenge.rw_hashstack_k01_mixes_of_texts w K (L2.CX (PySem.Challenge.rw_hashstack_k01_mixes_of_texts).prog w) 17 63 "script" mg fA h := by
  obtain ⟨K, KX, c⟩ := Y
  have e := hmg.symm.trans (He.glo_ok KX G (c.t.d.fact 40 (f := .glo "law") rfl))
  cases e
  obtain ⟨fd, F⟩ := c.t.d.def_ 23 rfl
  have b := FunD.bindsA (ps := ["script"]) F fun _ _ _ _ _ _ us hl => match us, hl with | [_], _ => rfl
  refine ⟨K, KX, fd, tf.map (He.cT K), spS K mg (TB K) 1 F_law, fun p hp => ?_, fun p hp => ?_, fun p hp => ?_, fun s v => b s [v] rfl, fun H a ns hl hb hH hS => ?_, fun base KB GB TB => lawOk (zOf KB GB c TB) F⟩
  · obtain ⟨q, hq, rfl⟩ := List.mem_map.mp hp
    exact c.empty q hq
  · obtain ⟨q, hq, rfl⟩ := List.mem_map.mp hp
    exact c.out q hq
  · obtain ⟨q, hq, rfl⟩ := List.mem_map.mp hp
    exact PySem.W.codeHd_of_K KX (c.hd q hq)
  · exact law_start (gx := gx) (lm := lm) hH hS fun u S e1 e2 => hT ns hl hb u S e1 e2
theorem holds (hT : LawTrue) : (PySem.Challenge.rw_hashstack_k01_mixes_of_texts).Holds := by
  w_on; o_law
  refine HandSHeadRun.head_any (r := PySem.W.OpenLaw.row PySem.Challenge.rw_hashstack_k01_mixes_of_texts) (q := PySem.W.view (PySem.W.OpenLaw.row PySem.Challenge.rw_hashstack_k01_mixes_of_texts).prog [30]) (H := hk) (ob := ob) (M := 4000) (loose := loose) (d := HandSHeadRun.topDef (PySem.W.OpenLaw.row PySem.Challenge.rw_hashstack_k01_mixes_of_texts).prog 30) (kwd := []) ob_eq
    (by kernel_rfl) (fun s => by kernel_rfl) run (by kernel_rfl) (by kernel_rfl) (by kernel_rfl) (by rfl) (by first | assumption | decide +kernel) (by decide +kernel) ⟨rfl, rfl, rfl, rfl, rfl, by decide +kernel⟩ ?hw ?hc
  case hw => w_witness2
  case hc =>
    refine LamX.walk_ofTsE (l := PySem.Challenge.rw_hashstack_k01_mixes_of_texts) (n := 63) (k := 17) (x := "script") (CX := fun w => L2.CX (PySem.Challenge.rw_hashstack_k01_mixes_of_texts).prog w) rfl (by decide) (by kernel_rfl) ⟨rfl, by decide, by decide⟩ (fun w mg fa h Y G hmg0 => lawAt hT w mg fa h Y G ?_) (fun w H s e s' z => ?_)
    · have e : (HandSHeadRun.topDef (PySem.W.OpenLaw.row PySem.Challenge.rw_hashstack_k01_mixes_of_texts).prog 30).name = ("law" : PySem.Str) := by kernel_rfl
      rw [← e]
      exact hmg0
    · obtain ⟨_, _, _, _, _, _, _, _, _, _, _, _, z⟩ := z
      exact z
end K01
/-! text K01p -/
namespace K01
open Sm Pl
theorem wp_var {i : Nat} {ρ : Env} {S : Store} {Q : U → Store → Prop} : Wp (mVar i ρ S) Q ↔ match ρ[i]? with
  | some (some w) => Q w S
  | _ => False := by
  unfold mVar
  cases ρ[i]? with
  | none => exact Iff.rfl
  | some o => cases o <;> exact Iff.rfl
/-- a round's dice -/
def Dice (d : Nat) (S : Store) : Prop := ∃ a b f : Int, At S d (.lst [.int a, .int b, .int f])
theorem Dice.new {d : Nat} {S : Store} {o : Ob} (h : Dice d S) : Dice d (S.new o) := let ⟨a, b, f, h⟩ := h; ⟨a, b, f, h.sx (P := No) Sx.new⟩
theorem Dice.put {d i : Nat} {S : Store} {c : Cell} (h : Dice d S) (hi : d ≠ i) : Dice d (S.put i c) := let ⟨a, b, f, h⟩ := h; ⟨a, b, f, h.put_ne hi⟩
theorem Dice.sx {d : Nat} {S S' : Store} (h : Dice d S) (x : Sx No S S') : Dice d S' := let ⟨a, b, f, h⟩ := h; ⟨a, b, f, h.sx x⟩
theorem Dice.lt {d : Nat} {S : Store} (h : Dice d S) : d < S.n := let ⟨_, _, _, h⟩ := h; h.lt
def Rolled (d : Nat) (many : Int) (S : Store) (u : U) (S' : Store) : Prop := Sx (Only d) S S' ∧ Dice d S' ∧ ∃ r : Int, u = .int r ∧ 0 ≤ r ∧ r < many
theorem roll {d : Nat} {many : Int} {S : Store} (h : Dice d S) (h1 : 0 < many) (h2 : many ≤ 100000000) : Wp (F__law_roll [.ref d, .int many] S) (Rolled d many S) := by
  obtain ⟨a, b, f, h⟩ := h
  have hm : ∀ x : Int, 0 ≤ x % many ∧ x % many < many := fun x => ⟨Int.emod_nonneg _ (by omega), Int.emod_lt_of_pos _ h1⟩
  refine wp_call ?_
  unfold m__law_roll
  have i0 {S : Store} {x y z : U} (h : At S d (.lst [x, y, z])) {Q : U → Store → Prop} : Wp (oIx (.ref d) (.int 0) S) Q ↔ Q x S := wp_ix h rfl rfl
  have i1 {S : Store} {x y z : U} (h : At S d (.lst [x, y, z])) {Q : U → Store → Prop} : Wp (oIx (.ref d) (.int 1) S) Q ↔ Q y S := wp_ix h rfl rfl
  have i2 {S : Store} {x y z : U} (h : At S d (.lst [x, y, z])) {Q : U → Store → Prop} : Wp (oIx (.ref d) (.int 2) S) Q ↔ Q z S := wp_ix h rfl rfl
  simp only [wp_var, wp_ok, wp_bin, wp_c, wp_b, wp_if, wps_if, wp_and, wp_or, wp_not, wp_nil, wp_cons, wp_callC, wp_callF, wp_call0, wp_tup, wp_lst, wps_nil, wps_ret, wps_set, wps_asg, wp_gN, wp_gsNil, wp_gsCons, wp_gS, wp_yes, wp_bm, wp_cut, wp_oNo, wp_oSo, wp_neg, wp_int, wp_add, wp_sub, wp_mul, wp_cInt, wp_eqI, wp_neI, wps_seq, List.getElem?_cons_zero, List.getElem?_cons_succ, List.set_cons_zero, List.set_cons_succ, List.map_cons, List.map_nil, List.length_cons, List.length_nil, List.cons_append, List.nil_append, List.append_nil, List.replicate, U.bl.injEq, U.int.injEq, exists_eq_left', Nat.reduceAdd, Nat.reduceSub, Nat.reduceMul, reduceCtorEq, false_implies, true_implies, true_and, and_true, eq_self]
  simp only [i0 h, i2 h, wp_var, wp_ok, wp_bin, wp_c, wp_b, wp_if, wps_if, wp_and, wp_or, wp_not, wp_nil, wp_cons, wp_callC, wp_callF, wp_call0, wp_tup, wp_lst, wps_nil, wps_ret, wps_set, wps_asg, wp_gN, wp_gsNil, wp_gsCons, wp_gS, wp_yes, wp_bm, wp_cut, wp_oNo, wp_oSo, wp_neg, wp_int, wp_add, wp_sub, wp_mul, wp_cInt, wp_eqI, wp_neI, wps_seq, List.getElem?_cons_zero, List.getElem?_cons_succ, List.set_cons_zero, List.set_cons_succ, List.map_cons, List.map_nil, List.length_cons, List.length_nil, List.cons_append, List.nil_append, List.append_nil, List.replicate, U.bl.injEq, U.int.injEq, exists_eq_left', Nat.reduceAdd, Nat.reduceSub, Nat.reduceMul, reduceCtorEq, false_implies, true_implies, true_and, and_true, eq_self]
  have big : decide (100000000 < many) = false := decide_eq_false (by omega)
  refine ⟨fun e => ?_, fun e => ⟨fun e1 => ⟨fun e2 => ?_, fun e2 => ?_⟩, fun e1 => ?_⟩⟩
  all_goals first
  | rw [wp_mod h1]
    simp only [i0 h, wp_div h1 (show many < 1073741824 by omega), wp_uSet h (show pyIx _ (0 : Int) = some 0 from rfl)]
    exact ⟨Sx.own, ⟨_, _, _, At.put h.lt⟩, _, rfl, hm _⟩
  | rw [wp_uSet h (show pyIx _ (2 : Int) = some 2 from rfl)]
    have g1 : At (S.put d ⟨.lst [.int a, .int b, .int 0], 0⟩) d (.lst [.int a, .int b, .int 0]) := At.put h.lt
    refine ⟨fun z => absurd (z.symm.trans big) (by decide), fun _ => ?_⟩
    show Wp (oIx (.ref d) (.int 0) (S.put d ⟨.lst [.int a, .int b, .int 0], 0⟩)) _
    simp only [i0 g1, i1 g1, wp_var, wp_ok, wp_bin, wp_c, wp_b, wp_if, wps_if, wp_and, wp_or, wp_not, wp_nil, wp_cons, wp_callC, wp_callF, wp_call0, wp_tup, wp_lst, wps_nil, wps_ret, wps_set, wps_asg, wp_gN, wp_gsNil, wp_gsCons, wp_gS, wp_yes, wp_bm, wp_cut, wp_oNo, wp_oSo, wp_neg, wp_int, wp_add, wp_sub, wp_mul, wp_cInt, wp_eqI, wp_neI, wps_seq, List.getElem?_cons_zero, List.getElem?_cons_succ, List.set_cons_zero, List.set_cons_succ, List.map_cons, List.map_nil, List.length_cons, List.length_nil, List.cons_append, List.nil_append, List.append_nil, List.replicate, U.bl.injEq, U.int.injEq, exists_eq_left', Nat.reduceAdd, Nat.reduceSub, Nat.reduceMul, reduceCtorEq, false_implies, true_implies, true_and, and_true, eq_self]
    refine ⟨by simp [small], by simp [small], ?_⟩
    rw [wp_mod (by decide)]
    rw [wp_uSet g1 (show pyIx _ (0 : Int) = some 0 from rfl)]
    have g2 := At.put (o := .lst [.int ((a * 48271 + b * 69621 + 11) % 2147483647), .int b, .int 0]) g1.lt
    show Wp (oIx (.ref d) (.int 1) (Store.put _ d ⟨.lst [.int ((a * 48271 + b * 69621 + 11) % 2147483647), .int b, .int 0], 0⟩)) _
    simp only [i1 g2, wp_var, wp_ok, wp_bin, wp_c, wp_b, wp_if, wps_if, wp_and, wp_or, wp_not, wp_nil, wp_cons, wp_callC, wp_callF, wp_call0, wp_tup, wp_lst, wps_nil, wps_ret, wps_set, wps_asg, wp_gN, wp_gsNil, wp_gsCons, wp_gS, wp_yes, wp_bm, wp_cut, wp_oNo, wp_oSo, wp_neg, wp_int, wp_add, wp_sub, wp_mul, wp_cInt, wp_eqI, wp_neI, wps_seq, List.getElem?_cons_zero, List.getElem?_cons_succ, List.set_cons_zero, List.set_cons_succ, List.map_cons, List.map_nil, List.length_cons, List.length_nil, List.cons_append, List.nil_append, List.append_nil, List.replicate, U.bl.injEq, U.int.injEq, exists_eq_left', Nat.reduceAdd, Nat.reduceSub, Nat.reduceMul, reduceCtorEq, false_implies, true_implies, true_and, and_true, eq_self]
    rw [wp_uSet g2 (show pyIx _ (1 : Int) = some 1 from rfl)]
    have g3 := At.put (o := .lst [.int ((a * 48271 + b * 69621 + 11) % 2147483647), .int (b + 1), .int 0]) g2.lt
    show Wp (oIx (.ref d) (.int 0) (Store.put _ d ⟨.lst [.int ((a * 48271 + b * 69621 + 11) % 2147483647), .int (b + 1), .int 0], 0⟩)) _
    simp only [i0 g3]
    rw [wp_div (by decide) (by decide), wp_cInt, wp_mod h1]
    exact ⟨(Sx.own.trans Sx.own).trans Sx.own, ⟨_, _, _, g3⟩, _, rfl, hm _⟩
/-! ### the mixes -/
theorem pos1 (c : Nat) : ∀ (l : List Nat) (k : Nat), (posU [c] l k).isSome = decide (c ∈ l)
  | [], k => rfl
  | x :: r, k => by
    unfold posU
    by_cases h : c = x
    · rw [if_pos (by simp [preU, h])]
      simp [h]
    · rw [if_neg (by simp [preU, h]), pos1 c r (k + 1)]
      simp [h]
/-- a sign's place -/
def sgn (c : Nat) : Int := match posU [c] L_SIGNS 0 with
  | some i => (i : Int) + 1
  | none => 74
def stepM (seed v : Int) (c : Nat) : Int := (v * (131 + seed) + sgn c) % 1000003
def foldM (seed : Int) (t : List Nat) : Int := t.foldl (stepM seed) ((seed + 7) % 1000003)
def mixF (t : List Nat) (seed : Int) : Int := (foldM seed t * (48271 + 7919 * seed) + t.length) % 1000003
/-- an answer that leaves the store as it was -/
abbrev Is (S : Store) (w : U) : U → Store → Prop := fun u S' => u = w ∧ S' = S
theorem place_of (c : Nat) (S : Store) : Wp (F_place_of [.str [c]] S) (Is S (.int (sgn c))) := by
  refine wp_call ?_
  unfold m_place_of
  simp only [tyU, mtFind, wp_lenS, sgn, wp_var, wp_ok, wp_bin, wp_c, wp_b, wp_if, wps_if, wp_and, wp_or, wp_not, wp_nil, wp_cons, wp_callC, wp_callF, wp_call0, wp_tup, wp_lst, wps_nil, wps_ret, wps_set, wps_asg, wp_gN, wp_gsNil, wp_gsCons, wp_gS, wp_yes, wp_bm, wp_cut, wp_oNo, wp_oSo, wp_neg, wp_int, wp_add, wp_sub, wp_mul, wp_cInt, wp_eqI, wp_neI, wps_seq, List.getElem?_cons_zero, List.getElem?_cons_succ, List.set_cons_zero, List.set_cons_succ, List.map_cons, List.map_nil, List.length_cons, List.length_nil, List.cons_append, List.nil_append, List.append_nil, List.replicate, U.bl.injEq, U.int.injEq, exists_eq_left', Nat.reduceAdd, Nat.reduceSub, Nat.reduceMul, reduceCtorEq, false_implies, true_implies, true_and, and_true, eq_self]
  have e1 : L_SIGNS.length = 73 := by rfl
  cases h : posU [c] L_SIGNS 0 with
  | some i => simp [Wp, Is]
  | none => simp [Wp, Is, e1, lim]
theorem take_fold {α β : Type} {f : β → α → β} {b : β} {l : List α} {i : Nat} {x : α} (h : l[i]? = some x) : (l.take (i + 1)).foldl f b = f ((l.take i).foldl f b) x := by
  rw [List.take_succ, h, List.foldl_append] <;> rfl
theorem strs_at {t : List Nat} {i : Nat} {w : U} (h : (t.map fun c => U.str [c])[i]? = some w) : ∃ c, t[i]? = some c ∧ w = .str [c] := by
  rw [List.getElem?_map] at h
  cases e : t[i]? with
  | none => rw [e] at h; cases h
  | some c => rw [e] at h; cases h; exact ⟨c, rfl, rfl⟩
theorem sm {x y : Int} (h : -18446744073709551616 < y ∧ y < 18446744073709551616) : (small x || small y) = true := by
  have : small y = true := by
    unfold small
    simp only [Bool.and_eq_true, decide_eq_true_eq]
    omega
  rw [this, Bool.or_true]
theorem sm' {x y : Int} (h : -18446744073709551616 < x ∧ x < 18446744073709551616) : (small x || small y) = true := by
  rw [Bool.or_comm]
  exact sm h
theorem mixed {t : List Nat} {seed : Int} (S : Store) (h0 : 0 ≤ seed) (h1 : seed ≤ 100000000) (ht : t.length ≤ 1000) : Wp (F_mixed [.str t, .int seed] S) (Is S (.int (mixF t seed))) := by
  refine wp_call ?_
  unfold m_mixed
  simp only [wp_mod (show (0 : Int) < 1000003 by decide), wp_var, wp_ok, wp_bin, wp_c, wp_b, wp_if, wps_if, wp_and, wp_or, wp_not, wp_nil, wp_cons, wp_callC, wp_callF, wp_call0, wp_tup, wp_lst, wps_nil, wps_ret, wps_set, wps_asg, wp_gN, wp_gsNil, wp_gsCons, wp_gS, wp_yes, wp_bm, wp_cut, wp_oNo, wp_oSo, wp_neg, wp_int, wp_add, wp_sub, wp_mul, wp_cInt, wp_eqI, wp_neI, wps_seq, List.getElem?_cons_zero, List.getElem?_cons_succ, List.set_cons_zero, List.set_cons_succ, List.map_cons, List.map_nil, List.length_cons, List.length_nil, List.cons_append, List.nil_append, List.append_nil, List.replicate, U.bl.injEq, U.int.injEq, exists_eq_left', Nat.reduceAdd, Nat.reduceSub, Nat.reduceMul, reduceCtorEq, false_implies, true_implies, true_and, and_true, eq_self]
  have hlt : decide (seed < 0) = false := decide_eq_false (by omega)
  refine ⟨fun z => absurd (z.symm.trans hlt) (by decide), fun _ => ?_⟩
  refine wps_for (t.map fun c => .str [c]) (fun i ρ S' => S' = S ∧ ∃ x, ρ = [some (.str t), some (.int seed), some (.int ((t.take i).foldl (stepM seed) ((seed + 7) % 1000003))), x]) ?_ ?_ ?_ ?_
  · refine wp_itS ?_
    simp only [wp_var, wp_ok, wp_bin, wp_c, wp_b, wp_if, wps_if, wp_and, wp_or, wp_not, wp_nil, wp_cons, wp_callC, wp_callF, wp_call0, wp_tup, wp_lst, wps_nil, wps_ret, wps_set, wps_asg, wp_gN, wp_gsNil, wp_gsCons, wp_gS, wp_yes, wp_bm, wp_cut, wp_oNo, wp_oSo, wp_neg, wp_int, wp_add, wp_sub, wp_mul, wp_cInt, wp_eqI, wp_neI, wps_seq, List.getElem?_cons_zero, List.getElem?_cons_succ, List.set_cons_zero, List.set_cons_succ, List.map_cons, List.map_nil, List.length_cons, List.length_nil, List.cons_append, List.nil_append, List.append_nil, List.replicate, U.bl.injEq, U.int.injEq, exists_eq_left', Nat.reduceAdd, Nat.reduceSub, Nat.reduceMul, reduceCtorEq, false_implies, true_implies, true_and, and_true, eq_self]
    exact ⟨t, rfl, ⟨none, rfl⟩, fun i ρ S _ => yld_v⟩
  · rw [List.length_map]
    exact Nat.lt_of_le_of_lt ht (by decide)
  · rintro i w ρ S' hw ⟨rfl, x, rfl⟩
    obtain ⟨c, hc, rfl⟩ := strs_at hw
    simp only [wp_var, wp_ok, wp_bin, wp_c, wp_b, wp_if, wps_if, wp_and, wp_or, wp_not, wp_nil, wp_cons, wp_callC, wp_callF, wp_call0, wp_tup, wp_lst, wps_nil, wps_ret, wps_set, wps_asg, wp_gN, wp_gsNil, wp_gsCons, wp_gS, wp_yes, wp_bm, wp_cut, wp_oNo, wp_oSo, wp_neg, wp_int, wp_add, wp_sub, wp_mul, wp_cInt, wp_eqI, wp_neI, wps_seq, List.getElem?_cons_zero, List.getElem?_cons_succ, List.set_cons_zero, List.set_cons_succ, List.map_cons, List.map_nil, List.length_cons, List.length_nil, List.cons_append, List.nil_append, List.append_nil, List.replicate, U.bl.injEq, U.int.injEq, exists_eq_left', Nat.reduceAdd, Nat.reduceSub, Nat.reduceMul, reduceCtorEq, false_implies, true_implies, true_and, and_true, eq_self]
    refine ⟨sm (by omega), (place_of c S').mono ?_⟩
    rintro u S2 ⟨rfl, rfl⟩
    simp only [wp_mod (show (0 : Int) < 1000003 by decide), wp_var, wp_ok, wp_bin, wp_c, wp_b, wp_if, wps_if, wp_and, wp_or, wp_not, wp_nil, wp_cons, wp_callC, wp_callF, wp_call0, wp_tup, wp_lst, wps_nil, wps_ret, wps_set, wps_asg, wp_gN, wp_gsNil, wp_gsCons, wp_gS, wp_yes, wp_bm, wp_cut, wp_oNo, wp_oSo, wp_neg, wp_int, wp_add, wp_sub, wp_mul, wp_cInt, wp_eqI, wp_neI, wps_seq, List.getElem?_cons_zero, List.getElem?_cons_succ, List.set_cons_zero, List.set_cons_succ, List.map_cons, List.map_nil, List.length_cons, List.length_nil, List.cons_append, List.nil_append, List.append_nil, List.replicate, U.bl.injEq, U.int.injEq, exists_eq_left', Nat.reduceAdd, Nat.reduceSub, Nat.reduceMul, reduceCtorEq, false_implies, true_implies, true_and, and_true, eq_self]
    exact ⟨_, by rw [take_fold hc] <;> rfl⟩
  · rintro ρ S' ⟨rfl, x, rfl⟩
    rw [List.length_map, List.take_length]
    simp only [wp_mod (show (0 : Int) < 1000003 by decide), wp_lenS, wp_var, wp_ok, wp_bin, wp_c, wp_b, wp_if, wps_if, wp_and, wp_or, wp_not, wp_nil, wp_cons, wp_callC, wp_callF, wp_call0, wp_tup, wp_lst, wps_nil, wps_ret, wps_set, wps_asg, wp_gN, wp_gsNil, wp_gsCons, wp_gS, wp_yes, wp_bm, wp_cut, wp_oNo, wp_oSo, wp_neg, wp_int, wp_add, wp_sub, wp_mul, wp_cInt, wp_eqI, wp_neI, wps_seq, List.getElem?_cons_zero, List.getElem?_cons_succ, List.set_cons_zero, List.set_cons_succ, List.map_cons, List.map_nil, List.length_cons, List.length_nil, List.cons_append, List.nil_append, List.append_nil, List.replicate, U.bl.injEq, U.int.injEq, exists_eq_left', Nat.reduceAdd, Nat.reduceSub, Nat.reduceMul, reduceCtorEq, false_implies, true_implies, true_and, and_true, eq_self]
    refine ⟨sm' (by decide), sm (by omega), ?_, rfl, rfl⟩
    exact Nat.le_trans ht (by decide)
theorem foldM_comm (seed : Int) (t : List Nat) : t.foldl (fun v c => ((131 + seed) * v + sgn c) % 1000003) ((seed + 7) % 1000003) = foldM seed t := by
  unfold foldM
  congr 1
  funext v c
  unfold stepM
  rw [Int.mul_comm]
theorem lmix {t : List Nat} {seed : Int} (S : Store) (h0 : 0 ≤ seed) (h1 : seed ≤ 100000000) (ht : t.length ≤ 1000) : Wp (F__law_mix [.str t, .int seed] S) (Is S (.int (mixF t seed))) := by
  refine wp_call ?_
  unfold m__law_mix
  simp only [wp_mod (show (0 : Int) < 1000003 by decide), wp_var, wp_ok, wp_bin, wp_c, wp_b, wp_if, wps_if, wp_and, wp_or, wp_not, wp_nil, wp_cons, wp_callC, wp_callF, wp_call0, wp_tup, wp_lst, wps_nil, wps_ret, wps_set, wps_asg, wp_gN, wp_gsNil, wp_gsCons, wp_gS, wp_yes, wp_bm, wp_cut, wp_oNo, wp_oSo, wp_neg, wp_int, wp_add, wp_sub, wp_mul, wp_cInt, wp_eqI, wp_neI, wps_seq, List.getElem?_cons_zero, List.getElem?_cons_succ, List.set_cons_zero, List.set_cons_succ, List.map_cons, List.map_nil, List.length_cons, List.length_nil, List.cons_append, List.nil_append, List.append_nil, List.replicate, U.bl.injEq, U.int.injEq, exists_eq_left', Nat.reduceAdd, Nat.reduceSub, Nat.reduceMul, reduceCtorEq, false_implies, true_implies, true_and, and_true, eq_self]
  refine wps_for (t.map fun c => .str [c]) (fun i ρ S' => S' = S ∧ ∃ x, ρ = [some (.str t), some (.int seed), some (.str L_SIGNS), some (.int ((t.take i).foldl (stepM seed) ((seed + 7) % 1000003))), x]) ?_ ?_ ?_ ?_
  · refine wp_itS ?_
    simp only [wp_var, wp_ok, wp_bin, wp_c, wp_b, wp_if, wps_if, wp_and, wp_or, wp_not, wp_nil, wp_cons, wp_callC, wp_callF, wp_call0, wp_tup, wp_lst, wps_nil, wps_ret, wps_set, wps_asg, wp_gN, wp_gsNil, wp_gsCons, wp_gS, wp_yes, wp_bm, wp_cut, wp_oNo, wp_oSo, wp_neg, wp_int, wp_add, wp_sub, wp_mul, wp_cInt, wp_eqI, wp_neI, wps_seq, List.getElem?_cons_zero, List.getElem?_cons_succ, List.set_cons_zero, List.set_cons_succ, List.map_cons, List.map_nil, List.length_cons, List.length_nil, List.cons_append, List.nil_append, List.append_nil, List.replicate, U.bl.injEq, U.int.injEq, exists_eq_left', Nat.reduceAdd, Nat.reduceSub, Nat.reduceMul, reduceCtorEq, false_implies, true_implies, true_and, and_true, eq_self]
    exact ⟨t, rfl, ⟨none, rfl⟩, fun i ρ S _ => yld_v⟩
  · rw [List.length_map]
    exact Nat.lt_of_le_of_lt ht (by decide)
  · rintro i w ρ S' hw ⟨rfl, x, rfl⟩
    obtain ⟨c, hc, rfl⟩ := strs_at hw
    have hin : oIn (.str [c]) (.str L_SIGNS) S' = .ok (.bl (posU [c] L_SIGNS 0).isSome) S' := by rw [pos1] <;> rfl
    simp only [hin, tyU, mtIndex, wp_var, wp_ok, wp_bin, wp_c, wp_b, wp_if, wps_if, wp_and, wp_or, wp_not, wp_nil, wp_cons, wp_callC, wp_callF, wp_call0, wp_tup, wp_lst, wps_nil, wps_ret, wps_set, wps_asg, wp_gN, wp_gsNil, wp_gsCons, wp_gS, wp_yes, wp_bm, wp_cut, wp_oNo, wp_oSo, wp_neg, wp_int, wp_add, wp_sub, wp_mul, wp_cInt, wp_eqI, wp_neI, wps_seq, List.getElem?_cons_zero, List.getElem?_cons_succ, List.set_cons_zero, List.set_cons_succ, List.map_cons, List.map_nil, List.length_cons, List.length_nil, List.cons_append, List.nil_append, List.append_nil, List.replicate, U.bl.injEq, U.int.injEq, exists_eq_left', Nat.reduceAdd, Nat.reduceSub, Nat.reduceMul, reduceCtorEq, false_implies, true_implies, true_and, and_true, eq_self]
    refine ⟨sm' (by omega), ?_⟩
    have fin : stepM seed ((t.take i).foldl (stepM seed) ((seed + 7) % 1000003)) c = ((131 + seed) * (t.take i).foldl (stepM seed) ((seed + 7) % 1000003) + sgn c) % 1000003 := by
      unfold stepM
      rw [Int.mul_comm]
    cases e : posU [c] L_SIGNS 0 with
    | some k =>
      have es : sgn c = k + 1 := by unfold sgn; rw [e]
      refine ⟨fun _ => ?_, fun z => nomatch z⟩
      simp only [wp_mod (show (0 : Int) < 1000003 by decide), wp_var, wp_ok, wp_bin, wp_c, wp_b, wp_if, wps_if, wp_and, wp_or, wp_not, wp_nil, wp_cons, wp_callC, wp_callF, wp_call0, wp_tup, wp_lst, wps_nil, wps_ret, wps_set, wps_asg, wp_gN, wp_gsNil, wp_gsCons, wp_gS, wp_yes, wp_bm, wp_cut, wp_oNo, wp_oSo, wp_neg, wp_int, wp_add, wp_sub, wp_mul, wp_cInt, wp_eqI, wp_neI, wps_seq, List.getElem?_cons_zero, List.getElem?_cons_succ, List.set_cons_zero, List.set_cons_succ, List.map_cons, List.map_nil, List.length_cons, List.length_nil, List.cons_append, List.nil_append, List.append_nil, List.replicate, U.bl.injEq, U.int.injEq, exists_eq_left', Nat.reduceAdd, Nat.reduceSub, Nat.reduceMul, reduceCtorEq, false_implies, true_implies, true_and, and_true, eq_self]
      refine ⟨by decide, some (.str [c]), ?_⟩
      rw [take_fold hc, fin, es] <;> rfl
    | none =>
      have es : sgn c = 74 := by unfold sgn; rw [e]
      refine ⟨fun z => (nomatch z), fun _ => ?_⟩
      simp only [wp_mod (show (0 : Int) < 1000003 by decide), wp_var, wp_ok, wp_bin, wp_c, wp_b, wp_if, wps_if, wp_and, wp_or, wp_not, wp_nil, wp_cons, wp_callC, wp_callF, wp_call0, wp_tup, wp_lst, wps_nil, wps_ret, wps_set, wps_asg, wp_gN, wp_gsNil, wp_gsCons, wp_gS, wp_yes, wp_bm, wp_cut, wp_oNo, wp_oSo, wp_neg, wp_int, wp_add, wp_sub, wp_mul, wp_cInt, wp_eqI, wp_neI, wps_seq, List.getElem?_cons_zero, List.getElem?_cons_succ, List.set_cons_zero, List.set_cons_succ, List.map_cons, List.map_nil, List.length_cons, List.length_nil, List.cons_append, List.nil_append, List.append_nil, List.replicate, U.bl.injEq, U.int.injEq, exists_eq_left', Nat.reduceAdd, Nat.reduceSub, Nat.reduceMul, reduceCtorEq, false_implies, true_implies, true_and, and_true, eq_self]
      refine ⟨some (.str [c]), ?_⟩
      rw [take_fold hc, fin, es] <;> rfl
  · rintro ρ S' ⟨rfl, x, rfl⟩
    rw [List.length_map, List.take_length]
    simp only [wp_mod (show (0 : Int) < 1000003 by decide), wp_lenS, wp_var, wp_ok, wp_bin, wp_c, wp_b, wp_if, wps_if, wp_and, wp_or, wp_not, wp_nil, wp_cons, wp_callC, wp_callF, wp_call0, wp_tup, wp_lst, wps_nil, wps_ret, wps_set, wps_asg, wp_gN, wp_gsNil, wp_gsCons, wp_gS, wp_yes, wp_bm, wp_cut, wp_oNo, wp_oSo, wp_neg, wp_int, wp_add, wp_sub, wp_mul, wp_cInt, wp_eqI, wp_neI, wps_seq, List.getElem?_cons_zero, List.getElem?_cons_succ, List.set_cons_zero, List.set_cons_succ, List.map_cons, List.map_nil, List.length_cons, List.length_nil, List.cons_append, List.nil_append, List.append_nil, List.replicate, U.bl.injEq, U.int.injEq, exists_eq_left', Nat.reduceAdd, Nat.reduceSub, Nat.reduceMul, reduceCtorEq, false_implies, true_implies, true_and, and_true, eq_self]
    refine ⟨sm' (by decide), sm' (by omega), ?_, ?_, rfl⟩
    · exact Nat.le_trans ht (by decide)
    · unfold mixF foldM
      rw [Int.mul_comm (48271 + 7919 * seed)]
end K01
/-! text K01q -/
namespace K01
open Sm Pl
theorem spot_of {t : List Nat} {many seed : Int} (S : Store) (h0 : 0 ≤ seed) (h1 : seed ≤ 100000000) (ht : t.length ≤ 1000) (hm : 0 < many) : Wp (F_spot_of [.str t, .int many, .int seed] S) (Is S (.int (mixF t seed % many))) := by
  refine wp_call ?_
  unfold m_spot_of
  simp only [wp_var, wp_ok, wp_bin, wp_c, wp_b, wp_if, wps_if, wp_and, wp_or, wp_not, wp_nil, wp_cons, wp_callC, wp_callF, wp_call0, wp_tup, wp_lst, wps_nil, wps_ret, wps_set, wps_asg, wp_gN, wp_gsNil, wp_gsCons, wp_gS, wp_yes, wp_bm, wp_cut, wp_oNo, wp_oSo, wp_neg, wp_int, wp_add, wp_sub, wp_mul, wp_cInt, wp_eqI, wp_neI, wps_seq, List.getElem?_cons_zero, List.getElem?_cons_succ, List.set_cons_zero, List.set_cons_succ, List.map_cons, List.map_nil, List.length_cons, List.length_nil, List.cons_append, List.nil_append, List.append_nil, List.replicate, U.bl.injEq, U.int.injEq, exists_eq_left', Nat.reduceAdd, Nat.reduceSub, Nat.reduceMul, reduceCtorEq, false_implies, true_implies, true_and, and_true, eq_self]
  refine ⟨fun z => absurd (of_decide_eq_true z) (by omega), fun _ => (mixed S h0 h1 ht).mono ?_⟩
  rintro u S2 ⟨rfl, rfl⟩
  rw [wp_mod hm]
  exact ⟨rfl, rfl⟩
def stepF (t : List Nat) (many seed : Int) : Int := if 2 < many then mixF t (seed + 1) % (many - 1) + 1 else 1
theorem two_mixes {t : List Nat} {many seed : Int} (S : Store) (h0 : 0 ≤ seed) (h1 : seed ≤ 10000000) (ht : t.length ≤ 1000) (hm : 0 < many) : Wp (F_two_mixes [.str t, .int many, .int seed] S) (Is S (.tup [.int (mixF t seed % many), .int (stepF t many seed)])) := by
  refine wp_call ?_
  unfold m_two_mixes
  simp only [wp_var, wp_ok, wp_bin, wp_c, wp_b, wp_if, wps_if, wp_and, wp_or, wp_not, wp_nil, wp_cons, wp_callC, wp_callF, wp_call0, wp_tup, wp_lst, wps_nil, wps_ret, wps_set, wps_asg, wp_gN, wp_gsNil, wp_gsCons, wp_gS, wp_yes, wp_bm, wp_cut, wp_oNo, wp_oSo, wp_neg, wp_int, wp_add, wp_sub, wp_mul, wp_cInt, wp_eqI, wp_neI, wps_seq, List.getElem?_cons_zero, List.getElem?_cons_succ, List.set_cons_zero, List.set_cons_succ, List.map_cons, List.map_nil, List.length_cons, List.length_nil, List.cons_append, List.nil_append, List.append_nil, List.replicate, U.bl.injEq, U.int.injEq, exists_eq_left', Nat.reduceAdd, Nat.reduceSub, Nat.reduceMul, reduceCtorEq, false_implies, true_implies, true_and, and_true, eq_self]
  refine (spot_of S h0 (by omega) ht hm).mono ?_
  rintro u S2 ⟨rfl, rfl⟩
  refine ⟨fun z => ?_, fun z => ?_⟩
  · have z := of_decide_eq_true z
    refine (mixed S2 (by omega) (by omega) ht).mono ?_
    rintro u S3 ⟨rfl, rfl⟩
    rw [wp_mod (by omega)]
    refine ⟨by decide, ?_, rfl⟩
    unfold stepF
    rw [if_pos z]
  · have z := of_decide_eq_false z
    refine ⟨by decide, ?_, rfl⟩
    unfold stepF
    rw [if_neg z]
theorem mix_number {n seed : Int} (S : Store) (h0 : 0 ≤ seed) (h1 : seed ≤ 100000000) (hn : n.natAbs.log2 < 1920) (ht : (decU n).length ≤ 1000) : Wp (F_mix_number [.int n, .int seed] S) (Is S (.int (mixF (decU n) seed))) := by
  refine wp_call ?_
  unfold m_mix_number
  simp only [wp_var, wp_ok, wp_bin, wp_c, wp_b, wp_if, wps_if, wp_and, wp_or, wp_not, wp_nil, wp_cons, wp_callC, wp_callF, wp_call0, wp_tup, wp_lst, wps_nil, wps_ret, wps_set, wps_asg, wp_gN, wp_gsNil, wp_gsCons, wp_gS, wp_yes, wp_bm, wp_cut, wp_oNo, wp_oSo, wp_neg, wp_int, wp_add, wp_sub, wp_mul, wp_cInt, wp_eqI, wp_neI, wps_seq, List.getElem?_cons_zero, List.getElem?_cons_succ, List.set_cons_zero, List.set_cons_succ, List.map_cons, List.map_nil, List.length_cons, List.length_nil, List.cons_append, List.nil_append, List.append_nil, List.replicate, U.bl.injEq, U.int.injEq, exists_eq_left', Nat.reduceAdd, Nat.reduceSub, Nat.reduceMul, reduceCtorEq, false_implies, true_implies, true_and, and_true, eq_self]
  show Wp (if n.natAbs.log2 < 1920 then _ else _) _
  rw [if_pos hn]
  exact mixed S h0 h1 ht
/-- a tuple made of a range by a generator expression that leaves the store as it is -/
theorem spots_of {t : List Nat} {times many seed : Int} (S : Store) (h0 : 0 ≤ seed) (h1 : seed ≤ 10000000) (ht : t.length ≤ 1000) (hm : 0 < many) (hs : many ≤ 1000) (hk : 0 < times) (hk2 : times ≤ 1000) :
    Wp (F_spots_of [.str t, .int times, .int many, .int seed] S) (Is S (.tup ((List.range times.toNat).map fun k : Nat => U.int ((mixF t seed % many + (k : Int) * stepF t many seed) % many)))) := by
  refine wp_call ?_
  unfold m_spots_of
  simp only [wp_var, wp_ok, wp_bin, wp_c, wp_b, wp_if, wps_if, wp_and, wp_or, wp_not, wp_nil, wp_cons, wp_callC, wp_callF, wp_call0, wp_tup, wp_lst, wps_nil, wps_ret, wps_set, wps_asg, wp_gN, wp_gsNil, wp_gsCons, wp_gS, wp_yes, wp_bm, wp_cut, wp_oNo, wp_oSo, wp_neg, wp_int, wp_add, wp_sub, wp_mul, wp_cInt, wp_eqI, wp_neI, wps_seq, List.getElem?_cons_zero, List.getElem?_cons_succ, List.set_cons_zero, List.set_cons_succ, List.map_cons, List.map_nil, List.length_cons, List.length_nil, List.cons_append, List.nil_append, List.append_nil, List.replicate, U.bl.injEq, U.int.injEq, exists_eq_left', Nat.reduceAdd, Nat.reduceSub, Nat.reduceMul, reduceCtorEq, false_implies, true_implies, true_and, and_true, eq_self]
  refine ⟨fun z => absurd (of_decide_eq_true z) (by omega), fun _ => (two_mixes S h0 h1 ht hm).mono ?_⟩
  rintro u S2 ⟨rfl, rfl⟩
  rw [wp_gT]
  refine ⟨rfl, ?_⟩
  rw [wp_noX]
  simp only [wp_noX, wp_var, wp_ok, wp_bin, wp_c, wp_b, wp_if, wps_if, wp_and, wp_or, wp_not, wp_nil, wp_cons, wp_callC, wp_callF, wp_call0, wp_tup, wp_lst, wps_nil, wps_ret, wps_set, wps_asg, wp_gN, wp_gsNil, wp_gsCons, wp_gS, wp_yes, wp_bm, wp_cut, wp_oNo, wp_oSo, wp_neg, wp_int, wp_add, wp_sub, wp_mul, wp_cInt, wp_eqI, wp_neI, wps_seq, List.getElem?_cons_zero, List.getElem?_cons_succ, List.set_cons_zero, List.set_cons_succ, List.map_cons, List.map_nil, List.length_cons, List.length_nil, List.cons_append, List.nil_append, List.append_nil, List.replicate, U.bl.injEq, U.int.injEq, exists_eq_left', Nat.reduceAdd, Nat.reduceSub, Nat.reduceMul, reduceCtorEq, false_implies, true_implies, true_and, and_true, eq_self]
  refine wp_gx ((List.range times.toNat).map fun i : Nat => U.int (0 + i)) (fun i k ρ S' => S' = S2 ∧ k = (List.range i).map (fun k : Nat => U.int ((mixF t seed % many + (k : Int) * stepF t many seed) % many)) ∧ ∃ x, ρ = [x, some (.int many), some (.int (mixF t seed % many)), some (.int (stepF t many seed))]) ?_ ?_ ?_ ?_
  · refine wp_range1 ?_
    simp only [wp_var, wp_ok, wp_bin, wp_c, wp_b, wp_if, wps_if, wp_and, wp_or, wp_not, wp_nil, wp_cons, wp_callC, wp_callF, wp_call0, wp_tup, wp_lst, wps_nil, wps_ret, wps_set, wps_asg, wp_gN, wp_gsNil, wp_gsCons, wp_gS, wp_yes, wp_bm, wp_cut, wp_oNo, wp_oSo, wp_neg, wp_int, wp_add, wp_sub, wp_mul, wp_cInt, wp_eqI, wp_neI, wps_seq, List.getElem?_cons_zero, List.getElem?_cons_succ, List.set_cons_zero, List.set_cons_succ, List.map_cons, List.map_nil, List.length_cons, List.length_nil, List.cons_append, List.nil_append, List.append_nil, List.replicate, U.bl.injEq, U.int.injEq, exists_eq_left', Nat.reduceAdd, Nat.reduceSub, Nat.reduceMul, reduceCtorEq, false_implies, true_implies, true_and, and_true, eq_self]
    refine ⟨times, rfl, by unfold inR; simp; omega, (by first | exact ⟨rfl, none, rfl⟩ | exact ⟨none, rfl⟩ | exact ⟨rfl, rfl, none, rfl⟩), fun i k ρ S _ => yld_r⟩
  · rw [List.length_map, List.length_range]
    have : fuel = 100000 := rfl
    omega
  · rintro i w k ρ S' hw ⟨rfl, rfl, x, rfl⟩
    rw [List.getElem?_map] at hw
    by_cases hi : i < times.toNat
    · rw [List.getElem?_range hi] at hw
      cases hw
      simp only [wp_var, wp_ok, wp_bin, wp_c, wp_b, wp_if, wps_if, wp_and, wp_or, wp_not, wp_nil, wp_cons, wp_callC, wp_callF, wp_call0, wp_tup, wp_lst, wps_nil, wps_ret, wps_set, wps_asg, wp_gN, wp_gsNil, wp_gsCons, wp_gS, wp_yes, wp_bm, wp_cut, wp_oNo, wp_oSo, wp_neg, wp_int, wp_add, wp_sub, wp_mul, wp_cInt, wp_eqI, wp_neI, wps_seq, List.getElem?_cons_zero, List.getElem?_cons_succ, List.set_cons_zero, List.set_cons_succ, List.map_cons, List.map_nil, List.length_cons, List.length_nil, List.cons_append, List.nil_append, List.append_nil, List.replicate, U.bl.injEq, U.int.injEq, exists_eq_left', Nat.reduceAdd, Nat.reduceSub, Nat.reduceMul, reduceCtorEq, false_implies, true_implies, true_and, and_true, eq_self]
      have b : 0 ≤ mixF t seed % many := Int.emod_nonneg _ (by omega)
      have st : 0 ≤ stepF t many seed ∧ stepF t many seed ≤ 1000 := by
        unfold stepF
        split
        · have a1 := Int.emod_nonneg (mixF t (seed + 1)) (show many - 1 ≠ 0 by omega)
          have a2 := Int.emod_lt_of_pos (mixF t (seed + 1)) (show 0 < many - 1 by omega)
          omega
        · omega
      refine ⟨sm (by omega), ?_⟩
      rw [wp_mod hm]
      refine .inl ⟨_, if_pos (by rw [List.length_map, List.length_range, lim]; omega), rfl, ?_, _, rfl⟩
      rw [List.range_succ, List.map_append, Int.zero_add]
      rfl
    · rw [List.getElem?_eq_none (by rw [List.length_range]; omega)] at hw
      cases hw
  · rintro k ρ S' ⟨rfl, rfl, _⟩
    rw [List.length_map, List.length_range]
    exact ⟨rfl, rfl⟩
/-! ### texts rolled -/
theorem strs_of : ∀ {us : List U}, (∀ x ∈ us, ∃ c, x = .str [c] ∧ c < 1000) → ∃ t : List Nat, strsU us = some (t.map fun c => [c]) ∧ t.length = us.length ∧ Tx t
  | [], _ => ⟨[], rfl, rfl, fun _ h => nomatch h⟩
  | x :: us, h => by
    obtain ⟨t, e, l, tx⟩ := strs_of fun y hy => h y (List.mem_cons_of_mem _ hy)
    obtain ⟨c, rfl, hc⟩ := h x (List.mem_cons_self ..)
    refine ⟨c :: t, ?_, by simp [l], fun y hy => ?_⟩
    · simp only [strsU, e, List.map_cons]
    · rcases List.mem_cons.mp hy with rfl | hy
      · omega
      · exact tx y hy
theorem joinL_ones : ∀ t : List Nat, TL.joinL [] (t.map fun c => [c]) = t
  | [] => rfl
  | [c] => rfl
  | c :: d :: t => by
    have := joinL_ones (d :: t)
    simp only [List.map_cons] at this ⊢
    unfold TL.joinL
    rw [this] <;> rfl
theorem wp_joined {S : Store} {n : Nat} {us : List U} {Q : U → Store → Prop} (a : At S n (.lst us)) (h : ∀ x ∈ us, ∃ c, x = .str [c] ∧ c < 1000) (hl : us.length ≤ 1000) (hq : ∀ t : List Nat, t.length = us.length → Tx t → Q (.str t) S) : Wp (mtJoin (.str []) [.ref n] S) Q := by
  obtain ⟨t, e, l, tx⟩ := strs_of h
  have e1 : seqU S (.ref n) = some us := by simp only [seqU, lstU, a.get]
  simp only [mtJoin, e1, e]
  have e2 : ((t.map fun c => [c]).map List.length).sum = t.length := by
    rw [List.map_map]
    have : (List.length ∘ fun c : Nat => [c]) = fun _ => 1 := by funext c; rfl
    rw [this]
    clear e l tx
    induction t with
    | nil => rfl
    | cons c t ih => simp [ih, Nat.add_comm]
  rw [e2, if_pos (by simp [lim]; omega), joinL_ones]
  exact hq t l tx
/-- a sign of a text, by a rolled place -/
theorem wp_sign {S : Store} {l : List Nat} {r : Int} {Q : U → Store → Prop} (h0 : 0 ≤ r) (h1 : r < l.length) (hl : l.length ≤ 1000) (hc : ∀ c ∈ l, c < 1000) (hq : ∀ c, c < 1000 → Q (.str [c]) S) : Wp (oIx (.str l) (.int r) S) Q := by
  show Wp (if l.length ≤ lim then (match atU l r with
    | some c => .ok (.str [c]) S
    | none => .bad) else .bad) Q
  rw [if_pos (Nat.le_trans hl (by decide))]
  have hr : r.toNat < l.length := by omega
  have e : atU l r = some l[r.toNat] := by
    unfold atU pyIx
    rw [if_pos h0, if_pos h1]
    exact List.getElem?_eq_getElem hr
  rw [e]
  exact hq _ (hc _ (List.getElem_mem hr))
def Texted (d m : Nat) (S : Store) (u : U) (S' : Store) : Prop := Sx (Only d) S S' ∧ Dice d S' ∧ ∃ t, u = .str t ∧ t.length ≤ m ∧ Tx t
/-- a text of rolled signs -/
theorem rolled_text {d : Nat} {S : Store} {ρ : Env} {vs : List Nat} {mi : MI} {l : List Nat} {i m : Nat} {j : Nat} (h : Dice d S) (hj : (((wipeU ρ vs).set i (some (U.int 0))))[j]? = some (some (.ref d)))
    (hjj : ∀ w : U, ((wipeU ρ vs).set i (some w))[j]? = some (some (.ref d))) (hm : m ≤ 100) (hl0 : 0 < l.length) (hl : l.length ≤ 100) (hc : ∀ c ∈ l, c < 1000)
    (hi : Wp (mi ρ S) fun p S1 => ∃ n : Nat, n ≤ m ∧ p = (srcR 0 n, none) ∧ Sx (Only d) S S1 ∧ Dice d S1) {k : Int} (hk : k = l.length) :
    Wp (mBm "str" mtJoin (mC (.str [])) (mCons (mLc mi (gN i) mYes (mBin oIx (mC (.str l)) (mCall F__law_roll 2 [] (mCons (mVar j) (mCons (mC (.int k)) mNil)))) vs) mNil) ρ S) (Texted d m S) := by
  subst hk
  obtain ⟨p, S1, e1, n, hn, rfl, x, D⟩ := wp_ex hi
  rw [wp_bm]
  simp only [tyU, wp_var, wp_ok, wp_bin, wp_c, wp_b, wp_if, wps_if, wp_and, wp_or, wp_not, wp_nil, wp_cons, wp_callC, wp_callF, wp_call0, wp_tup, wp_lst, wps_nil, wps_ret, wps_set, wps_asg, wp_gN, wp_gsNil, wp_gsCons, wp_gS, wp_yes, wp_bm, wp_cut, wp_oNo, wp_oSo, wp_neg, wp_int, wp_add, wp_sub, wp_mul, wp_cInt, wp_eqI, wp_neI, wps_seq, List.getElem?_cons_zero, List.getElem?_cons_succ, List.set_cons_zero, List.set_cons_succ, List.map_cons, List.map_nil, List.length_cons, List.length_nil, List.cons_append, List.nil_append, List.append_nil, List.replicate, U.bl.injEq, U.int.injEq, exists_eq_left', Nat.reduceAdd, Nat.reduceSub, Nat.reduceMul, reduceCtorEq, false_implies, true_implies, true_and, and_true, eq_self]
  refine ⟨by decide, ?_⟩
  refine Wp.mono (wp_lcJ ((List.range n).map fun i : Nat => U.int (0 + i)) (Only d) (Dice d) (fun u => ∃ c, u = .str [c] ∧ c < 1000) (fun S' o h => h.new) (fun S' i c hi hd => hd.put (by have := h.lt; omega)) (fun i hi => by cases hi; exact h.lt) ?_ ?_ ?_) ?_
  · rw [e1]
    exact ⟨rfl, x, D, fun S' _ => yld_r⟩
  · intro i' w S' hw x' D'
    simp only [wp_var, wp_ok, wp_bin, wp_c, wp_b, wp_if, wps_if, wp_and, wp_or, wp_not, wp_nil, wp_cons, wp_callC, wp_callF, wp_call0, wp_tup, wp_lst, wps_nil, wps_ret, wps_set, wps_asg, wp_gN, wp_gsNil, wp_gsCons, wp_gS, wp_yes, wp_bm, wp_cut, wp_oNo, wp_oSo, wp_neg, wp_int, wp_add, wp_sub, wp_mul, wp_cInt, wp_eqI, wp_neI, wps_seq, List.getElem?_cons_zero, List.getElem?_cons_succ, List.set_cons_zero, List.set_cons_succ, List.map_cons, List.map_nil, List.length_cons, List.length_nil, List.cons_append, List.nil_append, List.append_nil, List.replicate, U.bl.injEq, U.int.injEq, exists_eq_left', Nat.reduceAdd, Nat.reduceSub, Nat.reduceMul, reduceCtorEq, false_implies, true_implies, true_and, and_true, eq_self]
    rw [hjj w]
    show Wp (F__law_roll [.ref d, .int l.length] S') _
    refine (roll D' (by omega) (by omega)).mono ?_
    rintro u S2 ⟨x2, D2, r, rfl, r0, r1⟩
    exact wp_sign r0 r1 (by omega) hc fun c hc => ⟨x2, D2, c, rfl, hc⟩
  · rw [List.length_map, List.length_range]
    exact Nat.lt_of_le_of_lt (Nat.le_trans hn hm) (by decide)
  · rintro u S' ⟨a, us, rfl, ha, at_, hl2, hv, x2, D2⟩
    rw [List.length_map, List.length_range] at hl2
    exact wp_joined at_ hv (by omega) fun t ht tx => ⟨x2, D2, t, rfl, by omega, tx⟩
theorem law_key {d : Nat} {S : Store} (h : Dice d S) : Wp (F__law_key [.ref d] S) (Texted d 3 S) := by
  refine wp_call ?_
  unfold m__law_key
  rw [wps_ret]
  refine rolled_text h rfl (fun w => rfl) (by decide) (by decide) (by decide) (by decide) ?_ rfl
  refine wp_range1 ?_
  simp only [wp_var, wp_ok, wp_bin, wp_c, wp_b, wp_if, wps_if, wp_and, wp_or, wp_not, wp_nil, wp_cons, wp_callC, wp_callF, wp_call0, wp_tup, wp_lst, wps_nil, wps_ret, wps_set, wps_asg, wp_gN, wp_gsNil, wp_gsCons, wp_gS, wp_yes, wp_bm, wp_cut, wp_oNo, wp_oSo, wp_neg, wp_int, wp_add, wp_sub, wp_mul, wp_cInt, wp_eqI, wp_neI, wps_seq, List.getElem?_cons_zero, List.getElem?_cons_succ, List.set_cons_zero, List.set_cons_succ, List.map_cons, List.map_nil, List.length_cons, List.length_nil, List.cons_append, List.nil_append, List.append_nil, List.replicate, U.bl.injEq, U.int.injEq, exists_eq_left', Nat.reduceAdd, Nat.reduceSub, Nat.reduceMul, reduceCtorEq, false_implies, true_implies, true_and, and_true, eq_self]
  refine (roll h (by decide) (by decide)).mono ?_
  rintro u S2 ⟨x2, D2, r, rfl, r0, r1⟩
  rw [wp_add]
  exact ⟨_, rfl, by unfold inR; simp; omega, (1 + r).toNat, by omega, rfl, x2, D2⟩
end K01
/-! text K01r -/
namespace K01
open Sm Pl
/-! ### the rounds -/
theorem law_dice {n : Int} (S : Store) : Wp (F__law_dice [.int n] S) fun u S' => ∃ d, u = .ref d ∧ S.n ≤ d ∧ Sx No S S' ∧ Dice d S' := by
  refine wp_call ?_
  unfold m__law_dice
  have fin : ∀ x y z : Int, ∃ d, U.ref S.n = .ref d ∧ S.n ≤ d ∧ Sx No S (S.new (.lst [.int x, .int y, .int z])) ∧ Dice d (S.new (.lst [.int x, .int y, .int z])) := fun x y z => ⟨_, rfl, Nat.le_refl _, Sx.new, x, y, z, At.new⟩
  rw [wps_seq, wps_if, wp_b]
  have c1 : Wp (mChain (oInt fun i j => decide (i < j)) (oInt fun i j => decide (i < j)) (mBin oSub (mC (.int 0)) (mC (.int 10))) (mVar 0) (mC (.int 10)) ([U.int n].map some ++ List.replicate (1 - [U.int n].length) none) S) fun w S' => S' = S ∧ ∃ b, w = .bl b := by
    unfold mChain
    simp only [wp_bind, wp_var, wp_ok, wp_bin, wp_c, wp_b, wp_if, wps_if, wp_and, wp_or, wp_not, wp_nil, wp_cons, wp_callC, wp_callF, wp_call0, wp_tup, wp_lst, wps_nil, wps_ret, wps_set, wps_asg, wp_gN, wp_gsNil, wp_gsCons, wp_gS, wp_yes, wp_bm, wp_cut, wp_oNo, wp_oSo, wp_neg, wp_int, wp_add, wp_sub, wp_mul, wp_cInt, wp_eqI, wp_neI, wps_seq, List.getElem?_cons_zero, List.getElem?_cons_succ, List.set_cons_zero, List.set_cons_succ, List.map_cons, List.map_nil, List.length_cons, List.length_nil, List.cons_append, List.nil_append, List.append_nil, List.replicate, U.bl.injEq, U.int.injEq, exists_eq_left', Nat.reduceAdd, Nat.reduceSub, Nat.reduceMul, reduceCtorEq, false_implies, true_implies, true_and, and_true, eq_self]
    cases e : decide ((0 : Int) - 10 < n) with
    | false =>
      simp only [e]
      exact ⟨rfl, _, rfl⟩
    | true =>
      simp only [e, wp_bind, wp_c]
      exact ⟨rfl, _, rfl⟩
  refine c1.mono ?_
  rintro w S' ⟨rfl, b, rfl⟩
  refine ⟨b, rfl, fun _ => ?_, fun _ => ?_⟩
  · simp only [cAbs, wp_var, wp_ok, wp_bin, wp_c, wp_b, wp_if, wps_if, wp_and, wp_or, wp_not, wp_nil, wp_cons, wp_callC, wp_callF, wp_call0, wp_tup, wp_lst, wps_nil, wps_ret, wps_set, wps_asg, wp_gN, wp_gsNil, wp_gsCons, wp_gS, wp_yes, wp_bm, wp_cut, wp_oNo, wp_oSo, wp_neg, wp_int, wp_add, wp_sub, wp_mul, wp_cInt, wp_eqI, wp_neI, wps_seq, List.getElem?_cons_zero, List.getElem?_cons_succ, List.set_cons_zero, List.set_cons_succ, List.map_cons, List.map_nil, List.length_cons, List.length_nil, List.cons_append, List.nil_append, List.append_nil, List.replicate, U.bl.injEq, U.int.injEq, exists_eq_left', Nat.reduceAdd, Nat.reduceSub, Nat.reduceMul, reduceCtorEq, false_implies, true_implies, true_and, and_true, eq_self]
    exact ⟨by decide, fin _ _ _⟩
  · have pw : oPow (.int 10) (.int 18) S' = .ok (.int (10 ^ 18)) S' := by rfl
    simp only [pw, wp_mod (show (0 : Int) < 1009 by decide), cInt, wp_var, wp_ok, wp_bin, wp_c, wp_b, wp_if, wps_if, wp_and, wp_or, wp_not, wp_nil, wp_cons, wp_callC, wp_callF, wp_call0, wp_tup, wp_lst, wps_nil, wps_ret, wps_set, wps_asg, wp_gN, wp_gsNil, wp_gsCons, wp_gS, wp_yes, wp_bm, wp_cut, wp_oNo, wp_oSo, wp_neg, wp_int, wp_add, wp_sub, wp_mul, wp_cInt, wp_eqI, wp_neI, wps_seq, List.getElem?_cons_zero, List.getElem?_cons_succ, List.set_cons_zero, List.set_cons_succ, List.map_cons, List.map_nil, List.length_cons, List.length_nil, List.cons_append, List.nil_append, List.append_nil, List.replicate, U.bl.injEq, U.int.injEq, exists_eq_left', Nat.reduceAdd, Nat.reduceSub, Nat.reduceMul, reduceCtorEq, false_implies, true_implies, true_and, and_true, eq_self]
    exact ⟨by decide, fin _ _ _⟩
def Rounds (m : Nat) (S : Store) (u : U) (S' : Store) : Prop := ∃ (a : Nat) (ds : List Nat), u = .ref a ∧ S.n ≤ a ∧ Sx No S S' ∧ At S' a (.lst (ds.map U.ref)) ∧ ds.length ≤ m ∧ ∀ d ∈ ds, a < d ∧ Dice d S'
theorem law_rounds {u : U} {S : Store} {ns : List Int} {most : Int} (hu : lstU S u = some (ns.map U.int)) (hm : 1 ≤ most) (hm2 : most ≤ 64) : Wp (F__law_rounds [u, .int most] S) (Rounds most.toNat S) := by
  refine wp_call ?_
  unfold m__law_rounds
  rw [wps_seq, wps_set]
  simp only [wp_cut, wp_var, wp_ok, wp_bin, wp_c, wp_b, wp_if, wps_if, wp_and, wp_or, wp_not, wp_nil, wp_cons, wp_callC, wp_callF, wp_call0, wp_tup, wp_lst, wps_nil, wps_ret, wps_set, wps_asg, wp_gN, wp_gsNil, wp_gsCons, wp_gS, wp_yes, wp_bm, wp_cut, wp_oNo, wp_oSo, wp_neg, wp_int, wp_add, wp_sub, wp_mul, wp_cInt, wp_eqI, wp_neI, wps_seq, List.getElem?_cons_zero, List.getElem?_cons_succ, List.set_cons_zero, List.set_cons_succ, List.map_cons, List.map_nil, List.length_cons, List.length_nil, List.cons_append, List.nil_append, List.append_nil, List.replicate, U.bl.injEq, U.int.injEq, exists_eq_left', Nat.reduceAdd, Nat.reduceSub, Nat.reduceMul, reduceCtorEq, false_implies, true_implies, true_and, and_true, eq_self]
  have cut : oCut u none (some most) S = .ok (.ref S.n) (S.new (.lst (cutU (ns.map U.int) none (some most)))) := by
    unfold oCut
    split
    · cases hu
    · cases hu
    · rw [hu]
  rw [cut, wp_ok]
  have ec : cutU (ns.map U.int) none (some most) = (cutU ns none (some most)).map U.int := by
    unfold cutU
    rw [List.length_map, ← List.map_drop, ← List.map_take]
  rw [ec]
  have lc : (cutU ns none (some most)).length ≤ most.toNat := by
    obtain ⟨m, rfl⟩ : ∃ m : Nat, most = (m : Int) := ⟨_, (Int.toNat_of_nonneg (by omega)).symm⟩
    unfold cutU
    rw [List.length_take, List.length_drop, HT.sIx_none, HT.sIx_nat]
    omega
  generalize cutU ns none (some most) = cs at lc
  have a1 : At (S.new (.lst (cs.map U.int))) S.n (.lst (cs.map U.int)) := At.new
  have x1 : Sx No S (S.new (.lst (cs.map U.int))) := Sx.new
  generalize S.new (.lst (cs.map U.int)) = S1 at a1 x1
  generalize S.n = a at a1
  refine ⟨by decide, ?_⟩
  have a2 : At (S1.new (.lst [])) S1.n (.lst (([] : List Int).map U.int)) := At.new
  rw [wp_eqD (toD_ints (a1.sx (P := No) Sx.new)) (toD_ints a2) shp_ints shp_ints]
  have body : ∀ (b : Nat) (S2 : Store) (cs : List Int), cs.length ≤ most.toNat → Sx No S S2 → At S2 b (.lst (cs.map U.int)) → Wp (mLc (mIt (mVar 2)) (gN 3) mYes (mCall F__law_dice 1 [] (mCons (mVar 3) mNil)) [3] [some u, some (.int most), some (.ref b), none] S2) (Rounds most.toNat S) := by
    intro b S2 cs lc x2 ab
    refine wp_lc (cs.map U.int) (fun i acc S' => Sx No S2 S' ∧ S2.n < S'.n ∧ ∃ ds : List Nat, acc = ds.map U.ref ∧ ds.length ≤ i ∧ ∀ d ∈ ds, S2.n < d ∧ Dice d S') ?_ (by rw [List.length_map]; exact by have : fuel = 100000 := rfl; omega)
    refine wp_itL ?_
    simp only [wp_var, wp_ok, wp_bin, wp_c, wp_b, wp_if, wps_if, wp_and, wp_or, wp_not, wp_nil, wp_cons, wp_callC, wp_callF, wp_call0, wp_tup, wp_lst, wps_nil, wps_ret, wps_set, wps_asg, wp_gN, wp_gsNil, wp_gsCons, wp_gS, wp_yes, wp_bm, wp_cut, wp_oNo, wp_oSo, wp_neg, wp_int, wp_add, wp_sub, wp_mul, wp_cInt, wp_eqI, wp_neI, wps_seq, List.getElem?_cons_zero, List.getElem?_cons_succ, List.set_cons_zero, List.set_cons_succ, List.map_cons, List.map_nil, List.length_cons, List.length_nil, List.cons_append, List.nil_append, List.append_nil, List.replicate, U.bl.injEq, U.int.injEq, exists_eq_left', Nat.reduceAdd, Nat.reduceSub, Nat.reduceMul, reduceCtorEq, false_implies, true_implies, true_and, and_true, eq_self]
    refine ⟨b, cs.map U.int, rfl, ab, ⟨Sx.new, Nat.lt_succ_self _, [], rfl, Nat.le_refl _, fun _ h => nomatch h⟩, fun i acc S' h => yld_l (ab.sx h.1).get, ?_, ?_⟩
    · rintro i w acc S' hw ⟨x3, n3, ds, rfl, l3, h3⟩ aD hl
      rw [List.getElem?_map] at hw
      cases e : cs[i]? with
      | none => rw [e] at hw; cases hw
      | some c =>
        rw [e] at hw
        cases hw
        refine (law_dice S').mono ?_
        rintro v S4 ⟨d, rfl, ge, x4, D⟩
        have nd : S2.n < d := Nat.lt_of_lt_of_le n3 ge
        refine ⟨aD.sx x4, Sx.put_above (x3.trans x4) (Nat.le_refl _), Nat.lt_of_lt_of_le n3 x4.n, ds ++ [d], by rw [List.map_append] <;> rfl, by rw [List.length_append]; simp; omega, fun d' hd => ?_⟩
        rcases List.mem_append.mp hd with hd | hd
        · exact ⟨(h3 d' hd).1, ((h3 d' hd).2.sx x4).put (by have := (h3 d' hd).1; omega)⟩
        · obtain rfl := List.mem_singleton.mp hd
          exact ⟨nd, D.put (by omega)⟩
    · rintro acc S' ⟨x3, n3, ds, rfl, l3, h3⟩ aD
      rw [List.length_map] at l3
      exact ⟨_, ds, rfl, x2.n, x2.trans x3, aD, by omega, h3⟩
  refine ⟨_, rfl, fun hb => ?_, fun hb => ?_⟩
  · refine ⟨by decide, ?_⟩
    exact body _ _ [0] (by show 1 ≤ most.toNat; omega) ((x1.trans Sx.new).trans Sx.new) At.new
  · exact body _ _ cs (by omega) (x1.trans Sx.new) (a1.sx (P := No) Sx.new)
end K01
/-! text K01s -/
namespace K01
open Sm Pl
theorem joined_mix {a b : Int} (S : Store) : Wp (F_joined_mix [.int a, .int b] S) (Is S (.int ((a * 31 + b * 17 + 5) % 1000003))) := by
  refine wp_call ?_
  unfold m_joined_mix
  simp only [wp_mod (show (0 : Int) < 1000003 by decide), wp_var, wp_ok, wp_bin, wp_c, wp_b, wp_if, wps_if, wp_and, wp_or, wp_not, wp_nil, wp_cons, wp_callC, wp_callF, wp_call0, wp_tup, wp_lst, wps_nil, wps_ret, wps_set, wps_asg, wp_gN, wp_gsNil, wp_gsCons, wp_gS, wp_yes, wp_bm, wp_cut, wp_oNo, wp_oSo, wp_neg, wp_int, wp_add, wp_sub, wp_mul, wp_cInt, wp_eqI, wp_neI, wps_seq, List.getElem?_cons_zero, List.getElem?_cons_succ, List.set_cons_zero, List.set_cons_succ, List.map_cons, List.map_nil, List.length_cons, List.length_nil, List.cons_append, List.nil_append, List.append_nil, List.replicate, U.bl.injEq, U.int.injEq, exists_eq_left', Nat.reduceAdd, Nat.reduceSub, Nat.reduceMul, reduceCtorEq, false_implies, true_implies, true_and, and_true, eq_self]
  exact ⟨sm (by decide), sm (by decide), rfl, rfl⟩
/-! ### the loads -/
/-- texts of the law -/
structure Txs (ts : List (List Nat)) : Prop where
  few : ts.length ≤ 8
  tx : ∀ t ∈ ts, t.length ≤ 3 ∧ Tx t
def cnt (ts : List (List Nat)) (many seed : Int) (s : Nat) : Nat := ts.countP fun t => decide (mixF t seed % many = (s : Int))
def loadsL (ts : List (List Nat)) (many seed : Int) : List Int := (List.range many.toNat).map fun s => (cnt ts many seed s : Int)
theorem set_map {f : Nat → U} {m j : Nat} {v : U} (hj : j < m) : ((List.range m).map f).set j v = (List.range m).map fun s => if s = j then v else f s := by
  apply List.ext_getElem?
  intro i
  by_cases hi : i < m
  · rw [List.getElem?_map, List.getElem?_range hi]
    by_cases h : j = i
    · subst h
      rw [List.getElem?_set_self (by simpa using hi)]
      simp
    · rw [List.getElem?_set_ne h, List.getElem?_map, List.getElem?_range hi]
      simp [Ne.symm h]
  · rw [List.getElem?_eq_none (by simp; omega), List.getElem?_eq_none (by simp; omega)]
theorem cnt_take {ts : List (List Nat)} {many seed : Int} {i : Nat} {t : List Nat} (h : ts[i]? = some t) (s : Nat) : cnt (ts.take (i + 1)) many seed s = cnt (ts.take i) many seed s + if mixF t seed % many = (s : Int) then 1 else 0 := by
  unfold cnt
  rw [List.take_succ, h, List.countP_append]
  simp only [Option.toList_some, List.countP_cons, List.countP_nil, decide_eq_true_eq, Nat.zero_add]
theorem texts_at {ts : List (List Nat)} {i : Nat} {w : U} (h : (ts.map U.str)[i]? = some w) : ∃ t, ts[i]? = some t ∧ w = .str t := by
  rw [List.getElem?_map] at h
  cases e : ts[i]? with
  | none => rw [e] at h; cases h
  | some c => rw [e] at h; cases h; exact ⟨c, rfl, rfl⟩
/-- texts in a list or in a tuple -/
def TxAt (S : Store) (u : U) (ts : List (List Nat)) : Prop := (∃ n, u = .ref n ∧ At S n (.lst (ts.map U.str))) ∨ u = .tup (ts.map U.str)
theorem TxAt.lst {S : Store} {n : Nat} {ts : List (List Nat)} (a : At S n (.lst (ts.map U.str))) : TxAt S (.ref n) ts := .inl ⟨n, rfl, a⟩
theorem TxAt.tup {S : Store} {ts : List (List Nat)} : TxAt S (.tup (ts.map U.str)) ts := .inr rfl
theorem TxAt.sx {S S' : Store} {u : U} {ts : List (List Nat)} (h : TxAt S u ts) (x : Sx No S S') : TxAt S' u ts := by
  rcases h with ⟨n, rfl, a⟩ | rfl
  · exact .inl ⟨n, rfl, a.sx x⟩
  · exact .inr rfl
theorem wp_itX {m : ME} {ρ : Env} {S : Store} {ts : List (List Nat)} {Q : Src × Option Nat → Store → Prop} (h : Wp (m ρ S) fun w S => TxAt S w ts ∧ ∀ src, (∀ S', TxAt S' w ts → Yld src (ts.map U.str) S') → Q (src, none) S) : Wp (mIt m ρ S) Q := by
  obtain ⟨w, S1, e, t, q⟩ := wp_ex h
  rcases t with ⟨n, rfl, a⟩ | rfl
  · refine wp_itL ?_
    rw [e, wp_ok]
    exact ⟨n, _, rfl, a, q _ fun S' t => by
      rcases t with ⟨m, e, a⟩ | e
      · cases e; exact yld_l a.get
      · cases e⟩
  · refine wp_itT ?_
    rw [e, wp_ok]
    exact ⟨_, rfl, q _ fun S' _ => yld_v⟩
theorem spot_loads {ts : List (List Nat)} {u : U} {many seed : Int} {S : Store} (a : TxAt S u ts) (T : Txs ts) (h0 : 0 ≤ seed) (h1 : seed ≤ 100000000) (hm : 0 < many) (hm2 : many ≤ 1000) :
    Wp (F_spot_loads [u, .int many, .int seed] S) fun v S' => v = .tup ((loadsL ts many seed).map U.int) ∧ Sx No S S' := by
  refine wp_call ?_
  unfold m_spot_loads
  simp only [wp_var, wp_ok, wp_bin, wp_c, wp_b, wp_if, wps_if, wp_and, wp_or, wp_not, wp_nil, wp_cons, wp_callC, wp_callF, wp_call0, wp_tup, wp_lst, wps_nil, wps_ret, wps_set, wps_asg, wp_gN, wp_gsNil, wp_gsCons, wp_gS, wp_yes, wp_bm, wp_cut, wp_oNo, wp_oSo, wp_neg, wp_int, wp_add, wp_sub, wp_mul, wp_cInt, wp_eqI, wp_neI, wps_seq, List.getElem?_cons_zero, List.getElem?_cons_succ, List.set_cons_zero, List.set_cons_succ, List.map_cons, List.map_nil, List.length_cons, List.length_nil, List.cons_append, List.nil_append, List.append_nil, List.replicate, U.bl.injEq, U.int.injEq, exists_eq_left', Nat.reduceAdd, Nat.reduceSub, Nat.reduceMul, reduceCtorEq, false_implies, true_implies, true_and, and_true, eq_self]
  refine ⟨fun z => absurd (of_decide_eq_true z) (by omega), fun _ => ⟨by decide, ?_⟩⟩
  have a1 : At (S.new (.lst [.int 0])) S.n (.lst [.int 0]) := At.new
  have x1 : Sx No S (S.new (.lst [.int 0])) := Sx.new
  have mul : oMul (.ref S.n) (.int many) (S.new (.lst [.int 0])) = .ok (.ref (S.new (.lst [.int 0])).n) ((S.new (.lst [.int 0])).new (.lst ((List.range many.toNat).map fun _ => U.int 0))) := by
    have e : (List.replicate many.toNat [U.int 0]).flatten = (List.range many.toNat).map fun _ => U.int 0 := by
      rw [List.map_const', List.length_range]
      induction many.toNat with
      | zero => rfl
      | succ k ih => rw [List.replicate_succ, List.flatten_cons, ih] <;> rfl
    unfold oMul
    simp only [a1.get]
    rw [if_pos (by refine ⟨by omega, by omega, ?_⟩; simp [lim]; omega), e]
  rw [mul, wp_ok]
  have x2 : Sx No S ((S.new (.lst [.int 0])).new (.lst ((List.range many.toNat).map fun _ => U.int 0))) := x1.trans Sx.new
  have a2 : At ((S.new (.lst [.int 0])).new (.lst ((List.range many.toNat).map fun _ => U.int 0))) (S.new (.lst [.int 0])).n (.lst ((List.range many.toNat).map fun _ => U.int 0)) := At.new
  have nb : S.n ≤ (S.new (.lst [.int 0])).n := x1.n
  generalize (S.new (.lst [.int 0])).new (.lst ((List.range many.toNat).map fun _ => U.int 0)) = S2 at x2 a2
  generalize (S.new (.lst [.int 0])).n = b at a2 nb
  refine wps_for (ts.map U.str) (fun i ρ S' => Sx No S S' ∧ At S' b (.lst ((List.range many.toNat).map fun s => U.int (cnt (ts.take i) many seed s : Nat))) ∧ ∃ x, ρ = [some u, some (.int many), some (.int seed), some (.ref b), x]) ?_ ?_ ?_ ?_
  · refine wp_itX (ts := ts) ?_
    simp only [wp_var, wp_ok, wp_bin, wp_c, wp_b, wp_if, wps_if, wp_and, wp_or, wp_not, wp_nil, wp_cons, wp_callC, wp_callF, wp_call0, wp_tup, wp_lst, wps_nil, wps_ret, wps_set, wps_asg, wp_gN, wp_gsNil, wp_gsCons, wp_gS, wp_yes, wp_bm, wp_cut, wp_oNo, wp_oSo, wp_neg, wp_int, wp_add, wp_sub, wp_mul, wp_cInt, wp_eqI, wp_neI, wps_seq, List.getElem?_cons_zero, List.getElem?_cons_succ, List.set_cons_zero, List.set_cons_succ, List.map_cons, List.map_nil, List.length_cons, List.length_nil, List.cons_append, List.nil_append, List.append_nil, List.replicate, U.bl.injEq, U.int.injEq, exists_eq_left', Nat.reduceAdd, Nat.reduceSub, Nat.reduceMul, reduceCtorEq, false_implies, true_implies, true_and, and_true, eq_self]
    exact ⟨a.sx x2, fun src hy => ⟨⟨x2, a2, none, rfl⟩, fun i ρ S' h => hy S' (a.sx h.1)⟩⟩
  · rw [List.length_map]
    have := T.few
    exact Nat.lt_of_le_of_lt this (by decide)
  · rintro i w ρ S' hw ⟨x3, a3, x, rfl⟩
    obtain ⟨t, ht, rfl⟩ := texts_at hw
    have htl := (T.tx t (List.mem_of_getElem? ht)).1
    have r0 : 0 ≤ mixF t seed % many := Int.emod_nonneg _ (by omega)
    have r1 : mixF t seed % many < many := Int.emod_lt_of_pos _ hm
    obtain ⟨j, hj⟩ : ∃ j : Nat, mixF t seed % many = (j : Int) := ⟨_, (Int.toNat_of_nonneg r0).symm⟩
    have hjm : j < many.toNat := by omega
    simp only [sAugS, wps_then, wps_nx, wp_var, wp_ok, wp_bin, wp_c, wp_b, wp_if, wps_if, wp_and, wp_or, wp_not, wp_nil, wp_cons, wp_callC, wp_callF, wp_call0, wp_tup, wp_lst, wps_nil, wps_ret, wps_set, wps_asg, wp_gN, wp_gsNil, wp_gsCons, wp_gS, wp_yes, wp_bm, wp_cut, wp_oNo, wp_oSo, wp_neg, wp_int, wp_add, wp_sub, wp_mul, wp_cInt, wp_eqI, wp_neI, wps_seq, List.getElem?_cons_zero, List.getElem?_cons_succ, List.set_cons_zero, List.set_cons_succ, List.map_cons, List.map_nil, List.length_cons, List.length_nil, List.cons_append, List.nil_append, List.append_nil, List.replicate, U.bl.injEq, U.int.injEq, exists_eq_left', Nat.reduceAdd, Nat.reduceSub, Nat.reduceMul, reduceCtorEq, false_implies, true_implies, true_and, and_true, eq_self]
    refine (spot_of S' h0 h1 (by omega) hm).mono ?_
    rintro u S4 ⟨rfl, rfl⟩
    rw [hj]
    have ix : pyIx ((List.range many.toNat).map fun s => U.int (cnt (ts.take i) many seed s : Nat)).length (j : Int) = some j := by
      unfold pyIx
      rw [List.length_map, List.length_range, if_pos (by omega), if_pos (by omega)]
      rfl
    show Wp (oIx (.ref b) (.int j) S4) _
    rw [wp_ix a3 ix (by rw [List.getElem?_map, List.getElem?_range hjm]; rfl)]
    simp only [iAdd, wp_ok]
    rw [wp_uSet a3 ix]
    refine ⟨Sx.put_above x3 nb, ?_, _, rfl⟩
    have a4 := At.put (o := .lst (((List.range many.toNat).map fun s => U.int (cnt (ts.take i) many seed s : Nat)).set j (.int ((cnt (ts.take i) many seed j : Nat) + 1)))) a3.lt
    rw [set_map hjm] at a4 ⊢
    have e : (fun s : Nat => if s = j then U.int ((cnt (ts.take i) many seed j : Nat) + 1) else U.int (cnt (ts.take i) many seed s : Nat)) = fun s => U.int (cnt (ts.take (i + 1)) many seed s : Nat) := by
      funext s
      rw [cnt_take ht, hj]
      by_cases h : s = j
      · subst h; simp
      · have : ¬ (j : Int) = (s : Int) := by omega
        simp [h, this]
    rw [← e]
    exact a4
  · rintro ρ S' ⟨x3, a3, x, rfl⟩
    rw [List.length_map, List.take_length] at a3
    have e1 : cTup [.ref b] S' = .ok (.tup ((loadsL ts many seed).map U.int)) S' := by
      have e2 : seqU S' (.ref b) = some ((loadsL ts many seed).map U.int) := by
        simp only [seqU, lstU, a3.get, loadsL, List.map_map]
        rfl
      simp only [cTup, e2]
    simp only [e1, wp_var, wp_ok, wp_bin, wp_c, wp_b, wp_if, wps_if, wp_and, wp_or, wp_not, wp_nil, wp_cons, wp_callC, wp_callF, wp_call0, wp_tup, wp_lst, wps_nil, wps_ret, wps_set, wps_asg, wp_gN, wp_gsNil, wp_gsCons, wp_gS, wp_yes, wp_bm, wp_cut, wp_oNo, wp_oSo, wp_neg, wp_int, wp_add, wp_sub, wp_mul, wp_cInt, wp_eqI, wp_neI, wps_seq, List.getElem?_cons_zero, List.getElem?_cons_succ, List.set_cons_zero, List.set_cons_succ, List.map_cons, List.map_nil, List.length_cons, List.length_nil, List.cons_append, List.nil_append, List.append_nil, List.replicate, U.bl.injEq, U.int.injEq, exists_eq_left', Nat.reduceAdd, Nat.reduceSub, Nat.reduceMul, reduceCtorEq, false_implies, true_implies, true_and, and_true, eq_self]
    exact x3
end K01
/-! text K01v -/
namespace K01
open Sm Pl
theorem sum_add {f g : Nat → Int} : ∀ l : List Nat, (l.map fun s => f s + g s).sum = (l.map f).sum + (l.map g).sum
  | [] => rfl
  | x :: l => by
    simp only [List.map_cons, List.sum_cons, sum_add l]
    omega
theorem sum_none {j : Nat} : ∀ m, m ≤ j → ((List.range m).map fun s => if j = s then (1 : Int) else 0).sum = 0
  | 0, _ => rfl
  | m + 1, h => by
    rw [List.range_succ, List.map_append, List.sum_append, sum_none m (by omega)]
    simp
    omega
theorem sum_one {j : Nat} : ∀ m, j < m → ((List.range m).map fun s => if j = s then (1 : Int) else 0).sum = 1
  | 0, h => by omega
  | m + 1, h => by
    rw [List.range_succ, List.map_append, List.sum_append]
    by_cases e : j = m
    · subst e
      rw [sum_none j (Nat.le_refl _)]
      simp
    · rw [sum_one m (by omega)]
      simp [e]
theorem sum_zero : ∀ m, ((List.range m).map fun _ => (0 : Int)).sum = 0
  | 0 => rfl
  | m + 1 => by rw [List.range_succ, List.map_append, List.sum_append, sum_zero m] <;> rfl
theorem sum_cnt {many seed : Int} (hm : 0 < many) : ∀ ts : List (List Nat), (loadsL ts many seed).sum = ts.length
  | [] => sum_zero _
  | t :: ts => by
    have r0 : 0 ≤ mixF t seed % many := Int.emod_nonneg _ (by omega)
    have r1 : mixF t seed % many < many := Int.emod_lt_of_pos _ hm
    obtain ⟨j, hj⟩ : ∃ j : Nat, mixF t seed % many = (j : Int) := ⟨_, (Int.toNat_of_nonneg r0).symm⟩
    have e : loadsL (t :: ts) many seed = (List.range many.toNat).map fun s => (cnt ts many seed s : Int) + if j = s then (1 : Int) else 0 := by
      unfold loadsL
      apply List.map_congr_left
      intro s _
      unfold cnt
      rw [List.countP_cons, hj]
      by_cases h : j = s
      · simp [h]
      · have : ¬ (j : Int) = (s : Int) := by omega
        simp [h, this]
    rw [e, sum_add, sum_one _ (by omega)]
    have := sum_cnt hm ts (seed := seed)
    unfold loadsL at this
    rw [this]
    simp
theorem cnt_le (ts : List (List Nat)) (many seed : Int) (s : Nat) : cnt ts many seed s ≤ ts.length := List.countP_le_length
theorem ints_all : ∀ l : List Int, intsU (l.map U.int) = some l
  | [] => rfl
  | x :: l => by simp only [List.map_cons, intsU, ints_all l]
def sqs (l : List Int) : Int := (l.map fun x => x * x).sum
def evenF (ts : List (List Nat)) (many seed : Int) : U := if ts = [] then .non else .int (100 * many * sqs (loadsL ts many seed) / (ts.length * ts.length))
theorem how_even {ts : List (List Nat)} {u : U} {many seed : Int} {S : Store} (a : TxAt S u ts) (T : Txs ts) (h0 : 0 ≤ seed) (h1 : seed ≤ 100000000) (hm : 0 < many) (hm2 : many ≤ 1000) :
    Wp (F_how_even [u, .int many, .int seed] S) fun v S' => v = evenF ts many seed ∧ Sx No S S' := by
  refine wp_call ?_
  unfold m_how_even
  simp only [wp_var, wp_ok, wp_bin, wp_c, wp_b, wp_if, wps_if, wp_and, wp_or, wp_not, wp_nil, wp_cons, wp_callC, wp_callF, wp_call0, wp_tup, wp_lst, wps_nil, wps_ret, wps_set, wps_asg, wp_gN, wp_gsNil, wp_gsCons, wp_gS, wp_yes, wp_bm, wp_cut, wp_oNo, wp_oSo, wp_neg, wp_int, wp_add, wp_sub, wp_mul, wp_cInt, wp_eqI, wp_neI, wps_seq, List.getElem?_cons_zero, List.getElem?_cons_succ, List.set_cons_zero, List.set_cons_succ, List.map_cons, List.map_nil, List.length_cons, List.length_nil, List.cons_append, List.nil_append, List.append_nil, List.replicate, U.bl.injEq, U.int.injEq, exists_eq_left', Nat.reduceAdd, Nat.reduceSub, Nat.reduceMul, reduceCtorEq, false_implies, true_implies, true_and, and_true, eq_self]
  refine (spot_loads a T h0 h1 hm hm2).mono ?_
  rintro u S2 ⟨rfl, x2⟩
  have es : cSum [.tup ((loadsL ts many seed).map U.int)] S2 = .ok (.int ts.length) S2 := by
    simp only [cSum, seqU, ints_all, sum_cnt hm]
  rw [es]
  simp only [wp_var, wp_ok, wp_bin, wp_c, wp_b, wp_if, wps_if, wp_and, wp_or, wp_not, wp_nil, wp_cons, wp_callC, wp_callF, wp_call0, wp_tup, wp_lst, wps_nil, wps_ret, wps_set, wps_asg, wp_gN, wp_gsNil, wp_gsCons, wp_gS, wp_yes, wp_bm, wp_cut, wp_oNo, wp_oSo, wp_neg, wp_int, wp_add, wp_sub, wp_mul, wp_cInt, wp_eqI, wp_neI, wps_seq, List.getElem?_cons_zero, List.getElem?_cons_succ, List.set_cons_zero, List.set_cons_succ, List.map_cons, List.map_nil, List.length_cons, List.length_nil, List.cons_append, List.nil_append, List.append_nil, List.replicate, U.bl.injEq, U.int.injEq, exists_eq_left', Nat.reduceAdd, Nat.reduceSub, Nat.reduceMul, reduceCtorEq, false_implies, true_implies, true_and, and_true, eq_self]
  have few := T.few
  refine ⟨fun z => ?_, fun z => ?_⟩
  · have z := of_decide_eq_true z
    have ne : ts ≠ [] := fun e => by rw [e] at z; simp at z
    refine ⟨sm' (by decide), ?_⟩
    refine wp_gx ((loadsL ts many seed).map U.int) (fun i k ρ S' => S' = S2 ∧ k = sqs ((loadsL ts many seed).take i) ∧ ∃ x, ρ = [x]) ?_ ?_ ?_ ?_
    · refine wp_itT ?_
      simp only [wp_var, wp_ok, wp_bin, wp_c, wp_b, wp_if, wps_if, wp_and, wp_or, wp_not, wp_nil, wp_cons, wp_callC, wp_callF, wp_call0, wp_tup, wp_lst, wps_nil, wps_ret, wps_set, wps_asg, wp_gN, wp_gsNil, wp_gsCons, wp_gS, wp_yes, wp_bm, wp_cut, wp_oNo, wp_oSo, wp_neg, wp_int, wp_add, wp_sub, wp_mul, wp_cInt, wp_eqI, wp_neI, wps_seq, List.getElem?_cons_zero, List.getElem?_cons_succ, List.set_cons_zero, List.set_cons_succ, List.map_cons, List.map_nil, List.length_cons, List.length_nil, List.cons_append, List.nil_append, List.append_nil, List.replicate, U.bl.injEq, U.int.injEq, exists_eq_left', Nat.reduceAdd, Nat.reduceSub, Nat.reduceMul, reduceCtorEq, false_implies, true_implies, true_and, and_true, eq_self]
      exact ⟨_, rfl, ⟨rfl, none, rfl⟩, fun i k ρ S' _ => yld_v⟩
    · rw [List.length_map]
      unfold loadsL
      rw [List.length_map, List.length_range]
      have : fuel = 100000 := rfl
      omega
    · rintro i w k ρ S' hw ⟨rfl, rfl, x, rfl⟩
      rw [List.getElem?_map] at hw
      cases e : (loadsL ts many seed)[i]? with
      | none => rw [e] at hw; cases hw
      | some c =>
        rw [e] at hw
        cases hw
        have hc : 0 ≤ c ∧ c ≤ 8 := by
          obtain ⟨s, _, rfl⟩ := List.mem_map.mp (List.mem_of_getElem? e)
          have := cnt_le ts many seed s
          omega
        simp only [wp_var, wp_ok, wp_bin, wp_c, wp_b, wp_if, wps_if, wp_and, wp_or, wp_not, wp_nil, wp_cons, wp_callC, wp_callF, wp_call0, wp_tup, wp_lst, wps_nil, wps_ret, wps_set, wps_asg, wp_gN, wp_gsNil, wp_gsCons, wp_gS, wp_yes, wp_bm, wp_cut, wp_oNo, wp_oSo, wp_neg, wp_int, wp_add, wp_sub, wp_mul, wp_cInt, wp_eqI, wp_neI, wps_seq, List.getElem?_cons_zero, List.getElem?_cons_succ, List.set_cons_zero, List.set_cons_succ, List.map_cons, List.map_nil, List.length_cons, List.length_nil, List.cons_append, List.nil_append, List.append_nil, List.replicate, U.bl.injEq, U.int.injEq, exists_eq_left', Nat.reduceAdd, Nat.reduceSub, Nat.reduceMul, reduceCtorEq, false_implies, true_implies, true_and, and_true, eq_self]
        refine ⟨sm (by omega), .inl ⟨_, rfl, ?_, some (.int c), rfl⟩⟩
        unfold sqs
        rw [List.take_succ, e, List.map_append, List.sum_append]
        simp
    · rintro k ρ S' ⟨rfl, rfl, x, rfl⟩
      rw [List.length_map, List.take_length]
      simp only [finSum, wp_var, wp_ok, wp_bin, wp_c, wp_b, wp_if, wps_if, wp_and, wp_or, wp_not, wp_nil, wp_cons, wp_callC, wp_callF, wp_call0, wp_tup, wp_lst, wps_nil, wps_ret, wps_set, wps_asg, wp_gN, wp_gsNil, wp_gsCons, wp_gS, wp_yes, wp_bm, wp_cut, wp_oNo, wp_oSo, wp_neg, wp_int, wp_add, wp_sub, wp_mul, wp_cInt, wp_eqI, wp_neI, wps_seq, List.getElem?_cons_zero, List.getElem?_cons_succ, List.set_cons_zero, List.set_cons_succ, List.map_cons, List.map_nil, List.length_cons, List.length_nil, List.cons_append, List.nil_append, List.append_nil, List.replicate, U.bl.injEq, U.int.injEq, exists_eq_left', Nat.reduceAdd, Nat.reduceSub, Nat.reduceMul, reduceCtorEq, false_implies, true_implies, true_and, and_true, eq_self]
      have hp : (0 : Int) < (ts.length : Int) * ts.length := Int.mul_pos z z
      have hq : (ts.length : Int) * ts.length < 1073741824 := by
        have : (ts.length : Int) * ts.length ≤ 8 * 8 := Int.mul_le_mul (by omega) (by omega) (by omega) (by decide)
        omega
      refine ⟨sm' (by omega), sm (by omega), ?_⟩
      rw [wp_div hp hq]
      exact ⟨by unfold evenF; rw [if_neg ne], x2⟩
  · have z := of_decide_eq_false z
    have e : ts = [] := by
      cases ts with
      | nil => rfl
      | cons t ts => simp at z <;> omega
    exact ⟨by unfold evenF; rw [if_pos e], x2⟩
end K01
/-! text K01w -/
namespace K01
open Sm Pl
/-- the texts, each once, in the order of their first place -/
def addK (acc : List (List Nat)) (t : List Nat) : List (List Nat) := if t ∈ acc then acc else acc ++ [t]
def dkeys (ts : List (List Nat)) : List (List Nat) := ts.foldl addK []
abbrev asD (v : U) (ks : List (List Nat)) : List (Ky × U) := ks.map fun t => (Ky.s t, v)
theorem getK_asD {v : U} {t : List Nat} : ∀ ks : List (List Nat), getK (asD v ks) (.s t) = if t ∈ ks then some v else none
  | [] => rfl
  | k :: ks => by
    show (if Ky.s k = Ky.s t then some v else getK (asD v ks) (.s t)) = _
    rw [getK_asD ks]
    by_cases h : k = t
    · subst h; simp
    · have h2 : ¬ t = k := fun e => h e.symm
      simp [h, h2]
theorem repK_asD {v : U} {t : List Nat} : ∀ ks : List (List Nat), repK (asD v ks) (.s t) v = asD v ks
  | [] => rfl
  | k :: ks => by
    show (if Ky.s k = Ky.s t then (Ky.s k, v) :: repK (asD v ks) (.s t) v else (Ky.s k, v) :: repK (asD v ks) (.s t) v) = _
    rw [repK_asD ks]
    split <;> rfl
theorem setK_asD {v : U} {t : List Nat} (ks : List (List Nat)) : setK (asD v ks) (.s t) v = asD v (addK ks t) := by
  unfold setK addK
  rw [getK_asD]
  by_cases h : t ∈ ks
  · rw [if_pos h, if_pos h]
    exact repK_asD ks
  · rw [if_neg h, if_neg h]
    simp [asD]
theorem addK_len (ks : List (List Nat)) (t : List Nat) : (addK ks t).length ≤ ks.length + 1 := by
  unfold addK
  split
  · omega
  · simp
theorem addK_mem {ks : List (List Nat)} {t x : List Nat} : x ∈ addK ks t ↔ x ∈ ks ∨ x = t := by
  unfold addK
  split
  · rename_i h
    exact ⟨.inl, fun z => z.elim id fun e => e ▸ h⟩
  · simp
theorem addK_nodup {ks : List (List Nat)} {t : List Nat} (h : ks.Nodup) : (addK ks t).Nodup := by
  unfold addK
  split
  · exact h
  · rename_i n
    exact List.nodup_append.mpr ⟨h, by simp, fun a ha b hb e => by
      obtain rfl := List.mem_singleton.mp hb
      exact n (e ▸ ha)⟩
theorem fold_mem {x : List Nat} : ∀ (ts acc : List (List Nat)), x ∈ ts.foldl addK acc ↔ x ∈ acc ∨ x ∈ ts
  | [], acc => by simp
  | t :: ts, acc => by
    rw [List.foldl_cons, fold_mem ts, addK_mem, List.mem_cons]
    exact or_assoc
theorem fold_nodup : ∀ (ts acc : List (List Nat)), acc.Nodup → (ts.foldl addK acc).Nodup
  | [], acc, h => h
  | t :: ts, acc, h => fold_nodup ts _ (addK_nodup h)
theorem dkeys_mem {ts : List (List Nat)} {x : List Nat} : x ∈ dkeys ts ↔ x ∈ ts := by
  unfold dkeys
  rw [fold_mem]
  simp
theorem dkeys_nodup (ts : List (List Nat)) : (dkeys ts).Nodup := fold_nodup ts [] List.nodup_nil
theorem fold_len : ∀ (ts acc : List (List Nat)), (ts.foldl addK acc).length ≤ acc.length + ts.length
  | [], acc => by simp
  | t :: ts, acc => by
    have := fold_len ts (addK acc t)
    have := addK_len acc t
    simp only [List.foldl_cons, List.length_cons]
    omega
theorem dkeys_len (ts : List (List Nat)) : (dkeys ts).length ≤ ts.length := by
  have := fold_len ts []
  simpa [dkeys] using this
/-- two lists of the same members, each once -/
theorem perm_of : ∀ {l m : List (List Nat)}, l.Nodup → m.Nodup → (∀ x, x ∈ l ↔ x ∈ m) → l.Perm m
  | [], m, _, _, h => by
    have : m = [] := List.eq_nil_iff_forall_not_mem.mpr fun x hx => by simpa using (h x).mpr hx
    rw [this]
  | a :: l, m, hl, hm, h => by
    have ha : a ∈ m := (h a).mp (List.mem_cons_self ..)
    have hl' := List.nodup_cons.mp hl
    refine List.Perm.trans (List.Perm.cons a (perm_of (m := m.erase a) hl'.2 (hm.erase a) fun x => ?_)) (List.perm_cons_erase ha).symm
    rw [hm.mem_erase_iff]
    constructor
    · intro hx
      exact ⟨fun e => hl'.1 (e ▸ hx), (h x).mp (List.mem_cons_of_mem _ hx)⟩
    · rintro ⟨h1, h2⟩
      rcases List.mem_cons.mp ((h x).mpr h2) with e | e
      · exact absurd e h1
      · exact e
theorem sum_perm {l m : List Int} (h : l.Perm m) : l.sum = m.sum := by
  induction h with
  | nil => rfl
  | cons x _ ih => simp [ih]
  | swap x y l => simp; omega
  | trans _ _ a b => exact a.trans b
theorem dkeys_sum (f : List Nat → Int) (ts : List (List Nat)) : ((dkeys ts.reverse).map f).sum = ((dkeys ts).map f).sum :=
  sum_perm ((perm_of (dkeys_nodup _) (dkeys_nodup _) fun x => by rw [dkeys_mem, dkeys_mem, List.mem_reverse]).map f)
end K01
/-! text K01x -/
namespace K01
open Sm Pl
theorem wp_itD {m : ME} {ρ : Env} {S : Store} {Q : Src × Option Nat → Store → Prop} (h : Wp (m ρ S) fun w S => ∃ n kvs, w = .ref n ∧ At S n (.dK kvs) ∧ Q (srcV (kvs.map fun p => kyU p.1), some n) (S.put n ⟨.dK kvs, 1⟩)) : Wp (mIt m ρ S) Q := by
  unfold mIt
  rw [wp_bind]
  refine h.mono fun w S h => ?_
  obtain ⟨n, kvs, rfl, a, q⟩ := h
  simp only [a.get]
  exact q
/-- {text: True for text in texts} -/
theorem wp_dcT {mi : MI} {ρ : Env} {S : Store} {ts : List (List Nat)} {i : Nat} {vs : List Nat} (hl : ts.length ≤ 1000) (hv : ∀ w : U, ((wipeU ρ vs).set i (some w))[i]? = some (some w))
    (hi : Wp (mi ρ S) fun p S1 => p.2 = none ∧ Sx No S S1 ∧ ∀ S', Sx No S1 S' → Yld p.1 (ts.map U.str) S') :
    Wp (mDc mi (gN i) mYes (mVar i) (mC (.bl true)) vs ρ S) fun u S' => ∃ a, u = .ref a ∧ S.n ≤ a ∧ At S' a (.dK (asD (.bl true) (dkeys ts))) ∧ Sx No S S' := by
  obtain ⟨p, S1, e1, e, x, hy⟩ := wp_ex hi
  refine wp_dc (ts.map U.str) (fun i acc S' => Sx No S1 S' ∧ S1.n < S'.n ∧ acc = asD (.bl true) ((ts.take i).foldl addK [])) ?_ (by rw [List.length_map]; exact Nat.lt_of_le_of_lt hl (by decide))
  rw [e1]
  refine ⟨e, ⟨Sx.new, Nat.lt_succ_self _, rfl⟩, fun i acc S h => hy S h.1, ?_, ?_⟩
  · rintro j w acc S' hw ⟨x3, n3, rfl⟩ aD
    obtain ⟨t, ht, rfl⟩ := texts_at hw
    simp only [wp_var, wp_ok, wp_bin, wp_c, wp_b, wp_if, wps_if, wp_and, wp_or, wp_not, wp_nil, wp_cons, wp_callC, wp_callF, wp_call0, wp_tup, wp_lst, wps_nil, wps_ret, wps_set, wps_asg, wp_gN, wp_gsNil, wp_gsCons, wp_gS, wp_yes, wp_bm, wp_cut, wp_oNo, wp_oSo, wp_neg, wp_int, wp_add, wp_sub, wp_mul, wp_cInt, wp_eqI, wp_neI, wps_seq, List.getElem?_cons_zero, List.getElem?_cons_succ, List.set_cons_zero, List.set_cons_succ, List.map_cons, List.map_nil, List.length_cons, List.length_nil, List.cons_append, List.nil_append, List.append_nil, List.replicate, U.bl.injEq, U.int.injEq, exists_eq_left', Nat.reduceAdd, Nat.reduceSub, Nat.reduceMul, reduceCtorEq, false_implies, true_implies, true_and, and_true, eq_self]
    rw [hv]
    refine ⟨.s t, rfl, aD, ?_, Sx.put_above x3 (Nat.le_refl _), n3, ?_⟩
    · have h1 := fold_len (ts.take j) []
      rw [List.length_take] at h1
      simp only [asD, List.length_map]
      have : lim = 1000000 := rfl
      simp only [List.length_nil] at h1
      omega
    · rw [setK_asD, List.take_succ, ht, List.foldl_append] <;> rfl
  · rintro acc S' ⟨x3, n3, rfl⟩ aD
    rw [List.length_map, List.take_length] at aD
    exact ⟨_, rfl, x.n, aD, x.trans x3⟩
def sumM (ts : List (List Nat)) (seed : Int) : Int := ((dkeys ts).map fun t => mixF t seed).sum
theorem mix_of_set {ts : List (List Nat)} {v : U} {seed : Int} {S : Store} (a : TxAt S v ts) (T : Txs ts) (h0 : 0 ≤ seed) (h1 : seed ≤ 100000000) :
    Wp (F_mix_of_set [v, .int seed] S) fun u S' => u = .int (sumM ts seed % 1000003) ∧ Sx No S S' := by
  have few := T.few
  refine wp_call ?_
  unfold m_mix_of_set
  simp only [wp_var, wp_ok, wp_bin, wp_c, wp_b, wp_if, wps_if, wp_and, wp_or, wp_not, wp_nil, wp_cons, wp_callC, wp_callF, wp_call0, wp_tup, wp_lst, wps_nil, wps_ret, wps_set, wps_asg, wp_gN, wp_gsNil, wp_gsCons, wp_gS, wp_yes, wp_bm, wp_cut, wp_oNo, wp_oSo, wp_neg, wp_int, wp_add, wp_sub, wp_mul, wp_cInt, wp_eqI, wp_neI, wps_seq, List.getElem?_cons_zero, List.getElem?_cons_succ, List.set_cons_zero, List.set_cons_succ, List.map_cons, List.map_nil, List.length_cons, List.length_nil, List.cons_append, List.nil_append, List.append_nil, List.replicate, U.bl.injEq, U.int.injEq, exists_eq_left', Nat.reduceAdd, Nat.reduceSub, Nat.reduceMul, reduceCtorEq, false_implies, true_implies, true_and, and_true, eq_self]
  have hd : Wp (mDc (mIt (mVar 0)) (gN 2) mYes (mVar 2) (mC (.bl true)) [2] [some v, some (.int seed), none] S) fun u S' => ∃ a, u = .ref a ∧ S.n ≤ a ∧ At S' a (.dK (asD (.bl true) (dkeys ts))) ∧ Sx No S S' := by
    refine wp_dcT (by omega) (fun w => rfl) (wp_itX (ts := ts) ?_)
    simp only [wp_var, wp_ok, wp_bin, wp_c, wp_b, wp_if, wps_if, wp_and, wp_or, wp_not, wp_nil, wp_cons, wp_callC, wp_callF, wp_call0, wp_tup, wp_lst, wps_nil, wps_ret, wps_set, wps_asg, wp_gN, wp_gsNil, wp_gsCons, wp_gS, wp_yes, wp_bm, wp_cut, wp_oNo, wp_oSo, wp_neg, wp_int, wp_add, wp_sub, wp_mul, wp_cInt, wp_eqI, wp_neI, wps_seq, List.getElem?_cons_zero, List.getElem?_cons_succ, List.set_cons_zero, List.set_cons_succ, List.map_cons, List.map_nil, List.length_cons, List.length_nil, List.cons_append, List.nil_append, List.append_nil, List.replicate, U.bl.injEq, U.int.injEq, exists_eq_left', Nat.reduceAdd, Nat.reduceSub, Nat.reduceMul, reduceCtorEq, false_implies, true_implies, true_and, and_true, eq_self]
    exact ⟨a, fun src hy => ⟨Sx.refl, fun S' x => hy S' (a.sx x)⟩⟩
  obtain ⟨u, S2, e1, d, rfl, ge, ad, x2⟩ := wp_ex hd
  refine wp_gxD ((dkeys ts).map U.str) (fun i k ρ S' => S' = S2.put d ⟨.dK (asD (.bl true) (dkeys ts)), 1⟩ ∧ k = (((dkeys ts).take i).map fun t => mixF t seed).sum ∧ ∃ x, ρ = [x, some (.int seed)]) ?_ ?_ ?_
  · refine wp_itD ?_
    rw [e1, wp_ok]
    refine ⟨d, _, rfl, ad, ?_⟩
    have ek : (asD (.bl true) (dkeys ts)).map (fun p => kyU p.1) = (dkeys ts).map U.str := by
      simp only [asD, List.map_map]
      rfl
    rw [ek]
    refine ⟨⟨rfl, rfl, none, rfl⟩, fun i k ρ S' _ => yld_v, ?_⟩
    rintro k ρ S' ⟨rfl, rfl, x, rfl⟩
    refine ⟨(S2.put d ⟨.dK (asD (.bl true) (dkeys ts)), 1⟩).put d ⟨.dK (asD (.bl true) (dkeys ts)), 0⟩, ?_, ?_⟩
    · unfold unlk
      simp only [Store.get_put, if_true]
    · rw [List.length_map, List.take_length]
      simp only [finSum, wp_ok]
      rw [wp_mod (by decide)]
      exact ⟨rfl, (x2.put_above ge).put_above ge⟩
  · rw [List.length_map]
    have := dkeys_len ts
    have : fuel = 100000 := rfl
    omega
  · rintro i w k ρ S' hw ⟨rfl, rfl, x, rfl⟩
    obtain ⟨t, ht, rfl⟩ := texts_at hw
    have htl := (T.tx t (dkeys_mem.mp (List.mem_of_getElem? ht))).1
    simp only [wp_var, wp_ok, wp_bin, wp_c, wp_b, wp_if, wps_if, wp_and, wp_or, wp_not, wp_nil, wp_cons, wp_callC, wp_callF, wp_call0, wp_tup, wp_lst, wps_nil, wps_ret, wps_set, wps_asg, wp_gN, wp_gsNil, wp_gsCons, wp_gS, wp_yes, wp_bm, wp_cut, wp_oNo, wp_oSo, wp_neg, wp_int, wp_add, wp_sub, wp_mul, wp_cInt, wp_eqI, wp_neI, wps_seq, List.getElem?_cons_zero, List.getElem?_cons_succ, List.set_cons_zero, List.set_cons_succ, List.map_cons, List.map_nil, List.length_cons, List.length_nil, List.cons_append, List.nil_append, List.append_nil, List.replicate, U.bl.injEq, U.int.injEq, exists_eq_left', Nat.reduceAdd, Nat.reduceSub, Nat.reduceMul, reduceCtorEq, false_implies, true_implies, true_and, and_true, eq_self]
    refine (mixed _ h0 h1 (by omega)).mono ?_
    rintro u S4 ⟨rfl, rfl⟩
    refine ⟨_, rfl, rfl, ?_, some (.str t), rfl⟩
    rw [List.take_succ, ht, List.map_append, List.sum_append]
    simp
end K01
/-! text K01y -/
namespace K01
open Sm Pl
/-! ### the texts that meet -/
theorem pairs_one : ∀ ts : List (List Nat), pairsU (ts.map fun t => U.tup [.str t, .int 1]) = some (asD (.int 1) ts)
  | [] => rfl
  | t :: ts => by simp only [List.map_cons, pairsU, uKey, pairs_one ts]
theorem merge_one (ts : List (List Nat)) : mergeU (asD (.int 1) ts) = asD (.int 1) (dkeys ts) := by
  unfold mergeU dkeys
  have g : ∀ (l acc : List (List Nat)), (asD (.int 1) l).foldl (fun acc kv => setK acc kv.1 kv.2) (asD (.int 1) acc) = asD (.int 1) (l.foldl addK acc) := by
    intro l
    induction l with
    | nil => intro acc; rfl
    | cons t l ih =>
      intro acc
      show (asD (.int 1) l).foldl _ (setK (asD (.int 1) acc) (.s t) (.int 1)) = _
      rw [setK_asD, ih] <;> rfl
  exact g ts []
def rowF (ks : List (List Nat)) (many seed : Int) (s : Nat) : List (List Nat) := ks.filter fun t => decide (mixF t seed % many = (s : Int))
def meetF (ts : List (List Nat)) (many seed : Int) : List (List (List Nat)) := ((List.range many.toNat).map (rowF (dkeys ts) many seed)).filter fun r => decide (1 < r.length)
def rowU (r : List (List Nat)) : U := .tup (r.map U.str)
def meetU (ts : List (List Nat)) (many seed : Int) : U := .tup ((meetF ts many seed).map rowU)
/-- list(dict([(text, 1) for text in texts])) -/
theorem wp_names {ρ : Env} {S : Store} {ts : List (List Nat)} {i : Nat} {vs : List Nat} {mi : MI} (hl : ts.length ≤ 1000) (hv : ∀ w : U, ((wipeU ρ vs).set i (some w))[i]? = some (some w))
    (hi : Wp (mi ρ S) fun p S1 => p.2 = none ∧ Sx No S S1 ∧ ∀ S', Sx No S1 S' → Yld p.1 (ts.map U.str) S') :
    Wp (mCallC cList (mCons (mCallC cDict (mCons (mLc mi (gN i) mYes (mTup (mCons (mVar i) (mCons (mC (.int 1)) mNil))) vs) mNil)) mNil) ρ S) fun u S' => ∃ a, u = .ref a ∧ S.n ≤ a ∧ At S' a (.lst ((dkeys ts).map U.str)) ∧ Sx No S S' := by
  simp only [wp_callC, wp_cons, wp_nil]
  refine Wp.mono (wp_lcN (ts.map U.str) (fun w => match w with
    | .str t => some (.tup [.str t, .int 1])
    | _ => none) hi (fun w S' hw x => ?_) (by rw [List.length_map]; exact Nat.lt_of_le_of_lt hl (by decide))) ?_
  · obtain ⟨t, _, rfl⟩ := List.mem_map.mp hw
    simp only [wp_var, wp_ok, wp_bin, wp_c, wp_b, wp_if, wps_if, wp_and, wp_or, wp_not, wp_nil, wp_cons, wp_callC, wp_callF, wp_call0, wp_tup, wp_lst, wps_nil, wps_ret, wps_set, wps_asg, wp_gN, wp_gsNil, wp_gsCons, wp_gS, wp_yes, wp_bm, wp_cut, wp_oNo, wp_oSo, wp_neg, wp_int, wp_add, wp_sub, wp_mul, wp_cInt, wp_eqI, wp_neI, wps_seq, List.getElem?_cons_zero, List.getElem?_cons_succ, List.set_cons_zero, List.set_cons_succ, List.map_cons, List.map_nil, List.length_cons, List.length_nil, List.cons_append, List.nil_append, List.append_nil, List.replicate, U.bl.injEq, U.int.injEq, exists_eq_left', Nat.reduceAdd, Nat.reduceSub, Nat.reduceMul, reduceCtorEq, false_implies, true_implies, true_and, and_true, eq_self]
    rw [hv]
    exact ⟨by decide, Sx.refl, rfl⟩
  · rintro u S1 ⟨a, rfl, ge, at1, x1⟩
    have e : (ts.map U.str).filterMap (fun w => match w with
      | .str t => some (.tup [.str t, .int 1])
      | _ => none) = ts.map fun t => U.tup [.str t, .int 1] := by
      rw [List.filterMap_map]
      exact List.filterMap_eq_map (f := fun t => U.tup [.str t, .int 1]) ▸ rfl
    rw [e] at at1
    simp only [cDict, at1.get, pairs_one, merge_one, wp_ok]
    have a2 : At (S1.new (.dK (asD (.int 1) (dkeys ts)))) S1.n (.dK (asD (.int 1) (dkeys ts))) := At.new
    simp only [cList, a2.get, wp_ok]
    have ek : (asD (.int 1) (dkeys ts)).map (fun p => kyU p.1) = (dkeys ts).map U.str := by
      simp only [asD, List.map_map]
      rfl
    rw [ek]
    exact ⟨_, rfl, Nat.le_trans x1.n (Nat.le_succ _), At.new, (x1.trans Sx.new).trans Sx.new⟩
theorem wp_tupL {S : Store} {n : Nat} {ws : List U} (a : At S n (.lst ws)) {Q : U → Store → Prop} : Wp (cTup [.ref n] S) Q ↔ Q (.tup ws) S := by
  have e : cTup [.ref n] S = .ok (.tup ws) S := by simp only [cTup, seqU, lstU, a.get]
  rw [e] <;> rfl
theorem fmap_texts (f : List Nat → Bool) (ks : List (List Nat)) : (ks.map U.str).filterMap (fun w => match w with
    | .str t => if f t = true then some (U.str t) else none
    | _ => none) = (ks.filter f).map U.str := by
  induction ks with
  | nil => rfl
  | cons k ks ih =>
    rw [List.map_cons, List.filterMap_cons, ih, List.filter_cons]
    by_cases h : f k = true <;> simp [h]
theorem law_meet {ts : List (List Nat)} {n : Nat} {many seed : Int} {S : Store} (a : At S n (.lst (ts.map U.str))) (T : Txs ts) (h0 : 0 ≤ seed) (h1 : seed ≤ 100000000) (hm : 0 < many) (hm2 : many ≤ 1000) :
    Wp (F__law_meet [.ref n, .int many, .int seed] S) fun u S' => u = meetU ts many seed ∧ Sx No S S' := by
  have few := T.few
  have lm : lim = 1000000 := rfl
  refine wp_call ?_
  unfold m__law_meet
  rw [wps_seq, wps_set]
  refine (wp_names (ts := ts) (by omega) (fun w => rfl) (wp_itL ?_)).mono ?_
  · simp only [wp_var, wp_ok, wp_bin, wp_c, wp_b, wp_if, wps_if, wp_and, wp_or, wp_not, wp_nil, wp_cons, wp_callC, wp_callF, wp_call0, wp_tup, wp_lst, wps_nil, wps_ret, wps_set, wps_asg, wp_gN, wp_gsNil, wp_gsCons, wp_gS, wp_yes, wp_bm, wp_cut, wp_oNo, wp_oSo, wp_neg, wp_int, wp_add, wp_sub, wp_mul, wp_cInt, wp_eqI, wp_neI, wps_seq, List.getElem?_cons_zero, List.getElem?_cons_succ, List.set_cons_zero, List.set_cons_succ, List.map_cons, List.map_nil, List.length_cons, List.length_nil, List.cons_append, List.nil_append, List.append_nil, List.replicate, U.bl.injEq, U.int.injEq, exists_eq_left', Nat.reduceAdd, Nat.reduceSub, Nat.reduceMul, reduceCtorEq, false_implies, true_implies, true_and, and_true, eq_self]
    exact ⟨n, ts.map U.str, rfl, a, Sx.refl, fun S' x => yld_l (a.sx x).get⟩
  rintro u S1 ⟨b, rfl, ge, ab, x1⟩
  rw [wps_seq, wps_set]
  refine Wp.mono (wp_lcN ((List.range many.toNat).map fun i : Nat => U.int (0 + i)) (fun w => match w with
    | .int s => some (rowU ((dkeys ts).filter fun t => decide (mixF t seed % many = s)))
    | _ => none) (wp_range1 ?_) (fun w S' hw x => ?_) (by rw [List.length_map, List.length_range]; have : fuel = 100000 := rfl; omega)) ?_
  · simp only [List.map_cons, List.map_nil, List.length_cons, List.length_nil, Nat.reduceAdd, Nat.reduceSub, List.replicate, List.cons_append, List.nil_append, List.set_cons_succ, List.set_cons_zero, wp_var, wp_ok, wp_bin, wp_c, wp_b, wp_if, wps_if, wp_and, wp_or, wp_not, wp_nil, wp_cons, wp_callC, wp_callF, wp_call0, wp_tup, wp_lst, wps_nil, wps_ret, wps_set, wps_asg, wp_gN, wp_gsNil, wp_gsCons, wp_gS, wp_yes, wp_bm, wp_cut, wp_oNo, wp_oSo, wp_neg, wp_int, wp_add, wp_sub, wp_mul, wp_cInt, wp_eqI, wp_neI, wps_seq, List.getElem?_cons_zero, List.getElem?_cons_succ, List.set_cons_zero, List.set_cons_succ, List.map_cons, List.map_nil, List.length_cons, List.length_nil, List.cons_append, List.nil_append, List.append_nil, List.replicate, U.bl.injEq, U.int.injEq, exists_eq_left', Nat.reduceAdd, Nat.reduceSub, Nat.reduceMul, reduceCtorEq, false_implies, true_implies, true_and, and_true, eq_self]
    exact ⟨many, rfl, by unfold inR; simp; omega, Sx.refl, fun S' _ => yld_r⟩
  · obtain ⟨s, _, rfl⟩ := List.mem_map.mp hw
    simp only [wipeU, wp_var, wp_ok, wp_bin, wp_c, wp_b, wp_if, wps_if, wp_and, wp_or, wp_not, wp_nil, wp_cons, wp_callC, wp_callF, wp_call0, wp_tup, wp_lst, wps_nil, wps_ret, wps_set, wps_asg, wp_gN, wp_gsNil, wp_gsCons, wp_gS, wp_yes, wp_bm, wp_cut, wp_oNo, wp_oSo, wp_neg, wp_int, wp_add, wp_sub, wp_mul, wp_cInt, wp_eqI, wp_neI, wps_seq, List.getElem?_cons_zero, List.getElem?_cons_succ, List.set_cons_zero, List.set_cons_succ, List.map_cons, List.map_nil, List.length_cons, List.length_nil, List.cons_append, List.nil_append, List.append_nil, List.replicate, U.bl.injEq, U.int.injEq, exists_eq_left', Nat.reduceAdd, Nat.reduceSub, Nat.reduceMul, reduceCtorEq, false_implies, true_implies, true_and, and_true, eq_self]
    refine Wp.mono (wp_lcN ((dkeys ts).map U.str) (fun w => match w with
      | .str t => if decide (mixF t seed % many = (0 + (s : Int))) = true then some (U.str t) else none
      | _ => none) (wp_itL ?_) (fun w S2 hw x2 => ?_) (by rw [List.length_map]; have := dkeys_len ts; have : fuel = 100000 := rfl; omega)) ?_
    · simp only [wp_var, wp_ok, wp_bin, wp_c, wp_b, wp_if, wps_if, wp_and, wp_or, wp_not, wp_nil, wp_cons, wp_callC, wp_callF, wp_call0, wp_tup, wp_lst, wps_nil, wps_ret, wps_set, wps_asg, wp_gN, wp_gsNil, wp_gsCons, wp_gS, wp_yes, wp_bm, wp_cut, wp_oNo, wp_oSo, wp_neg, wp_int, wp_add, wp_sub, wp_mul, wp_cInt, wp_eqI, wp_neI, wps_seq, List.getElem?_cons_zero, List.getElem?_cons_succ, List.set_cons_zero, List.set_cons_succ, List.map_cons, List.map_nil, List.length_cons, List.length_nil, List.cons_append, List.nil_append, List.append_nil, List.replicate, U.bl.injEq, U.int.injEq, exists_eq_left', Nat.reduceAdd, Nat.reduceSub, Nat.reduceMul, reduceCtorEq, false_implies, true_implies, true_and, and_true, eq_self]
      exact ⟨b, _, rfl, ab.sx x, Sx.refl, fun S' x' => yld_l ((ab.sx x).sx x').get⟩
    · obtain ⟨t, ht, rfl⟩ := List.mem_map.mp hw
      have htl := (T.tx t (dkeys_mem.mp ht)).1
      simp only [wipeU, wp_var, wp_ok, wp_bin, wp_c, wp_b, wp_if, wps_if, wp_and, wp_or, wp_not, wp_nil, wp_cons, wp_callC, wp_callF, wp_call0, wp_tup, wp_lst, wps_nil, wps_ret, wps_set, wps_asg, wp_gN, wp_gsNil, wp_gsCons, wp_gS, wp_yes, wp_bm, wp_cut, wp_oNo, wp_oSo, wp_neg, wp_int, wp_add, wp_sub, wp_mul, wp_cInt, wp_eqI, wp_neI, wps_seq, List.getElem?_cons_zero, List.getElem?_cons_succ, List.set_cons_zero, List.set_cons_succ, List.map_cons, List.map_nil, List.length_cons, List.length_nil, List.cons_append, List.nil_append, List.append_nil, List.replicate, U.bl.injEq, U.int.injEq, exists_eq_left', Nat.reduceAdd, Nat.reduceSub, Nat.reduceMul, reduceCtorEq, false_implies, true_implies, true_and, and_true, eq_self]
      refine (lmix S2 h0 h1 (by omega)).mono ?_
      rintro u S3 ⟨rfl, rfl⟩
      rw [wp_mod hm, wp_eqI]
      refine ⟨_, rfl, fun hb => ?_, fun hb => ?_⟩
      · exact ⟨Sx.refl, by simp only [hb]; rfl⟩
      · exact ⟨Sx.refl, by simp only [hb]; rfl⟩
    · rintro u S2 ⟨c, rfl, gc, ac, x2⟩
      rw [fmap_texts] at ac
      rw [wp_tupL ac]
      exact ⟨x2, rfl⟩
  · rintro u S2 ⟨c, rfl, gc, ac, x2⟩
    have er : ((List.range many.toNat).map fun i : Nat => U.int (0 + i)).filterMap (fun w => match w with
        | .int s => some (rowU ((dkeys ts).filter fun t => decide (mixF t seed % many = s)))
        | _ => none) = ((List.range many.toNat).map (rowF (dkeys ts) many seed)).map rowU := by
      generalize List.range many.toNat = rs
      induction rs with
      | nil => rfl
      | cons r rs ih =>
        rw [List.map_cons, List.filterMap_cons, ih, Int.zero_add]
        rfl
    rw [er] at ac
    generalize hrows : (List.range many.toNat).map (rowF (dkeys ts) many seed) = rows at ac
    rw [wps_ret]
    simp only [wp_callC, wp_cons, wp_nil]
    refine Wp.mono (wp_lcN (rows.map rowU) (fun w => match w with
      | .tup r => if decide (1 < r.length) = true then some (.tup r) else none
      | _ => none) (wp_itL ?_) (fun w S3 hw x3 => ?_) ?_) ?_
    · simp only [wp_var, wp_ok, wp_bin, wp_c, wp_b, wp_if, wps_if, wp_and, wp_or, wp_not, wp_nil, wp_cons, wp_callC, wp_callF, wp_call0, wp_tup, wp_lst, wps_nil, wps_ret, wps_set, wps_asg, wp_gN, wp_gsNil, wp_gsCons, wp_gS, wp_yes, wp_bm, wp_cut, wp_oNo, wp_oSo, wp_neg, wp_int, wp_add, wp_sub, wp_mul, wp_cInt, wp_eqI, wp_neI, wps_seq, List.getElem?_cons_zero, List.getElem?_cons_succ, List.set_cons_zero, List.set_cons_succ, List.map_cons, List.map_nil, List.length_cons, List.length_nil, List.cons_append, List.nil_append, List.append_nil, List.replicate, U.bl.injEq, U.int.injEq, exists_eq_left', Nat.reduceAdd, Nat.reduceSub, Nat.reduceMul, reduceCtorEq, false_implies, true_implies, true_and, and_true, eq_self]
      exact ⟨c, _, rfl, ac, Sx.refl, fun S' x' => yld_l (ac.sx x').get⟩
    · obtain ⟨r, hr, rfl⟩ := List.mem_map.mp hw
      have el : cLen [rowU r] S3 = .ok (.int r.length) S3 := by simp only [cLen, rowU, seqU, List.length_map]
      simp only [wipeU, wp_var, wp_ok, wp_bin, wp_c, wp_b, wp_if, wps_if, wp_and, wp_or, wp_not, wp_nil, wp_cons, wp_callC, wp_callF, wp_call0, wp_tup, wp_lst, wps_nil, wps_ret, wps_set, wps_asg, wp_gN, wp_gsNil, wp_gsCons, wp_gS, wp_yes, wp_bm, wp_cut, wp_oNo, wp_oSo, wp_neg, wp_int, wp_add, wp_sub, wp_mul, wp_cInt, wp_eqI, wp_neI, wps_seq, List.getElem?_cons_zero, List.getElem?_cons_succ, List.set_cons_zero, List.set_cons_succ, List.map_cons, List.map_nil, List.length_cons, List.length_nil, List.cons_append, List.nil_append, List.append_nil, List.replicate, U.bl.injEq, U.int.injEq, exists_eq_left', Nat.reduceAdd, Nat.reduceSub, Nat.reduceMul, reduceCtorEq, false_implies, true_implies, true_and, and_true, eq_self]
      rw [el, wp_ok]
      refine ⟨_, rfl, fun hb => ⟨Sx.refl, ?_⟩, fun hb => ⟨Sx.refl, ?_⟩⟩
      · have hb := of_decide_eq_false hb
        simp only [rowU, List.length_map]
        rw [if_neg (by simp; omega)]
      · have hb := of_decide_eq_true hb
        simp only [rowU, List.length_map]
        rw [if_pos (by simp; omega)]
    · rw [List.length_map, ← hrows, List.length_map, List.length_range]
      have : fuel = 100000 := rfl
      omega
    · rintro u S3 ⟨e, rfl, ge3, ae, x3⟩
      have ef : (rows.map rowU).filterMap (fun w => match w with
        | .tup r => if decide (1 < r.length) = true then some (.tup r) else none
        | _ => none) = (rows.filter fun r => decide (1 < r.length)).map rowU := by
        clear hrows ac ae
        induction rows with
        | nil => rfl
        | cons k ks ih =>
          rw [List.map_cons, List.filterMap_cons, ih, List.filter_cons]
          by_cases h : 1 < k.length <;> simp [h, rowU]
      rw [ef] at ae
      rw [wp_tupL ae]
      refine ⟨?_, (x1.trans x2).trans x3⟩
      unfold meetU meetF
      rw [hrows]
end K01
/-! text K01m -/
namespace K01
open Sm Pl
/-! ### meeting_rows: the dict found, plain -/
/-- a dict of spots, kept as pairs of a spot and its texts -/
abbrev asF (l : List (Nat × List (List Nat))) : List (Ky × U) := l.map fun p => (Ky.i (p.1 : Int), rowU p.2)
def getR : List (Nat × List (List Nat)) → Nat → List (List Nat)
  | [], _ => []
  | (x, r) :: l, k => if x = k then r else getR l k
def hasR (l : List (Nat × List (List Nat))) (k : Nat) : Prop := k ∈ l.map (·.1)
def putR : List (Nat × List (List Nat)) → Nat → List Nat → List (Nat × List (List Nat))
  | [], k, t => [(k, [t])]
  | (x, r) :: l, k, t => if x = k then (x, r ++ [t]) :: l else (x, r) :: putR l k t
theorem getK_asF {k : Nat} : ∀ l, getK (asF l) (.i (k : Int)) = if k ∈ l.map (·.1) then some (rowU (getR l k)) else none
  | [] => rfl
  | (x, r) :: l => by
    show (if Ky.i (x : Int) = Ky.i (k : Int) then some (rowU r) else getK (asF l) (.i (k : Int))) = _
    rw [getK_asF l]
    by_cases h : x = k
    · subst h
      simp [getR]
    · have h2 : ¬ k = x := fun e => h e.symm
      have h3 : ¬ (x : Int) = (k : Int) := by omega
      simp only [getR, h, h2, h3, Ky.i.injEq, if_false, List.map_cons, List.mem_cons, false_or]
theorem getR_none {k : Nat} : ∀ l : List (Nat × List (List Nat)), k ∉ l.map (·.1) → getR l k = []
  | [], _ => rfl
  | (x, r) :: l, h => by
    simp only [List.map_cons, List.mem_cons, not_or] at h
    unfold getR
    rw [if_neg (fun e => h.1 e.symm)]
    exact getR_none l h.2
theorem getR_put {k s : Nat} {t : List Nat} : ∀ l, getR (putR l k t) s = if s = k then getR l k ++ [t] else getR l s
  | [] => by
    by_cases h : s = k
    · subst h; simp [putR, getR]
    · have h2 : ¬ k = s := fun e => h e.symm
      simp [putR, getR, h, h2]
  | (x, r) :: l => by
    unfold putR
    by_cases hx : x = k
    · subst hx
      rw [if_pos rfl]
      by_cases h : s = x
      · subst h; simp [getR]
      · have h2 : ¬ x = s := fun e => h e.symm
        simp [getR, h, h2]
    · rw [if_neg hx]
      unfold getR
      rw [getR_put l]
      by_cases h : s = k
      · subst h
        simp [hx]
      · simp [h]
theorem keys_put {k : Nat} {t : List Nat} : ∀ l, (putR l k t).map (·.1) = if k ∈ l.map (·.1) then l.map (·.1) else l.map (·.1) ++ [k]
  | [] => rfl
  | (x, r) :: l => by
    unfold putR
    by_cases hx : x = k
    · subst hx
      simp
    · rw [if_neg hx, List.map_cons, keys_put l]
      have h2 : ¬ k = x := fun e => hx e.symm
      by_cases h : k ∈ l.map (·.1)
      · simp only [List.map_cons, List.mem_cons, h, or_true, if_true]
      · simp only [List.map_cons, List.mem_cons, h, h2, or_self, if_false, List.cons_append]
theorem repK_none {k : Nat} {v : U} : ∀ l : List (Nat × List (List Nat)), k ∉ l.map (·.1) → repK (asF l) (.i (k : Int)) v = asF l
  | [], _ => rfl
  | (x, r) :: l, h => by
    simp only [List.map_cons, List.mem_cons, not_or] at h
    have h3 : ¬ Ky.i (x : Int) = Ky.i (k : Int) := fun e => by
      injection e with e
      exact h.1 (by omega)
    show (if Ky.i (x : Int) = Ky.i (k : Int) then (Ky.i (x : Int), v) :: repK (asF l) (.i (k : Int)) v else (Ky.i (x : Int), rowU r) :: repK (asF l) (.i (k : Int)) v) = _
    rw [if_neg h3, repK_none l h.2] <;> rfl
theorem repK_asF {k : Nat} {t : List Nat} : ∀ l : List (Nat × List (List Nat)), (l.map (·.1)).Nodup → k ∈ l.map (·.1) → repK (asF l) (.i (k : Int)) (rowU (getR l k ++ [t])) = asF (putR l k t)
  | [], _, h => by cases h
  | (x, r) :: l, hn, h => by
    have hn' := List.nodup_cons.mp hn
    show (if Ky.i (x : Int) = Ky.i (k : Int) then (Ky.i (x : Int), rowU (getR ((x, r) :: l) k ++ [t])) :: repK (asF l) (.i (k : Int)) _ else (Ky.i (x : Int), rowU r) :: repK (asF l) (.i (k : Int)) _) = _
    by_cases hx : x = k
    · subst hx
      rw [if_pos rfl, repK_none l hn'.1]
      simp only [getR, putR, if_true, List.map_cons]
    · have h3 : ¬ Ky.i (x : Int) = Ky.i (k : Int) := fun e => by
        injection e with e
        exact hx (by omega)
      have hk : k ∈ l.map (·.1) := (List.mem_cons.mp h).resolve_left fun e => hx e.symm
      rw [if_neg h3]
      simp only [getR, putR, hx, if_false, List.map_cons]
      rw [repK_asF l hn'.2 hk]
theorem setK_asF {k : Nat} {t : List Nat} {l : List (Nat × List (List Nat))} (hn : (l.map (·.1)).Nodup) : setK (asF l) (.i (k : Int)) (rowU (getR l k ++ [t])) = asF (putR l k t) := by
  unfold setK
  rw [getK_asF]
  by_cases h : k ∈ l.map (·.1)
  · rw [if_pos h]
    exact repK_asF l hn h
  · rw [if_neg h, getR_none l h]
    clear hn
    induction l with
    | nil => rfl
    | cons p l ih =>
      obtain ⟨x, r⟩ := p
      simp only [List.map_cons, List.mem_cons, not_or] at h
      have hx : ¬ x = k := fun e => h.1 e.symm
      have := ih h.2
      simp only [putR, hx, if_false, List.map_cons, List.cons_append]
      exact congrArg ((Ky.i (x : Int), rowU r) :: ·) this
def foundL (f : List Nat → Nat) (ks : List (List Nat)) : List (Nat × List (List Nat)) := ks.foldl (fun l t => putR l (f t) t) []
theorem found_snoc (f : List Nat → Nat) (ks : List (List Nat)) (t : List Nat) : foundL f (ks ++ [t]) = putR (foundL f ks) (f t) t := by
  unfold foundL
  rw [List.foldl_append] <;> rfl
theorem found_nodup (f : List Nat → Nat) : ∀ (ks : List (List Nat)) (l : List (Nat × List (List Nat))), (l.map (·.1)).Nodup → ((ks.foldl (fun l t => putR l (f t) t) l).map (·.1)).Nodup
  | [], l, h => h
  | t :: ks, l, h => by
    refine found_nodup f ks _ ?_
    rw [keys_put]
    split
    · exact h
    · rename_i n
      exact List.nodup_append.mpr ⟨h, by simp, fun a ha b hb e => by
        obtain rfl := List.mem_singleton.mp hb
        exact n (e ▸ ha)⟩
theorem found_get (f : List Nat → Nat) (s : Nat) : ∀ (ks : List (List Nat)) (l : List (Nat × List (List Nat))), getR (ks.foldl (fun l t => putR l (f t) t) l) s = getR l s ++ ks.filter fun t => decide (f t = s)
  | [], l => by simp
  | t :: ks, l => by
    rw [List.foldl_cons, found_get f s ks, getR_put, List.filter_cons]
    by_cases h : s = f t
    · subst h; simp
    · have h2 : ¬ f t = s := fun e => h e.symm
      simp [h, h2]
theorem intKeys_asF : ∀ l : List (Nat × List (List Nat)), intKeys (asF l) = some (l.map fun p => (p.1 : Int))
  | [] => rfl
  | (x, r) :: l => by
    show (match intKeys (asF l) with | some l => _ | none => _) = _
    rw [intKeys_asF l] <;> rfl
theorem insI_mem {i x : Int} : ∀ l : List Int, x ∈ insI i l ↔ x = i ∨ x ∈ l
  | [] => by simp [insI]
  | j :: l => by
    unfold insI
    split
    · simp
    · simp only [List.mem_cons, insI_mem l]
      constructor
      · rintro (h | h | h)
        · exact .inr (.inl h)
        · exact .inl h
        · exact .inr (.inr h)
      · rintro (h | h | h)
        · exact .inr (.inl h)
        · exact .inl h
        · exact .inr (.inr h)
theorem srtI_mem {x : Int} : ∀ l : List Int, x ∈ srtI l ↔ x ∈ l
  | [] => Iff.rfl
  | i :: l => by
    unfold srtI
    rw [insI_mem, srtI_mem l, List.mem_cons]
theorem insI_lt {i : Int} : ∀ l : List Int, l.Pairwise (· < ·) → i ∉ l → (insI i l).Pairwise (· < ·)
  | [], _, _ => by simp [insI]
  | j :: l, h, hn => by
    obtain ⟨h1, h2⟩ := List.pairwise_cons.mp h
    simp only [List.mem_cons, not_or] at hn
    unfold insI
    split
    · refine List.pairwise_cons.mpr ⟨fun x hx => ?_, h⟩
      rcases List.mem_cons.mp hx with rfl | hx
      · omega
      · have := h1 x hx
        omega
    · refine List.pairwise_cons.mpr ⟨fun x hx => ?_, insI_lt l h2 hn.2⟩
      rcases (insI_mem l).mp hx with rfl | hx
      · omega
      · exact h1 x hx
theorem srtI_lt : ∀ l : List Int, l.Nodup → (srtI l).Pairwise (· < ·)
  | [], _ => List.Pairwise.nil
  | i :: l, h => by
    have h' := List.nodup_cons.mp h
    exact insI_lt _ (srtI_lt l h'.2) fun z => h'.1 ((srtI_mem l).mp z)
/-- two rising lists of the same members -/
theorem rise_eq : ∀ {l m : List Int}, l.Pairwise (· < ·) → m.Pairwise (· < ·) → (∀ x, x ∈ l ↔ x ∈ m) → l = m
  | [], m, _, _, h => (List.eq_nil_iff_forall_not_mem.mpr fun x hx => by simpa using (h x).mpr hx).symm
  | a :: l, [], _, _, h => by simpa using (h a).mp (List.mem_cons_self ..)
  | a :: l, b :: m, hl, hm, h => by
    obtain ⟨l1, l2⟩ := List.pairwise_cons.mp hl
    obtain ⟨m1, m2⟩ := List.pairwise_cons.mp hm
    have e : a = b := by
      rcases List.mem_cons.mp ((h a).mp (List.mem_cons_self ..)) with e | e
      · exact e
      · rcases List.mem_cons.mp ((h b).mpr (List.mem_cons_self ..)) with e2 | e2
        · exact e2.symm
        · have := m1 a e
          have := l1 b e2
          omega
    subst e
    rw [rise_eq l2 m2 fun x => ?_]
    constructor
    · intro hx
      rcases List.mem_cons.mp ((h x).mp (List.mem_cons_of_mem _ hx)) with e | e
      · have := l1 x hx; omega
      · exact e
    · intro hx
      rcases List.mem_cons.mp ((h x).mpr (List.mem_cons_of_mem _ hx)) with e | e
      · have := m1 x hx; omega
      · exact e
end K01
/-! text K01n -/
namespace K01
open Sm Pl
theorem found_len (f : List Nat → Nat) : ∀ (ks : List (List Nat)) (l : List (Nat × List (List Nat))), (ks.foldl (fun l t => putR l (f t) t) l).length ≤ l.length + ks.length
  | [], l => by simp
  | t :: ks, l => by
    have h1 := found_len f ks (putR l (f t) t)
    have h2 : ∀ l : List (Nat × List (List Nat)), (putR l (f t) t).length ≤ l.length + 1 := by
      intro l
      induction l with
      | nil => simp [putR]
      | cons p l ih =>
        obtain ⟨x, r⟩ := p
        unfold putR
        split <;> simp <;> omega
    have := h2 l
    simp only [List.foldl_cons, List.length_cons]
    omega
theorem rowU_get (l : List (Nat × List (List Nat))) (k : Nat) : (getK (asF l) (.i (k : Int))).getD (.tup []) = rowU (getR l k) := by
  rw [getK_asF]
  split
  · rfl
  · rename_i h
    rw [getR_none l h] <;> rfl
theorem found_keys (g : List Nat → Nat) (s : Nat) : ∀ (ks : List (List Nat)) (l : List (Nat × List (List Nat))), s ∈ (ks.foldl (fun l t => putR l (g t) t) l).map (·.1) ↔ s ∈ l.map (·.1) ∨ ∃ t ∈ ks, g t = s
  | [], l => by simp
  | t :: ks, l => by
    rw [List.foldl_cons, found_keys g s ks, keys_put]
    by_cases h : g t ∈ l.map (·.1)
    · rw [if_pos h]
      constructor
      · rintro (h1 | ⟨u, hu, e⟩)
        · exact .inl h1
        · exact .inr ⟨u, List.mem_cons_of_mem _ hu, e⟩
      · rintro (h1 | ⟨u, hu, e⟩)
        · exact .inl h1
        · rcases List.mem_cons.mp hu with rfl | hu
          · exact .inl (e ▸ h)
          · exact .inr ⟨u, hu, e⟩
    · rw [if_neg h]
      constructor
      · rintro (h1 | ⟨u, hu, e⟩)
        · rcases List.mem_append.mp h1 with h1 | h1
          · exact .inl h1
          · exact .inr ⟨t, List.mem_cons_self .., (List.mem_singleton.mp h1).symm⟩
        · exact .inr ⟨u, List.mem_cons_of_mem _ hu, e⟩
      · rintro (h1 | ⟨u, hu, e⟩)
        · exact .inl (List.mem_append_left _ h1)
        · rcases List.mem_cons.mp hu with rfl | hu
          · exact .inl (List.mem_append_right _ (by rw [← e]; exact List.mem_singleton.mpr rfl))
          · exact .inr ⟨u, hu, e⟩
theorem rows_fm (row : Nat → List (List Nat)) : ∀ R : List Nat, (((R.filter fun s => decide (row s ≠ [])).map fun s : Nat => (s : Int)).filterMap fun z => if 1 < (row z.toNat).length then some (rowU (row z.toNat)) else none) = ((R.map row).filter fun r => decide (1 < r.length)).map rowU
  | [] => rfl
  | s :: R => by
    have ih := rows_fm row R
    rw [List.filter_cons, List.map_cons, List.filter_cons]
    by_cases h : 1 < (row s).length
    · have h2 : row s ≠ [] := fun e => by rw [e] at h; simp at h
      rw [if_pos (decide_eq_true h2), if_pos (decide_eq_true h), List.map_cons, List.map_cons, List.filterMap_cons, ih]
      simp only [Int.toNat_natCast, if_pos h]
    · have h1 : ¬ (decide (1 < (row s).length) = true) := fun z => h (of_decide_eq_true z)
      by_cases h2 : row s ≠ []
      · rw [if_pos (decide_eq_true h2), if_neg h1, List.map_cons, List.filterMap_cons, ih]
        simp only [Int.toNat_natCast, if_neg h]
      · have h3 : ¬ (decide (row s ≠ []) = true) := fun z => h2 (of_decide_eq_true z)
        rw [if_neg h1, if_neg h3, ih]
theorem meet_tail {ks : List (List Nat)} {g : List Nat → Nat} {many seed : Int} {f : Nat} {S : Store} {a b c x y : Option U} (hj : ∀ t, (g t : Int) = mixF t seed % many) (hm : 0 < many) (hk : ks.length ≤ 8) (f4 : At S f (.dK (asF (foundL g ks)))) :
    Wp (mGx NSX [none, some 3] stpL [] finTup (mIt (mCallC cSorted (mCons (mVar 3) mNil))) (gN 0) (mB (mBin (oInt fun i j => decide (j < i)) (mCallC cLen (mCons (mBin oIx (mVar 1) (mVar 0)) mNil)) (mC (.int 1)))) (mBin oIx (mVar 1) (mVar 0)) [a, b, c, some (.ref f), x, y] S) fun u S' => u = .tup ((((List.range many.toNat).map (rowF ks many seed)).filter fun r => decide (1 < r.length)).map rowU) ∧ Sx No S S' := by
  have lm : lim = 1000000 := rfl
  have fl : fuel = 100000 := rfl
  have hrow : ∀ s, getR (foundL g ks) s = rowF ks many seed s := fun s => by
    unfold foundL
    rw [found_get g s ks []]
    simp only [getR, List.nil_append, rowF]
    refine List.filter_congr fun t _ => ?_
    rw [← hj t]
    exact decide_eq_decide.mpr (by omega)
  have hkey : ∀ s, s ∈ (foundL g ks).map (·.1) ↔ s < many.toNat ∧ rowF ks many seed s ≠ [] := fun s => by
    unfold foundL
    rw [found_keys g s ks []]
    simp only [List.map_nil, List.not_mem_nil, false_or]
    constructor
    · rintro ⟨t, ht, rfl⟩
      refine ⟨?_, ?_⟩
      · have := hj t
        have := Int.emod_lt_of_pos (mixF t seed) hm
        omega
      · exact List.ne_nil_of_mem (List.mem_filter.mpr ⟨ht, decide_eq_true (hj t).symm⟩)
    · rintro ⟨_, h⟩
      obtain ⟨t, ht⟩ := List.exists_mem_of_ne_nil _ h
      obtain ⟨h1, h2⟩ := List.mem_filter.mp ht
      have h3 := of_decide_eq_true h2
      have h4 := hj t
      exact ⟨t, h1, by omega⟩
  have nd : ((foundL g ks).map (·.1)).Nodup := found_nodup _ _ [] List.nodup_nil
  have hlen : (foundL g ks).length ≤ 8 := by
    have h9 := found_len g ks []
    simp only [List.length_nil, Nat.zero_add] at h9
    exact Nat.le_trans h9 hk
  generalize foundL g ks = l at *
  have eK : srtI (l.map fun p => (p.1 : Int)) = ((List.range many.toNat).filter fun s => decide (rowF ks many seed s ≠ [])).map fun s : Nat => (s : Int) := by
    refine rise_eq (srtI_lt _ ?_) ?_ fun z => ?_
    · have : (l.map fun p => (p.1 : Int)) = (l.map (·.1)).map fun s : Nat => (s : Int) := by rw [List.map_map] <;> rfl
      rw [this]
      exact List.Pairwise.map _ (fun a b h e => h (by omega)) nd
    · exact List.Pairwise.map _ (fun a b h => by omega) (List.Pairwise.filter _ List.pairwise_lt_range)
    · rw [srtI_mem]
      constructor
      · intro h
        obtain ⟨p, hp, rfl⟩ := List.mem_map.mp h
        obtain ⟨h1, h2⟩ := (hkey p.1).mp (List.mem_map_of_mem hp)
        exact List.mem_map.mpr ⟨p.1, List.mem_filter.mpr ⟨List.mem_range.mpr h1, decide_eq_true h2⟩, rfl⟩
      · intro h
        obtain ⟨s, hs, rfl⟩ := List.mem_map.mp h
        obtain ⟨h1, h2⟩ := List.mem_filter.mp hs
        obtain ⟨p, hp, e⟩ := List.mem_map.mp ((hkey s).mpr ⟨List.mem_range.mp h1, of_decide_eq_true h2⟩)
        exact List.mem_map.mpr ⟨p, hp, by rw [e]⟩
  have lK : (srtI (l.map fun p => (p.1 : Int))).length = (srtI (l.map fun p => (p.1 : Int))).length := rfl
  have es : cSorted [.ref f] S = .ok (.ref S.n) (S.new (.lst ((srtI (l.map fun p => (p.1 : Int))).map U.int))) := by
    simp only [cSorted, lstU, f4.get, srtD, intKeys_asF]
    rw [if_pos (by rw [List.length_map]; omega)]
  have hK : ∀ z ∈ srtI (l.map fun p => (p.1 : Int)), ∃ s : Nat, z = (s : Int) ∧ s ∈ l.map (·.1) := fun z hz => by
    obtain ⟨p, hp, rfl⟩ := List.mem_map.mp ((srtI_mem _).mp hz)
    exact ⟨p.1, rfl, List.mem_map_of_mem hp⟩
  have lenK : ∀ l : List Int, (srtI l).length = l.length := fun l => by
    have ins : ∀ (i : Int) (l : List Int), (insI i l).length = l.length + 1 := fun i l => by
      induction l with
      | nil => rfl
      | cons j l ih =>
        unfold insI
        split
        · rfl
        · simp [ih]
    induction l with
    | nil => rfl
    | cons i l ih => unfold srtI; rw [ins, ih]; rfl
  have hKl : (srtI (l.map fun p => (p.1 : Int))).length ≤ 8 := by rw [lenK, List.length_map]; exact hlen
  have fin : (srtI (l.map fun p => (p.1 : Int))).filterMap (fun z => if 1 < (getR l z.toNat).length then some (rowU (getR l z.toNat)) else none) = (((List.range many.toNat).map (rowF ks many seed)).filter fun r => decide (1 < r.length)).map rowU := by
    rw [eK, ← rows_fm (rowF ks many seed)]
    simp only [hrow]
  rw [← fin]
  clear fin eK lenK
  generalize srtI (l.map fun p => (p.1 : Int)) = K at *
  have aK : At (S.new (.lst (K.map U.int))) S.n (.lst (K.map U.int)) := At.new
  have fK : At (S.new (.lst (K.map U.int))) f (.dK (asF l)) := f4.sx (P := No) Sx.new
  refine wp_gx (K.map U.int) (fun i k ρ S' => S' = S.new (.lst (K.map U.int)) ∧ (∃ x, ρ = [x, some (.ref f)]) ∧ k = (K.take i).filterMap fun z => if 1 < (getR l z.toNat).length then some (rowU (getR l z.toNat)) else none) ?_ (by rw [List.length_map]; omega) ?_ ?_
  · refine wp_itL ?_
    simp only [wp_var, wp_ok, wp_bin, wp_c, wp_b, wp_if, wps_if, wp_and, wp_or, wp_not, wp_nil, wp_cons, wp_callC, wp_callF, wp_call0, wp_tup, wp_lst, wps_nil, wps_ret, wps_set, wps_asg, wp_gN, wp_gsNil, wp_gsCons, wp_gS, wp_yes, wp_bm, wp_cut, wp_oNo, wp_oSo, wp_neg, wp_int, wp_add, wp_sub, wp_mul, wp_cInt, wp_eqI, wp_neI, wps_seq, List.getElem?_cons_zero, List.getElem?_cons_succ, List.set_cons_zero, List.set_cons_succ, List.map_cons, List.map_nil, List.length_cons, List.length_nil, List.cons_append, List.nil_append, List.append_nil, List.replicate, U.bl.injEq, U.int.injEq, exists_eq_left', Nat.reduceAdd, Nat.reduceSub, Nat.reduceMul, reduceCtorEq, false_implies, true_implies, true_and, and_true, eq_self, es]
    refine ⟨S.n, _, rfl, aK, ⟨⟨none, rfl⟩, rfl⟩, ?_⟩
    rintro i k ρ S' ⟨rfl, _⟩
    exact yld_l aK.get
  · rintro i w k ρ S' hw ⟨rfl, ⟨x, rfl⟩, rfl⟩
    rw [List.getElem?_map] at hw
    cases hz : K[i]? with
    | none => rw [hz] at hw; cases hw
    | some z =>
      rw [hz] at hw
      cases hw
      obtain ⟨s, rfl, hs⟩ := hK z (List.mem_of_getElem? hz)
      have ei : oIx (.ref f) (.int (s : Int)) (S.new (.lst (K.map U.int))) = .ok (rowU (getR l s)) (S.new (.lst (K.map U.int))) := by
        simp only [oIx, seqU, lstU, fK.get, uKey, getK_asF, if_pos hs]
      have ec : ∀ S', cLen [rowU (getR l s)] S' = .ok (.int (getR l s).length) S' := fun S' => by
        simp only [rowU, cLen, seqU, List.length_map]
      simp only [wp_var, wp_ok, wp_bin, wp_c, wp_b, wp_if, wps_if, wp_and, wp_or, wp_not, wp_nil, wp_cons, wp_callC, wp_callF, wp_call0, wp_tup, wp_lst, wps_nil, wps_ret, wps_set, wps_asg, wp_gN, wp_gsNil, wp_gsCons, wp_gS, wp_yes, wp_bm, wp_cut, wp_oNo, wp_oSo, wp_neg, wp_int, wp_add, wp_sub, wp_mul, wp_cInt, wp_eqI, wp_neI, wps_seq, List.getElem?_cons_zero, List.getElem?_cons_succ, List.set_cons_zero, List.set_cons_succ, List.map_cons, List.map_nil, List.length_cons, List.length_nil, List.cons_append, List.nil_append, List.append_nil, List.replicate, U.bl.injEq, U.int.injEq, exists_eq_left', Nat.reduceAdd, Nat.reduceSub, Nat.reduceMul, reduceCtorEq, false_implies, true_implies, true_and, and_true, eq_self, ei, ec]
      have tk : (K.take (i + 1)).filterMap (fun z => if 1 < (getR l z.toNat).length then some (rowU (getR l z.toNat)) else none) = ((K.take i).filterMap fun z => if 1 < (getR l z.toNat).length then some (rowU (getR l z.toNat)) else none) ++ (if 1 < (getR l s).length then [rowU (getR l s)] else []) := by
        rw [List.take_succ, hz, List.filterMap_append]
        simp only [Option.toList, List.filterMap_cons, Int.toNat_natCast, List.filterMap_nil]
        by_cases h : 1 < (getR l s).length <;> simp [h]
      have hlk : ((K.take i).filterMap fun z => if 1 < (getR l z.toNat).length then some (rowU (getR l z.toNat)) else none).length < lim := by
        have h1 := List.length_filterMap_le (fun z : Int => if 1 < (getR l z.toNat).length then some (rowU (getR l z.toNat)) else none) (K.take i)
        rw [List.length_take] at h1
        omega
      rw [tk]
      generalize ((K.take i).filterMap fun z => if 1 < (getR l z.toNat).length then some (rowU (getR l z.toNat)) else none) = acc at hlk
      by_cases h : 1 < (getR l s).length
      · rw [if_pos h]
        refine ⟨fun hb => absurd (of_decide_eq_false hb) (by omega), fun _ => .inl ⟨acc ++ [rowU (getR l s)], ?_, ⟨_, rfl⟩, rfl⟩⟩
        unfold stpL
        rw [if_pos hlk]
      · rw [if_neg h, List.append_nil]
        exact ⟨fun _ => ⟨⟨_, rfl⟩, rfl⟩, fun hb => absurd (of_decide_eq_true hb) (by omega)⟩
  · rintro k ρ S' ⟨rfl, _, rfl⟩
    rw [List.length_map, List.take_length]
    exact ⟨rfl, Sx.new⟩
theorem meeting_rows {ts : List (List Nat)} {v : U} {many seed : Int} {S : Store} (a : TxAt S v ts) (T : Txs ts) (h0 : 0 ≤ seed) (h1 : seed ≤ 100000000) (hm : 0 < many) (hm2 : many ≤ 1000) :
    Wp (F_meeting_rows [v, .int many, .int seed] S) fun u S' => u = meetU ts many seed ∧ Sx No S S' := by
  have few := T.few
  have lm : lim = 1000000 := rfl
  have fl : fuel = 100000 := rfl
  have dl := dkeys_len ts
  refine wp_call ?_
  unfold m_meeting_rows
  simp only [mDict0, wp_var, wp_ok, wp_bin, wp_c, wp_b, wp_if, wps_if, wp_and, wp_or, wp_not, wp_nil, wp_cons, wp_callC, wp_callF, wp_call0, wp_tup, wp_lst, wps_nil, wps_ret, wps_set, wps_asg, wp_gN, wp_gsNil, wp_gsCons, wp_gS, wp_yes, wp_bm, wp_cut, wp_oNo, wp_oSo, wp_neg, wp_int, wp_add, wp_sub, wp_mul, wp_cInt, wp_eqI, wp_neI, wps_seq, List.getElem?_cons_zero, List.getElem?_cons_succ, List.set_cons_zero, List.set_cons_succ, List.map_cons, List.map_nil, List.length_cons, List.length_nil, List.cons_append, List.nil_append, List.append_nil, List.replicate, U.bl.injEq, U.int.injEq, exists_eq_left', Nat.reduceAdd, Nat.reduceSub, Nat.reduceMul, reduceCtorEq, false_implies, true_implies, true_and, and_true, eq_self]
  have x1 : Sx No S (S.new (.dK [])) := Sx.new
  have f1 : At (S.new (.dK [])) S.n (.dK (asF [])) := At.new
  generalize S.new (.dK []) = S1 at x1 f1
  generalize hf : S.n = f at f1
  have hd : Wp (mDc (mIt (mVar 0)) (gN 4) mYes (mVar 4) (mC (.bl true)) [4] [some v, some (.int many), some (.int seed), some (.ref f), none, none] S1) fun u S' => ∃ a, u = .ref a ∧ S1.n ≤ a ∧ At S' a (.dK (asD (.bl true) (dkeys ts))) ∧ Sx No S1 S' := by
    refine wp_dcT (by omega) (fun w => rfl) (wp_itX (ts := ts) ?_)
    simp only [wp_var, wp_ok, wp_bin, wp_c, wp_b, wp_if, wps_if, wp_and, wp_or, wp_not, wp_nil, wp_cons, wp_callC, wp_callF, wp_call0, wp_tup, wp_lst, wps_nil, wps_ret, wps_set, wps_asg, wp_gN, wp_gsNil, wp_gsCons, wp_gS, wp_yes, wp_bm, wp_cut, wp_oNo, wp_oSo, wp_neg, wp_int, wp_add, wp_sub, wp_mul, wp_cInt, wp_eqI, wp_neI, wps_seq, List.getElem?_cons_zero, List.getElem?_cons_succ, List.set_cons_zero, List.set_cons_succ, List.map_cons, List.map_nil, List.length_cons, List.length_nil, List.cons_append, List.nil_append, List.append_nil, List.replicate, U.bl.injEq, U.int.injEq, exists_eq_left', Nat.reduceAdd, Nat.reduceSub, Nat.reduceMul, reduceCtorEq, false_implies, true_implies, true_and, and_true, eq_self]
    exact ⟨a.sx x1, fun src hy => ⟨Sx.refl, fun S' x => hy S' ((a.sx x1).sx x)⟩⟩
  obtain ⟨u, S2, e1, d, rfl, ge, ad, x2⟩ := wp_ex hd
  have fd : f ≠ d := by have := f1.lt; omega
  obtain ⟨g, hj⟩ : ∃ g : List Nat → Nat, ∀ t, (g t : Int) = mixF t seed % many := ⟨fun t => (mixF t seed % many).toNat, fun t => Int.toNat_of_nonneg (Int.emod_nonneg _ (by omega))⟩
  refine wps_forD ((dkeys ts).map U.str) (fun i ρ S' => Sx No S S' ∧ S'.get d = some ⟨.dK (asD (.bl true) (dkeys ts)), 1⟩ ∧ d < S'.n ∧ At S' f (.dK (asF (foundL g ((dkeys ts).take i)))) ∧ ∃ x y, ρ = [some v, some (.int many), some (.int seed), some (.ref f), x, y]) (some d) ?_ (by rw [List.length_map]; omega) ?_ ?_
  · refine wp_itD ?_
    rw [e1, wp_ok]
    refine ⟨d, _, rfl, ad, rfl, ⟨((x1.trans x2).put_above (by have := x1.n; omega)), by rw [Store.get_put, if_pos rfl], ad.lt, (f1.sx x2).put_ne fd, none, none, rfl⟩, fun i ρ S' _ => ?_⟩
    have ek : (asD (.bl true) (dkeys ts)).map (fun p => kyU p.1) = (dkeys ts).map U.str := by
      simp only [asD, List.map_map]
      rfl
    rw [ek]
    exact yld_v
  · rintro i w ρ S' hw ⟨x3, hl, dl3, f3, x, y, rfl⟩
    obtain ⟨t, ht, rfl⟩ := texts_at hw
    have htl := (T.tx t (dkeys_mem.mp (List.mem_of_getElem? ht))).1
    simp only [wp_var, wp_ok, wp_bin, wp_c, wp_b, wp_if, wps_if, wp_and, wp_or, wp_not, wp_nil, wp_cons, wp_callC, wp_callF, wp_call0, wp_tup, wp_lst, wps_nil, wps_ret, wps_set, wps_asg, wp_gN, wp_gsNil, wp_gsCons, wp_gS, wp_yes, wp_bm, wp_cut, wp_oNo, wp_oSo, wp_neg, wp_int, wp_add, wp_sub, wp_mul, wp_cInt, wp_eqI, wp_neI, wps_seq, List.getElem?_cons_zero, List.getElem?_cons_succ, List.set_cons_zero, List.set_cons_succ, List.map_cons, List.map_nil, List.length_cons, List.length_nil, List.cons_append, List.nil_append, List.append_nil, List.replicate, U.bl.injEq, U.int.injEq, exists_eq_left', Nat.reduceAdd, Nat.reduceSub, Nat.reduceMul, reduceCtorEq, false_implies, true_implies, true_and, and_true, eq_self]
    refine (spot_of S' h0 h1 (by omega) hm).mono ?_
    rintro u S4 ⟨rfl, rfl⟩
    have h8 : ((dkeys ts).take i).length ≤ (dkeys ts).length := by rw [List.length_take]; omega
    have nd : ((foundL g ((dkeys ts).take i)).map (·.1)).Nodup := found_nodup _ _ [] List.nodup_nil
    have snoc : foundL g ((dkeys ts).take (i + 1)) = putR (foundL g ((dkeys ts).take i)) (g t) t := by rw [List.take_succ, ht]; exact found_snoc g _ t
    have hl3 : (foundL g ((dkeys ts).take i)).length ≤ 8 := by
      have h9 := found_len g ((dkeys ts).take i) []
      simp only [List.length_nil, Nat.zero_add] at h9
      exact Nat.le_trans h9 (by omega)
    have lr : (getR (foundL g ((dkeys ts).take i)) (g t)).length ≤ 8 := by
      have h7 := found_get g (g t) ((dkeys ts).take i) []
      have h6 := List.length_filter_le (fun u => decide (g u = g t)) ((dkeys ts).take i)
      unfold foundL
      rw [h7]
      simp only [getR, List.nil_append]
      omega
    generalize foundL g ((dkeys ts).take i) = l at *
    have eg : mDget2 (mVar 3) (mVar 5) (mTup mNil) [some v, some (U.int many), some (U.int seed), some (U.ref f), some (U.str t), some (U.int (mixF t seed % many))] S4 = .ok (rowU (getR l (g t))) S4 := by
      have e9 := rowU_get l (g t)
      rw [← hj t, ← e9]
      have e8 : isDU S4 (.ref f) = true := by simp only [isDU, f3.get]
      show (match isDU S4 (.ref f) with | true => oDget (.ref f) (.int (g t)) (.tup []) S4 | false => .bad) = _
      rw [e8]
      simp only [oDget, f3.get, uKey]
    rw [eg, wp_ok]
    refine ⟨by omega, ?_⟩
    have ea : oAdd (rowU (getR l (g t))) (.tup [.str t]) S4 = .ok (rowU (getR l (g t) ++ [t])) S4 := by
      show (if ((getR l (g t)).map U.str).length + 1 ≤ lim then Out.ok (U.tup ((getR l (g t)).map U.str ++ [.str t])) S4 else .bad) = _
      rw [if_pos (by rw [List.length_map]; omega)]
      unfold rowU
      rw [List.map_append] <;> rfl
    rw [ea, wp_ok]
    have es : uSet (.ref f) (.int (mixF t seed % many)) (rowU (getR l (g t) ++ [t])) S4 = .ok () (S4.put f ⟨.dK (asF (putR l (g t) t)), 0⟩) := by
      have e7 := setK_asF (k := g t) (t := t) nd
      rw [← e7, ← hj t]
      simp only [uSet, f3.get, uKey]
      rw [if_pos (by rw [List.length_map]; omega)]
    rw [es, wp_ok]
    rw [snoc]
    exact ⟨x3.put_above (by omega), by rw [Store.get_put, if_neg (Ne.symm fd)]; exact hl, dl3, At.put f3.lt, _, _, rfl⟩
  · rintro ρ S' ⟨x3, hl, dl3, f3, x, y, rfl⟩
    rw [List.length_map, List.take_length] at f3
    refine ⟨S'.put d ⟨.dK (asD (.bl true) (dkeys ts)), 0⟩, by simp only [unlk, hl], ?_⟩
    refine (meet_tail hj hm (by omega) (f3.put_ne fd)).mono ?_
    rintro u S5 ⟨rfl, x5⟩
    exact ⟨rfl, (x3.put_above (by have := x1.n; omega)).trans x5⟩
end K01
/-! text K01c -/
namespace K01
open Sm Pl
/-! ### changed_spots -/
theorem cut_to {α : Type} {l : List α} {k : Nat} : cutU l none (some (k : Int)) = l.take k := by
  unfold cutU
  rw [HT.sIx_none, HT.sIx_nat, List.drop_zero, Nat.sub_zero, ← List.take_take, List.take_length]
theorem cut_from {α : Type} {l : List α} {k : Nat} (h : k ≤ l.length) : cutU l (some (k : Int)) none = l.drop k := by
  unfold cutU
  rw [HT.sIx_none, HT.sIx_nat, Nat.min_eq_left h, List.take_of_length_le]
  rw [List.length_drop]
  exact Nat.le_refl _
theorem wp_addS {a b : List Nat} {S : Store} {Q : U → Store → Prop} : Wp (oAdd (.str a) (.str b) S) Q ↔ a.length + b.length ≤ lim ∧ Q (.str (a ++ b)) S := wp_ite
theorem wp_cutS {l : List Nat} {lo hi : Option Int} {S : Store} {Q : U → Store → Prop} : Wp (oCut (.str l) lo hi S) Q ↔ l.length ≤ lim ∧ Q (.str (cutU l lo hi)) S := wp_ite
theorem wp_ixS {l : List Nat} {k c : Nat} {S : Store} {Q : U → Store → Prop} (hk : l[k]? = some c) : Wp (oIx (.str l) (.int (k : Int)) S) Q ↔ l.length ≤ lim ∧ Q (.str [c]) S := by
  have e : atU l (k : Int) = some c := by
    have h : k < l.length := by
      obtain ⟨h, _⟩ := List.getElem?_eq_some_iff.mp hk
      exact h
    unfold atU pyIx
    rw [if_pos (by omega), if_pos (by omega)]
    simpa using hk
  show Wp (if l.length ≤ lim then (match atU l (k : Int) with | some c => .ok (.str [c]) S | none => .bad) else .bad) Q ↔ _
  rw [wp_ite, e] <;> rfl
def abcL : List Nat := (List.range 26).map (97 + ·)
def oneC (t : List Nat) (k : Nat) : List Nat := abcL.filter fun c => decide (t[k]? ≠ some c)
def mkO (t : List Nat) (k c : Nat) : List Nat := t.take k ++ [c] ++ t.drop (k + 1)
def oneL (t : List Nat) (k : Nat) : List (List Nat) := (oneC t k).map (mkO t k)
def othL (t : List Nat) (i : Nat) : List (List Nat) := (List.range i).flatMap (oneL t)
def chgP (t : List Nat) (many seed : Int) (o : List Nat) : Bool := !decide (mixF o seed % many = mixF t seed % many)
def chgU (t : List Nat) (many seed : Int) : U := .tup [.int ((othL t t.length).countP (chgP t many seed) : Nat), .int ((othL t t.length).length : Nat)]
theorem mkO_len {t : List Nat} {k c : Nat} (h : k < t.length) : (mkO t k c).length = t.length := by
  unfold mkO
  simp only [List.length_append, List.length_take, List.length_drop, List.length_cons, List.length_nil]
  omega
theorem othL_succ (t : List Nat) (i : Nat) : othL t (i + 1) = othL t i ++ oneL t i := by
  unfold othL
  rw [List.range_succ, List.flatMap_append]
  simp
def signF (c0 : Nat) : U → Option U
  | .str [c] => if c = c0 then none else some (.str [c])
  | _ => none
theorem fmap_signs {t : List Nat} {k c0 : Nat} (hk : t[k]? = some c0) : ∀ l : List Nat, (l.map fun c => U.str [c]).filterMap (signF c0) = (l.filter fun c => decide (t[k]? ≠ some c)).map fun c => U.str [c]
  | [] => rfl
  | c :: l => by
    rw [List.map_cons, List.filterMap_cons, fmap_signs hk l, List.filter_cons, hk]
    by_cases h : c = c0
    · subst h; simp [signF]
    · have h2 : ¬ c0 = c := fun e => h e.symm
      simp [signF, h, h2]
theorem changed_spots {t : List Nat} {many seed : Int} (S : Store) (h0 : 0 ≤ seed) (h1 : seed ≤ 100000000) (ht : t.length ≤ 100) (hm : 0 < many) :
    Wp (F_changed_spots [.str t, .int many, .int seed] S) fun u S' => u = chgU t many seed ∧ Sx No S S' := by
  have lm : lim = 1000000 := rfl
  have fl : fuel = 100000 := rfl
  refine wp_call ?_
  unfold m_changed_spots
  simp only [sPar3, wps_then, wps_nx, wp_var, wp_ok, wp_bin, wp_c, wp_b, wp_if, wps_if, wp_and, wp_or, wp_not, wp_nil, wp_cons, wp_callC, wp_callF, wp_call0, wp_tup, wp_lst, wps_nil, wps_ret, wps_set, wps_asg, wp_gN, wp_gsNil, wp_gsCons, wp_gS, wp_yes, wp_bm, wp_cut, wp_oNo, wp_oSo, wp_neg, wp_int, wp_add, wp_sub, wp_mul, wp_cInt, wp_eqI, wp_neI, wps_seq, List.getElem?_cons_zero, List.getElem?_cons_succ, List.set_cons_zero, List.set_cons_succ, List.map_cons, List.map_nil, List.length_cons, List.length_nil, List.cons_append, List.nil_append, List.append_nil, List.replicate, U.bl.injEq, U.int.injEq, exists_eq_left', Nat.reduceAdd, Nat.reduceSub, Nat.reduceMul, reduceCtorEq, false_implies, true_implies, true_and, and_true, eq_self]
  refine (spot_of S h0 h1 (by omega) hm).mono ?_
  rintro u S1 ⟨rfl, rfl⟩
  refine wps_for ((List.range t.length).map fun i : Nat => U.int (0 + i)) (fun i ρ S' => Sx No S1 S' ∧ ∃ x6 x7 x8 x9, ρ = [some (.str t), some (.int many), some (.int seed), some (.int (mixF t seed % many)), some (.int ((othL t i).countP (chgP t many seed) : Nat)), some (.int ((othL t i).length : Nat)), x6, x7, x8, x9]) ?_ (by rw [List.length_map, List.length_range]; omega) ?_ ?_
  · refine wp_range1 ?_
    simp only [wps_then, wps_nx, wp_var, wp_ok, wp_bin, wp_c, wp_b, wp_if, wps_if, wp_and, wp_or, wp_not, wp_nil, wp_cons, wp_callC, wp_callF, wp_call0, wp_tup, wp_lst, wps_nil, wps_ret, wps_set, wps_asg, wp_gN, wp_gsNil, wp_gsCons, wp_gS, wp_yes, wp_bm, wp_cut, wp_oNo, wp_oSo, wp_neg, wp_int, wp_add, wp_sub, wp_mul, wp_cInt, wp_eqI, wp_neI, wps_seq, List.getElem?_cons_zero, List.getElem?_cons_succ, List.set_cons_zero, List.set_cons_succ, List.map_cons, List.map_nil, List.length_cons, List.length_nil, List.cons_append, List.nil_append, List.append_nil, List.replicate, U.bl.injEq, U.int.injEq, exists_eq_left', Nat.reduceAdd, Nat.reduceSub, Nat.reduceMul, reduceCtorEq, false_implies, true_implies, true_and, and_true, eq_self]
    rw [wp_lenS]
    refine ⟨by omega, _, rfl, ?_, ?_⟩
    · unfold inR
      simp only [Bool.and_eq_true, decide_eq_true_eq]
      omega
    · rw [Int.toNat_natCast]
      exact ⟨⟨Sx.refl, none, none, none, none, rfl⟩, fun i ρ S' _ => yld_r⟩
  · rintro i w ρ S' hw ⟨x1, x6, x7, x8, x9, rfl⟩
    rw [List.getElem?_map] at hw
    have hi : i < t.length := by
      by_cases h : i < t.length
      · exact h
      · rw [List.getElem?_eq_none (by rw [List.length_range]; omega)] at hw
        cases hw
    rw [List.getElem?_range hi] at hw
    cases hw
    obtain ⟨c0, hc0⟩ : ∃ c0, t[i]? = some c0 := ⟨_, List.getElem?_eq_getElem hi⟩
    have ez : (fun i : Nat => U.int (0 + (i : Int))) i = U.int (i : Int) := congrArg U.int (Int.zero_add _)
    rw [ez, wp_gN, List.set_cons_succ, List.set_cons_succ, List.set_cons_succ, List.set_cons_succ, List.set_cons_succ, List.set_cons_succ, List.set_cons_zero]
    have hl := wp_lcN (S := S') (ρ := [some (.str t), some (.int many), some (.int seed), some (.int (mixF t seed % many)), some (.int ((othL t i).countP (chgP t many seed) : Nat)), some (.int ((othL t i).length : Nat)), some (.int (i : Int)), x7, x8, x9]) (mi := mIt (mCut (mC (.str L_SIGNS)) (oSo (mC (.int 1))) (oSo (mC (.int 27))))) (g := gN 7) (mt := mB (mBin oNe (mVar 7) (mBin oIx (mVar 0) (mVar 6)))) (me := mVar 7) (vs := [7]) (abcL.map fun c => U.str [c]) (signF c0) (wp_itS ?_) ?_ (by rw [List.length_map]; decide)
    obtain ⟨u, S2, el, a, rfl, ge, aa, x2⟩ := wp_ex hl
    rw [fmap_signs hc0] at aa
    refine wps_for ((oneC t i).map fun c => U.str [c]) (fun j ρ S' => Sx No S2 S' ∧ ∃ x7 x8 x9, ρ = [some (.str t), some (.int many), some (.int seed), some (.int (mixF t seed % many)), some (.int ((othL t i ++ ((oneC t i).take j).map (mkO t i)).countP (chgP t many seed) : Nat)), some (.int ((othL t i ++ ((oneC t i).take j).map (mkO t i)).length : Nat)), some (.int (i : Int)), x7, x8, x9]) ?_ ?_ ?_ ?_
    · refine wp_itL ?_
      rw [el, wp_ok]
      refine ⟨a, _, rfl, aa, rfl, ⟨Sx.refl, x7, x8, x9, ?_⟩, fun j ρ S3 h => yld_l (aa.sx h.1).get⟩
      simp only [List.take_zero, List.map_nil, List.append_nil]
    · rw [List.length_map]
      have := List.length_filter_le (fun c => decide (t[i]? ≠ some c)) abcL
      have e : abcL.length = 26 := rfl
      unfold oneC
      omega
    · rintro j w ρ S2 hw2 ⟨x2, x7, x8, x9, rfl⟩
      rw [List.getElem?_map] at hw2
      cases hj : (oneC t i)[j]? with
      | none => rw [hj] at hw2; cases hw2
      | some c =>
        rw [hj] at hw2
        cases hw2
        simp only [sAug, wps_then, wps_nx, wp_var, wp_ok, wp_bin, wp_c, wp_b, wp_if, wps_if, wp_and, wp_or, wp_not, wp_nil, wp_cons, wp_callC, wp_callF, wp_call0, wp_tup, wp_lst, wps_nil, wps_ret, wps_set, wps_asg, wp_gN, wp_gsNil, wp_gsCons, wp_gS, wp_yes, wp_bm, wp_cut, wp_oNo, wp_oSo, wp_neg, wp_int, wp_add, wp_sub, wp_mul, wp_cInt, wp_eqI, wp_neI, wps_seq, List.getElem?_cons_zero, List.getElem?_cons_succ, List.set_cons_zero, List.set_cons_succ, List.map_cons, List.map_nil, List.length_cons, List.length_nil, List.cons_append, List.nil_append, List.append_nil, List.replicate, U.bl.injEq, U.int.injEq, exists_eq_left', Nat.reduceAdd, Nat.reduceSub, Nat.reduceMul, reduceCtorEq, false_implies, true_implies, true_and, and_true, eq_self, wp_cutS, wp_addS, iAdd]
        have ci : cutU t none (some (i : Int)) = t.take i := cut_to
        have cs : cutU t (some ((i : Int) + 1)) none = t.drop (i + 1) := cut_from (k := i + 1) hi
        have eo : t.take i ++ [c] ++ t.drop (i + 1) = mkO t i c := rfl
        have hol := mkO_len (c := c) hi
        rw [ci, cs, eo]
        have l1 : (t.take i).length ≤ t.length := by rw [List.length_take]; omega
        have l2 : (t.drop (i + 1)).length ≤ t.length := by rw [List.length_drop]; omega
        refine ⟨by omega, by omega, by omega, by rw [List.length_append, List.length_cons, List.length_nil]; omega, ?_⟩
        refine (spot_of S2 h0 h1 (by omega) hm).mono ?_
        rintro u S4 ⟨rfl, rfl⟩
        rw [wp_neI]
        have tk : othL t i ++ ((oneC t i).take (j + 1)).map (mkO t i) = (othL t i ++ ((oneC t i).take j).map (mkO t i)) ++ [mkO t i c] := by
          rw [List.take_succ, hj, List.map_append, List.append_assoc] <;> rfl
        rw [tk]
        generalize othL t i ++ ((oneC t i).take j).map (mkO t i) = acc
        rw [List.countP_append, List.length_append, List.length_singleton, List.countP_singleton]
        refine ⟨_, rfl, fun hb => ⟨x2, x7, some (.str [c]), some (.str (mkO t i c)), ?_⟩, fun hb => ⟨x2, x7, some (.str [c]), some (.str (mkO t i c)), ?_⟩⟩
        · rw [if_pos (show chgP t many seed (mkO t i c) = true from hb)] <;> rfl
        · rw [if_neg (show ¬ chgP t many seed (mkO t i c) = true from fun z => by rw [show chgP t many seed (mkO t i c) = false from hb] at z; cases z)] <;> rfl
    · rintro ρ S3 ⟨x3, x7, x8, x9, rfl⟩
      rw [List.length_map, List.take_length]
      refine ⟨(x1.trans x2).trans x3, some (.int (i : Int)), x7, x8, x9, ?_⟩
      rw [othL_succ] <;> rfl
    · simp only [wp_var, wp_ok, wp_bin, wp_c, wp_b, wp_if, wps_if, wp_and, wp_or, wp_not, wp_nil, wp_cons, wp_callC, wp_callF, wp_call0, wp_tup, wp_lst, wps_nil, wps_ret, wps_set, wps_asg, wp_gN, wp_gsNil, wp_gsCons, wp_gS, wp_yes, wp_bm, wp_cut, wp_oNo, wp_oSo, wp_neg, wp_int, wp_add, wp_sub, wp_mul, wp_cInt, wp_eqI, wp_neI, wps_seq, List.getElem?_cons_zero, List.getElem?_cons_succ, List.set_cons_zero, List.set_cons_succ, List.map_cons, List.map_nil, List.length_cons, List.length_nil, List.cons_append, List.nil_append, List.append_nil, List.replicate, U.bl.injEq, U.int.injEq, exists_eq_left', Nat.reduceAdd, Nat.reduceSub, Nat.reduceMul, reduceCtorEq, false_implies, true_implies, true_and, and_true, eq_self]
      rw [wp_cutS]
      have eL : cutU L_SIGNS (some 1) (some 27) = abcL := by decide +kernel
      rw [eL]
      exact ⟨by decide, abcL, rfl, Sx.refl, fun S' _ => yld_v⟩
    · intro w S2 hw2 x2
      obtain ⟨c, _, rfl⟩ := List.mem_map.mp hw2
      simp only [wipeU, wp_var, wp_ok, wp_bin, wp_c, wp_b, wp_if, wps_if, wp_and, wp_or, wp_not, wp_nil, wp_cons, wp_callC, wp_callF, wp_call0, wp_tup, wp_lst, wps_nil, wps_ret, wps_set, wps_asg, wp_gN, wp_gsNil, wp_gsCons, wp_gS, wp_yes, wp_bm, wp_cut, wp_oNo, wp_oSo, wp_neg, wp_int, wp_add, wp_sub, wp_mul, wp_cInt, wp_eqI, wp_neI, wps_seq, List.getElem?_cons_zero, List.getElem?_cons_succ, List.set_cons_zero, List.set_cons_succ, List.map_cons, List.map_nil, List.length_cons, List.length_nil, List.cons_append, List.nil_append, List.append_nil, List.replicate, U.bl.injEq, U.int.injEq, exists_eq_left', Nat.reduceAdd, Nat.reduceSub, Nat.reduceMul, reduceCtorEq, false_implies, true_implies, true_and, and_true, eq_self]
      rw [wp_ixS hc0, wp_neS]
      refine ⟨by omega, _, rfl, ?_⟩
      by_cases h : c = c0
      · subst h; simp [signF, Sx.refl]
      · simp [signF, h, Sx.refl]
  · rintro ρ S' ⟨x1, x6, x7, x8, x9, rfl⟩
    rw [List.length_map, List.length_range]
    simp only [wp_var, wp_ok, wp_bin, wp_c, wp_b, wp_if, wps_if, wp_and, wp_or, wp_not, wp_nil, wp_cons, wp_callC, wp_callF, wp_call0, wp_tup, wp_lst, wps_nil, wps_ret, wps_set, wps_asg, wp_gN, wp_gsNil, wp_gsCons, wp_gS, wp_yes, wp_bm, wp_cut, wp_oNo, wp_oSo, wp_neg, wp_int, wp_add, wp_sub, wp_mul, wp_cInt, wp_eqI, wp_neI, wps_seq, List.getElem?_cons_zero, List.getElem?_cons_succ, List.set_cons_zero, List.set_cons_succ, List.map_cons, List.map_nil, List.length_cons, List.length_nil, List.cons_append, List.nil_append, List.append_nil, List.replicate, U.bl.injEq, U.int.injEq, exists_eq_left', Nat.reduceAdd, Nat.reduceSub, Nat.reduceMul, reduceCtorEq, false_implies, true_implies, true_and, and_true, eq_self]
    exact ⟨by decide, rfl, x1⟩
end K01
/-! text K01d -/
namespace K01
open Sm Pl
/-! ### first_seed -/
def rowD (r : List (List Nat)) : PySem.PyData := .tuple (r.map fun t => .str ⟨t.toArray⟩)
def meetD (ts : List (List Nat)) (many seed : Int) : PySem.PyData := .tuple ((meetF ts many seed).map rowD)
theorem row_toD (go : Nat → Option PySem.PyData) (r : List (List Nat)) : toD1 go (rowU r) = some (rowD r) := by
  have h : toDs1 go (r.map U.str) = some (r.map fun t => .str ⟨t.toArray⟩) := toDs_map fun t _ => rfl
  show (toDs1 go (r.map U.str)).map PySem.PyData.tuple = _
  rw [h] <;> rfl
theorem meet_toD (S : Store) (ts : List (List Nat)) (many seed : Int) : toD S (meetU ts many seed) = some (meetD ts many seed) := toD_tup fun r _ => row_toD _ r
theorem meet_shp {ts : List (List Nat)} (T : Txs ts) (many seed : Int) : Shp 2 (meetD ts many seed) := by
  refine Shp.tup fun x hx => ?_
  obtain ⟨r, hr, rfl⟩ := List.mem_map.mp hx
  refine Shp.tup (k := 0) fun y hy => ?_
  obtain ⟨t, ht, rfl⟩ := List.mem_map.mp hy
  obtain ⟨s, _, rfl⟩ := List.mem_map.mp (List.mem_filter.mp hr).1
  exact Shp.str (T.tx t (dkeys_mem.mp (List.mem_filter.mp ht).1)).2
theorem meet_nil {S : Store} {ts : List (List Nat)} (T : Txs ts) (many seed : Int) {Q : U → Store → Prop} : Wp (oEq (meetU ts many seed) (.tup []) S) Q ↔ Q (.bl (meetF ts many seed).isEmpty) S := by
  rw [wp_eqD (meet_toD S ts many seed) (e := .tuple []) rfl (meet_shp T many seed) (Shp.tup (k := 0) (xs := []) fun _ h => nomatch h)]
  unfold meetD
  rw [eqv_nilT, List.isEmpty_map]
def firstF (ts : List (List Nat)) (many : Int) (most : Nat) : Option Nat := (List.range most).find? fun s => (meetF ts many (s : Int)).isEmpty
def firstU (ts : List (List Nat)) (many : Int) (most : Nat) : U := match firstF ts many most with
  | some s => .int (s : Nat)
  | none => .non
theorem find_at {p : Nat → Bool} {n i : Nat} (hi : i < n) (h : ∀ j, j < i → p j = false) (hp : p i = true) : (List.range n).find? p = some i := by
  rw [List.find?_range_eq_some]
  refine ⟨hp, List.mem_range.mpr hi, fun j hj => ?_⟩
  rw [h j hj] <;> rfl
theorem first_seed {ts : List (List Nat)} {v : U} {many : Int} {most : Nat} {S : Store} (a : TxAt S v ts) (T : Txs ts) (hm : 0 < many) (hm2 : many ≤ 1000) (hs : 0 < most) (hs2 : most ≤ 1000) :
    Wp (F_first_seed [v, .int many, .int (most : Int)] S) fun u S' => u = firstU ts many most ∧ Sx No S S' := by
  have fl : fuel = 100000 := rfl
  refine wp_call ?_
  unfold m_first_seed
  rw [wps_seq]
  simp only [wp_var, wp_ok, wp_bin, wp_c, wp_b, wp_if, wps_if, wp_and, wp_or, wp_not, wp_nil, wp_cons, wp_callC, wp_callF, wp_call0, wp_tup, wp_lst, wps_nil, wps_ret, wps_set, wps_asg, wp_gN, wp_gsNil, wp_gsCons, wp_gS, wp_yes, wp_bm, wp_cut, wp_oNo, wp_oSo, wp_neg, wp_int, wp_add, wp_sub, wp_mul, wp_cInt, wp_eqI, wp_neI, wps_seq, List.getElem?_cons_zero, List.getElem?_cons_succ, List.set_cons_zero, List.set_cons_succ, List.map_cons, List.map_nil, List.length_cons, List.length_nil, List.cons_append, List.nil_append, List.append_nil, List.replicate, U.bl.injEq, U.int.injEq, exists_eq_left', Nat.reduceAdd, Nat.reduceSub, Nat.reduceMul, reduceCtorEq, false_implies, true_implies, true_and, and_true, eq_self]
  have c1 : decide ((most : Int) < 1) = false := decide_eq_false (by omega)
  have c2 : decide (many < 1) = false := decide_eq_false (by omega)
  rw [c1, c2]
  simp only [wp_var, wp_ok, wp_bin, wp_c, wp_b, wp_if, wps_if, wp_and, wp_or, wp_not, wp_nil, wp_cons, wp_callC, wp_callF, wp_call0, wp_tup, wp_lst, wps_nil, wps_ret, wps_set, wps_asg, wp_gN, wp_gsNil, wp_gsCons, wp_gS, wp_yes, wp_bm, wp_cut, wp_oNo, wp_oSo, wp_neg, wp_int, wp_add, wp_sub, wp_mul, wp_cInt, wp_eqI, wp_neI, wps_seq, List.getElem?_cons_zero, List.getElem?_cons_succ, List.set_cons_zero, List.set_cons_succ, List.map_cons, List.map_nil, List.length_cons, List.length_nil, List.cons_append, List.nil_append, List.append_nil, List.replicate, U.bl.injEq, U.int.injEq, exists_eq_left', Nat.reduceAdd, Nat.reduceSub, Nat.reduceMul, reduceCtorEq, false_implies, true_implies, true_and, and_true, eq_self]
  refine wps_for ((List.range most).map fun i : Nat => U.int (0 + i)) (fun i ρ S' => Sx No S S' ∧ (∀ j, j < i → (meetF ts many (j : Int)).isEmpty = false) ∧ ∃ x, ρ = [some v, some (.int many), some (.int (most : Int)), x]) ?_ ?_ ?_ ?_
  · have hh := @wp_range1 S
    refine wp_range1 ?_
    simp only [wp_var, wp_ok, wp_bin, wp_c, wp_b, wp_if, wps_if, wp_and, wp_or, wp_not, wp_nil, wp_cons, wp_callC, wp_callF, wp_call0, wp_tup, wp_lst, wps_nil, wps_ret, wps_set, wps_asg, wp_gN, wp_gsNil, wp_gsCons, wp_gS, wp_yes, wp_bm, wp_cut, wp_oNo, wp_oSo, wp_neg, wp_int, wp_add, wp_sub, wp_mul, wp_cInt, wp_eqI, wp_neI, wps_seq, List.getElem?_cons_zero, List.getElem?_cons_succ, List.set_cons_zero, List.set_cons_succ, List.map_cons, List.map_nil, List.length_cons, List.length_nil, List.cons_append, List.nil_append, List.append_nil, List.replicate, U.bl.injEq, U.int.injEq, exists_eq_left', Nat.reduceAdd, Nat.reduceSub, Nat.reduceMul, reduceCtorEq, false_implies, true_implies, true_and, and_true, eq_self]
    refine ⟨_, rfl, ?_, ?_⟩
    · unfold inR
      simp only [Bool.and_eq_true, decide_eq_true_eq]
      omega
    · rw [Int.toNat_natCast]
      exact ⟨⟨Sx.refl, fun j hj => absurd hj (Nat.not_lt_zero _), none, rfl⟩, fun i ρ S' _ => yld_r⟩
  · rw [List.length_map, List.length_range]
    omega
  · rintro i w ρ S' hw ⟨x1, hj, x, rfl⟩
    rw [List.getElem?_map] at hw
    have hi : i < most := by
      by_cases h : i < most
      · exact h
      · rw [List.getElem?_eq_none (by rw [List.length_range]; omega)] at hw
        cases hw
    rw [List.getElem?_range hi] at hw
    cases hw
    have ez : (fun i : Nat => U.int (0 + (i : Int))) i = U.int (i : Int) := congrArg U.int (Int.zero_add _)
    rw [ez]
    simp only [wp_var, wp_ok, wp_bin, wp_c, wp_b, wp_if, wps_if, wp_and, wp_or, wp_not, wp_nil, wp_cons, wp_callC, wp_callF, wp_call0, wp_tup, wp_lst, wps_nil, wps_ret, wps_set, wps_asg, wp_gN, wp_gsNil, wp_gsCons, wp_gS, wp_yes, wp_bm, wp_cut, wp_oNo, wp_oSo, wp_neg, wp_int, wp_add, wp_sub, wp_mul, wp_cInt, wp_eqI, wp_neI, wps_seq, List.getElem?_cons_zero, List.getElem?_cons_succ, List.set_cons_zero, List.set_cons_succ, List.map_cons, List.map_nil, List.length_cons, List.length_nil, List.cons_append, List.nil_append, List.append_nil, List.replicate, U.bl.injEq, U.int.injEq, exists_eq_left', Nat.reduceAdd, Nat.reduceSub, Nat.reduceMul, reduceCtorEq, false_implies, true_implies, true_and, and_true, eq_self]
    refine (meeting_rows (a.sx x1) T (by omega) (by omega) hm hm2).mono ?_
    rintro u S2 ⟨rfl, x2⟩
    simp only [meet_nil T, wp_var, wp_ok, wp_bin, wp_c, wp_b, wp_if, wps_if, wp_and, wp_or, wp_not, wp_nil, wp_cons, wp_callC, wp_callF, wp_call0, wp_tup, wp_lst, wps_nil, wps_ret, wps_set, wps_asg, wp_gN, wp_gsNil, wp_gsCons, wp_gS, wp_yes, wp_bm, wp_cut, wp_oNo, wp_oSo, wp_neg, wp_int, wp_add, wp_sub, wp_mul, wp_cInt, wp_eqI, wp_neI, wps_seq, List.getElem?_cons_zero, List.getElem?_cons_succ, List.set_cons_zero, List.set_cons_succ, List.map_cons, List.map_nil, List.length_cons, List.length_nil, List.cons_append, List.nil_append, List.append_nil, List.replicate, U.bl.injEq, U.int.injEq, exists_eq_left', Nat.reduceAdd, Nat.reduceSub, Nat.reduceMul, reduceCtorEq, false_implies, true_implies, true_and, and_true, eq_self]
    refine ⟨Nat.zero_le _, fun hb => ?_, fun hb => ?_⟩
    · refine ⟨?_, x1.trans x2⟩
      have e : firstF ts many most = some i := find_at hi hj hb
      unfold firstU
      rw [e]
    · refine ⟨x1.trans x2, fun j hj2 => ?_, _, rfl⟩
      rcases Nat.lt_succ_iff_lt_or_eq.mp hj2 with h | rfl
      · exact hj j h
      · exact hb
  · rintro ρ S' ⟨x1, hj, x, rfl⟩
    rw [List.length_map, List.length_range] at hj
    refine ⟨?_, x1⟩
    have e : firstF ts many most = none := by
      unfold firstF
      rw [List.find?_eq_none]
      intro s hs
      rw [hj s (List.mem_range.mp hs)]
      decide
    unfold firstU
    rw [e]
end K01
/-! text K01t -/
set_option maxHeartbeats 0
namespace K01
open Sm Pl
/-- the numbers below n whose square is at most a number -/
def rootsL (n : Nat) : List Int := ((List.range 25).map fun i : Nat => (i : Int)).filter fun i => decide (i * i ≤ (n : Int))
def divsL (p : Int) : List Int := ((List.range (p - 2).toNat).map fun i : Nat => 2 + (i : Int)).filter fun d => decide (d * d ≤ p) && decide (p % d = 0)
def primesL : List Int := [2, 3, 5, 7, 11, 13, 17, 19, 23, 29, 31, 37, 41, 43, 47, 53, 59, 61, 67, 71, 73, 79, 83, 89, 97, 101, 103, 107, 109, 113, 127, 131, 137, 139, 149, 151, 157, 163, 167, 173, 179, 181, 191, 193, 197, 199, 211, 223, 227, 229, 233, 239, 241, 251, 257, 263, 269, 271, 277, 281, 283, 293, 307, 311, 313, 317, 331, 337, 347, 349, 353, 359, 367, 373, 379, 383, 389, 397, 401, 409, 419, 421, 431, 433, 439, 443, 449, 457, 461, 463, 467, 479, 487, 491, 499]
def fitL (n : Nat) : List Int := primesL.filter fun p => decide ((n : Int) ≤ p)
theorem primes_eq : ((List.range 498).map fun i : Nat => 2 + (i : Int)).filter (fun p => (divsL p).isEmpty) = primesL := by
  decide +kernel
theorem root_all (S : Store) : (List.range 400).map (fun n : Nat => F_root_of [.int n] S) = (List.range 400).map fun n : Nat => .ok (.int ((rootsL n).getLast?.getD 0)) S := by
  kernel_rfl
abbrev np (n : Nat) : Int := (fitL n).head?.getD 0
abbrev condP : MT := (mB (mGx NSX [none, some 1] (stpB true) () finAny (mRange2 (mCons (mC (.int 2)) (mCons (mBin oAdd (mCall F_root_of 1 [] (mCons (mVar 1) mNil)) (mC (.int 1))) mNil))) (gN 0) mYes (mBin oEq (mBin oMod (mVar 1) (mVar 0)) (mC (.int 0)))))
theorem cond_all (x : Option U) (S : Store) : (List.range 498).map (fun p : Nat => condP [x, some (.int ((p : Int) + 2))] S) = (List.range 498).map fun p : Nat => .ok (!(primesL.elem ((p : Int) + 2))) S := by
  kernel_rfl
end K01
/-! text K01u -/
set_option maxHeartbeats 0
namespace K01
open Sm Pl
def npOk (n : Nat) : Bool := decide (2 ≤ np n) && decide ((n : Int) ≤ np n) && primesL.elem (np n) && decide (np n < 500) && (List.range 20).all fun i => decide (np n ≤ max 2 (n : Int) + (i : Int)) || !(primesL.elem (max 2 (n : Int) + (i : Int)))
theorem np_ok : ∀ n < 400, npOk n = true := by decide +kernel
def npNear (n : Nat) : Bool := decide (np n ≤ max 2 (n : Int) + 20)
theorem np_near : ∀ n < 400, npNear n = true := by decide +kernel
theorem next_prime {n : Nat} (S : Store) (hn : n < 400) : Wp (F_next_prime [.int n] S) (Is S (.int (np n))) := by
  have t := np_ok n hn
  have t2 := np_near n hn
  unfold npNear at t2
  unfold npOk at t
  simp only [Bool.and_eq_true, decide_eq_true_eq] at t t2
  obtain ⟨⟨⟨⟨p1, p2⟩, p3⟩, p4⟩, p5⟩ := t
  rw [List.all_eq_true] at p5
  refine wp_call ?_
  unfold m_next_prime
  simp only [cMax, wp_var, wp_ok, wp_bin, wp_c, wp_b, wp_if, wps_if, wp_and, wp_or, wp_not, wp_nil, wp_cons, wp_callC, wp_callF, wp_call0, wp_tup, wp_lst, wps_nil, wps_ret, wps_set, wps_asg, wp_gN, wp_gsNil, wp_gsCons, wp_gS, wp_yes, wp_bm, wp_cut, wp_oNo, wp_oSo, wp_neg, wp_int, wp_add, wp_sub, wp_mul, wp_cInt, wp_eqI, wp_neI, wps_seq, List.getElem?_cons_zero, List.getElem?_cons_succ, List.set_cons_zero, List.set_cons_succ, List.map_cons, List.map_nil, List.length_cons, List.length_nil, List.cons_append, List.nil_append, List.append_nil, List.replicate, U.bl.injEq, U.int.injEq, exists_eq_left', Nat.reduceAdd, Nat.reduceSub, Nat.reduceMul, reduceCtorEq, false_implies, true_implies, true_and, and_true, eq_self]
  unfold sWhile
  refine wps_while (fun k ρ S' => S' = S ∧ ∃ h : Int, ρ = [some (.int n), some (.int h)] ∧ max 2 (n : Int) ≤ h ∧ h ≤ np n ∧ k = (np n - h).toNat) ?_ fuel (np n - max 2 (n : Int)).toNat _ S (by have : fuel = 100000 := rfl; omega) ⟨rfl, _, rfl, ?_, ?_, ?_⟩
  · rintro k ρ S' ⟨rfl, h, rfl, h1, h2, rfl⟩
    have e := congrArg (fun l => l[(h - 2).toNat]?) (cond_all (some (.int n)) S')
    simp only [List.getElem?_map] at e
    rw [List.getElem?_range (show (h - 2).toNat < 498 by omega)] at e
    simp only [Option.map_some, Option.some.injEq] at e
    have eh : (((h - 2).toNat : Nat) : Int) + 2 = h := by omega
    rw [eh] at e
    have e' := e
    unfold condP at e'
    rw [e']
    show (_ → _) ∧ (_ → _)
    refine ⟨fun hb => ?_, fun hb => ?_⟩
    · have hm : primesL.elem h = true := by simpa using hb
      have : h = np n := by
        by_cases hlt : h < np n
        · have q := p5 (h - max 2 (n : Int)).toNat (List.mem_range.mpr (by omega))
          have e3 : max 2 (n : Int) + (((h - max 2 (n : Int)).toNat : Nat) : Int) = h := by omega
          rw [e3, hm] at q
          simp at q
          omega
        · omega
      subst this
      simp only [wp_var, wp_ok, wp_bin, wp_c, wp_b, wp_if, wps_if, wp_and, wp_or, wp_not, wp_nil, wp_cons, wp_callC, wp_callF, wp_call0, wp_tup, wp_lst, wps_nil, wps_ret, wps_set, wps_asg, wp_gN, wp_gsNil, wp_gsCons, wp_gS, wp_yes, wp_bm, wp_cut, wp_oNo, wp_oSo, wp_neg, wp_int, wp_add, wp_sub, wp_mul, wp_cInt, wp_eqI, wp_neI, wps_seq, List.getElem?_cons_zero, List.getElem?_cons_succ, List.set_cons_zero, List.set_cons_succ, List.map_cons, List.map_nil, List.length_cons, List.length_nil, List.cons_append, List.nil_append, List.append_nil, List.replicate, U.bl.injEq, U.int.injEq, exists_eq_left', Nat.reduceAdd, Nat.reduceSub, Nat.reduceMul, reduceCtorEq, false_implies, true_implies, true_and, and_true, eq_self]
      exact ⟨rfl, rfl⟩
    · simp only [sAug, iAdd, wps_then, wps_nx, wp_var, wp_ok, wp_bin, wp_c, wp_b, wp_if, wps_if, wp_and, wp_or, wp_not, wp_nil, wp_cons, wp_callC, wp_callF, wp_call0, wp_tup, wp_lst, wps_nil, wps_ret, wps_set, wps_asg, wp_gN, wp_gsNil, wp_gsCons, wp_gS, wp_yes, wp_bm, wp_cut, wp_oNo, wp_oSo, wp_neg, wp_int, wp_add, wp_sub, wp_mul, wp_cInt, wp_eqI, wp_neI, wps_seq, List.getElem?_cons_zero, List.getElem?_cons_succ, List.set_cons_zero, List.set_cons_succ, List.map_cons, List.map_nil, List.length_cons, List.length_nil, List.cons_append, List.nil_append, List.append_nil, List.replicate, U.bl.injEq, U.int.injEq, exists_eq_left', Nat.reduceAdd, Nat.reduceSub, Nat.reduceMul, reduceCtorEq, false_implies, true_implies, true_and, and_true, eq_self]
      have hne : h ≠ np n := fun z => by
        rw [z, p3] at hb
        cases hb
      exact ⟨(np n - (h + 1)).toNat, by omega, h + 1, rfl, by omega, by omega, rfl⟩
  · split <;> omega
  · split <;> omega
  · split <;> congr 2 <;> omega
end K01
/-! text K01b -/
namespace K01
open Sm Pl
/-! ### the statements of a round -/
def law_1 : MS := (sAsg (mTup (mCons (mBm "str" mtJoin (mC (.str [])) (mCons (mLc (mRange1 (mCons (mCall F__law_roll 2 [] (mCons (mVar 1) (mCons (mC (.int 9)) mNil))) mNil)) (gN 2) mYes (mBin oIx (mC (.str [32, 97, 98, 122, 65, 90, 48, 57, 46, 33])) (mCall F__law_roll 2 [] (mCons (mVar 1) (mCons (mC (.int 10)) mNil)))) [2]) mNil)) (mCons (mCall F__law_roll 2 [] (mCons (mVar 1) (mCons (mC (.int 2000000)) mNil))) (mCons (mBin oAdd (mC (.int 1)) (mCall F__law_roll 2 [] (mCons (mVar 1) (mCons (mC (.int 12)) mNil)))) (mCons (mBin oAdd (mC (.int 1)) (mCall F__law_roll 2 [] (mCons (mVar 1) (mCons (mC (.int 6)) mNil)))) mNil))))) (gT 4 (fun ws ρ S => noX (gsCons (gN 3) (fun ws ρ S => noX (gsCons (gN 4) (fun ws ρ S => noX (gsCons (gN 5) (fun ws ρ S => noX (gsCons (gN 6) gsNil ws ρ S)) ws ρ S)) ws ρ S)) ws ρ S))))
def law_2 : MS := (sAsg (mTup (mCons (mBin oMod (mCall F__law_mix 2 [] (mCons (mVar 3) (mCons (mVar 4) mNil))) (mVar 5)) (mCons (mIf (mB (mBin (oInt fun i j => decide (j < i)) (mVar 5) (mC (.int 2)))) (mBin oAdd (mBin oMod (mCall F__law_mix 2 [] (mCons (mVar 3) (mCons (mBin oAdd (mVar 4) (mC (.int 1))) mNil))) (mBin oSub (mVar 5) (mC (.int 1)))) (mC (.int 1))) (mC (.int 1))) mNil))) (gT 2 (fun ws ρ S => noX (gsCons (gN 7) (fun ws ρ S => noX (gsCons (gN 8) gsNil ws ρ S)) ws ρ S))))
def law_3 : MS := (sIf (mOr (mB (mBin oNe (mCall F_mixed 2 [] (mCons (mVar 3) (mCons (mVar 4) mNil))) (mCall F__law_mix 2 [] (mCons (mVar 3) (mCons (mVar 4) mNil))))) (mB (mBin oNe (mCall F_spot_of 3 [] (mCons (mVar 3) (mCons (mVar 5) (mCons (mVar 4) mNil)))) (mVar 7)))) (sRet (mC (.bl false))) sNil)
def law_4 : MS := (sIf (mB (mBin oNe (mCall F_two_mixes 3 [] (mCons (mVar 3) (mCons (mVar 5) (mCons (mVar 4) mNil)))) (mTup (mCons (mVar 7) (mCons (mVar 8) mNil))))) (sRet (mC (.bl false))) sNil)
def law_5 : MS := (sIf (mB (mBin oNe (mCallC cList (mCons (mCall F_spots_of 4 [] (mCons (mVar 3) (mCons (mVar 6) (mCons (mVar 5) (mCons (mVar 4) mNil))))) mNil)) (mLc (mRange1 (mCons (mVar 6) mNil)) (gN 2) mYes (mBin oMod (mBin oAdd (mVar 7) (mBin oMul (mVar 2) (mVar 8))) (mVar 5)) [2]))) (sRet (mC (.bl false))) sNil)
def law_6 : MS := (sIf (mB (mBin oNe (mCall F_mix_number 2 [] (mCons (mNeg (mVar 5)) (mCons (mVar 4) mNil))) (mCall F__law_mix 2 [] (mCons (mBin oAdd (mC (.str [45])) (mCallC cStr (mCons (mVar 5) mNil))) (mCons (mVar 4) mNil))))) (sRet (mC (.bl false))) sNil)
def law_7 : MS := (sAsg (mTup (mCons (mLc (mRange1 (mCons (mCall F__law_roll 2 [] (mCons (mVar 1) (mCons (mC (.int 9)) mNil))) mNil)) (gN 2) mYes (mCall F__law_key 1 [] (mCons (mVar 1) mNil)) [2]) (mCons (mLst mNil) mNil))) (gT 2 (fun ws ρ S => noX (gsCons (gN 9) (fun ws ρ S => noX (gsCons (gN 10) gsNil ws ρ S)) ws ρ S))))
def law_8 : MS := (sSet 13 (mLc (mRange1 (mCons (mVar 5) mNil)) (gN 11) mYes (mCallC cLen (mCons (mLc (mIt (mVar 9)) (gN 12) (mB (mBin oEq (mBin oMod (mCall F__law_mix 2 [] (mCons (mVar 12) (mCons (mVar 4) mNil))) (mVar 5)) (mVar 11))) (mC (.int 1)) [12]) mNil)) [11]))
def law_9 : MS := (sSet 14 (mCallC cList (mCons (mCallC cDict (mCons (mLc (mIt (mVar 9)) (gN 12) mYes (mTup (mCons (mVar 12) (mCons (mC (.int 1)) mNil))) [12]) mNil)) mNil)))
def law_10 : MS := (sSet 16 (mBin oMul (mBin oMul (mC (.int 100)) (mVar 5)) (mCallC cSum (mCons (mLc (mIt (mVar 13)) (gN 15) mYes (mBin oMul (mVar 15) (mVar 15)) [15]) mNil))))
def law_11 : MS := (sSet 17 (mIf (mB (mBin oNe (mVar 9) (mLst mNil))) (mBin oDiv (mVar 16) (mBin oMul (mCallC cLen (mCons (mVar 9) mNil)) (mCallC cLen (mCons (mVar 9) mNil)))) (mC .non)))
def law_12 : MS := (sIf (mOr (mB (mBin oNe (mCallC cList (mCons (mCall F_spot_loads 3 [] (mCons (mVar 9) (mCons (mVar 5) (mCons (mVar 4) mNil)))) mNil)) (mVar 13))) (mB (mBin oNe (mCall F_how_even 3 [] (mCons (mVar 9) (mCons (mVar 5) (mCons (mVar 4) mNil)))) (mVar 17)))) (sRet (mC (.bl false))) sNil)
def law_13 : MS := (sIf (mB (mBin oNe (mCall F_mix_of_set 2 [] (mCons (mRev (mVar 9)) (mCons (mVar 4) mNil))) (mBin oMod (mCallC cSum (mCons (mLc (mIt (mVar 14)) (gN 12) mYes (mCall F__law_mix 2 [] (mCons (mVar 12) (mCons (mVar 4) mNil))) [12]) mNil)) (mC (.int 1000003))))) (sRet (mC (.bl false))) sNil)
def law_14 : MS := (sIf (mB (mBin oNe (mCall F_meeting_rows 3 [] (mCons (mVar 9) (mCons (mVar 5) (mCons (mVar 4) mNil)))) (mCall F__law_meet 3 [] (mCons (mVar 9) (mCons (mVar 5) (mCons (mVar 4) mNil)))))) (sRet (mC (.bl false))) sNil)
def law_15 : MS := (sSet 18 (mBin oAdd (mC (.int 1)) (mCall F__law_roll 2 [] (mCons (mVar 1) (mCons (mC (.int 12)) mNil)))))
def law_16 : MS := (sSet 19 (mLc (mRange1 (mCons (mVar 18) mNil)) (gN 12) (mB (mBin oEq (mCall F__law_meet 3 [] (mCons (mVar 9) (mCons (mVar 5) (mCons (mVar 12) mNil)))) (mTup mNil))) (mVar 12) [12]))
def law_17 : MS := (sIf (mB (mBin oNe (mCall F_first_seed 3 [] (mCons (mVar 9) (mCons (mVar 5) (mCons (mVar 18) mNil)))) (mIf (mB (mBin oNe (mVar 19) (mLst mNil))) (mBin oIx (mVar 19) (mC (.int 0))) (mC .non)))) (sRet (mC (.bl false))) sNil)
def law_18 : MS := (sAsg (mTup (mCons (mCut (mVar 3) oNo (oSo (mC (.int 3)))) (mCons (mC (.int 0)) mNil))) (gT 2 (fun ws ρ S => noX (gsCons (gN 20) (fun ws ρ S => noX (gsCons (gN 21) gsNil ws ρ S)) ws ρ S))))
def law_19 : MS := (sSet 23 (mCallC cSumL (mCons (mLc (mRange1 (mCons (mCallC cLen (mCons (mVar 20) mNil)) mNil)) (gN 2) mYes (mLc (mIt (mC (.str [97, 98, 99, 100, 101, 102, 103, 104, 105, 106, 107, 108, 109, 110, 111, 112, 113, 114, 115, 116, 117, 118, 119, 120, 121, 122]))) (gN 22) (mB (mBin oNe (mVar 22) (mBin oIx (mVar 20) (mVar 2)))) (mBin oAdd (mBin oAdd (mCut (mVar 20) oNo (oSo (mVar 2))) (mVar 22)) (mCut (mVar 20) (oSo (mBin oAdd (mVar 2) (mC (.int 1)))) oNo)) [22]) [2]) (mCons (mLst mNil) mNil))))
def law_20 : MS := (sIf (mB (mBin oNe (mCall F_changed_spots 3 [] (mCons (mVar 20) (mCons (mVar 5) (mCons (mVar 4) mNil)))) (mTup (mCons (mCallC cLen (mCons (mLc (mIt (mVar 23)) (gN 12) (mB (mBin oNe (mBin oMod (mCall F__law_mix 2 [] (mCons (mVar 12) (mCons (mVar 4) mNil))) (mVar 5)) (mBin oMod (mCall F__law_mix 2 [] (mCons (mVar 20) (mCons (mVar 4) mNil))) (mVar 5)))) (mC (.int 1)) [12]) mNil)) (mCons (mCallC cLen (mCons (mVar 23) mNil)) mNil))))) (sRet (mC (.bl false))) sNil)
def law_21 : MS := (sSet 24 (mCall F__law_roll 2 [] (mCons (mVar 1) (mCons (mC (.int 400)) mNil))))
def law_22 : MS := (sSet 26 (mLc (mRange2 (mCons (mC (.int 2)) (mCons (mC (.int 500)) mNil))) (gN 12) (mB (mBin oEq (mLc (mRange2 (mCons (mC (.int 2)) (mCons (mVar 12) mNil))) (gN 25) (mAnd (mB (mBin (oInt fun i j => decide (i ≤ j)) (mBin oMul (mVar 25) (mVar 25)) (mVar 12))) (mB (mBin oEq (mBin oMod (mVar 12) (mVar 25)) (mC (.int 0))))) (mVar 25) [25]) (mLst mNil))) (mVar 12) [12]))
def law_23 : MS := (sIf (mB (mBin oNe (mCall F_next_prime 1 [] (mCons (mVar 24) mNil)) (mBin oIx (mLc (mIt (mVar 26)) (gN 12) (mB (mBin (oInt fun i j => decide (j ≤ i)) (mVar 12) (mVar 24))) (mVar 12) [12]) (mC (.int 0))))) (sRet (mC (.bl false))) sNil)
def law_24 : MS := (sIf (mB (mBin oNe (mCall F_root_of 1 [] (mCons (mVar 24) mNil)) (mBin oIx (mLc (mRange1 (mCons (mC (.int 25)) mNil)) (gN 12) (mB (mBin (oInt fun i j => decide (i ≤ j)) (mBin oMul (mVar 12) (mVar 12)) (mVar 24))) (mVar 12) [12]) (mNeg (mC (.int 1)))))) (sRet (mC (.bl false))) sNil)
def law_25 : MS := (sIf (mB (mBin oNe (mCall F_joined_mix 2 [] (mCons (mVar 24) (mCons (mVar 4) mNil))) (mBin oMod (mBin oAdd (mBin oAdd (mBin oMul (mC (.int 31)) (mVar 24)) (mBin oMul (mC (.int 17)) (mVar 4))) (mC (.int 5))) (mC (.int 1000003))))) (sRet (mC (.bl false))) sNil)
theorem m_law_eq : m_law = (sSeq (sFor (mIt (mCall F__law_rounds 2 [] (mCons (mVar 0) (mCons (mC (.int 1)) mNil)))) (gN 1) (sSeq law_1 (sSeq law_2 (sSeq law_3 (sSeq law_4 (sSeq law_5 (sSeq law_6 (sSeq law_7 (sSeq law_8 (sSeq law_9 (sSeq law_10 (sSeq law_11 (sSeq law_12 (sSeq law_13 (sSeq law_14 (sSeq law_15 (sSeq law_16 (sSeq law_17 (sSeq law_18 (sSeq law_19 (sSeq law_20 (sSeq law_21 (sSeq law_22 (sSeq law_23 (sSeq law_24 law_25))))))))))))))))))))))))) (sRet (mCall0 F__law_plain 0 []))) := rfl
end K01
/-! text K01e -/
namespace K01
open Sm Pl
/-! ### a round, statement by statement -/
def NoR : U → Store → Prop := fun _ _ => False
theorem ne_end {S : Store} {w u : U} {d : PySem.PyData} {k : Nat} (hw : toD S w = some d) (hu : toD S u = some d) (sd : Shp k d) {P Q : Store → Prop} (q : Q S) (h : k ≤ 64 := by decide) : Wp (oNe w u S) fun w S => ∃ b, w = .bl b ∧ (b = true → P S) ∧ (b = false → Q S) :=
  (wp_neSame hw hu sd h).mpr ⟨false, rfl, fun z => (nomatch z), fun _ => q⟩
theorem toD_two {S : Store} {a b : Int} : toD S (.tup [.int a, .int b]) = some (.tuple [.int a, .int b]) := rfl
theorem shp_two {a b : Int} : Shp 1 (.tuple [.int a, .int b]) := Shp.tup (k := 0) fun x hx => by
  rcases List.mem_cons.mp hx with rfl | hx
  · exact Shp.int _
  · obtain rfl := List.mem_singleton.mp hx
    exact Shp.int _
variable {u0 : U} {d : Nat} {S : Store} {x0 x1 x2 x3 x4 x5 x6 x7 x8 x9 x10 x11 x12 x13 x14 x15 x16 x17 x18 x19 x20 x21 x22 x23 x24 x25 x26 : Option U}
/-- the text and the numbers of a round -/
structure Rnd (t : List Nat) (seed many times : Int) : Prop where
  len : t.length ≤ 8
  tx : Tx t
  s0 : 0 ≤ seed
  s1 : seed < 2000000
  m0 : 1 ≤ many
  m1 : many ≤ 12
  k0 : 1 ≤ times
  k1 : times ≤ 6
theorem law_s1 (D : Dice d S) : WpS (law_1 [some (u0), some (.ref d), x2, x3, x4, x5, x6, x7, x8, x9, x10, x11, x12, x13, x14, x15, x16, x17, x18, x19, x20, x21, x22, x23, x24, x25, x26] S) (fun ρ S' => ∃ (t : List Nat) (seed many times : Int), ρ = [some (u0), some (.ref d), x2, some (.str t), some (.int seed), some (.int many), some (.int times), x7, x8, x9, x10, x11, x12, x13, x14, x15, x16, x17, x18, x19, x20, x21, x22, x23, x24, x25, x26] ∧ Rnd t seed many times ∧ Sx (Only d) S S' ∧ Dice d S') NoR := by
  unfold law_1
  rw [wps_asg, wp_tup, wp_cons]
  refine (rolled_text (m := 8) D rfl (fun w => rfl) (by decide) (by decide) (by decide) (by decide) ?_ rfl).mono ?_
  · refine wp_range1 ?_
    simp only [wp_var, wp_ok, wp_bin, wp_c, wp_b, wp_if, wps_if, wp_and, wp_or, wp_not, wp_nil, wp_cons, wp_callC, wp_callF, wp_call0, wp_tup, wp_lst, wps_nil, wps_ret, wps_set, wps_asg, wp_gN, wp_gsNil, wp_gsCons, wp_gS, wp_yes, wp_bm, wp_cut, wp_oNo, wp_oSo, wp_neg, wp_int, wp_add, wp_sub, wp_mul, wp_cInt, wp_eqI, wp_neI, wps_seq, List.getElem?_cons_zero, List.getElem?_cons_succ, List.set_cons_zero, List.set_cons_succ, List.map_cons, List.map_nil, List.length_cons, List.length_nil, List.cons_append, List.nil_append, List.append_nil, List.replicate, U.bl.injEq, U.int.injEq, exists_eq_left', Nat.reduceAdd, Nat.reduceSub, Nat.reduceMul, reduceCtorEq, false_implies, true_implies, true_and, and_true, eq_self]
    refine (roll D (by decide) (by decide)).mono ?_
    rintro u S2 ⟨x2, D2, r, rfl, r0, r1⟩
    exact ⟨_, rfl, by unfold inR; simp; omega, r.toNat, by omega, rfl, x2, D2⟩
  rintro u S1 ⟨y1, D1, t, rfl, lt, tx⟩
  simp only [wp_var, wp_ok, wp_bin, wp_c, wp_b, wp_if, wps_if, wp_and, wp_or, wp_not, wp_nil, wp_cons, wp_callC, wp_callF, wp_call0, wp_tup, wp_lst, wps_nil, wps_ret, wps_set, wps_asg, wp_gN, wp_gsNil, wp_gsCons, wp_gS, wp_yes, wp_bm, wp_cut, wp_oNo, wp_oSo, wp_neg, wp_int, wp_add, wp_sub, wp_mul, wp_cInt, wp_eqI, wp_neI, wps_seq, List.getElem?_cons_zero, List.getElem?_cons_succ, List.set_cons_zero, List.set_cons_succ, List.map_cons, List.map_nil, List.length_cons, List.length_nil, List.cons_append, List.nil_append, List.append_nil, List.replicate, U.bl.injEq, U.int.injEq, exists_eq_left', Nat.reduceAdd, Nat.reduceSub, Nat.reduceMul, reduceCtorEq, false_implies, true_implies, true_and, and_true, eq_self]
  refine (roll D1 (by decide) (by decide)).mono ?_
  rintro u S2 ⟨y2, D2, seed, rfl, r0, r1⟩
  refine (roll D2 (by decide) (by decide)).mono ?_
  rintro u S3 ⟨y3, D3, r, rfl, r2, r3⟩
  simp only [wp_var, wp_ok, wp_bin, wp_c, wp_b, wp_if, wps_if, wp_and, wp_or, wp_not, wp_nil, wp_cons, wp_callC, wp_callF, wp_call0, wp_tup, wp_lst, wps_nil, wps_ret, wps_set, wps_asg, wp_gN, wp_gsNil, wp_gsCons, wp_gS, wp_yes, wp_bm, wp_cut, wp_oNo, wp_oSo, wp_neg, wp_int, wp_add, wp_sub, wp_mul, wp_cInt, wp_eqI, wp_neI, wps_seq, List.getElem?_cons_zero, List.getElem?_cons_succ, List.set_cons_zero, List.set_cons_succ, List.map_cons, List.map_nil, List.length_cons, List.length_nil, List.cons_append, List.nil_append, List.append_nil, List.replicate, U.bl.injEq, U.int.injEq, exists_eq_left', Nat.reduceAdd, Nat.reduceSub, Nat.reduceMul, reduceCtorEq, false_implies, true_implies, true_and, and_true, eq_self]
  refine (roll D3 (by decide) (by decide)).mono ?_
  rintro u S4 ⟨y4, D4, r', rfl, r4, r5⟩
  simp only [wp_gT, wp_noX, wp_var, wp_ok, wp_bin, wp_c, wp_b, wp_if, wps_if, wp_and, wp_or, wp_not, wp_nil, wp_cons, wp_callC, wp_callF, wp_call0, wp_tup, wp_lst, wps_nil, wps_ret, wps_set, wps_asg, wp_gN, wp_gsNil, wp_gsCons, wp_gS, wp_yes, wp_bm, wp_cut, wp_oNo, wp_oSo, wp_neg, wp_int, wp_add, wp_sub, wp_mul, wp_cInt, wp_eqI, wp_neI, wps_seq, List.getElem?_cons_zero, List.getElem?_cons_succ, List.set_cons_zero, List.set_cons_succ, List.map_cons, List.map_nil, List.length_cons, List.length_nil, List.cons_append, List.nil_append, List.append_nil, List.replicate, U.bl.injEq, U.int.injEq, exists_eq_left', Nat.reduceAdd, Nat.reduceSub, Nat.reduceMul, reduceCtorEq, false_implies, true_implies, true_and, and_true, eq_self]
  exact ⟨by decide, t, seed, 1 + r, 1 + r', rfl, ⟨lt, tx, r0, r1, by omega, by omega, by omega, by omega⟩, ((y1.trans y2).trans y3).trans y4, D4⟩
section
variable {t : List Nat} {seed many times : Int} (B : Rnd t seed many times)
include B
theorem law_s2 : WpS (law_2 [some (u0), some (.ref d), x2, some (.str t), some (.int seed), some (.int many), some (.int times), x7, x8, x9, x10, x11, x12, x13, x14, x15, x16, x17, x18, x19, x20, x21, x22, x23, x24, x25, x26] S) (fun ρ S' => ρ = [some (u0), some (.ref d), x2, some (.str t), some (.int seed), some (.int many), some (.int times), some (.int (mixF t seed % many)), some (.int (stepF t many seed)), x9, x10, x11, x12, x13, x14, x15, x16, x17, x18, x19, x20, x21, x22, x23, x24, x25, x26] ∧ S' = S) NoR := by
  have ⟨b1, b2, b3, b4, b5, b6, b7, b8⟩ := B
  unfold law_2
  simp only [wp_gT, wp_noX, wp_var, wp_ok, wp_bin, wp_c, wp_b, wp_if, wps_if, wp_and, wp_or, wp_not, wp_nil, wp_cons, wp_callC, wp_callF, wp_call0, wp_tup, wp_lst, wps_nil, wps_ret, wps_set, wps_asg, wp_gN, wp_gsNil, wp_gsCons, wp_gS, wp_yes, wp_bm, wp_cut, wp_oNo, wp_oSo, wp_neg, wp_int, wp_add, wp_sub, wp_mul, wp_cInt, wp_eqI, wp_neI, wps_seq, List.getElem?_cons_zero, List.getElem?_cons_succ, List.set_cons_zero, List.set_cons_succ, List.map_cons, List.map_nil, List.length_cons, List.length_nil, List.cons_append, List.nil_append, List.append_nil, List.replicate, U.bl.injEq, U.int.injEq, exists_eq_left', Nat.reduceAdd, Nat.reduceSub, Nat.reduceMul, reduceCtorEq, false_implies, true_implies, true_and, and_true, eq_self]
  refine (lmix S b3 (by omega) (by omega)).mono ?_
  rintro u S1 ⟨rfl, rfl⟩
  simp only [wp_mod (show 0 < many by omega), wp_var, wp_ok, wp_bin, wp_c, wp_b, wp_if, wps_if, wp_and, wp_or, wp_not, wp_nil, wp_cons, wp_callC, wp_callF, wp_call0, wp_tup, wp_lst, wps_nil, wps_ret, wps_set, wps_asg, wp_gN, wp_gsNil, wp_gsCons, wp_gS, wp_yes, wp_bm, wp_cut, wp_oNo, wp_oSo, wp_neg, wp_int, wp_add, wp_sub, wp_mul, wp_cInt, wp_eqI, wp_neI, wps_seq, List.getElem?_cons_zero, List.getElem?_cons_succ, List.set_cons_zero, List.set_cons_succ, List.map_cons, List.map_nil, List.length_cons, List.length_nil, List.cons_append, List.nil_append, List.append_nil, List.replicate, U.bl.injEq, U.int.injEq, exists_eq_left', Nat.reduceAdd, Nat.reduceSub, Nat.reduceMul, reduceCtorEq, false_implies, true_implies, true_and, and_true, eq_self]
  unfold stepF
  refine ⟨fun z => ?_, fun z => ?_⟩
  · have z := of_decide_eq_true z
    refine (lmix S1 (by omega) (by omega) (by omega)).mono ?_
    rintro u S2 ⟨rfl, rfl⟩
    rw [wp_mod (by omega), if_pos z]
    exact ⟨by decide, rfl, rfl⟩
  · have z := of_decide_eq_false z
    rw [if_neg (by omega)]
    exact ⟨by decide, rfl⟩
theorem law_s3 : WpS (law_3 [some (u0), some (.ref d), x2, some (.str t), some (.int seed), some (.int many), some (.int times), some (.int (mixF t seed % many)), some (.int (stepF t many seed)), x9, x10, x11, x12, x13, x14, x15, x16, x17, x18, x19, x20, x21, x22, x23, x24, x25, x26] S) (fun ρ S' => ρ = [some (u0), some (.ref d), x2, some (.str t), some (.int seed), some (.int many), some (.int times), some (.int (mixF t seed % many)), some (.int (stepF t many seed)), x9, x10, x11, x12, x13, x14, x15, x16, x17, x18, x19, x20, x21, x22, x23, x24, x25, x26] ∧ S' = S) NoR := by
  have ⟨b1, b2, b3, b4, b5, b6, b7, b8⟩ := B
  unfold law_3
  simp only [wp_gT, wp_noX, wp_var, wp_ok, wp_bin, wp_c, wp_b, wp_if, wps_if, wp_and, wp_or, wp_not, wp_nil, wp_cons, wp_callC, wp_callF, wp_call0, wp_tup, wp_lst, wps_nil, wps_ret, wps_set, wps_asg, wp_gN, wp_gsNil, wp_gsCons, wp_gS, wp_yes, wp_bm, wp_cut, wp_oNo, wp_oSo, wp_neg, wp_int, wp_add, wp_sub, wp_mul, wp_cInt, wp_eqI, wp_neI, wps_seq, List.getElem?_cons_zero, List.getElem?_cons_succ, List.set_cons_zero, List.set_cons_succ, List.map_cons, List.map_nil, List.length_cons, List.length_nil, List.cons_append, List.nil_append, List.append_nil, List.replicate, U.bl.injEq, U.int.injEq, exists_eq_left', Nat.reduceAdd, Nat.reduceSub, Nat.reduceMul, reduceCtorEq, false_implies, true_implies, true_and, and_true, eq_self]
  refine (mixed S b3 (by omega) (by omega)).mono ?_
  rintro u S1 ⟨rfl, rfl⟩
  refine (lmix S1 b3 (by omega) (by omega)).mono ?_
  rintro u S2 ⟨rfl, rfl⟩
  refine ne_end toD_int toD_int (Shp.int _) ?_
  refine (spot_of S2 b3 (by omega) (by omega) (by omega)).mono ?_
  rintro u S3 ⟨rfl, rfl⟩
  exact ne_end toD_int toD_int (Shp.int _) rfl
theorem law_s4 : WpS (law_4 [some (u0), some (.ref d), x2, some (.str t), some (.int seed), some (.int many), some (.int times), some (.int (mixF t seed % many)), some (.int (stepF t many seed)), x9, x10, x11, x12, x13, x14, x15, x16, x17, x18, x19, x20, x21, x22, x23, x24, x25, x26] S) (fun ρ S' => ρ = [some (u0), some (.ref d), x2, some (.str t), some (.int seed), some (.int many), some (.int times), some (.int (mixF t seed % many)), some (.int (stepF t many seed)), x9, x10, x11, x12, x13, x14, x15, x16, x17, x18, x19, x20, x21, x22, x23, x24, x25, x26] ∧ S' = S) NoR := by
  have ⟨b1, b2, b3, b4, b5, b6, b7, b8⟩ := B
  unfold law_4
  simp only [wp_gT, wp_noX, wp_var, wp_ok, wp_bin, wp_c, wp_b, wp_if, wps_if, wp_and, wp_or, wp_not, wp_nil, wp_cons, wp_callC, wp_callF, wp_call0, wp_tup, wp_lst, wps_nil, wps_ret, wps_set, wps_asg, wp_gN, wp_gsNil, wp_gsCons, wp_gS, wp_yes, wp_bm, wp_cut, wp_oNo, wp_oSo, wp_neg, wp_int, wp_add, wp_sub, wp_mul, wp_cInt, wp_eqI, wp_neI, wps_seq, List.getElem?_cons_zero, List.getElem?_cons_succ, List.set_cons_zero, List.set_cons_succ, List.map_cons, List.map_nil, List.length_cons, List.length_nil, List.cons_append, List.nil_append, List.append_nil, List.replicate, U.bl.injEq, U.int.injEq, exists_eq_left', Nat.reduceAdd, Nat.reduceSub, Nat.reduceMul, reduceCtorEq, false_implies, true_implies, true_and, and_true, eq_self]
  refine (two_mixes S b3 (by omega) (by omega) (by omega)).mono ?_
  rintro u S1 ⟨rfl, rfl⟩
  refine ⟨by decide, ?_⟩
  exact ne_end toD_two toD_two shp_two rfl
theorem law_s5 : WpS (law_5 [some (u0), some (.ref d), x2, some (.str t), some (.int seed), some (.int many), some (.int times), some (.int (mixF t seed % many)), some (.int (stepF t many seed)), x9, x10, x11, x12, x13, x14, x15, x16, x17, x18, x19, x20, x21, x22, x23, x24, x25, x26] S) (fun ρ S' => ρ = [some (u0), some (.ref d), x2, some (.str t), some (.int seed), some (.int many), some (.int times), some (.int (mixF t seed % many)), some (.int (stepF t many seed)), x9, x10, x11, x12, x13, x14, x15, x16, x17, x18, x19, x20, x21, x22, x23, x24, x25, x26] ∧ Sx No S S') NoR := by
  have ⟨b1, b2, b3, b4, b5, b6, b7, b8⟩ := B
  unfold law_5
  simp only [wp_gT, wp_noX, wp_var, wp_ok, wp_bin, wp_c, wp_b, wp_if, wps_if, wp_and, wp_or, wp_not, wp_nil, wp_cons, wp_callC, wp_callF, wp_call0, wp_tup, wp_lst, wps_nil, wps_ret, wps_set, wps_asg, wp_gN, wp_gsNil, wp_gsCons, wp_gS, wp_yes, wp_bm, wp_cut, wp_oNo, wp_oSo, wp_neg, wp_int, wp_add, wp_sub, wp_mul, wp_cInt, wp_eqI, wp_neI, wps_seq, List.getElem?_cons_zero, List.getElem?_cons_succ, List.set_cons_zero, List.set_cons_succ, List.map_cons, List.map_nil, List.length_cons, List.length_nil, List.cons_append, List.nil_append, List.append_nil, List.replicate, U.bl.injEq, U.int.injEq, exists_eq_left', Nat.reduceAdd, Nat.reduceSub, Nat.reduceMul, reduceCtorEq, false_implies, true_implies, true_and, and_true, eq_self]
  refine (spots_of S b3 (by omega) (by omega) (by omega) (by omega) (by omega) (by omega)).mono ?_
  rintro u S1 ⟨rfl, rfl⟩
  have es : ∀ ws : List U, cList [.tup ws] S1 = .ok (.ref S1.n) (S1.new (.lst ws)) := fun ws => rfl
  have el : ((List.range times.toNat).map fun k : Nat => U.int ((mixF t seed % many + (k : Int) * stepF t many seed) % many)) = ((List.range times.toNat).map fun k : Nat => (mixF t seed % many + (k : Int) * stepF t many seed) % many).map U.int := by rw [List.map_map] <;> rfl
  rw [es, wp_ok, el]
  have a1 : At (S1.new (.lst (((List.range times.toNat).map fun k : Nat => (mixF t seed % many + (k : Int) * stepF t many seed) % many).map U.int))) S1.n (.lst (((List.range times.toNat).map fun k : Nat => (mixF t seed % many + (k : Int) * stepF t many seed) % many).map U.int)) := At.new
  have y1 : Sx No S1 (S1.new (.lst (((List.range times.toNat).map fun k : Nat => (mixF t seed % many + (k : Int) * stepF t many seed) % many).map U.int))) := Sx.new
  generalize S1.new (.lst (((List.range times.toNat).map fun k : Nat => (mixF t seed % many + (k : Int) * stepF t many seed) % many).map U.int)) = S2 at a1 y1
  have sb : 0 ≤ stepF t many seed ∧ stepF t many seed ≤ 12 := by
    unfold stepF
    split
    · have := Int.emod_nonneg (mixF t (seed + 1)) (show many - 1 ≠ 0 by omega)
      have := Int.emod_lt_of_pos (mixF t (seed + 1)) (show 0 < many - 1 by omega)
      omega
    · decide
  refine Wp.mono (wp_lcN ((List.range times.toNat).map fun i : Nat => U.int (0 + i)) (fun w => match w with
    | .int k => some (.int ((mixF t seed % many + k * stepF t many seed) % many))
    | _ => none) (wp_range1 ?_) (fun w S' hw x => ?_) (by rw [List.length_map, List.length_range]; have : fuel = 100000 := rfl; omega)) ?_
  · simp only [wp_var, wp_ok, wp_bin, wp_c, wp_b, wp_if, wps_if, wp_and, wp_or, wp_not, wp_nil, wp_cons, wp_callC, wp_callF, wp_call0, wp_tup, wp_lst, wps_nil, wps_ret, wps_set, wps_asg, wp_gN, wp_gsNil, wp_gsCons, wp_gS, wp_yes, wp_bm, wp_cut, wp_oNo, wp_oSo, wp_neg, wp_int, wp_add, wp_sub, wp_mul, wp_cInt, wp_eqI, wp_neI, wps_seq, List.getElem?_cons_zero, List.getElem?_cons_succ, List.set_cons_zero, List.set_cons_succ, List.map_cons, List.map_nil, List.length_cons, List.length_nil, List.cons_append, List.nil_append, List.append_nil, List.replicate, U.bl.injEq, U.int.injEq, exists_eq_left', Nat.reduceAdd, Nat.reduceSub, Nat.reduceMul, reduceCtorEq, false_implies, true_implies, true_and, and_true, eq_self]
    exact ⟨_, rfl, by unfold inR; simp; omega, Sx.refl, fun S' _ => yld_r⟩
  · obtain ⟨i, _, rfl⟩ := List.mem_map.mp hw
    simp only [wipeU, wp_var, wp_ok, wp_bin, wp_c, wp_b, wp_if, wps_if, wp_and, wp_or, wp_not, wp_nil, wp_cons, wp_callC, wp_callF, wp_call0, wp_tup, wp_lst, wps_nil, wps_ret, wps_set, wps_asg, wp_gN, wp_gsNil, wp_gsCons, wp_gS, wp_yes, wp_bm, wp_cut, wp_oNo, wp_oSo, wp_neg, wp_int, wp_add, wp_sub, wp_mul, wp_cInt, wp_eqI, wp_neI, wps_seq, List.getElem?_cons_zero, List.getElem?_cons_succ, List.set_cons_zero, List.set_cons_succ, List.map_cons, List.map_nil, List.length_cons, List.length_nil, List.cons_append, List.nil_append, List.append_nil, List.replicate, U.bl.injEq, U.int.injEq, exists_eq_left', Nat.reduceAdd, Nat.reduceSub, Nat.reduceMul, reduceCtorEq, false_implies, true_implies, true_and, and_true, eq_self]
    rw [wp_mod (by omega)]
    exact ⟨sm (by omega), Sx.refl, rfl⟩
  · rintro u S3 ⟨b, rfl, ge, a2, y2⟩
    have er : ((List.range times.toNat).map fun i : Nat => U.int (0 + i)).filterMap (fun w => match w with
      | .int k => some (U.int ((mixF t seed % many + k * stepF t many seed) % many))
      | _ => none) = ((List.range times.toNat).map fun k : Nat => (mixF t seed % many + (k : Int) * stepF t many seed) % many).map U.int := by
      generalize List.range times.toNat = rs
      induction rs with
      | nil => rfl
      | cons r rs ih =>
        rw [List.map_cons, List.filterMap_cons, ih, Int.zero_add]
        rfl
    rw [er] at a2
    exact ne_end (toD_ints (a1.sx y2)) (toD_ints a2) shp_ints (y1.trans y2)
theorem law_s6 : WpS (law_6 [some (u0), some (.ref d), x2, some (.str t), some (.int seed), some (.int many), some (.int times), some (.int (mixF t seed % many)), some (.int (stepF t many seed)), x9, x10, x11, x12, x13, x14, x15, x16, x17, x18, x19, x20, x21, x22, x23, x24, x25, x26] S) (fun ρ S' => ρ = [some (u0), some (.ref d), x2, some (.str t), some (.int seed), some (.int many), some (.int times), some (.int (mixF t seed % many)), some (.int (stepF t many seed)), x9, x10, x11, x12, x13, x14, x15, x16, x17, x18, x19, x20, x21, x22, x23, x24, x25, x26] ∧ S' = S) NoR := by
  have ⟨b1, b2, b3, b4, b5, b6, b7, b8⟩ := B
  have dl : ∀ m : Nat, m ≤ 12 → (1 ≤ m → (decU (-(m : Int))) = 45 :: decU (m : Int) ∧ (decU (m : Int)).length ≤ 2) := by decide
  have hd := dl many.toNat (by omega) (by omega)
  rw [Int.toNat_of_nonneg (by omega)] at hd
  obtain ⟨e1, e2⟩ := hd
  unfold law_6
  simp only [wp_gT, wp_noX, wp_var, wp_ok, wp_bin, wp_c, wp_b, wp_if, wps_if, wp_and, wp_or, wp_not, wp_nil, wp_cons, wp_callC, wp_callF, wp_call0, wp_tup, wp_lst, wps_nil, wps_ret, wps_set, wps_asg, wp_gN, wp_gsNil, wp_gsCons, wp_gS, wp_yes, wp_bm, wp_cut, wp_oNo, wp_oSo, wp_neg, wp_int, wp_add, wp_sub, wp_mul, wp_cInt, wp_eqI, wp_neI, wps_seq, List.getElem?_cons_zero, List.getElem?_cons_succ, List.set_cons_zero, List.set_cons_succ, List.map_cons, List.map_nil, List.length_cons, List.length_nil, List.cons_append, List.nil_append, List.append_nil, List.replicate, U.bl.injEq, U.int.injEq, exists_eq_left', Nat.reduceAdd, Nat.reduceSub, Nat.reduceMul, reduceCtorEq, false_implies, true_implies, true_and, and_true, eq_self]
  have l1 : many.natAbs.log2 < 1920 := Nat.lt_of_le_of_lt (Nat.log2_le_self _) (by omega)
  refine (mix_number S b3 (by omega) (by rw [Int.natAbs_neg]; exact l1) (by rw [e1, List.length_cons]; omega)).mono ?_
  rintro u S1 ⟨rfl, rfl⟩
  have es : cStr [.int many] S1 = .ok (.str (decU many)) S1 := if_pos l1
  simp only [es, wp_addS, wp_var, wp_ok, wp_bin, wp_c, wp_b, wp_if, wps_if, wp_and, wp_or, wp_not, wp_nil, wp_cons, wp_callC, wp_callF, wp_call0, wp_tup, wp_lst, wps_nil, wps_ret, wps_set, wps_asg, wp_gN, wp_gsNil, wp_gsCons, wp_gS, wp_yes, wp_bm, wp_cut, wp_oNo, wp_oSo, wp_neg, wp_int, wp_add, wp_sub, wp_mul, wp_cInt, wp_eqI, wp_neI, wps_seq, List.getElem?_cons_zero, List.getElem?_cons_succ, List.set_cons_zero, List.set_cons_succ, List.map_cons, List.map_nil, List.length_cons, List.length_nil, List.cons_append, List.nil_append, List.append_nil, List.replicate, U.bl.injEq, U.int.injEq, exists_eq_left', Nat.reduceAdd, Nat.reduceSub, Nat.reduceMul, reduceCtorEq, false_implies, true_implies, true_and, and_true, eq_self]
  refine ⟨by have : lim = 1000000 := rfl; omega, ?_⟩
  refine (lmix S1 b3 (by omega) (by rw [List.length_cons]; omega)).mono ?_
  rintro u S2 ⟨rfl, rfl⟩
  rw [e1]
  exact ne_end toD_int toD_int (Shp.int _) rfl
end
end K01
/-! text K01f -/
namespace K01
open Sm Pl
variable {u0 : U} {d : Nat} {S : Store} {x0 x1 x2 x3 x4 x5 x6 x7 x8 x9 x10 x11 x12 x13 x14 x15 x16 x17 x18 x19 x20 x21 x22 x23 x24 x25 x26 : Option U}
theorem fl5 : fuel = 100000 := rfl
/-- the number of a comprehension's ones over texts -/
theorem wp_lenC {mi : MI} {i : Nat} {mt : MT} {vs : List Nat} {ρ : Env} {S : Store} (ts : List (List Nat)) (p : List Nat → Bool)
    (hi : Wp (mi ρ S) fun q S1 => q.2 = none ∧ Sx No S S1 ∧ ∀ S', Sx No S1 S' → Yld q.1 (ts.map U.str) S')
    (hs : ∀ t S', t ∈ ts → Sx No S S' → Wp (mt ((wipeU ρ vs).set i (some (.str t))) S') fun b S2 => b = p t ∧ Sx No S' S2) (hl : ts.length < fuel) :
    Wp (mCallC cLen (mCons (mLc mi (gN i) mt (mC (.int 1)) vs) mNil) ρ S) fun u S' => u = .int ((ts.countP p : Nat) : Int) ∧ Sx No S S' := by
  simp only [wp_callC, wp_cons, wp_nil]
  refine Wp.mono (wp_lcM ts U.str p (fun _ => U.int 1) hi (fun t S' ht x => ?_) hl) ?_
  · rw [wp_gN]
    exact (hs t S' ht x).mono fun b S2 k => ⟨k.1, k.2, fun _ => ⟨rfl, k.2⟩⟩
  · rintro u S1 ⟨a, rfl, ge, at1, x1⟩
    rw [wp_len at1, List.length_map, ← List.countP_eq_length_filter]
    exact ⟨rfl, x1⟩
section
variable {t : List Nat} {seed many times : Int} (B : Rnd t seed many times)
include B
theorem law_s7 (D : Dice d S) : WpS (law_7 [some (u0), some (.ref d), x2, some (.str t), some (.int seed), some (.int many), some (.int times), some (.int (mixF t seed % many)), some (.int (stepF t many seed)), x9, x10, x11, x12, x13, x14, x15, x16, x17, x18, x19, x20, x21, x22, x23, x24, x25, x26] S) (fun ρ S' => ∃ (ts : List (List Nat)) (n9 n10 : Nat), ρ = [some (u0), some (.ref d), x2, some (.str t), some (.int seed), some (.int many), some (.int times), some (.int (mixF t seed % many)), some (.int (stepF t many seed)), some (.ref n9), some (.ref n10), x11, x12, x13, x14, x15, x16, x17, x18, x19, x20, x21, x22, x23, x24, x25, x26] ∧ n9 ≠ d ∧ Txs ts ∧ At S' n9 (.lst (ts.map U.str)) ∧ Sx (Only d) S S' ∧ Dice d S') NoR := by
  unfold law_7
  rw [wps_asg, wp_tup, wp_cons]
  have hi : Wp (mRange1 (mCons (mCall F__law_roll 2 [] (mCons (mVar 1) (mCons (mC (.int 9)) mNil))) mNil) [some (u0), some (.ref d), x2, some (.str t), some (.int seed), some (.int many), some (.int times), some (.int (mixF t seed % many)), some (.int (stepF t many seed)), x9, x10, x11, x12, x13, x14, x15, x16, x17, x18, x19, x20, x21, x22, x23, x24, x25, x26] S) fun q S1 => ∃ n, n ≤ 8 ∧ q = (srcR 0 n, none) ∧ Sx (Only d) S S1 ∧ Dice d S1 := by
    refine wp_range1 ?_
    simp only [wp_var, wp_ok, wp_bin, wp_c, wp_b, wp_if, wps_if, wp_and, wp_or, wp_not, wp_nil, wp_cons, wp_callC, wp_callF, wp_call0, wp_tup, wp_lst, wps_nil, wps_ret, wps_set, wps_asg, wp_gN, wp_gsNil, wp_gsCons, wp_gS, wp_yes, wp_bm, wp_cut, wp_oNo, wp_oSo, wp_neg, wp_int, wp_add, wp_sub, wp_mul, wp_cInt, wp_eqI, wp_neI, wps_seq, List.getElem?_cons_zero, List.getElem?_cons_succ, List.set_cons_zero, List.set_cons_succ, List.map_cons, List.map_nil, List.length_cons, List.length_nil, List.cons_append, List.nil_append, List.append_nil, List.replicate, U.bl.injEq, U.int.injEq, exists_eq_left', Nat.reduceAdd, Nat.reduceSub, Nat.reduceMul, reduceCtorEq, false_implies, true_implies, true_and, and_true, eq_self]
    refine (roll D (by decide) (by decide)).mono ?_
    rintro u S2 ⟨x2, D2, r, rfl, r0, r1⟩
    exact ⟨_, rfl, inR_nat r0 (by omega), r.toNat, by omega, rfl, x2, D2⟩
  obtain ⟨q, S1, e1, n, hn, rfl, y1, D1⟩ := wp_ex hi
  refine Wp.mono (wp_lcJ ((List.range n).map fun i : Nat => U.int (0 + i)) (Only d) (Dice d) (fun u => ∃ t, u = .str t ∧ t.length ≤ 3 ∧ Tx t) (fun S' o h => h.new) (fun S' i c hi hd => hd.put (by have := D.lt; omega)) (fun i hi => by cases hi; exact D.lt) ?_ ?_ ?_) ?_
  · rw [e1]
    exact ⟨rfl, y1, D1, fun S' _ => yld_r⟩
  · intro i w S' hw x' D'
    simp only [wipeU, wp_var, wp_ok, wp_bin, wp_c, wp_b, wp_if, wps_if, wp_and, wp_or, wp_not, wp_nil, wp_cons, wp_callC, wp_callF, wp_call0, wp_tup, wp_lst, wps_nil, wps_ret, wps_set, wps_asg, wp_gN, wp_gsNil, wp_gsCons, wp_gS, wp_yes, wp_bm, wp_cut, wp_oNo, wp_oSo, wp_neg, wp_int, wp_add, wp_sub, wp_mul, wp_cInt, wp_eqI, wp_neI, wps_seq, List.getElem?_cons_zero, List.getElem?_cons_succ, List.set_cons_zero, List.set_cons_succ, List.map_cons, List.map_nil, List.length_cons, List.length_nil, List.cons_append, List.nil_append, List.append_nil, List.replicate, U.bl.injEq, U.int.injEq, exists_eq_left', Nat.reduceAdd, Nat.reduceSub, Nat.reduceMul, reduceCtorEq, false_implies, true_implies, true_and, and_true, eq_self]
    refine (law_key D').mono ?_
    rintro u S2 ⟨y2, D2, t, rfl, l3, tx⟩
    exact ⟨y2, D2, t, rfl, l3, tx⟩
  · rw [List.length_map, List.length_range, fl5]
    omega
  · rintro u S2 ⟨n9, us, rfl, ge, a9, l9, hv, y2, D2⟩
    rw [List.length_map, List.length_range] at l9
    obtain ⟨ts, rfl, hts⟩ := all_of (f := U.str) (P := fun t => t.length ≤ 3 ∧ Tx t) hv
    rw [List.length_map] at l9
    simp only [wp_gT, wp_noX, wp_var, wp_ok, wp_bin, wp_c, wp_b, wp_if, wps_if, wp_and, wp_or, wp_not, wp_nil, wp_cons, wp_callC, wp_callF, wp_call0, wp_tup, wp_lst, wps_nil, wps_ret, wps_set, wps_asg, wp_gN, wp_gsNil, wp_gsCons, wp_gS, wp_yes, wp_bm, wp_cut, wp_oNo, wp_oSo, wp_neg, wp_int, wp_add, wp_sub, wp_mul, wp_cInt, wp_eqI, wp_neI, wps_seq, List.getElem?_cons_zero, List.getElem?_cons_succ, List.set_cons_zero, List.set_cons_succ, List.map_cons, List.map_nil, List.length_cons, List.length_nil, List.cons_append, List.nil_append, List.append_nil, List.replicate, U.bl.injEq, U.int.injEq, exists_eq_left', Nat.reduceAdd, Nat.reduceSub, Nat.reduceMul, reduceCtorEq, false_implies, true_implies, true_and, and_true, eq_self]
    exact ⟨by decide, by decide, ts, n9, S2.n, rfl, by have := D.lt; omega, ⟨by omega, hts⟩, a9.sx (P := No) Sx.new, y2.new_above, D2.new⟩
variable {ts : List (List Nat)} {n9 n10 n13 n14 : Nat} (T : Txs ts) (a9 : At S n9 (.lst (ts.map U.str)))
include T a9
theorem law_s8 : WpS (law_8 [some (u0), some (.ref d), x2, some (.str t), some (.int seed), some (.int many), some (.int times), some (.int (mixF t seed % many)), some (.int (stepF t many seed)), some (.ref n9), x10, x11, x12, x13, x14, x15, x16, x17, x18, x19, x20, x21, x22, x23, x24, x25, x26] S) (fun ρ S' => ∃ n13 : Nat, ρ = [some (u0), some (.ref d), x2, some (.str t), some (.int seed), some (.int many), some (.int times), some (.int (mixF t seed % many)), some (.int (stepF t many seed)), some (.ref n9), x10, x11, x12, some (.ref n13), x14, x15, x16, x17, x18, x19, x20, x21, x22, x23, x24, x25, x26] ∧ At S' n13 (.lst ((loadsL ts many seed).map U.int)) ∧ Sx No S S') NoR := by
  have ⟨b1, b2, b3, b4, b5, b6, b7, b8⟩ := B
  have few := T.few
  unfold law_8
  rw [wps_set]
  refine Wp.mono (wp_lcA (List.range many.toNat) (fun i : Nat => U.int (i : Int)) (fun i : Nat => U.int ((cnt ts many seed i : Nat) : Int)) (wp_range1 ?_) ?_ ?_) ?_
  · simp only [wp_var, wp_ok, wp_bin, wp_c, wp_b, wp_if, wps_if, wp_and, wp_or, wp_not, wp_nil, wp_cons, wp_callC, wp_callF, wp_call0, wp_tup, wp_lst, wps_nil, wps_ret, wps_set, wps_asg, wp_gN, wp_gsNil, wp_gsCons, wp_gS, wp_yes, wp_bm, wp_cut, wp_oNo, wp_oSo, wp_neg, wp_int, wp_add, wp_sub, wp_mul, wp_cInt, wp_eqI, wp_neI, wps_seq, List.getElem?_cons_zero, List.getElem?_cons_succ, List.set_cons_zero, List.set_cons_succ, List.map_cons, List.map_nil, List.length_cons, List.length_nil, List.cons_append, List.nil_append, List.append_nil, List.replicate, U.bl.injEq, U.int.injEq, exists_eq_left', Nat.reduceAdd, Nat.reduceSub, Nat.reduceMul, reduceCtorEq, false_implies, true_implies, true_and, and_true, eq_self]
    exact ⟨_, rfl, inR_nat (by omega) (by omega), Sx.refl, fun S' _ => yld_r0⟩
  · intro i S' hi y
    rw [wp_gN]
    refine ⟨Sx.refl, wp_lenC ts (fun t => decide (mixF t seed % many = (i : Int))) (wp_itL ?_) ?_ (by rw [fl5]; omega)⟩
    · simp only [wipeU, wp_var, wp_ok, wp_bin, wp_c, wp_b, wp_if, wps_if, wp_and, wp_or, wp_not, wp_nil, wp_cons, wp_callC, wp_callF, wp_call0, wp_tup, wp_lst, wps_nil, wps_ret, wps_set, wps_asg, wp_gN, wp_gsNil, wp_gsCons, wp_gS, wp_yes, wp_bm, wp_cut, wp_oNo, wp_oSo, wp_neg, wp_int, wp_add, wp_sub, wp_mul, wp_cInt, wp_eqI, wp_neI, wps_seq, List.getElem?_cons_zero, List.getElem?_cons_succ, List.set_cons_zero, List.set_cons_succ, List.map_cons, List.map_nil, List.length_cons, List.length_nil, List.cons_append, List.nil_append, List.append_nil, List.replicate, U.bl.injEq, U.int.injEq, exists_eq_left', Nat.reduceAdd, Nat.reduceSub, Nat.reduceMul, reduceCtorEq, false_implies, true_implies, true_and, and_true, eq_self]
      exact ⟨n9, _, rfl, a9.sx y, Sx.refl, fun S' x' => yld_l ((a9.sx y).sx x').get⟩
    · intro t' S2 ht' x2
      have tl := (T.tx t' ht').1
      simp only [wipeU, wp_var, wp_ok, wp_bin, wp_c, wp_b, wp_if, wps_if, wp_and, wp_or, wp_not, wp_nil, wp_cons, wp_callC, wp_callF, wp_call0, wp_tup, wp_lst, wps_nil, wps_ret, wps_set, wps_asg, wp_gN, wp_gsNil, wp_gsCons, wp_gS, wp_yes, wp_bm, wp_cut, wp_oNo, wp_oSo, wp_neg, wp_int, wp_add, wp_sub, wp_mul, wp_cInt, wp_eqI, wp_neI, wps_seq, List.getElem?_cons_zero, List.getElem?_cons_succ, List.set_cons_zero, List.set_cons_succ, List.map_cons, List.map_nil, List.length_cons, List.length_nil, List.cons_append, List.nil_append, List.append_nil, List.replicate, U.bl.injEq, U.int.injEq, exists_eq_left', Nat.reduceAdd, Nat.reduceSub, Nat.reduceMul, reduceCtorEq, false_implies, true_implies, true_and, and_true, eq_self]
      refine (lmix S2 b3 (by omega) (by omega)).mono ?_
      rintro u S3 ⟨rfl, rfl⟩
      simp only [wp_mod (show 0 < many by omega), wp_var, wp_ok, wp_bin, wp_c, wp_b, wp_if, wps_if, wp_and, wp_or, wp_not, wp_nil, wp_cons, wp_callC, wp_callF, wp_call0, wp_tup, wp_lst, wps_nil, wps_ret, wps_set, wps_asg, wp_gN, wp_gsNil, wp_gsCons, wp_gS, wp_yes, wp_bm, wp_cut, wp_oNo, wp_oSo, wp_neg, wp_int, wp_add, wp_sub, wp_mul, wp_cInt, wp_eqI, wp_neI, wps_seq, List.getElem?_cons_zero, List.getElem?_cons_succ, List.set_cons_zero, List.set_cons_succ, List.map_cons, List.map_nil, List.length_cons, List.length_nil, List.cons_append, List.nil_append, List.append_nil, List.replicate, U.bl.injEq, U.int.injEq, exists_eq_left', Nat.reduceAdd, Nat.reduceSub, Nat.reduceMul, reduceCtorEq, false_implies, true_implies, true_and, and_true, eq_self]
      exact Sx.refl
  · rw [List.length_range, fl5]
    omega
  · rintro u S1 ⟨n13, rfl, ge, a13, y1⟩
    simp only [wp_var, wp_ok, wp_bin, wp_c, wp_b, wp_if, wps_if, wp_and, wp_or, wp_not, wp_nil, wp_cons, wp_callC, wp_callF, wp_call0, wp_tup, wp_lst, wps_nil, wps_ret, wps_set, wps_asg, wp_gN, wp_gsNil, wp_gsCons, wp_gS, wp_yes, wp_bm, wp_cut, wp_oNo, wp_oSo, wp_neg, wp_int, wp_add, wp_sub, wp_mul, wp_cInt, wp_eqI, wp_neI, wps_seq, List.getElem?_cons_zero, List.getElem?_cons_succ, List.set_cons_zero, List.set_cons_succ, List.map_cons, List.map_nil, List.length_cons, List.length_nil, List.cons_append, List.nil_append, List.append_nil, List.replicate, U.bl.injEq, U.int.injEq, exists_eq_left', Nat.reduceAdd, Nat.reduceSub, Nat.reduceMul, reduceCtorEq, false_implies, true_implies, true_and, and_true, eq_self]
    refine ⟨n13, rfl, ?_, y1⟩
    unfold loadsL
    rw [List.map_map]
    exact a13
theorem law_s9 : WpS (law_9 [some (u0), some (.ref d), x2, some (.str t), some (.int seed), some (.int many), some (.int times), some (.int (mixF t seed % many)), some (.int (stepF t many seed)), some (.ref n9), x10, x11, x12, some (.ref n13), x14, x15, x16, x17, x18, x19, x20, x21, x22, x23, x24, x25, x26] S) (fun ρ S' => ∃ n14 : Nat, ρ = [some (u0), some (.ref d), x2, some (.str t), some (.int seed), some (.int many), some (.int times), some (.int (mixF t seed % many)), some (.int (stepF t many seed)), some (.ref n9), x10, x11, x12, some (.ref n13), some (.ref n14), x15, x16, x17, x18, x19, x20, x21, x22, x23, x24, x25, x26] ∧ At S' n14 (.lst ((dkeys ts).map U.str)) ∧ Sx No S S') NoR := by
  have few := T.few
  unfold law_9
  rw [wps_set]
  refine (wp_names (ts := ts) (by omega) (fun w => rfl) (wp_itL ?_)).mono ?_
  · simp only [wp_var, wp_ok, wp_bin, wp_c, wp_b, wp_if, wps_if, wp_and, wp_or, wp_not, wp_nil, wp_cons, wp_callC, wp_callF, wp_call0, wp_tup, wp_lst, wps_nil, wps_ret, wps_set, wps_asg, wp_gN, wp_gsNil, wp_gsCons, wp_gS, wp_yes, wp_bm, wp_cut, wp_oNo, wp_oSo, wp_neg, wp_int, wp_add, wp_sub, wp_mul, wp_cInt, wp_eqI, wp_neI, wps_seq, List.getElem?_cons_zero, List.getElem?_cons_succ, List.set_cons_zero, List.set_cons_succ, List.map_cons, List.map_nil, List.length_cons, List.length_nil, List.cons_append, List.nil_append, List.append_nil, List.replicate, U.bl.injEq, U.int.injEq, exists_eq_left', Nat.reduceAdd, Nat.reduceSub, Nat.reduceMul, reduceCtorEq, false_implies, true_implies, true_and, and_true, eq_self]
    exact ⟨n9, _, rfl, a9, Sx.refl, fun S' x' => yld_l (a9.sx x').get⟩
  · rintro u S1 ⟨n14, rfl, ge, a14, y1⟩
    exact ⟨n14, rfl, a14, y1⟩
variable (a13 : At S n13 (.lst ((loadsL ts many seed).map U.int))) (a14 : At S n14 (.lst ((dkeys ts).map U.str)))
include a13
theorem loads_bd {x : Int} (h : x ∈ loadsL ts many seed) : 0 ≤ x ∧ x ≤ 8 := by
  obtain ⟨s, _, rfl⟩ := List.mem_map.mp h
  have := cnt_le ts many seed s
  have := T.few
  omega
theorem sqs_nn : ∀ l : List Int, 0 ≤ sqs l
  | [] => Int.le_refl _
  | x :: l => by
    show 0 ≤ x * x + sqs l
    have := sqs_nn l
    have : 0 ≤ x * x := by
      rcases Int.le_total 0 x with h | h
      · exact Int.mul_nonneg h h
      · exact Int.mul_nonneg_of_nonpos_of_nonpos h h
    omega
theorem law_s10 : WpS (law_10 [some (u0), some (.ref d), x2, some (.str t), some (.int seed), some (.int many), some (.int times), some (.int (mixF t seed % many)), some (.int (stepF t many seed)), some (.ref n9), x10, x11, x12, some (.ref n13), some (.ref n14), x15, x16, x17, x18, x19, x20, x21, x22, x23, x24, x25, x26] S) (fun ρ S' => ρ = [some (u0), some (.ref d), x2, some (.str t), some (.int seed), some (.int many), some (.int times), some (.int (mixF t seed % many)), some (.int (stepF t many seed)), some (.ref n9), x10, x11, x12, some (.ref n13), some (.ref n14), x15, some (.int (100 * many * sqs (loadsL ts many seed))), x17, x18, x19, x20, x21, x22, x23, x24, x25, x26] ∧ Sx No S S') NoR := by
  have ⟨b1, b2, b3, b4, b5, b6, b7, b8⟩ := B
  unfold law_10
  rw [wps_set]
  simp only [wp_var, wp_ok, wp_bin, wp_c, wp_b, wp_if, wps_if, wp_and, wp_or, wp_not, wp_nil, wp_cons, wp_callC, wp_callF, wp_call0, wp_tup, wp_lst, wps_nil, wps_ret, wps_set, wps_asg, wp_gN, wp_gsNil, wp_gsCons, wp_gS, wp_yes, wp_bm, wp_cut, wp_oNo, wp_oSo, wp_neg, wp_int, wp_add, wp_sub, wp_mul, wp_cInt, wp_eqI, wp_neI, wps_seq, List.getElem?_cons_zero, List.getElem?_cons_succ, List.set_cons_zero, List.set_cons_succ, List.map_cons, List.map_nil, List.length_cons, List.length_nil, List.cons_append, List.nil_append, List.append_nil, List.replicate, U.bl.injEq, U.int.injEq, exists_eq_left', Nat.reduceAdd, Nat.reduceSub, Nat.reduceMul, reduceCtorEq, false_implies, true_implies, true_and, and_true, eq_self]
  refine ⟨sm' (by decide), ?_⟩
  refine Wp.mono (wp_lcA (loadsL ts many seed) U.int (fun x => U.int (x * x)) (wp_itL ?_) ?_ ?_) ?_
  · simp only [wp_var, wp_ok, wp_bin, wp_c, wp_b, wp_if, wps_if, wp_and, wp_or, wp_not, wp_nil, wp_cons, wp_callC, wp_callF, wp_call0, wp_tup, wp_lst, wps_nil, wps_ret, wps_set, wps_asg, wp_gN, wp_gsNil, wp_gsCons, wp_gS, wp_yes, wp_bm, wp_cut, wp_oNo, wp_oSo, wp_neg, wp_int, wp_add, wp_sub, wp_mul, wp_cInt, wp_eqI, wp_neI, wps_seq, List.getElem?_cons_zero, List.getElem?_cons_succ, List.set_cons_zero, List.set_cons_succ, List.map_cons, List.map_nil, List.length_cons, List.length_nil, List.cons_append, List.nil_append, List.append_nil, List.replicate, U.bl.injEq, U.int.injEq, exists_eq_left', Nat.reduceAdd, Nat.reduceSub, Nat.reduceMul, reduceCtorEq, false_implies, true_implies, true_and, and_true, eq_self]
    exact ⟨n13, _, rfl, a13, Sx.refl, fun S' x' => yld_l (a13.sx x').get⟩
  · intro x S' hx y
    have := loads_bd B T a9 a13 hx
    simp only [wipeU, wp_var, wp_ok, wp_bin, wp_c, wp_b, wp_if, wps_if, wp_and, wp_or, wp_not, wp_nil, wp_cons, wp_callC, wp_callF, wp_call0, wp_tup, wp_lst, wps_nil, wps_ret, wps_set, wps_asg, wp_gN, wp_gsNil, wp_gsCons, wp_gS, wp_yes, wp_bm, wp_cut, wp_oNo, wp_oSo, wp_neg, wp_int, wp_add, wp_sub, wp_mul, wp_cInt, wp_eqI, wp_neI, wps_seq, List.getElem?_cons_zero, List.getElem?_cons_succ, List.set_cons_zero, List.set_cons_succ, List.map_cons, List.map_nil, List.length_cons, List.length_nil, List.cons_append, List.nil_append, List.append_nil, List.replicate, U.bl.injEq, U.int.injEq, exists_eq_left', Nat.reduceAdd, Nat.reduceSub, Nat.reduceMul, reduceCtorEq, false_implies, true_implies, true_and, and_true, eq_self]
    exact ⟨Sx.refl, sm (by omega), Sx.refl⟩
  · unfold loadsL
    rw [List.length_map, List.length_range, fl5]
    omega
  · rintro u S1 ⟨a, rfl, ge, at1, y1⟩
    have el : (loadsL ts many seed).map (fun x => U.int (x * x)) = ((loadsL ts many seed).map fun x => x * x).map U.int := by rw [List.map_map] <;> rfl
    rw [el] at at1
    have es : cSum [.ref a] S1 = .ok (.int (sqs (loadsL ts many seed))) S1 := by
      simp only [cSum, seqU, lstU, at1.get, ints_all]
      rfl
    simp only [es, wp_var, wp_ok, wp_bin, wp_c, wp_b, wp_if, wps_if, wp_and, wp_or, wp_not, wp_nil, wp_cons, wp_callC, wp_callF, wp_call0, wp_tup, wp_lst, wps_nil, wps_ret, wps_set, wps_asg, wp_gN, wp_gsNil, wp_gsCons, wp_gS, wp_yes, wp_bm, wp_cut, wp_oNo, wp_oSo, wp_neg, wp_int, wp_add, wp_sub, wp_mul, wp_cInt, wp_eqI, wp_neI, wps_seq, List.getElem?_cons_zero, List.getElem?_cons_succ, List.set_cons_zero, List.set_cons_succ, List.map_cons, List.map_nil, List.length_cons, List.length_nil, List.cons_append, List.nil_append, List.append_nil, List.replicate, U.bl.injEq, U.int.injEq, exists_eq_left', Nat.reduceAdd, Nat.reduceSub, Nat.reduceMul, reduceCtorEq, false_implies, true_implies, true_and, and_true, eq_self]
    exact ⟨sm' (by omega), y1⟩
theorem law_s11 : WpS (law_11 [some (u0), some (.ref d), x2, some (.str t), some (.int seed), some (.int many), some (.int times), some (.int (mixF t seed % many)), some (.int (stepF t many seed)), some (.ref n9), x10, x11, x12, some (.ref n13), some (.ref n14), x15, some (.int (100 * many * sqs (loadsL ts many seed))), x17, x18, x19, x20, x21, x22, x23, x24, x25, x26] S) (fun ρ S' => ρ = [some (u0), some (.ref d), x2, some (.str t), some (.int seed), some (.int many), some (.int times), some (.int (mixF t seed % many)), some (.int (stepF t many seed)), some (.ref n9), x10, x11, x12, some (.ref n13), some (.ref n14), x15, some (.int (100 * many * sqs (loadsL ts many seed))), some (evenF ts many seed), x18, x19, x20, x21, x22, x23, x24, x25, x26] ∧ Sx No S S') NoR := by
  have ⟨b1, b2, b3, b4, b5, b6, b7, b8⟩ := B
  have few := T.few
  unfold law_11
  rw [wps_set]
  simp only [wp_var, wp_ok, wp_bin, wp_c, wp_b, wp_if, wps_if, wp_and, wp_or, wp_not, wp_nil, wp_cons, wp_callC, wp_callF, wp_call0, wp_tup, wp_lst, wps_nil, wps_ret, wps_set, wps_asg, wp_gN, wp_gsNil, wp_gsCons, wp_gS, wp_yes, wp_bm, wp_cut, wp_oNo, wp_oSo, wp_neg, wp_int, wp_add, wp_sub, wp_mul, wp_cInt, wp_eqI, wp_neI, wps_seq, List.getElem?_cons_zero, List.getElem?_cons_succ, List.set_cons_zero, List.set_cons_succ, List.map_cons, List.map_nil, List.length_cons, List.length_nil, List.cons_append, List.nil_append, List.append_nil, List.replicate, U.bl.injEq, U.int.injEq, exists_eq_left', Nat.reduceAdd, Nat.reduceSub, Nat.reduceMul, reduceCtorEq, false_implies, true_implies, true_and, and_true, eq_self]
  have a2 : At (S.new (.lst [])) S.n (.lst (([] : List (List Nat)).map U.str)) := At.new
  rw [wp_neD (toD_strs (a9.sx (P := No) Sx.new)) (toD_strs a2) (shp_strs fun t h => (T.tx t h).2) (shp_strs fun t h => nomatch h)]
  simp only [List.map_nil, eqv_nilL, List.isEmpty_map, wp_var, wp_ok, wp_bin, wp_c, wp_b, wp_if, wps_if, wp_and, wp_or, wp_not, wp_nil, wp_cons, wp_callC, wp_callF, wp_call0, wp_tup, wp_lst, wps_nil, wps_ret, wps_set, wps_asg, wp_gN, wp_gsNil, wp_gsCons, wp_gS, wp_yes, wp_bm, wp_cut, wp_oNo, wp_oSo, wp_neg, wp_int, wp_add, wp_sub, wp_mul, wp_cInt, wp_eqI, wp_neI, wps_seq, List.getElem?_cons_zero, List.getElem?_cons_succ, List.set_cons_zero, List.set_cons_succ, List.map_cons, List.map_nil, List.length_cons, List.length_nil, List.cons_append, List.nil_append, List.append_nil, List.replicate, U.bl.injEq, U.int.injEq, exists_eq_left', Nat.reduceAdd, Nat.reduceSub, Nat.reduceMul, reduceCtorEq, false_implies, true_implies, true_and, and_true, eq_self]
  refine ⟨Nat.zero_le _, fun hb => ?_, fun hb => ?_⟩
  · have ne : ts ≠ [] := fun e => by rw [e] at hb; cases hb
    have n1 : 0 < ts.length := List.length_pos_iff.mpr ne
    have lt : cLen [.ref n9] (S.new (.lst [])) = .ok (.int ts.length) (S.new (.lst [])) := by
      simp only [cLen, seqU, lstU, (a9.sx (P := No) (Sx.new (o := .lst []))).get, List.length_map]
    simp only [lt, wp_var, wp_ok, wp_bin, wp_c, wp_b, wp_if, wps_if, wp_and, wp_or, wp_not, wp_nil, wp_cons, wp_callC, wp_callF, wp_call0, wp_tup, wp_lst, wps_nil, wps_ret, wps_set, wps_asg, wp_gN, wp_gsNil, wp_gsCons, wp_gS, wp_yes, wp_bm, wp_cut, wp_oNo, wp_oSo, wp_neg, wp_int, wp_add, wp_sub, wp_mul, wp_cInt, wp_eqI, wp_neI, wps_seq, List.getElem?_cons_zero, List.getElem?_cons_succ, List.set_cons_zero, List.set_cons_succ, List.map_cons, List.map_nil, List.length_cons, List.length_nil, List.cons_append, List.nil_append, List.append_nil, List.replicate, U.bl.injEq, U.int.injEq, exists_eq_left', Nat.reduceAdd, Nat.reduceSub, Nat.reduceMul, reduceCtorEq, false_implies, true_implies, true_and, and_true, eq_self]
    have hp : (0 : Int) < (ts.length : Int) * ts.length := Int.mul_pos (by omega) (by omega)
    have hq : (ts.length : Int) * ts.length < 1073741824 := by
      have : (ts.length : Int) * ts.length ≤ 8 * 8 := Int.mul_le_mul (by omega) (by omega) (by omega) (by decide)
      omega
    refine ⟨sm (by omega), ?_⟩
    rw [wp_div hp hq]
    refine ⟨?_, Sx.new⟩
    unfold evenF
    rw [if_neg ne]
  · have e : ts = [] := by
      cases ts with
      | nil => rfl
      | cons a l => cases hb
    refine ⟨?_, Sx.new⟩
    unfold evenF
    rw [if_pos e]
theorem toD_even (S : Store) : ∃ e, toD S (evenF ts many seed) = some e ∧ Shp 0 e := by
  unfold evenF
  split
  · exact ⟨_, rfl, Shp.none⟩
  · exact ⟨_, rfl, Shp.int _⟩
theorem law_s12 : WpS (law_12 [some (u0), some (.ref d), x2, some (.str t), some (.int seed), some (.int many), some (.int times), some (.int (mixF t seed % many)), some (.int (stepF t many seed)), some (.ref n9), x10, x11, x12, some (.ref n13), some (.ref n14), x15, some (.int (100 * many * sqs (loadsL ts many seed))), some (evenF ts many seed), x18, x19, x20, x21, x22, x23, x24, x25, x26] S) (fun ρ S' => ρ = [some (u0), some (.ref d), x2, some (.str t), some (.int seed), some (.int many), some (.int times), some (.int (mixF t seed % many)), some (.int (stepF t many seed)), some (.ref n9), x10, x11, x12, some (.ref n13), some (.ref n14), x15, some (.int (100 * many * sqs (loadsL ts many seed))), some (evenF ts many seed), x18, x19, x20, x21, x22, x23, x24, x25, x26] ∧ Sx No S S') NoR := by
  have ⟨b1, b2, b3, b4, b5, b6, b7, b8⟩ := B
  unfold law_12
  simp only [wp_var, wp_ok, wp_bin, wp_c, wp_b, wp_if, wps_if, wp_and, wp_or, wp_not, wp_nil, wp_cons, wp_callC, wp_callF, wp_call0, wp_tup, wp_lst, wps_nil, wps_ret, wps_set, wps_asg, wp_gN, wp_gsNil, wp_gsCons, wp_gS, wp_yes, wp_bm, wp_cut, wp_oNo, wp_oSo, wp_neg, wp_int, wp_add, wp_sub, wp_mul, wp_cInt, wp_eqI, wp_neI, wps_seq, List.getElem?_cons_zero, List.getElem?_cons_succ, List.set_cons_zero, List.set_cons_succ, List.map_cons, List.map_nil, List.length_cons, List.length_nil, List.cons_append, List.nil_append, List.append_nil, List.replicate, U.bl.injEq, U.int.injEq, exists_eq_left', Nat.reduceAdd, Nat.reduceSub, Nat.reduceMul, reduceCtorEq, false_implies, true_implies, true_and, and_true, eq_self]
  refine (spot_loads (.lst a9) T b3 (by omega) (by omega) (by omega)).mono ?_
  rintro u S1 ⟨rfl, y1⟩
  have es : cList [.tup ((loadsL ts many seed).map U.int)] S1 = .ok (.ref S1.n) (S1.new (.lst ((loadsL ts many seed).map U.int))) := rfl
  have z1 : Sx No S1 (S1.new (.lst ((loadsL ts many seed).map U.int))) := Sx.new
  have a1 : At (S1.new (.lst ((loadsL ts many seed).map U.int))) S1.n (.lst ((loadsL ts many seed).map U.int)) := At.new
  rw [es, wp_ok]
  refine ne_end (toD_ints a1) (toD_ints ((a13.sx y1).sx z1)) shp_ints ?_
  generalize S1.new (.lst ((loadsL ts many seed).map U.int)) = S2 at z1
  have y2 := y1.trans z1
  refine (how_even (.lst (a9.sx y2)) T b3 (by omega) (by omega) (by omega)).mono ?_
  rintro u S3 ⟨rfl, y3⟩
  obtain ⟨e, h1, h2⟩ := toD_even B T a9 a13 S3
  exact ne_end h1 h1 h2 (y2.trans y3)
include a14
theorem law_s13 : WpS (law_13 [some (u0), some (.ref d), x2, some (.str t), some (.int seed), some (.int many), some (.int times), some (.int (mixF t seed % many)), some (.int (stepF t many seed)), some (.ref n9), x10, x11, x12, some (.ref n13), some (.ref n14), x15, some (.int (100 * many * sqs (loadsL ts many seed))), some (evenF ts many seed), x18, x19, x20, x21, x22, x23, x24, x25, x26] S) (fun ρ S' => ρ = [some (u0), some (.ref d), x2, some (.str t), some (.int seed), some (.int many), some (.int times), some (.int (mixF t seed % many)), some (.int (stepF t many seed)), some (.ref n9), x10, x11, x12, some (.ref n13), some (.ref n14), x15, some (.int (100 * many * sqs (loadsL ts many seed))), some (evenF ts many seed), x18, x19, x20, x21, x22, x23, x24, x25, x26] ∧ Sx No S S') NoR := by
  have ⟨b1, b2, b3, b4, b5, b6, b7, b8⟩ := B
  have few := T.few
  have dl := dkeys_len ts
  unfold law_13
  have er : mRev (mVar 9) [some (u0), some (.ref d), x2, some (.str t), some (.int seed), some (.int many), some (.int times), some (.int (mixF t seed % many)), some (.int (stepF t many seed)), some (.ref n9), x10, x11, x12, some (.ref n13), some (.ref n14), x15, some (.int (100 * many * sqs (loadsL ts many seed))), some (evenF ts many seed), x18, x19, x20, x21, x22, x23, x24, x25, x26] S = .ok (.ref S.n) (S.new (.lst (ts.reverse.map U.str))) := by
    show (match lstU S (.ref n9) with | some ws => _ | none => _) = _
    simp only [lstU, a9.get, List.map_reverse]
  simp only [er, wp_var, wp_ok, wp_bin, wp_c, wp_b, wp_if, wps_if, wp_and, wp_or, wp_not, wp_nil, wp_cons, wp_callC, wp_callF, wp_call0, wp_tup, wp_lst, wps_nil, wps_ret, wps_set, wps_asg, wp_gN, wp_gsNil, wp_gsCons, wp_gS, wp_yes, wp_bm, wp_cut, wp_oNo, wp_oSo, wp_neg, wp_int, wp_add, wp_sub, wp_mul, wp_cInt, wp_eqI, wp_neI, wps_seq, List.getElem?_cons_zero, List.getElem?_cons_succ, List.set_cons_zero, List.set_cons_succ, List.map_cons, List.map_nil, List.length_cons, List.length_nil, List.cons_append, List.nil_append, List.append_nil, List.replicate, U.bl.injEq, U.int.injEq, exists_eq_left', Nat.reduceAdd, Nat.reduceSub, Nat.reduceMul, reduceCtorEq, false_implies, true_implies, true_and, and_true, eq_self]
  have y1 : Sx No S (S.new (.lst (ts.reverse.map U.str))) := Sx.new
  have a1 : At (S.new (.lst (ts.reverse.map U.str))) S.n (.lst (ts.reverse.map U.str)) := At.new
  generalize S.new (.lst (ts.reverse.map U.str)) = S1 at y1 a1
  refine (mix_of_set (.lst a1) ⟨by rw [List.length_reverse]; exact few, fun t ht => T.tx t (List.mem_reverse.mp ht)⟩ b3 (by omega)).mono ?_
  rintro u S2 ⟨rfl, y2⟩
  have y3 := y1.trans y2
  refine Wp.mono (wp_lcA (dkeys ts) U.str (fun t => U.int (mixF t seed)) (wp_itL ?_) ?_ ?_) ?_
  · simp only [wp_var, wp_ok, wp_bin, wp_c, wp_b, wp_if, wps_if, wp_and, wp_or, wp_not, wp_nil, wp_cons, wp_callC, wp_callF, wp_call0, wp_tup, wp_lst, wps_nil, wps_ret, wps_set, wps_asg, wp_gN, wp_gsNil, wp_gsCons, wp_gS, wp_yes, wp_bm, wp_cut, wp_oNo, wp_oSo, wp_neg, wp_int, wp_add, wp_sub, wp_mul, wp_cInt, wp_eqI, wp_neI, wps_seq, List.getElem?_cons_zero, List.getElem?_cons_succ, List.set_cons_zero, List.set_cons_succ, List.map_cons, List.map_nil, List.length_cons, List.length_nil, List.cons_append, List.nil_append, List.append_nil, List.replicate, U.bl.injEq, U.int.injEq, exists_eq_left', Nat.reduceAdd, Nat.reduceSub, Nat.reduceMul, reduceCtorEq, false_implies, true_implies, true_and, and_true, eq_self]
    exact ⟨n14, _, rfl, a14.sx y3, Sx.refl, fun S' x' => yld_l ((a14.sx y3).sx x').get⟩
  · intro t' S' hx y
    have tl := (T.tx t' (dkeys_mem.mp hx)).1
    simp only [wipeU, wp_var, wp_ok, wp_bin, wp_c, wp_b, wp_if, wps_if, wp_and, wp_or, wp_not, wp_nil, wp_cons, wp_callC, wp_callF, wp_call0, wp_tup, wp_lst, wps_nil, wps_ret, wps_set, wps_asg, wp_gN, wp_gsNil, wp_gsCons, wp_gS, wp_yes, wp_bm, wp_cut, wp_oNo, wp_oSo, wp_neg, wp_int, wp_add, wp_sub, wp_mul, wp_cInt, wp_eqI, wp_neI, wps_seq, List.getElem?_cons_zero, List.getElem?_cons_succ, List.set_cons_zero, List.set_cons_succ, List.map_cons, List.map_nil, List.length_cons, List.length_nil, List.cons_append, List.nil_append, List.append_nil, List.replicate, U.bl.injEq, U.int.injEq, exists_eq_left', Nat.reduceAdd, Nat.reduceSub, Nat.reduceMul, reduceCtorEq, false_implies, true_implies, true_and, and_true, eq_self]
    refine ⟨Sx.refl, (lmix S' b3 (by omega) (by omega)).mono ?_⟩
    rintro u S3 ⟨rfl, rfl⟩
    exact ⟨rfl, Sx.refl⟩
  · rw [fl5]
    omega
  · rintro u S3 ⟨a, rfl, ge, at1, y4⟩
    have el : (dkeys ts).map (fun t => U.int (mixF t seed)) = ((dkeys ts).map fun t => mixF t seed).map U.int := by rw [List.map_map] <;> rfl
    rw [el] at at1
    have es : cSum [.ref a] S3 = .ok (.int (sumM ts seed)) S3 := by
      simp only [cSum, seqU, lstU, at1.get, ints_all]
      rfl
    have em : sumM ts.reverse seed = sumM ts seed := dkeys_sum _ ts
    simp only [es, em, wp_var, wp_ok, wp_bin, wp_c, wp_b, wp_if, wps_if, wp_and, wp_or, wp_not, wp_nil, wp_cons, wp_callC, wp_callF, wp_call0, wp_tup, wp_lst, wps_nil, wps_ret, wps_set, wps_asg, wp_gN, wp_gsNil, wp_gsCons, wp_gS, wp_yes, wp_bm, wp_cut, wp_oNo, wp_oSo, wp_neg, wp_int, wp_add, wp_sub, wp_mul, wp_cInt, wp_eqI, wp_neI, wps_seq, List.getElem?_cons_zero, List.getElem?_cons_succ, List.set_cons_zero, List.set_cons_succ, List.map_cons, List.map_nil, List.length_cons, List.length_nil, List.cons_append, List.nil_append, List.append_nil, List.replicate, U.bl.injEq, U.int.injEq, exists_eq_left', Nat.reduceAdd, Nat.reduceSub, Nat.reduceMul, reduceCtorEq, false_implies, true_implies, true_and, and_true, eq_self, wp_mod (show (0 : Int) < 1000003 by decide)]
    exact ⟨fun z => by simp at z, fun _ => y3.trans y4⟩
omit a13 a14
theorem law_s14 : WpS (law_14 [some (u0), some (.ref d), x2, some (.str t), some (.int seed), some (.int many), some (.int times), some (.int (mixF t seed % many)), some (.int (stepF t many seed)), some (.ref n9), x10, x11, x12, some (.ref n13), some (.ref n14), x15, some (.int (100 * many * sqs (loadsL ts many seed))), some (evenF ts many seed), x18, x19, x20, x21, x22, x23, x24, x25, x26] S) (fun ρ S' => ρ = [some (u0), some (.ref d), x2, some (.str t), some (.int seed), some (.int many), some (.int times), some (.int (mixF t seed % many)), some (.int (stepF t many seed)), some (.ref n9), x10, x11, x12, some (.ref n13), some (.ref n14), x15, some (.int (100 * many * sqs (loadsL ts many seed))), some (evenF ts many seed), x18, x19, x20, x21, x22, x23, x24, x25, x26] ∧ Sx No S S') NoR := by
  have ⟨b1, b2, b3, b4, b5, b6, b7, b8⟩ := B
  unfold law_14
  simp only [wp_var, wp_ok, wp_bin, wp_c, wp_b, wp_if, wps_if, wp_and, wp_or, wp_not, wp_nil, wp_cons, wp_callC, wp_callF, wp_call0, wp_tup, wp_lst, wps_nil, wps_ret, wps_set, wps_asg, wp_gN, wp_gsNil, wp_gsCons, wp_gS, wp_yes, wp_bm, wp_cut, wp_oNo, wp_oSo, wp_neg, wp_int, wp_add, wp_sub, wp_mul, wp_cInt, wp_eqI, wp_neI, wps_seq, List.getElem?_cons_zero, List.getElem?_cons_succ, List.set_cons_zero, List.set_cons_succ, List.map_cons, List.map_nil, List.length_cons, List.length_nil, List.cons_append, List.nil_append, List.append_nil, List.replicate, U.bl.injEq, U.int.injEq, exists_eq_left', Nat.reduceAdd, Nat.reduceSub, Nat.reduceMul, reduceCtorEq, false_implies, true_implies, true_and, and_true, eq_self]
  refine (meeting_rows (.lst a9) T b3 (by omega) (by omega) (by omega)).mono ?_
  rintro u S1 ⟨rfl, y1⟩
  refine (law_meet (a9.sx y1) T b3 (by omega) (by omega) (by omega)).mono ?_
  rintro u S2 ⟨rfl, y2⟩
  exact ne_end (meet_toD S2 ts many seed) (meet_toD S2 ts many seed) (meet_shp T many seed) (y1.trans y2)
end
end K01
/-! text K01g -/
namespace K01
open Sm Pl
variable {u0 : U} {d : Nat} {S : Store} {x0 x1 x2 x3 x4 x5 x6 x7 x8 x9 x10 x11 x12 x13 x14 x15 x16 x17 x18 x19 x20 x21 x22 x23 x24 x25 x26 : Option U}
@[irreducible] def ableP (ts : List (List Nat)) (many : Int) (s : Nat) : Bool := (meetF ts many (s : Int)).isEmpty
def ableL (ts : List (List Nat)) (many : Int) (most : Nat) : List Nat := (List.range most).filter (ableP ts many)
section
variable {t : List Nat} {seed many times : Int} (B : Rnd t seed many times) {ts : List (List Nat)} {n9 : Nat} (T : Txs ts) (a9 : At S n9 (.lst (ts.map U.str)))
theorem law_s15 (D : Dice d S) : WpS (law_15 [some (u0), some (.ref d), x2, some (.str t), some (.int seed), some (.int many), some (.int times), some (.int (mixF t seed % many)), some (.int (stepF t many seed)), some (.ref n9), x10, x11, x12, x13, x14, x15, x16, x17, x18, x19, x20, x21, x22, x23, x24, x25, x26] S) (fun ρ S' => ∃ (my : Int) (most : Nat), ρ = [some (u0), some (.ref d), x2, some (.str t), some (.int seed), some (.int many), some (.int times), some (.int (mixF t seed % many)), some (.int (stepF t many seed)), some (.ref n9), x10, x11, x12, x13, x14, x15, x16, x17, some (.int my), x19, x20, x21, x22, x23, x24, x25, x26] ∧ my = (most : Int) ∧ 1 ≤ most ∧ most ≤ 12 ∧ Sx (Only d) S S' ∧ Dice d S') NoR := by
  unfold law_15
  simp only [wp_var, wp_ok, wp_bin, wp_c, wp_b, wp_if, wps_if, wp_and, wp_or, wp_not, wp_nil, wp_cons, wp_callC, wp_callF, wp_call0, wp_tup, wp_lst, wps_nil, wps_ret, wps_set, wps_asg, wp_gN, wp_gsNil, wp_gsCons, wp_gS, wp_yes, wp_bm, wp_cut, wp_oNo, wp_oSo, wp_neg, wp_int, wp_add, wp_sub, wp_mul, wp_cInt, wp_eqI, wp_neI, wps_seq, List.getElem?_cons_zero, List.getElem?_cons_succ, List.set_cons_zero, List.set_cons_succ, List.map_cons, List.map_nil, List.length_cons, List.length_nil, List.cons_append, List.nil_append, List.append_nil, List.replicate, U.bl.injEq, U.int.injEq, exists_eq_left', Nat.reduceAdd, Nat.reduceSub, Nat.reduceMul, reduceCtorEq, false_implies, true_implies, true_and, and_true, eq_self]
  refine (roll D (by decide) (by decide)).mono ?_
  rintro u S2 ⟨y2, D2, r, rfl, r0, r1⟩
  rw [wp_add]
  exact ⟨1 + r, (1 + r).toNat, rfl, by omega, by omega, by omega, y2, D2⟩
variable {most : Nat} (m1 : 1 ≤ most) (m2 : most ≤ 12)
include B T a9 m1 m2
theorem law_s16 {my : Int} (hmy : my = (most : Int)) : WpS (law_16 [some (u0), some (.ref d), x2, some (.str t), some (.int seed), some (.int many), some (.int times), some (.int (mixF t seed % many)), some (.int (stepF t many seed)), some (.ref n9), x10, x11, x12, x13, x14, x15, x16, x17, some (.int my), x19, x20, x21, x22, x23, x24, x25, x26] S) (fun ρ S' => ∃ n19 : Nat, ρ = [some (u0), some (.ref d), x2, some (.str t), some (.int seed), some (.int many), some (.int times), some (.int (mixF t seed % many)), some (.int (stepF t many seed)), some (.ref n9), x10, x11, x12, x13, x14, x15, x16, x17, some (.int my), some (.ref n19), x20, x21, x22, x23, x24, x25, x26] ∧ At S' n19 (.lst (((ableL ts many most).map fun s : Nat => (s : Int)).map U.int)) ∧ Sx No S S') NoR := by
  have ⟨b1, b2, b3, b4, b5, b6, b7, b8⟩ := B
  unfold law_16
  rw [wps_set]
  refine Wp.mono (wp_lcM (List.range most) (fun i : Nat => U.int (i : Int)) (ableP ts many) (fun i : Nat => U.int (i : Int)) (wp_range1 ?_) ?_ ?_) ?_
  · simp only [wp_var, wp_ok, wp_bin, wp_c, wp_b, wp_if, wps_if, wp_and, wp_or, wp_not, wp_nil, wp_cons, wp_callC, wp_callF, wp_call0, wp_tup, wp_lst, wps_nil, wps_ret, wps_set, wps_asg, wp_gN, wp_gsNil, wp_gsCons, wp_gS, wp_yes, wp_bm, wp_cut, wp_oNo, wp_oSo, wp_neg, wp_int, wp_add, wp_sub, wp_mul, wp_cInt, wp_eqI, wp_neI, wps_seq, List.getElem?_cons_zero, List.getElem?_cons_succ, List.set_cons_zero, List.set_cons_succ, List.map_cons, List.map_nil, List.length_cons, List.length_nil, List.cons_append, List.nil_append, List.append_nil, List.replicate, U.bl.injEq, U.int.injEq, exists_eq_left', Nat.reduceAdd, Nat.reduceSub, Nat.reduceMul, reduceCtorEq, false_implies, true_implies, true_and, and_true, eq_self]
    exact ⟨_, rfl, inR_nat (by omega) (by omega), Sx.refl, fun S' _ => by rw [hmy, Int.toNat_natCast]; exact yld_r0⟩
  · intro i S' hi y
    have := List.mem_range.mp hi
    simp only [wipeU, wp_var, wp_ok, wp_bin, wp_c, wp_b, wp_if, wps_if, wp_and, wp_or, wp_not, wp_nil, wp_cons, wp_callC, wp_callF, wp_call0, wp_tup, wp_lst, wps_nil, wps_ret, wps_set, wps_asg, wp_gN, wp_gsNil, wp_gsCons, wp_gS, wp_yes, wp_bm, wp_cut, wp_oNo, wp_oSo, wp_neg, wp_int, wp_add, wp_sub, wp_mul, wp_cInt, wp_eqI, wp_neI, wps_seq, List.getElem?_cons_zero, List.getElem?_cons_succ, List.set_cons_zero, List.set_cons_succ, List.map_cons, List.map_nil, List.length_cons, List.length_nil, List.cons_append, List.nil_append, List.append_nil, List.replicate, U.bl.injEq, U.int.injEq, exists_eq_left', Nat.reduceAdd, Nat.reduceSub, Nat.reduceMul, reduceCtorEq, false_implies, true_implies, true_and, and_true, eq_self]
    refine (law_meet (a9.sx y) T (by omega) (by omega) (by omega) (by omega)).mono ?_
    rintro u S2 ⟨rfl, y2⟩
    simp only [meet_nil T, wp_var, wp_ok, wp_bin, wp_c, wp_b, wp_if, wps_if, wp_and, wp_or, wp_not, wp_nil, wp_cons, wp_callC, wp_callF, wp_call0, wp_tup, wp_lst, wps_nil, wps_ret, wps_set, wps_asg, wp_gN, wp_gsNil, wp_gsCons, wp_gS, wp_yes, wp_bm, wp_cut, wp_oNo, wp_oSo, wp_neg, wp_int, wp_add, wp_sub, wp_mul, wp_cInt, wp_eqI, wp_neI, wps_seq, List.getElem?_cons_zero, List.getElem?_cons_succ, List.set_cons_zero, List.set_cons_succ, List.map_cons, List.map_nil, List.length_cons, List.length_nil, List.cons_append, List.nil_append, List.append_nil, List.replicate, U.bl.injEq, U.int.injEq, exists_eq_left', Nat.reduceAdd, Nat.reduceSub, Nat.reduceMul, reduceCtorEq, false_implies, true_implies, true_and, and_true, eq_self]
    exact ⟨Nat.zero_le _, by unfold ableP; rfl, y2, fun _ => y2⟩
  · rw [List.length_range, fl5]
    omega
  · rintro u S1 ⟨n19, rfl, ge, a19, y1⟩
    refine ⟨n19, rfl, ?_, y1⟩
    rw [List.map_map]
    exact a19
theorem law_s17 {my : Int} (hmy : my = (most : Int)) {n19 : Nat} (a19 : At S n19 (.lst (((ableL ts many most).map fun s : Nat => (s : Int)).map U.int))) : WpS (law_17 [some (u0), some (.ref d), x2, some (.str t), some (.int seed), some (.int many), some (.int times), some (.int (mixF t seed % many)), some (.int (stepF t many seed)), some (.ref n9), x10, x11, x12, x13, x14, x15, x16, x17, some (.int my), some (.ref n19), x20, x21, x22, x23, x24, x25, x26] S) (fun ρ S' => ρ = [some (u0), some (.ref d), x2, some (.str t), some (.int seed), some (.int many), some (.int times), some (.int (mixF t seed % many)), some (.int (stepF t many seed)), some (.ref n9), x10, x11, x12, x13, x14, x15, x16, x17, some (.int my), some (.ref n19), x20, x21, x22, x23, x24, x25, x26] ∧ Sx No S S') NoR := by
  have ⟨b1, b2, b3, b4, b5, b6, b7, b8⟩ := B
  subst hmy
  unfold law_17
  simp only [wp_var, wp_ok, wp_bin, wp_c, wp_b, wp_if, wps_if, wp_and, wp_or, wp_not, wp_nil, wp_cons, wp_callC, wp_callF, wp_call0, wp_tup, wp_lst, wps_nil, wps_ret, wps_set, wps_asg, wp_gN, wp_gsNil, wp_gsCons, wp_gS, wp_yes, wp_bm, wp_cut, wp_oNo, wp_oSo, wp_neg, wp_int, wp_add, wp_sub, wp_mul, wp_cInt, wp_eqI, wp_neI, wps_seq, List.getElem?_cons_zero, List.getElem?_cons_succ, List.set_cons_zero, List.set_cons_succ, List.map_cons, List.map_nil, List.length_cons, List.length_nil, List.cons_append, List.nil_append, List.append_nil, List.replicate, U.bl.injEq, U.int.injEq, exists_eq_left', Nat.reduceAdd, Nat.reduceSub, Nat.reduceMul, reduceCtorEq, false_implies, true_implies, true_and, and_true, eq_self]
  refine (first_seed (.lst a9) T (by omega) (by omega) (by omega) (by omega)).mono ?_
  rintro u S1 ⟨rfl, y1⟩
  have a2 : At (S1.new (.lst [])) S1.n (.lst (([] : List Int).map U.int)) := At.new
  have y2 : Sx No S (S1.new (.lst [])) := y1.trans Sx.new
  rw [wp_neD (toD_ints (a19.sx y2)) (toD_ints a2) shp_ints shp_ints]
  simp only [List.map_nil, eqv_nilL, List.isEmpty_map, wp_var, wp_ok, wp_bin, wp_c, wp_b, wp_if, wps_if, wp_and, wp_or, wp_not, wp_nil, wp_cons, wp_callC, wp_callF, wp_call0, wp_tup, wp_lst, wps_nil, wps_ret, wps_set, wps_asg, wp_gN, wp_gsNil, wp_gsCons, wp_gS, wp_yes, wp_bm, wp_cut, wp_oNo, wp_oSo, wp_neg, wp_int, wp_add, wp_sub, wp_mul, wp_cInt, wp_eqI, wp_neI, wps_seq, List.getElem?_cons_zero, List.getElem?_cons_succ, List.set_cons_zero, List.set_cons_succ, List.map_cons, List.map_nil, List.length_cons, List.length_nil, List.cons_append, List.nil_append, List.append_nil, List.replicate, U.bl.injEq, U.int.injEq, exists_eq_left', Nat.reduceAdd, Nat.reduceSub, Nat.reduceMul, reduceCtorEq, false_implies, true_implies, true_and, and_true, eq_self]
  have hf : firstF ts many most = (ableL ts many most).head? := by
    unfold firstF ableL
    rw [List.head?_filter]
    congr 1
    funext s
    unfold ableP
    rfl
  unfold firstU
  rw [hf]
  have a3 := a19.sx y2
  cases hl : ableL ts many most with
  | nil =>
    refine ⟨Nat.zero_le _, fun hb => (nomatch hb), fun _ => ?_⟩
    exact ne_end toD_non toD_non Shp.none y2
  | cons s l =>
    rw [hl] at a3
    refine ⟨Nat.zero_le _, fun _ => ?_, fun hb => (nomatch hb)⟩
    rw [wp_ix a3 (j := 0) (by unfold pyIx; simp) rfl]
    exact ne_end toD_int toD_int (Shp.int _) y2
end
section
variable {t : List Nat} {seed many times : Int} (B : Rnd t seed many times)
include B
theorem law_s18 : WpS (law_18 [some (u0), some (.ref d), x2, some (.str t), some (.int seed), some (.int many), some (.int times), x7, x8, x9, x10, x11, x12, x13, x14, x15, x16, x17, x18, x19, x20, x21, x22, x23, x24, x25, x26] S) (fun ρ S' => ρ = [some (u0), some (.ref d), x2, some (.str t), some (.int seed), some (.int many), some (.int times), x7, x8, x9, x10, x11, x12, x13, x14, x15, x16, x17, x18, x19, some (.str (t.take 3)), some (.int 0), x22, x23, x24, x25, x26] ∧ S' = S) NoR := by
  have ⟨b1, b2, b3, b4, b5, b6, b7, b8⟩ := B
  unfold law_18
  have c3 : cutU t none (some 3) = t.take 3 := cut_to (k := 3)
  simp only [wp_gT, wp_noX, wp_cutS, c3, wp_var, wp_ok, wp_bin, wp_c, wp_b, wp_if, wps_if, wp_and, wp_or, wp_not, wp_nil, wp_cons, wp_callC, wp_callF, wp_call0, wp_tup, wp_lst, wps_nil, wps_ret, wps_set, wps_asg, wp_gN, wp_gsNil, wp_gsCons, wp_gS, wp_yes, wp_bm, wp_cut, wp_oNo, wp_oSo, wp_neg, wp_int, wp_add, wp_sub, wp_mul, wp_cInt, wp_eqI, wp_neI, wps_seq, List.getElem?_cons_zero, List.getElem?_cons_succ, List.set_cons_zero, List.set_cons_succ, List.map_cons, List.map_nil, List.length_cons, List.length_nil, List.cons_append, List.nil_append, List.append_nil, List.replicate, U.bl.injEq, U.int.injEq, exists_eq_left', Nat.reduceAdd, Nat.reduceSub, Nat.reduceMul, reduceCtorEq, false_implies, true_implies, true_and, and_true, eq_self]
  exact ⟨by have : lim = 1000000 := rfl; omega, by decide⟩
end
end K01
/-! text K01i -/
namespace K01
open Sm Pl
variable {u0 : U} {d : Nat} {S : Store} {x0 x1 x2 x3 x4 x5 x6 x7 x8 x9 x10 x11 x12 x13 x14 x15 x16 x17 x18 x19 x20 x21 x22 x23 x24 x25 x26 : Option U}
theorem wp_sumL {n b : Nat} {ws : List U} {zss : List (List U)} (a : At S n (.lst ws)) (hz : lstsU S ws = some zss) (ab : At S b (.lst [])) (hl : zss.flatten.length ≤ lim) :
    Wp (cSumL [.ref n, .ref b] S) fun u S' => ∃ m, u = .ref m ∧ At S' m (.lst zss.flatten) ∧ Sx No S S' := by
  have e : cSumL [.ref n, .ref b] S = match zss with
      | [] => .ok (.ref b) S
      | _ => .ok (.ref S.n) (S.new (.lst zss.flatten)) := by
    simp only [cSumL, lstU, a.get, ab.get, hz]
    rw [if_pos hl]
    cases zss <;> rfl
  rw [e]
  cases zss with
  | nil => exact ⟨b, rfl, ab, Sx.refl⟩
  | cons z zs => exact ⟨S.n, rfl, At.new, Sx.new⟩
section
variable {t : List Nat} {seed many times : Int} (B : Rnd t seed many times) {sh : List Nat} (hs : sh.length ≤ 3)
include B hs
theorem law_s19 : WpS (law_19 [some (u0), some (.ref d), x2, some (.str t), some (.int seed), some (.int many), some (.int times), x7, x8, x9, x10, x11, x12, x13, x14, x15, x16, x17, x18, x19, some (.str sh), x21, x22, x23, x24, x25, x26] S) (fun ρ S' => ∃ n23 : Nat, ρ = [some (u0), some (.ref d), x2, some (.str t), some (.int seed), some (.int many), some (.int times), x7, x8, x9, x10, x11, x12, x13, x14, x15, x16, x17, x18, x19, some (.str sh), x21, x22, some (.ref n23), x24, x25, x26] ∧ At S' n23 (.lst ((othL sh sh.length).map U.str)) ∧ Sx No S S') NoR := by
  have ⟨b1, b2, b3, b4, b5, b6, b7, b8⟩ := B
  have lm : lim = 1000000 := rfl
  have oc : ∀ k, (oneC sh k).length ≤ 26 := fun k => List.length_filter_le _ _
  unfold law_19
  rw [wps_set]
  simp only [wp_callC, wp_cons, wp_nil]
  refine Wp.mono (wp_lcL (List.range sh.length) (fun i : Nat => U.int (i : Int)) (fun k => (oneL sh k).map U.str) (wp_range1 ?_) ?_ ?_) ?_
  · simp only [wp_lenS, wp_var, wp_ok, wp_bin, wp_c, wp_b, wp_if, wps_if, wp_and, wp_or, wp_not, wp_nil, wp_cons, wp_callC, wp_callF, wp_call0, wp_tup, wp_lst, wps_nil, wps_ret, wps_set, wps_asg, wp_gN, wp_gsNil, wp_gsCons, wp_gS, wp_yes, wp_bm, wp_cut, wp_oNo, wp_oSo, wp_neg, wp_int, wp_add, wp_sub, wp_mul, wp_cInt, wp_eqI, wp_neI, wps_seq, List.getElem?_cons_zero, List.getElem?_cons_succ, List.set_cons_zero, List.set_cons_succ, List.map_cons, List.map_nil, List.length_cons, List.length_nil, List.cons_append, List.nil_append, List.append_nil, List.replicate, U.bl.injEq, U.int.injEq, exists_eq_left', Nat.reduceAdd, Nat.reduceSub, Nat.reduceMul, reduceCtorEq, false_implies, true_implies, true_and, and_true, eq_self]
    exact ⟨by omega, _, rfl, inR_nat (by omega) (by omega), Sx.refl, fun S' _ => by rw [Int.toNat_natCast]; exact yld_r0⟩
  · intro k S' hk y
    have hk := List.mem_range.mp hk
    obtain ⟨c0, hc0⟩ : ∃ c0, sh[k]? = some c0 := ⟨_, List.getElem?_eq_getElem hk⟩
    rw [wp_gN]
    refine ⟨Sx.refl, Wp.mono (wp_lcM abcL (fun c => U.str [c]) (fun c => decide (sh[k]? ≠ some c)) (fun c => U.str (mkO sh k c)) (wp_itS ?_) ?_ (by decide)) ?_⟩
    · simp only [wipeU, wp_var, wp_ok, wp_bin, wp_c, wp_b, wp_if, wps_if, wp_and, wp_or, wp_not, wp_nil, wp_cons, wp_callC, wp_callF, wp_call0, wp_tup, wp_lst, wps_nil, wps_ret, wps_set, wps_asg, wp_gN, wp_gsNil, wp_gsCons, wp_gS, wp_yes, wp_bm, wp_cut, wp_oNo, wp_oSo, wp_neg, wp_int, wp_add, wp_sub, wp_mul, wp_cInt, wp_eqI, wp_neI, wps_seq, List.getElem?_cons_zero, List.getElem?_cons_succ, List.set_cons_zero, List.set_cons_succ, List.map_cons, List.map_nil, List.length_cons, List.length_nil, List.cons_append, List.nil_append, List.append_nil, List.replicate, U.bl.injEq, U.int.injEq, exists_eq_left', Nat.reduceAdd, Nat.reduceSub, Nat.reduceMul, reduceCtorEq, false_implies, true_implies, true_and, and_true, eq_self]
      exact ⟨abcL, rfl, Sx.refl, fun S' _ => yld_v⟩
    · intro c S2 hc y2
      have l1 : (sh.take k).length ≤ sh.length := by rw [List.length_take]; omega
      have l2 : (sh.drop (k + 1)).length ≤ sh.length := by rw [List.length_drop]; omega
      have ci : cutU sh none (some (k : Int)) = sh.take k := cut_to
      have cs : cutU sh (some ((k : Int) + 1)) none = sh.drop (k + 1) := cut_from (k := k + 1) hk
      simp only [wipeU, wp_neS, wp_ixS hc0, wp_addS, wp_cutS, ci, cs, wp_var, wp_ok, wp_bin, wp_c, wp_b, wp_if, wps_if, wp_and, wp_or, wp_not, wp_nil, wp_cons, wp_callC, wp_callF, wp_call0, wp_tup, wp_lst, wps_nil, wps_ret, wps_set, wps_asg, wp_gN, wp_gsNil, wp_gsCons, wp_gS, wp_yes, wp_bm, wp_cut, wp_oNo, wp_oSo, wp_neg, wp_int, wp_add, wp_sub, wp_mul, wp_cInt, wp_eqI, wp_neI, wps_seq, List.getElem?_cons_zero, List.getElem?_cons_succ, List.set_cons_zero, List.set_cons_succ, List.map_cons, List.map_nil, List.length_cons, List.length_nil, List.cons_append, List.nil_append, List.append_nil, List.replicate, U.bl.injEq, U.int.injEq, exists_eq_left', Nat.reduceAdd, Nat.reduceSub, Nat.reduceMul, reduceCtorEq, false_implies, true_implies, true_and, and_true, eq_self]
      refine ⟨by omega, ?_, Sx.refl, fun _ => ⟨by omega, by omega, by omega, by rw [List.length_append, List.length_cons, List.length_nil]; omega, rfl, Sx.refl⟩⟩
      rw [hc0]
      by_cases h : c = c0
      · subst h; simp
      · have h2 : ¬ c0 = c := fun e => h e.symm
        simp [h, h2]
    · rintro u S2 ⟨m, rfl, ge, am, y2⟩
      refine ⟨m, rfl, ge, ?_, y2⟩
      unfold oneL
      rw [List.map_map]
      exact am
  · rw [List.length_range, fl5]
    omega
  · rintro u S1 ⟨a, us, rfl, ge, aa, hz, hr, y1⟩
    rw [wp_lst]
    refine ⟨by decide, ?_⟩
    have z1 : Sx No S1 (S1.new (.lst [])) := Sx.new
    have a1 : At (S1.new (.lst [])) S1.n (.lst []) := At.new
    have ef : ((List.range sh.length).map fun k => (oneL sh k).map U.str).flatten = (othL sh sh.length).map U.str := by
      unfold othL
      rw [List.flatMap_def, List.map_flatten, List.map_map] <;> rfl
    have fl : ((List.range sh.length).map fun k => (oneL sh k).map U.str).flatten.length ≤ lim := by
      rw [ef, List.length_map]
      have : ∀ i, (othL sh i).length ≤ 26 * i := fun i => by
        induction i with
        | zero => exact Nat.zero_le _
        | succ i ih =>
          rw [othL_succ, List.length_append]
          have := oc i
          have : (oneL sh i).length = (oneC sh i).length := List.length_map ..
          omega
      have := this sh.length
      omega
    refine (wp_sumL (aa.sx z1) (lsts_sx z1 hz ?_) a1 fl).mono ?_
    · intro u hu
      obtain ⟨m, e, l⟩ := hr u hu
      exact ⟨m, e, l, id⟩
    · rintro u S2 ⟨m, rfl, am, y2⟩
      rw [ef] at am
      exact ⟨m, rfl, am, (y1.trans z1).trans y2⟩
theorem law_s20 {n23 : Nat} (a23 : At S n23 (.lst ((othL sh sh.length).map U.str))) : WpS (law_20 [some (u0), some (.ref d), x2, some (.str t), some (.int seed), some (.int many), some (.int times), x7, x8, x9, x10, x11, x12, x13, x14, x15, x16, x17, x18, x19, some (.str sh), x21, x22, some (.ref n23), x24, x25, x26] S) (fun ρ S' => ρ = [some (u0), some (.ref d), x2, some (.str t), some (.int seed), some (.int many), some (.int times), x7, x8, x9, x10, x11, x12, x13, x14, x15, x16, x17, x18, x19, some (.str sh), x21, x22, some (.ref n23), x24, x25, x26] ∧ Sx No S S') NoR := by
  have ⟨b1, b2, b3, b4, b5, b6, b7, b8⟩ := B
  have oc : ∀ k, (oneC sh k).length ≤ 26 := fun k => List.length_filter_le _ _
  have ol : ∀ o ∈ othL sh sh.length, o.length ≤ 3 := fun o ho => by
    obtain ⟨k, hk, h2⟩ := List.mem_flatMap.mp ho
    obtain ⟨c, _, rfl⟩ := List.mem_map.mp h2
    rw [mkO_len (List.mem_range.mp hk)]
    exact hs
  have lo : (othL sh sh.length).length ≤ 78 := by
    have : ∀ i, (othL sh i).length ≤ 26 * i := fun i => by
      induction i with
      | zero => exact Nat.zero_le _
      | succ i ih =>
        rw [othL_succ, List.length_append]
        have := oc i
        have : (oneL sh i).length = (oneC sh i).length := List.length_map ..
        omega
    have := this sh.length
    omega
  unfold law_20
  rw [wps_if, wp_b, wp_bin, wp_callF, wp_cons]
  simp only [wp_var, wp_cons, wp_nil, List.getElem?_cons_zero, List.getElem?_cons_succ]
  refine ⟨rfl, ?_⟩
  refine (changed_spots S b3 (by omega) (by omega) (by omega)).mono ?_
  rintro u S1 ⟨rfl, y1⟩
  rw [wp_tup, wp_cons]
  refine (wp_lenC (othL sh sh.length) (chgP sh many seed) (wp_itL ?_) ?_ (by rw [fl5]; omega)).mono ?_
  · simp only [wp_var, wp_ok, wp_bin, wp_c, wp_b, wp_if, wps_if, wp_and, wp_or, wp_not, wp_nil, wp_cons, wp_callC, wp_callF, wp_call0, wp_tup, wp_lst, wps_nil, wps_ret, wps_set, wps_asg, wp_gN, wp_gsNil, wp_gsCons, wp_gS, wp_yes, wp_bm, wp_cut, wp_oNo, wp_oSo, wp_neg, wp_int, wp_add, wp_sub, wp_mul, wp_cInt, wp_eqI, wp_neI, wps_seq, List.getElem?_cons_zero, List.getElem?_cons_succ, List.set_cons_zero, List.set_cons_succ, List.map_cons, List.map_nil, List.length_cons, List.length_nil, List.cons_append, List.nil_append, List.append_nil, List.replicate, U.bl.injEq, U.int.injEq, exists_eq_left', Nat.reduceAdd, Nat.reduceSub, Nat.reduceMul, reduceCtorEq, false_implies, true_implies, true_and, and_true, eq_self]
    exact ⟨n23, _, rfl, a23.sx y1, Sx.refl, fun S' x' => yld_l ((a23.sx y1).sx x').get⟩
  · intro o S2 ho y2
    have := ol o ho
    simp only [wipeU, wp_var, wp_ok, wp_bin, wp_c, wp_b, wp_if, wps_if, wp_and, wp_or, wp_not, wp_nil, wp_cons, wp_callC, wp_callF, wp_call0, wp_tup, wp_lst, wps_nil, wps_ret, wps_set, wps_asg, wp_gN, wp_gsNil, wp_gsCons, wp_gS, wp_yes, wp_bm, wp_cut, wp_oNo, wp_oSo, wp_neg, wp_int, wp_add, wp_sub, wp_mul, wp_cInt, wp_eqI, wp_neI, wps_seq, List.getElem?_cons_zero, List.getElem?_cons_succ, List.set_cons_zero, List.set_cons_succ, List.map_cons, List.map_nil, List.length_cons, List.length_nil, List.cons_append, List.nil_append, List.append_nil, List.replicate, U.bl.injEq, U.int.injEq, exists_eq_left', Nat.reduceAdd, Nat.reduceSub, Nat.reduceMul, reduceCtorEq, false_implies, true_implies, true_and, and_true, eq_self]
    refine (lmix S2 b3 (by omega) (by omega)).mono ?_
    rintro u S3 ⟨rfl, rfl⟩
    rw [wp_mod (by omega)]
    refine (lmix S3 b3 (by omega) (by omega)).mono ?_
    rintro u S4 ⟨rfl, rfl⟩
    simp only [wp_mod (show 0 < many by omega), wp_var, wp_ok, wp_bin, wp_c, wp_b, wp_if, wps_if, wp_and, wp_or, wp_not, wp_nil, wp_cons, wp_callC, wp_callF, wp_call0, wp_tup, wp_lst, wps_nil, wps_ret, wps_set, wps_asg, wp_gN, wp_gsNil, wp_gsCons, wp_gS, wp_yes, wp_bm, wp_cut, wp_oNo, wp_oSo, wp_neg, wp_int, wp_add, wp_sub, wp_mul, wp_cInt, wp_eqI, wp_neI, wps_seq, List.getElem?_cons_zero, List.getElem?_cons_succ, List.set_cons_zero, List.set_cons_succ, List.map_cons, List.map_nil, List.length_cons, List.length_nil, List.cons_append, List.nil_append, List.append_nil, List.replicate, U.bl.injEq, U.int.injEq, exists_eq_left', Nat.reduceAdd, Nat.reduceSub, Nat.reduceMul, reduceCtorEq, false_implies, true_implies, true_and, and_true, eq_self]
    exact ⟨rfl, Sx.refl⟩
  · rintro u S2 ⟨rfl, y2⟩
    have y3 := y1.trans y2
    simp only [wp_len (a23.sx y3), List.length_map, wp_var, wp_ok, wp_bin, wp_c, wp_b, wp_if, wps_if, wp_and, wp_or, wp_not, wp_nil, wp_cons, wp_callC, wp_callF, wp_call0, wp_tup, wp_lst, wps_nil, wps_ret, wps_set, wps_asg, wp_gN, wp_gsNil, wp_gsCons, wp_gS, wp_yes, wp_bm, wp_cut, wp_oNo, wp_oSo, wp_neg, wp_int, wp_add, wp_sub, wp_mul, wp_cInt, wp_eqI, wp_neI, wps_seq, List.getElem?_cons_zero, List.getElem?_cons_succ, List.set_cons_zero, List.set_cons_succ, List.map_cons, List.map_nil, List.length_cons, List.length_nil, List.cons_append, List.nil_append, List.append_nil, List.replicate, U.bl.injEq, U.int.injEq, exists_eq_left', Nat.reduceAdd, Nat.reduceSub, Nat.reduceMul, reduceCtorEq, false_implies, true_implies, true_and, and_true, eq_self]
    refine ⟨by decide, ?_⟩
    exact ne_end toD_two toD_two shp_two y3
end
section
theorem law_s21 (D : Dice d S) {seed : Int} : WpS (law_21 [some (u0), some (.ref d), x2, x3, some (.int seed), x5, x6, x7, x8, x9, x10, x11, x12, x13, x14, x15, x16, x17, x18, x19, x20, x21, x22, x23, x24, x25, x26] S) (fun ρ S' => ∃ num : Int, ρ = [some (u0), some (.ref d), x2, x3, some (.int seed), x5, x6, x7, x8, x9, x10, x11, x12, x13, x14, x15, x16, x17, x18, x19, x20, x21, x22, x23, some (.int num), x25, x26] ∧ 0 ≤ num ∧ num < 400 ∧ Sx (Only d) S S' ∧ Dice d S') NoR := by
  unfold law_21
  simp only [wp_var, wp_ok, wp_bin, wp_c, wp_b, wp_if, wps_if, wp_and, wp_or, wp_not, wp_nil, wp_cons, wp_callC, wp_callF, wp_call0, wp_tup, wp_lst, wps_nil, wps_ret, wps_set, wps_asg, wp_gN, wp_gsNil, wp_gsCons, wp_gS, wp_yes, wp_bm, wp_cut, wp_oNo, wp_oSo, wp_neg, wp_int, wp_add, wp_sub, wp_mul, wp_cInt, wp_eqI, wp_neI, wps_seq, List.getElem?_cons_zero, List.getElem?_cons_succ, List.set_cons_zero, List.set_cons_succ, List.map_cons, List.map_nil, List.length_cons, List.length_nil, List.cons_append, List.nil_append, List.append_nil, List.replicate, U.bl.injEq, U.int.injEq, exists_eq_left', Nat.reduceAdd, Nat.reduceSub, Nat.reduceMul, reduceCtorEq, false_implies, true_implies, true_and, and_true, eq_self]
  refine (roll D (by decide) (by decide)).mono ?_
  rintro u S2 ⟨y2, D2, r, rfl, r0, r1⟩
  exact ⟨r, rfl, r0, r1, y2, D2⟩
variable {seed num : Int}
theorem law_s22 : WpS (law_22 [some (u0), some (.ref d), x2, x3, some (.int seed), x5, x6, x7, x8, x9, x10, x11, x12, x13, x14, x15, x16, x17, x18, x19, x20, x21, x22, x23, some (.int num), x25, x26] S) (fun ρ S' => ∃ n26 : Nat, ρ = [some (u0), some (.ref d), x2, x3, some (.int seed), x5, x6, x7, x8, x9, x10, x11, x12, x13, x14, x15, x16, x17, x18, x19, x20, x21, x22, x23, some (.int num), x25, some (.ref n26)] ∧ At S' n26 (.lst (primesL.map U.int)) ∧ Sx No S S') NoR := by
  unfold law_22
  rw [wps_set]
  refine Wp.mono (wp_lcM ((List.range 498).map fun i : Nat => 2 + (i : Int)) U.int (fun p => (divsL p).isEmpty) U.int (wp_range2 ?_) ?_ (by decide)) ?_
  · simp only [wp_var, wp_ok, wp_bin, wp_c, wp_b, wp_if, wps_if, wp_and, wp_or, wp_not, wp_nil, wp_cons, wp_callC, wp_callF, wp_call0, wp_tup, wp_lst, wps_nil, wps_ret, wps_set, wps_asg, wp_gN, wp_gsNil, wp_gsCons, wp_gS, wp_yes, wp_bm, wp_cut, wp_oNo, wp_oSo, wp_neg, wp_int, wp_add, wp_sub, wp_mul, wp_cInt, wp_eqI, wp_neI, wps_seq, List.getElem?_cons_zero, List.getElem?_cons_succ, List.set_cons_zero, List.set_cons_succ, List.map_cons, List.map_nil, List.length_cons, List.length_nil, List.cons_append, List.nil_append, List.append_nil, List.replicate, U.bl.injEq, U.int.injEq, exists_eq_left', Nat.reduceAdd, Nat.reduceSub, Nat.reduceMul, reduceCtorEq, false_implies, true_implies, true_and, and_true, eq_self]
    refine ⟨2, 500, rfl, by decide, Sx.refl, fun S' _ => ?_⟩
    rw [List.map_map]
    exact yld_r
  · intro p S' hp y
    have hp : 2 ≤ p ∧ p < 500 := by
      obtain ⟨i, hi, e⟩ := List.mem_map.mp hp
      have hi := List.mem_range.mp hi
      omega
    simp only [wipeU, wp_gN, List.set_cons_zero, List.set_cons_succ]
    rw [wp_b, wp_bin]
    refine Wp.mono (wp_lcM ((List.range (p - 2).toNat).map fun i : Nat => 2 + (i : Int)) U.int (fun q => decide (q * q ≤ p) && decide (p % q = 0)) U.int (wp_range2 ?_) ?_ ?_) ?_
    · simp only [wipeU, wp_var, wp_ok, wp_bin, wp_c, wp_b, wp_if, wps_if, wp_and, wp_or, wp_not, wp_nil, wp_cons, wp_callC, wp_callF, wp_call0, wp_tup, wp_lst, wps_nil, wps_ret, wps_set, wps_asg, wp_gN, wp_gsNil, wp_gsCons, wp_gS, wp_yes, wp_bm, wp_cut, wp_oNo, wp_oSo, wp_neg, wp_int, wp_add, wp_sub, wp_mul, wp_cInt, wp_eqI, wp_neI, wps_seq, List.getElem?_cons_zero, List.getElem?_cons_succ, List.set_cons_zero, List.set_cons_succ, List.map_cons, List.map_nil, List.length_cons, List.length_nil, List.cons_append, List.nil_append, List.append_nil, List.replicate, U.bl.injEq, U.int.injEq, exists_eq_left', Nat.reduceAdd, Nat.reduceSub, Nat.reduceMul, reduceCtorEq, false_implies, true_implies, true_and, and_true, eq_self]
      refine ⟨2, p, rfl, ?_, Sx.refl, fun S' _ => ?_⟩
      · rw [inR_nat (by omega) (by omega), inR_nat (by omega) (by omega)] <;> rfl
      · rw [List.map_map]
        exact yld_r
    · intro q S2 hq y2
      have hq : 2 ≤ q ∧ q < 500 := by
        obtain ⟨j, hj, e⟩ := List.mem_map.mp hq
        have hj := List.mem_range.mp hj
        omega
      simp only [wipeU, wp_mod (show 0 < q by omega), wp_var, wp_ok, wp_bin, wp_c, wp_b, wp_if, wps_if, wp_and, wp_or, wp_not, wp_nil, wp_cons, wp_callC, wp_callF, wp_call0, wp_tup, wp_lst, wps_nil, wps_ret, wps_set, wps_asg, wp_gN, wp_gsNil, wp_gsCons, wp_gS, wp_yes, wp_bm, wp_cut, wp_oNo, wp_oSo, wp_neg, wp_int, wp_add, wp_sub, wp_mul, wp_cInt, wp_eqI, wp_neI, wps_seq, List.getElem?_cons_zero, List.getElem?_cons_succ, List.set_cons_zero, List.set_cons_succ, List.map_cons, List.map_nil, List.length_cons, List.length_nil, List.cons_append, List.nil_append, List.append_nil, List.replicate, U.bl.injEq, U.int.injEq, exists_eq_left', Nat.reduceAdd, Nat.reduceSub, Nat.reduceMul, reduceCtorEq, false_implies, true_implies, true_and, and_true, eq_self]
      refine ⟨sm (by omega), fun h => ?_, fun h => ?_⟩
      · have h := of_decide_eq_true h
        rw [decide_eq_true h, Bool.true_and]
        exact ⟨rfl, Sx.refl, fun _ => Sx.refl⟩
      · have h := of_decide_eq_false h
        rw [decide_eq_false h, Bool.false_and]
        exact ⟨rfl, Sx.refl, fun z => (nomatch z)⟩
    · rw [List.length_map, List.length_range, fl5]
      omega
    · rintro u S2 ⟨a, rfl, ge, aa, y2⟩
      rw [wp_lst]
      simp only [wp_nil]
      refine ⟨by decide, ?_⟩
      have a2 : At (S2.new (.lst [])) S2.n (.lst (([] : List Int).map U.int)) := At.new
      rw [wp_eqD (toD_ints (aa.sx (P := No) Sx.new)) (toD_ints a2) shp_ints shp_ints]
      simp only [List.map_nil, eqv_nilL, List.isEmpty_map, wipeU, wp_var, wp_ok, wp_bin, wp_c, wp_b, wp_if, wps_if, wp_and, wp_or, wp_not, wp_nil, wp_cons, wp_callC, wp_callF, wp_call0, wp_tup, wp_lst, wps_nil, wps_ret, wps_set, wps_asg, wp_gN, wp_gsNil, wp_gsCons, wp_gS, wp_yes, wp_bm, wp_cut, wp_oNo, wp_oSo, wp_neg, wp_int, wp_add, wp_sub, wp_mul, wp_cInt, wp_eqI, wp_neI, wps_seq, List.getElem?_cons_zero, List.getElem?_cons_succ, List.set_cons_zero, List.set_cons_succ, List.map_cons, List.map_nil, List.length_cons, List.length_nil, List.cons_append, List.nil_append, List.append_nil, List.replicate, U.bl.injEq, U.int.injEq, exists_eq_left', Nat.reduceAdd, Nat.reduceSub, Nat.reduceMul, reduceCtorEq, false_implies, true_implies, true_and, and_true, eq_self]
      have y3 : Sx No S' (S2.new (.lst [])) := y2.trans Sx.new
      exact ⟨rfl, y3, fun _ => y3⟩
  · rintro u S1 ⟨n26, rfl, ge, a26, y1⟩
    rw [primes_eq] at a26
    exact ⟨n26, rfl, a26, y1⟩
variable (c0 : 0 ≤ num) (c1 : num < 400)
include c0 c1
theorem law_s23 {n26 : Nat} (a26 : At S n26 (.lst (primesL.map U.int))) : WpS (law_23 [some (u0), some (.ref d), x2, x3, some (.int seed), x5, x6, x7, x8, x9, x10, x11, x12, x13, x14, x15, x16, x17, x18, x19, x20, x21, x22, x23, some (.int num), x25, some (.ref n26)] S) (fun ρ S' => ρ = [some (u0), some (.ref d), x2, x3, some (.int seed), x5, x6, x7, x8, x9, x10, x11, x12, x13, x14, x15, x16, x17, x18, x19, x20, x21, x22, x23, some (.int num), x25, some (.ref n26)] ∧ Sx No S S') NoR := by
  obtain ⟨n, rfl⟩ : ∃ n : Nat, num = (n : Int) := ⟨_, (Int.toNat_of_nonneg c0).symm⟩
  unfold law_23
  simp only [wp_var, wp_ok, wp_bin, wp_c, wp_b, wp_if, wps_if, wp_and, wp_or, wp_not, wp_nil, wp_cons, wp_callC, wp_callF, wp_call0, wp_tup, wp_lst, wps_nil, wps_ret, wps_set, wps_asg, wp_gN, wp_gsNil, wp_gsCons, wp_gS, wp_yes, wp_bm, wp_cut, wp_oNo, wp_oSo, wp_neg, wp_int, wp_add, wp_sub, wp_mul, wp_cInt, wp_eqI, wp_neI, wps_seq, List.getElem?_cons_zero, List.getElem?_cons_succ, List.set_cons_zero, List.set_cons_succ, List.map_cons, List.map_nil, List.length_cons, List.length_nil, List.cons_append, List.nil_append, List.append_nil, List.replicate, U.bl.injEq, U.int.injEq, exists_eq_left', Nat.reduceAdd, Nat.reduceSub, Nat.reduceMul, reduceCtorEq, false_implies, true_implies, true_and, and_true, eq_self]
  refine (next_prime S (by omega)).mono ?_
  rintro u S1 ⟨rfl, rfl⟩
  refine Wp.mono (wp_lcM primesL U.int (fun p => decide ((n : Int) ≤ p)) U.int (wp_itL ?_) ?_ (by decide)) ?_
  · simp only [wp_var, wp_ok, wp_bin, wp_c, wp_b, wp_if, wps_if, wp_and, wp_or, wp_not, wp_nil, wp_cons, wp_callC, wp_callF, wp_call0, wp_tup, wp_lst, wps_nil, wps_ret, wps_set, wps_asg, wp_gN, wp_gsNil, wp_gsCons, wp_gS, wp_yes, wp_bm, wp_cut, wp_oNo, wp_oSo, wp_neg, wp_int, wp_add, wp_sub, wp_mul, wp_cInt, wp_eqI, wp_neI, wps_seq, List.getElem?_cons_zero, List.getElem?_cons_succ, List.set_cons_zero, List.set_cons_succ, List.map_cons, List.map_nil, List.length_cons, List.length_nil, List.cons_append, List.nil_append, List.append_nil, List.replicate, U.bl.injEq, U.int.injEq, exists_eq_left', Nat.reduceAdd, Nat.reduceSub, Nat.reduceMul, reduceCtorEq, false_implies, true_implies, true_and, and_true, eq_self]
    exact ⟨n26, _, rfl, a26, Sx.refl, fun S' x' => yld_l (a26.sx x').get⟩
  · intro p S' hp y
    simp only [wipeU, wp_var, wp_ok, wp_bin, wp_c, wp_b, wp_if, wps_if, wp_and, wp_or, wp_not, wp_nil, wp_cons, wp_callC, wp_callF, wp_call0, wp_tup, wp_lst, wps_nil, wps_ret, wps_set, wps_asg, wp_gN, wp_gsNil, wp_gsCons, wp_gS, wp_yes, wp_bm, wp_cut, wp_oNo, wp_oSo, wp_neg, wp_int, wp_add, wp_sub, wp_mul, wp_cInt, wp_eqI, wp_neI, wps_seq, List.getElem?_cons_zero, List.getElem?_cons_succ, List.set_cons_zero, List.set_cons_succ, List.map_cons, List.map_nil, List.length_cons, List.length_nil, List.cons_append, List.nil_append, List.append_nil, List.replicate, U.bl.injEq, U.int.injEq, exists_eq_left', Nat.reduceAdd, Nat.reduceSub, Nat.reduceMul, reduceCtorEq, false_implies, true_implies, true_and, and_true, eq_self]
    exact ⟨Sx.refl, fun _ => Sx.refl⟩
  · rintro u S2 ⟨a, rfl, ge, aa, y2⟩
    have t := np_ok n (by omega)
    unfold npOk at t
    simp only [Bool.and_eq_true, decide_eq_true_eq] at t
    obtain ⟨⟨⟨⟨p1, p2⟩, p3⟩, p4⟩, p5⟩ := t
    have aa : At S2 a (.lst ((fitL n).map U.int)) := aa
    have ne : np n ∈ fitL n := List.mem_filter.mpr ⟨by simpa using p3, decide_eq_true p2⟩
    unfold np at ne ⊢
    cases hl : fitL n with
    | nil => rw [hl] at ne; cases ne
    | cons x l =>
      rw [hl] at aa
      rw [wp_ix aa (j := 0) (by unfold pyIx; simp) rfl]
      exact ne_end toD_int toD_int (Shp.int _) y2
theorem law_s24 : WpS (law_24 [some (u0), some (.ref d), x2, x3, some (.int seed), x5, x6, x7, x8, x9, x10, x11, x12, x13, x14, x15, x16, x17, x18, x19, x20, x21, x22, x23, some (.int num), x25, x26] S) (fun ρ S' => ρ = [some (u0), some (.ref d), x2, x3, some (.int seed), x5, x6, x7, x8, x9, x10, x11, x12, x13, x14, x15, x16, x17, x18, x19, x20, x21, x22, x23, some (.int num), x25, x26] ∧ Sx No S S') NoR := by
  obtain ⟨n, rfl⟩ : ∃ n : Nat, num = (n : Int) := ⟨_, (Int.toNat_of_nonneg c0).symm⟩
  unfold law_24
  simp only [wp_var, wp_ok, wp_bin, wp_c, wp_b, wp_if, wps_if, wp_and, wp_or, wp_not, wp_nil, wp_cons, wp_callC, wp_callF, wp_call0, wp_tup, wp_lst, wps_nil, wps_ret, wps_set, wps_asg, wp_gN, wp_gsNil, wp_gsCons, wp_gS, wp_yes, wp_bm, wp_cut, wp_oNo, wp_oSo, wp_neg, wp_int, wp_add, wp_sub, wp_mul, wp_cInt, wp_eqI, wp_neI, wps_seq, List.getElem?_cons_zero, List.getElem?_cons_succ, List.set_cons_zero, List.set_cons_succ, List.map_cons, List.map_nil, List.length_cons, List.length_nil, List.cons_append, List.nil_append, List.append_nil, List.replicate, U.bl.injEq, U.int.injEq, exists_eq_left', Nat.reduceAdd, Nat.reduceSub, Nat.reduceMul, reduceCtorEq, false_implies, true_implies, true_and, and_true, eq_self]
  have e := congrArg (fun l => l[n]?) (root_all S)
  simp only [List.getElem?_map] at e
  rw [List.getElem?_range (show n < 400 by omega)] at e
  simp only [Option.map_some, Option.some.injEq] at e
  rw [e, wp_ok]
  refine Wp.mono (wp_lcM ((List.range 25).map fun i : Nat => (i : Int)) U.int (fun i => decide (i * i ≤ (n : Int))) U.int (wp_range1 ?_) ?_ (by decide)) ?_
  · simp only [wp_var, wp_ok, wp_bin, wp_c, wp_b, wp_if, wps_if, wp_and, wp_or, wp_not, wp_nil, wp_cons, wp_callC, wp_callF, wp_call0, wp_tup, wp_lst, wps_nil, wps_ret, wps_set, wps_asg, wp_gN, wp_gsNil, wp_gsCons, wp_gS, wp_yes, wp_bm, wp_cut, wp_oNo, wp_oSo, wp_neg, wp_int, wp_add, wp_sub, wp_mul, wp_cInt, wp_eqI, wp_neI, wps_seq, List.getElem?_cons_zero, List.getElem?_cons_succ, List.set_cons_zero, List.set_cons_succ, List.map_cons, List.map_nil, List.length_cons, List.length_nil, List.cons_append, List.nil_append, List.append_nil, List.replicate, U.bl.injEq, U.int.injEq, exists_eq_left', Nat.reduceAdd, Nat.reduceSub, Nat.reduceMul, reduceCtorEq, false_implies, true_implies, true_and, and_true, eq_self]
    refine ⟨25, rfl, by decide, Sx.refl, fun S' _ => ?_⟩
    rw [List.map_map]
    exact yld_r0
  · intro p S' hp y
    obtain ⟨i, hi, rfl⟩ := List.mem_map.mp hp
    have hi := List.mem_range.mp hi
    simp only [wipeU, wp_var, wp_ok, wp_bin, wp_c, wp_b, wp_if, wps_if, wp_and, wp_or, wp_not, wp_nil, wp_cons, wp_callC, wp_callF, wp_call0, wp_tup, wp_lst, wps_nil, wps_ret, wps_set, wps_asg, wp_gN, wp_gsNil, wp_gsCons, wp_gS, wp_yes, wp_bm, wp_cut, wp_oNo, wp_oSo, wp_neg, wp_int, wp_add, wp_sub, wp_mul, wp_cInt, wp_eqI, wp_neI, wps_seq, List.getElem?_cons_zero, List.getElem?_cons_succ, List.set_cons_zero, List.set_cons_succ, List.map_cons, List.map_nil, List.length_cons, List.length_nil, List.cons_append, List.nil_append, List.append_nil, List.replicate, U.bl.injEq, U.int.injEq, exists_eq_left', Nat.reduceAdd, Nat.reduceSub, Nat.reduceMul, reduceCtorEq, false_implies, true_implies, true_and, and_true, eq_self]
    exact ⟨sm (by omega), Sx.refl, fun _ => Sx.refl⟩
  · rintro u S2 ⟨a, rfl, ge, aa, y2⟩
    have aa : At S2 a (.lst ((rootsL n).map U.int)) := aa
    have ne : (0 : Int) ∈ rootsL n := List.mem_filter.mpr ⟨List.mem_map.mpr ⟨0, List.mem_range.mpr (by decide), rfl⟩, decide_eq_true (by omega)⟩
    have hl : 0 < (rootsL n).length := List.length_pos_of_mem ne
    have hx : (rootsL n).getLast? = some ((rootsL n).getLast (List.ne_nil_of_mem ne)) := List.getLast?_eq_some_getLast _
    rw [hx]
    rw [wp_ix aa (j := (rootsL n).length - 1) (x := .int ((rootsL n).getLast (List.ne_nil_of_mem ne))) ?_ ?_]
    · exact ne_end toD_int toD_int (Shp.int _) y2
    · rw [List.length_map]
      unfold pyIx
      rw [if_neg (by omega), if_pos (by omega)]
      congr 1
      omega
    · rw [List.getElem?_map, ← List.getLast?_eq_getElem?, hx] <;> rfl
theorem law_s25 : WpS (law_25 [some (u0), some (.ref d), x2, x3, some (.int seed), x5, x6, x7, x8, x9, x10, x11, x12, x13, x14, x15, x16, x17, x18, x19, x20, x21, x22, x23, some (.int num), x25, x26] S) (fun ρ S' => ρ = [some (u0), some (.ref d), x2, x3, some (.int seed), x5, x6, x7, x8, x9, x10, x11, x12, x13, x14, x15, x16, x17, x18, x19, x20, x21, x22, x23, some (.int num), x25, x26] ∧ Sx No S S') NoR := by
  unfold law_25
  simp only [wp_var, wp_ok, wp_bin, wp_c, wp_b, wp_if, wps_if, wp_and, wp_or, wp_not, wp_nil, wp_cons, wp_callC, wp_callF, wp_call0, wp_tup, wp_lst, wps_nil, wps_ret, wps_set, wps_asg, wp_gN, wp_gsNil, wp_gsCons, wp_gS, wp_yes, wp_bm, wp_cut, wp_oNo, wp_oSo, wp_neg, wp_int, wp_add, wp_sub, wp_mul, wp_cInt, wp_eqI, wp_neI, wps_seq, List.getElem?_cons_zero, List.getElem?_cons_succ, List.set_cons_zero, List.set_cons_succ, List.map_cons, List.map_nil, List.length_cons, List.length_nil, List.cons_append, List.nil_append, List.append_nil, List.replicate, U.bl.injEq, U.int.injEq, exists_eq_left', Nat.reduceAdd, Nat.reduceSub, Nat.reduceMul, reduceCtorEq, false_implies, true_implies, true_and, and_true, eq_self]
  refine (joined_mix S).mono ?_
  rintro u S1 ⟨rfl, rfl⟩
  have e : (31 * num + 17 * seed + 5) % 1000003 = (num * 31 + seed * 17 + 5) % 1000003 := by rw [Int.mul_comm 31, Int.mul_comm 17]
  simp only [wp_mod (show (0 : Int) < 1000003 by decide), e, wp_var, wp_ok, wp_bin, wp_c, wp_b, wp_if, wps_if, wp_and, wp_or, wp_not, wp_nil, wp_cons, wp_callC, wp_callF, wp_call0, wp_tup, wp_lst, wps_nil, wps_ret, wps_set, wps_asg, wp_gN, wp_gsNil, wp_gsCons, wp_gS, wp_yes, wp_bm, wp_cut, wp_oNo, wp_oSo, wp_neg, wp_int, wp_add, wp_sub, wp_mul, wp_cInt, wp_eqI, wp_neI, wps_seq, List.getElem?_cons_zero, List.getElem?_cons_succ, List.set_cons_zero, List.set_cons_succ, List.map_cons, List.map_nil, List.length_cons, List.length_nil, List.cons_append, List.nil_append, List.append_nil, List.replicate, U.bl.injEq, U.int.injEq, exists_eq_left', Nat.reduceAdd, Nat.reduceSub, Nat.reduceMul, reduceCtorEq, false_implies, true_implies, true_and, and_true, eq_self]
  exact ⟨sm' (by decide), sm' (by decide), fun z => by simp at z, fun _ => Sx.refl⟩
end
end K01
/-! text K01j -/
namespace K01
open Sm Pl
theorem step {m n : MS} {ρ : Env} {S : Store} {N N' : Env → Store → Prop} {R : U → Store → Prop} (h : WpS (m ρ S) N' NoR) (k : ∀ ρ S, N' ρ S → WpS (n ρ S) N R) : WpS (sSeq m n ρ S) N R :=
  wps_seq.mpr (h.mono k fun _ _ z => z.elim)
theorem law_round {u0 : U} {d : Nat} {S : Store} (D : Dice d S) : WpS ((sSeq law_1 (sSeq law_2 (sSeq law_3 (sSeq law_4 (sSeq law_5 (sSeq law_6 (sSeq law_7 (sSeq law_8 (sSeq law_9 (sSeq law_10 (sSeq law_11 (sSeq law_12 (sSeq law_13 (sSeq law_14 (sSeq law_15 (sSeq law_16 (sSeq law_17 (sSeq law_18 (sSeq law_19 (sSeq law_20 (sSeq law_21 (sSeq law_22 (sSeq law_23 (sSeq law_24 law_25)))))))))))))))))))))))) [some u0, some (.ref d), none, none, none, none, none, none, none, none, none, none, none, none, none, none, none, none, none, none, none, none, none, none, none, none, none] S) (fun _ S' => Sx (Only d) S S') NoR := by
  refine step (law_s1 D) ?_
  rintro ρ S1 ⟨t, seed, many, times, rfl, B, y1, D1⟩
  refine step (law_s2 B) ?_
  rintro ρ S2 ⟨rfl, rfl⟩
  refine step (law_s3 B) ?_
  rintro ρ S3 ⟨rfl, rfl⟩
  refine step (law_s4 B) ?_
  rintro ρ S4 ⟨rfl, rfl⟩
  refine step (law_s5 B) ?_
  rintro ρ S5 ⟨rfl, y5⟩
  refine step (law_s6 B) ?_
  rintro ρ S6 ⟨rfl, rfl⟩
  refine step (law_s7 B (D1.sx y5)) ?_
  rintro ρ S7 ⟨ts, n9, n10, rfl, nd, T, a9, y7, D7⟩
  refine step (law_s8 B T a9) ?_
  rintro ρ S8 ⟨n13, rfl, a13, y8⟩
  have a9 := a9.sx y8
  refine step (law_s9 B T a9) ?_
  rintro ρ S9 ⟨n14, rfl, a14, y9⟩
  have a9 := a9.sx y9
  have a13 := a13.sx y9
  refine step (law_s10 B T a9 a13) ?_
  rintro ρ S10 ⟨rfl, y10⟩
  have a9 := a9.sx y10
  have a13 := a13.sx y10
  have a14 := a14.sx y10
  refine step (law_s11 B T a9 a13) ?_
  rintro ρ S11 ⟨rfl, y11⟩
  have a9 := a9.sx y11
  have a13 := a13.sx y11
  have a14 := a14.sx y11
  refine step (law_s12 B T a9 a13) ?_
  rintro ρ S12 ⟨rfl, y12⟩
  have a9 := a9.sx y12
  have a13 := a13.sx y12
  have a14 := a14.sx y12
  refine step (law_s13 B T a9 a13 a14) ?_
  rintro ρ S13 ⟨rfl, y13⟩
  have a9 := a9.sx y13
  refine step (law_s14 B T a9) ?_
  rintro ρ S14 ⟨rfl, y14⟩
  have a9 := a9.sx y14
  have z : Sx No S7 S14 := (((((y8.trans y9).trans y10).trans y11).trans y12).trans y13).trans y14
  have z14 : Sx (Only d) S S14 := ((y1.trans y5.weak).trans y7).trans z.weak
  refine step (law_s15 (D7.sx z)) ?_
  rintro ρ S15 ⟨my, most, rfl, hmy, m1, m2, y15, D15⟩
  have a9 := a9.sx y15 nd
  refine step (law_s16 B T a9 m1 m2 hmy) ?_
  rintro ρ S16 ⟨n19, rfl, a19, y16⟩
  have a9 := a9.sx y16
  refine step (law_s17 B T a9 m1 m2 hmy a19) ?_
  rintro ρ S17 ⟨rfl, y17⟩
  refine step (law_s18 B) ?_
  rintro ρ S18 ⟨rfl, rfl⟩
  have hs : (t.take 3).length ≤ 3 := by rw [List.length_take]; omega
  refine step (law_s19 B hs) ?_
  rintro ρ S19 ⟨n23, rfl, a23, y19⟩
  refine step (law_s20 B hs a23) ?_
  rintro ρ S20 ⟨rfl, y20⟩
  have z20 : Sx No S15 S20 := ((y16.trans y17).trans y19).trans y20
  refine step (law_s21 (D15.sx z20)) ?_
  rintro ρ S21 ⟨num, rfl, c0, c1, y21, D21⟩
  refine step law_s22 ?_
  rintro ρ S22 ⟨n26, rfl, a26, y22⟩
  refine step (law_s23 c0 c1 a26) ?_
  rintro ρ S23 ⟨rfl, y23⟩
  refine step (law_s24 c0 c1) ?_
  rintro ρ S24 ⟨rfl, y24⟩
  refine (law_s25 c0 c1).mono ?_ fun _ _ z => z
  rintro ρ S25 ⟨rfl, y25⟩
  exact (((z14.trans y15).trans z20.weak).trans y21).trans (((y22.trans y23).trans y24).trans y25).weak
end K01
/-! text K01k -/
namespace K01
open Sm Pl
theorem law_true (hp : ∀ S, Wp (F__law_plain [] S) fun u _ => u = .bl true) : LawTrue := by
  intro ns hn _ u S hu _
  suffices h : Wp (F_law [u] S) fun w _ => w = .bl true by
    obtain ⟨w, S', e, rfl⟩ := wp_ex h
    exact ⟨S', e⟩
  refine wp_call ?_
  rw [m_law_eq, wps_seq]
  have hr : Wp (F__law_rounds [u, .int 1] S) (Rounds 1 S) := law_rounds hu (by decide) (by decide)
  obtain ⟨v, S1, e1, a, ds, rfl, ge, y1, aa, ld, hd⟩ := wp_ex hr
  refine wps_for (ds.map U.ref) (fun i ρ S' => At S' a (.lst (ds.map U.ref)) ∧ (i = 0 → (∀ d ∈ ds, a < d ∧ Dice d S') ∧ ρ = [some u, none, none, none, none, none, none, none, none, none, none, none, none, none, none, none, none, none, none, none, none, none, none, none, none, none, none])) ?_ ?_ ?_ ?_
  · refine wp_itL ?_
    rw [wp_callF]
    simp only [wp_cons, wp_nil, wp_var, wp_c]
    refine show _ = 2 ∧ Wp (F__law_rounds [u, .int 1] S) _ from ⟨rfl, ?_⟩
    rw [e1, wp_ok]
    exact ⟨a, _, rfl, aa, trivial, ⟨aa, fun _ => ⟨hd, rfl⟩⟩, fun i ρ S' h => yld_l h.1.get⟩
  · rw [List.length_map, fl5]
    omega
  · rintro i w ρ S' hw ⟨a1, h0⟩
    have hi : i = 0 := by
      have : i < (ds.map U.ref).length := (List.getElem?_eq_some_iff.mp hw).1
      rw [List.length_map] at this
      omega
    subst hi
    obtain ⟨h1, rfl⟩ := h0 rfl
    rw [List.getElem?_map] at hw
    cases e : ds[0]? with
    | none => rw [e] at hw; cases hw
    | some d =>
      rw [e] at hw
      cases hw
      obtain ⟨lt, D⟩ := h1 d (List.mem_of_getElem? e)
      rw [wp_gN]
      exact (law_round D).mono (fun ρ S2 y => ⟨a1.sx y (by show ¬ a = d; omega), fun z => absurd z (by omega)⟩) fun _ _ z => z.elim
  · rintro ρ S' ⟨_, _⟩
    rw [wps_ret, wp_call0]
    exact ⟨rfl, hp S'⟩
end K01
/-! text K01o -/
namespace K01
open Sm Pl
/-! ### what cannot be -/
theorem lam_0 (S : Store) : F_lam 0 S = .exc "MixError" S := by kernel_rfl
theorem lam_1 (S : Store) : F_lam 1 S = .exc "MixError" S := by kernel_rfl
theorem lam_2 (S : Store) : F_lam 2 S = .exc "MixError" S := by kernel_rfl
theorem lam_3 (S : Store) : F_lam 3 S = .exc "MixError" S := by kernel_rfl
theorem lam_4 (S : Store) : F_lam 4 S = .exc "MixError" S := by kernel_rfl
theorem lam_5 (S : Store) : F_lam 5 S = .exc "MixError" S := by kernel_rfl
theorem lam_7 (S : Store) : F_lam 7 S = .exc "MixError" S := by kernel_rfl
theorem lam_8 (S : Store) : F_lam 8 S = .exc "MixError" S := by kernel_rfl
theorem lam_10 (S : Store) : F_lam 10 S = .exc "MixError" S := by kernel_rfl
theorem lam_11 (S : Store) : F_lam 11 S = .exc "MixError" S := by kernel_rfl
theorem lam_12 (S : Store) : F_lam 12 S = .exc "MixError" S := by kernel_rfl
theorem lam_13 (S : Store) : F_lam 13 S = .exc "MixError" S := by kernel_rfl
theorem told_exc {j : Nat} {S S' : Store} (h : F_lam j S = .exc "MixError" S') : F__law_told [.lam j] S = .ok (.str [77, 105, 120, 69, 114, 114, 111, 114]) S' := by
  have e : mCallV 0 F_lam [some (.lam j)] S = .exc "MixError" S' := h
  unfold F__law_told callB m__law_told sTry sRet
  simp only [List.map_cons, List.map_nil, List.length_cons, List.length_nil, Nat.reduceAdd, Nat.reduceSub, List.replicate, List.append_nil]
  rw [e]
  rfl
theorem one_dict (S : Store) {i : Nat} {vs : List Nat} {ρ : Env} (hv : ∀ w : U, ((wipeU ρ vs).set i (some w))[i]? = some (some w)) (h0 : ρ[0]? = some (some (.tup [.str [97]]))) : ∃ a S', mDc (mIt (mVar 0)) (gN i) mYes (mVar i) (mC (.bl true)) vs ρ S = .ok (.ref a) S' ∧ S.n ≤ a ∧ At S' a (.dK [(.s [97], .bl true)]) ∧ Sx No S S' := by
  have h : Wp (mDc (mIt (mVar 0)) (gN i) mYes (mVar i) (mC (.bl true)) vs ρ S) _ := wp_dcT (ts := [[97]]) (by decide) hv (wp_itX (ts := [[97]]) (by
    rw [wp_var, h0]
    exact ⟨TxAt.tup (ts := [[97]]), fun src hy => ⟨rfl, Sx.refl, fun S' x => hy S' (TxAt.tup (ts := [[97]]))⟩⟩))
  obtain ⟨u, S', e, a, rfl, ge, aa, y⟩ := wp_ex h
  exact ⟨a, S', e, ge, aa, y⟩
theorem it_dict {m : ME} {ρ : Env} {S S1 : Store} {a : Nat} {kvs : List (Ky × U)} (e : m ρ S = .ok (.ref a) S1) (aa : At S1 a (.dK kvs)) : mIt m ρ S = .ok (srcV (kvs.map fun p => kyU p.1), some a) (S1.put a ⟨.dK kvs, 1⟩) := by
  unfold mIt
  rw [e]
  simp only [Out.bind_ok, aa.get]
theorem mixed_neg (S : Store) : F_mixed [.str [97], .int (-1)] S = .exc "MixError" S := by kernel_rfl
theorem spot_neg (S : Store) : F_spot_of [.str [97], .int 0, .int 0] S = .exc "MixError" S := by kernel_rfl
theorem lam_6 (S : Store) : ∃ S', F_lam 6 S = .exc "MixError" S' ∧ Sx No S S' := by
  obtain ⟨a, S1, e1, ge, aa, y⟩ := one_dict S (i := 2) (vs := [2]) (ρ := [some (.tup [.str [97]]), some (.int (-1)), none]) (fun w => rfl) rfl
  refine ⟨S1.put a ⟨.dK [(.s [97], .bl true)], 1⟩, ?_, y.put_above ge⟩
  show F_mix_of_set [.tup [.str [97]], .int (-1)] S = _
  unfold F_mix_of_set callB m_mix_of_set sRet mBin mGx
  simp only [List.map_cons, List.map_nil, List.length_cons, List.length_nil, Nat.reduceAdd, Nat.reduceSub, List.replicate, List.cons_append, List.nil_append]
  rw [it_dict e1 aa]
  generalize S1.put a ⟨.dK [(.s [97], .bl true)], 1⟩ = S2
  kernel_rfl
theorem lam_9 (S : Store) : ∃ S', F_lam 9 S = .exc "MixError" S' ∧ Sx No S S' := by
  have y0 : Sx No S (S.new (.dK [])) := Sx.new
  have e0 : ∀ ρ, sSet 3 mDict0 ρ S = .go .nx (ρ.set 3 (some (.ref S.n))) (S.new (.dK [])) := fun ρ => rfl
  obtain ⟨a, S1, e1, ge, aa, y⟩ := one_dict (S.new (.dK [])) (i := 4) (vs := [4]) (ρ := [some (.tup [.str [97]]), some (.int 0), some (.int 0), some (.ref S.n), none, none]) (fun w => rfl) rfl
  refine ⟨S1.put a ⟨.dK [(.s [97], .bl true)], 1⟩, ?_, (y0.trans y).put_above (Nat.le_trans y0.n ge)⟩
  show F_meeting_rows [.tup [.str [97]], .int 0, .int 0] S = _
  unfold F_meeting_rows callB m_meeting_rows sSeq
  simp only [List.map_cons, List.map_nil, List.length_cons, List.length_nil, Nat.reduceAdd, Nat.reduceSub, List.replicate, List.cons_append, List.nil_append, e0, List.set_cons_succ, List.set_cons_zero]
  unfold sFor
  simp only [OutS.then]
  rw [it_dict e1 aa]
  generalize S1.put a ⟨.dK [(.s [97], .bl true)], 1⟩ = S2
  kernel_rfl
theorem bad_all (j : Nat) (hj : j < 14) (S : Store) : Wp (F__law_told [.lam j] S) fun u S' => u = .str [77, 105, 120, 69, 114, 114, 111, 114] ∧ Sx No S S' := by
  have go : ∀ {j : Nat}, (∃ S', F_lam j S = .exc "MixError" S' ∧ Sx No S S') → Wp (F__law_told [.lam j] S) fun u S' => u = .str [77, 105, 120, 69, 114, 114, 111, 114] ∧ Sx No S S' := fun ⟨S', h, y⟩ => by
    rw [told_exc h]
    exact ⟨rfl, y⟩
  match j, hj with
  | 0, _ => exact go ⟨S, lam_0 S, Sx.refl⟩
  | 1, _ => exact go ⟨S, lam_1 S, Sx.refl⟩
  | 2, _ => exact go ⟨S, lam_2 S, Sx.refl⟩
  | 3, _ => exact go ⟨S, lam_3 S, Sx.refl⟩
  | 4, _ => exact go ⟨S, lam_4 S, Sx.refl⟩
  | 5, _ => exact go ⟨S, lam_5 S, Sx.refl⟩
  | 6, _ => exact go (lam_6 S)
  | 7, _ => exact go ⟨S, lam_7 S, Sx.refl⟩
  | 8, _ => exact go ⟨S, lam_8 S, Sx.refl⟩
  | 9, _ => exact go (lam_9 S)
  | 10, _ => exact go ⟨S, lam_10 S, Sx.refl⟩
  | 11, _ => exact go ⟨S, lam_11 S, Sx.refl⟩
  | 12, _ => exact go ⟨S, lam_12 S, Sx.refl⟩
  | 13, _ => exact go ⟨S, lam_13 S, Sx.refl⟩
end K01
/-! text K01_p -/
namespace K01
open Sm Pl
def plain_1 : MS := (sSet 0 (mTup (mCons (mC (.str [112, 101, 110])) (mCons (mC (.str [105, 110, 107])) (mCons (mC (.str [112, 97, 100])) (mCons (mC (.str [99, 117, 112])) (mCons (mC (.str [104, 97, 116])) (mCons (mC (.str [98, 111, 120])) (mCons (mC (.str [107, 101, 121])) (mCons (mC (.str [109, 97, 112])) mNil))))))))))
def plain_2 : MS := (sSet 1 (mLst (mCons (mCall F_place_of 1 [] (mCons (mC (.str [97])) mNil)) (mCons (mCall F_place_of 1 [] (mCons (mC (.str [33])) mNil)) (mCons (mCall F_mixed 2 [.int 0] (mCons (mC (.str [112, 101, 110])) mNil)) (mCons (mCall F_mixed 2 [] (mCons (mC (.str [112, 101, 110])) (mCons (mC (.int 1)) mNil))) (mCons (mCall F_mixed 2 [.int 0] (mCons (mC (.str [])) mNil)) (mCons (mCall F_mix_number 2 [.int 0] (mCons (mC (.int 42)) mNil)) (mCons (mCall F_spot_of 3 [.int 0] (mCons (mC (.str [112, 101, 110])) (mCons (mC (.int 10)) mNil))) (mCons (mCall F_two_mixes 3 [.int 0] (mCons (mC (.str [112, 101, 110])) (mCons (mC (.int 10)) mNil))) mNil))))))))))
def plain_3 : MS := (sSet 1 (mBin oAdd (mVar 1) (mLst (mCons (mCall F_spots_of 4 [.int 0] (mCons (mC (.str [112, 101, 110])) (mCons (mC (.int 4)) (mCons (mC (.int 10)) mNil)))) (mCons (mCall F_joined_mix 2 [] (mCons (mC (.int 3)) (mCons (mC (.int 4)) mNil))) (mCons (mCall F_joined_mix 2 [] (mCons (mC (.int 4)) (mCons (mC (.int 3)) mNil))) (mCons (mCall F_mix_of_set 2 [.int 0] (mCons (mTup (mCons (mC (.str [97])) (mCons (mC (.str [98])) (mCons (mC (.str [97])) mNil)))) mNil)) (mCons (mCall F_spot_loads 3 [.int 0] (mCons (mVar 0) (mCons (mC (.int 4)) mNil))) (mCons (mCall F_how_even 3 [.int 0] (mCons (mVar 0) (mCons (mC (.int 4)) mNil))) mNil)))))))))
def plain_4 : MS := (sSet 1 (mBin oAdd (mVar 1) (mLst (mCons (mCall F_meeting_rows 3 [.int 0] (mCons (mVar 0) (mCons (mC (.int 4)) mNil))) (mCons (mCall F_first_seed 3 [] (mCons (mVar 0) (mCons (mC (.int 16)) (mCons (mC (.int 500)) mNil)))) (mCons (mCall F_changed_spots 3 [.int 0] (mCons (mC (.str [97, 98])) (mCons (mC (.int 8)) mNil))) (mCons (mCall F_next_prime 1 [] (mCons (mC (.int 90)) mNil)) (mCons (mCall F_root_of 1 [] (mCons (mC (.int 99)) mNil)) (mCons (mCall F_how_even 3 [.int 0] (mCons (mTup mNil) (mCons (mC (.int 3)) mNil))) (mCons (mCall F_next_prime 1 [] (mCons (mC (.int 0)) mNil)) mNil))))))))))
def plain_5 : MS := (sSet 2 (mLst (mCons (mC (.lam 0)) (mCons (mC (.lam 1)) (mCons (mC (.lam 2)) (mCons (mC (.lam 3)) (mCons (mC (.lam 4)) mNil)))))))
def plain_6 : MS := (sSet 2 (mBin oAdd (mVar 2) (mLst (mCons (mC (.lam 5)) (mCons (mC (.lam 6)) (mCons (mC (.lam 7)) (mCons (mC (.lam 8)) mNil)))))))
def plain_7 : MS := (sSet 2 (mBin oAdd (mVar 2) (mLst (mCons (mC (.lam 9)) (mCons (mC (.lam 10)) (mCons (mC (.lam 11)) (mCons (mC (.lam 12)) mNil)))))))
def plain_8 : MS := (sSet 2 (mBin oAdd (mVar 2) (mLst (mCons (mC (.lam 13)) mNil))))
def plain_9 : MS := (sIf (mOr (mB (mBin oNe (mLc (mIt (mVar 2)) (gN 3) (mB (mBin oNe (mCall F__law_told 1 [] (mCons (mVar 3) mNil)) (mC (.str [77, 105, 120, 69, 114, 114, 111, 114])))) (mC (.int 1)) [3]) (mLst mNil))) (mB (mBin oNe (mTup (mCons (mC (.int 1000003)) (mCons (mCallC cLen (mCons (mC (.str (L_SIGNS))) mNil)) mNil))) (mTup (mCons (mC (.int 1000003)) (mCons (mC (.int 73)) mNil)))))) (sRet (mC (.bl false))) sNil)
def plain_10 : MS := (sSet 4 (mLst (mCons (mC (.int 2)) (mCons (mC (.int 74)) (mCons (mC (.int 985205)) (mCons (mC (.int 260312)) (mCons (mC (.int 337897)) (mCons (mC (.int 98149)) (mCons (mC (.int 5)) (mCons (mTup (mCons (mC (.int 5)) (mCons (mC (.int 6)) mNil))) (mCons (mTup (mCons (mC (.int 5)) (mCons (mC (.int 1)) (mCons (mC (.int 7)) (mCons (mC (.int 3)) mNil))))) (mCons (mC (.int 166)) (mCons (mC (.int 180)) (mCons (mC (.int 770107)) (mCons (mTup (mCons (mC (.int 1)) (mCons (mC (.int 2)) (mCons (mC (.int 3)) (mCons (mC (.int 2)) mNil))))) (mCons (mC (.int 112)) mNil))))))))))))))))
def plain_11 : MS := (sSet 4 (mBin oAdd (mVar 4) (mLst (mCons (mTup (mCons (mTup (mCons (mC (.str [112, 101, 110])) (mCons (mC (.str [99, 117, 112])) mNil))) (mCons (mTup (mCons (mC (.str [112, 97, 100])) (mCons (mC (.str [98, 111, 120])) (mCons (mC (.str [107, 101, 121])) mNil)))) (mCons (mTup (mCons (mC (.str [105, 110, 107])) (mCons (mC (.str [104, 97, 116])) mNil))) mNil)))) (mCons (mC (.int 0)) (mCons (mTup (mCons (mC (.int 43)) (mCons (mC (.int 50)) mNil))) (mCons (mC (.int 97)) (mCons (mC (.int 9)) (mCons (mC .non) (mCons (mC (.int 2)) mNil))))))))))
def plain_12 : MS := (sRet (mBin oEq (mVar 1) (mLst (mCons (mC (.int 2)) (mCons (mC (.int 74)) (mCons (mC (.int 985205)) (mCons (mC (.int 736512)) (mCons (mC (.int 337897)) (mCons (mC (.int 98149)) (mCons (mC (.int 5)) (mCons (mTup (mCons (mC (.int 5)) (mCons (mC (.int 7)) mNil))) (mCons (mTup (mCons (mC (.int 5)) (mCons (mC (.int 2)) (mCons (mC (.int 9)) (mCons (mC (.int 6)) mNil))))) (mCons (mC (.int 166)) (mCons (mC (.int 180)) (mCons (mC (.int 770107)) (mCons (mTup (mCons (mC (.int 1)) (mCons (mC (.int 2)) (mCons (mC (.int 3)) (mCons (mC (.int 2)) mNil))))) (mCons (mC (.int 112)) (mCons (mTup (mCons (mTup (mCons (mC (.str [112, 101, 110])) (mCons (mC (.str [99, 117, 112])) mNil))) (mCons (mTup (mCons (mC (.str [112, 97, 100])) (mCons (mC (.str [98, 111, 120])) (mCons (mC (.str [107, 101, 121])) mNil)))) (mCons (mTup (mCons (mC (.str [105, 110, 107])) (mCons (mC (.str [104, 97, 116])) mNil))) mNil)))) (mCons (mC (.int 0)) (mCons (mTup (mCons (mC (.int 43)) (mCons (mC (.int 50)) mNil))) (mCons (mC (.int 97)) (mCons (mC (.int 9)) (mCons (mC .non) (mCons (mC (.int 2)) mNil))))))))))))))))))))))))
theorem m_plain_eq : m__law_plain = (sSeq plain_1 (sSeq plain_2 (sSeq plain_3 (sSeq plain_4 (sSeq plain_5 (sSeq plain_6 (sSeq plain_7 (sSeq plain_8 (sSeq plain_9 (sSeq plain_10 (sSeq plain_11 plain_12))))))))))) := rfl
theorem wp_cat {S : Store} {m n : Nat} {xs ys : List U} (a : At S m (.lst xs)) (b : At S n (.lst ys)) (hl : xs.length + ys.length ≤ lim) {Q : U → Store → Prop} : Wp (oAdd (.ref m) (.ref n) S) Q ↔ Q (.ref S.n) (S.new (.lst (xs ++ ys))) := by
  have e : oAdd (.ref m) (.ref n) S = .ok (.ref S.n) (S.new (.lst (xs ++ ys))) := by
    simp only [oAdd, a.get, b.get]
    rw [if_pos hl]
  rw [e] <;> rfl
def keysL : List (List Nat) := [[112, 101, 110], [105, 110, 107], [112, 97, 100], [99, 117, 112], [104, 97, 116], [98, 111, 120], [107, 101, 121], [109, 97, 112]]
theorem keysT : Txs keysL := ⟨by decide, by unfold Tx; decide⟩
abbrev keysU : U := .tup [.str [112, 101, 110], .str [105, 110, 107], .str [112, 97, 100], .str [99, 117, 112], .str [104, 97, 116], .str [98, 111, 120], .str [107, 101, 121], .str [109, 97, 112]]
theorem keysAt (S : Store) : TxAt S keysU keysL := .inr rfl
variable {S : Store} {x0 x1 x2 x3 x4 : Option U}
theorem plain_s1 : WpS (plain_1 [x0, x1, x2, x3, x4] S) (fun ρ S' => ρ = [some keysU, x1, x2, x3, x4] ∧ S' = S) NoR := by
  unfold plain_1
  simp only [wp_var, wp_ok, wp_bin, wp_c, wp_b, wp_if, wps_if, wp_and, wp_or, wp_not, wp_nil, wp_cons, wp_callC, wp_callF, wp_call0, wp_tup, wp_lst, wps_nil, wps_ret, wps_set, wps_asg, wp_gN, wp_gsNil, wp_gsCons, wp_gS, wp_yes, wp_bm, wp_cut, wp_oNo, wp_oSo, wp_neg, wp_int, wp_add, wp_sub, wp_mul, wp_cInt, wp_eqI, wp_neI, wps_seq, List.getElem?_cons_zero, List.getElem?_cons_succ, List.set_cons_zero, List.set_cons_succ, List.map_cons, List.map_nil, List.length_cons, List.length_nil, List.cons_append, List.nil_append, List.append_nil, List.replicate, U.bl.injEq, U.int.injEq, exists_eq_left', Nat.reduceAdd, Nat.reduceSub, Nat.reduceMul, reduceCtorEq, false_implies, true_implies, true_and, and_true, eq_self]
  decide
def told1 : List U := [.int 2, .int 74, .int 985205, .int 736512, .int 337897, .int 98149, .int 5, .tup [.int 5, .int 7]]
theorem plain_s2 : WpS (plain_2 [some keysU, x1, x2, x3, x4] S) (fun ρ S' => ∃ n, ρ = [some keysU, some (.ref n), x2, x3, x4] ∧ At S' n (.lst told1) ∧ Sx No S S') NoR := by
  unfold plain_2
  simp only [wp_var, wp_ok, wp_bin, wp_c, wp_b, wp_if, wps_if, wp_and, wp_or, wp_not, wp_nil, wp_cons, wp_callC, wp_callF, wp_call0, wp_tup, wp_lst, wps_nil, wps_ret, wps_set, wps_asg, wp_gN, wp_gsNil, wp_gsCons, wp_gS, wp_yes, wp_bm, wp_cut, wp_oNo, wp_oSo, wp_neg, wp_int, wp_add, wp_sub, wp_mul, wp_cInt, wp_eqI, wp_neI, wps_seq, List.getElem?_cons_zero, List.getElem?_cons_succ, List.set_cons_zero, List.set_cons_succ, List.map_cons, List.map_nil, List.length_cons, List.length_nil, List.cons_append, List.nil_append, List.append_nil, List.replicate, U.bl.injEq, U.int.injEq, exists_eq_left', Nat.reduceAdd, Nat.reduceSub, Nat.reduceMul, reduceCtorEq, false_implies, true_implies, true_and, and_true, eq_self]
  refine (place_of 97 S).mono ?_
  rintro u S ⟨rfl, rfl⟩
  refine (place_of 33 S).mono ?_
  rintro u S ⟨rfl, rfl⟩
  refine (mixed (t := [112, 101, 110]) (seed := 0) S (by decide) (by decide) (by decide)).mono ?_
  rintro u S ⟨rfl, rfl⟩
  refine (mixed (t := [112, 101, 110]) (seed := 1) S (by decide) (by decide) (by decide)).mono ?_
  rintro u S ⟨rfl, rfl⟩
  refine (mixed (t := []) (seed := 0) S (by decide) (by decide) (by decide)).mono ?_
  rintro u S ⟨rfl, rfl⟩
  refine (mix_number (n := 42) (seed := 0) S (by decide) (by decide) (by decide) (by decide)).mono ?_
  rintro u S ⟨rfl, rfl⟩
  refine (spot_of (t := [112, 101, 110]) (many := 10) (seed := 0) S (by decide) (by decide) (by decide) (by decide)).mono ?_
  rintro u S ⟨rfl, rfl⟩
  refine (two_mixes (t := [112, 101, 110]) (many := 10) (seed := 0) S (by decide) (by decide) (by decide) (by decide)).mono ?_
  rintro u S ⟨rfl, rfl⟩
  have v1 : sgn 97 = 2 := by decide +kernel
  have v2 : sgn 33 = 74 := by decide +kernel
  have v3 : mixF [112, 101, 110] 0 = 985205 := by decide +kernel
  have v4 : mixF [112, 101, 110] 1 = 736512 := by decide +kernel
  have v5 : mixF [] 0 = 337897 := by decide +kernel
  have v6 : mixF (decU 42) 0 = 98149 := by decide +kernel
  have v7 : (985205 : Int) % 10 = 5 := by decide +kernel
  have v8 : stepF [112, 101, 110] 10 0 = 7 := by decide +kernel
  simp only [v1, v2, v3, v4, v5, v6, v7, v8]
  exact ⟨by decide, S.n, rfl, At.new, Sx.new⟩
theorem abaT : Txs [[97], [98], [97]] := ⟨by decide, by unfold Tx; decide⟩
def told2 : List U := [.tup [.int 5, .int 2, .int 9, .int 6], .int 166, .int 180, .int 770107, .tup [.int 1, .int 2, .int 3, .int 2], .int 112]
theorem plain_s3 {n : Nat} (a : At S n (.lst told1)) : WpS (plain_3 [some keysU, some (.ref n), x2, x3, x4] S) (fun ρ S' => ∃ n, ρ = [some keysU, some (.ref n), x2, x3, x4] ∧ At S' n (.lst (told1 ++ told2)) ∧ Sx No S S') NoR := by
  unfold plain_3
  simp only [wp_var, wp_ok, wp_bin, wp_c, wp_b, wp_if, wps_if, wp_and, wp_or, wp_not, wp_nil, wp_cons, wp_callC, wp_callF, wp_call0, wp_tup, wp_lst, wps_nil, wps_ret, wps_set, wps_asg, wp_gN, wp_gsNil, wp_gsCons, wp_gS, wp_yes, wp_bm, wp_cut, wp_oNo, wp_oSo, wp_neg, wp_int, wp_add, wp_sub, wp_mul, wp_cInt, wp_eqI, wp_neI, wps_seq, List.getElem?_cons_zero, List.getElem?_cons_succ, List.set_cons_zero, List.set_cons_succ, List.map_cons, List.map_nil, List.length_cons, List.length_nil, List.cons_append, List.nil_append, List.append_nil, List.replicate, U.bl.injEq, U.int.injEq, exists_eq_left', Nat.reduceAdd, Nat.reduceSub, Nat.reduceMul, reduceCtorEq, false_implies, true_implies, true_and, and_true, eq_self]
  refine (spots_of (t := [112, 101, 110]) (times := 4) (many := 10) (seed := 0) S (by decide) (by decide) (by decide) (by decide) (by decide) (by decide) (by decide)).mono ?_
  rintro u S1 ⟨rfl, e⟩
  subst S1
  refine (joined_mix S).mono ?_
  rintro u S1 ⟨rfl, e⟩
  subst S1
  refine (joined_mix S).mono ?_
  rintro u S1 ⟨rfl, e⟩
  subst S1
  refine ⟨by decide, ?_⟩
  refine (mix_of_set (ts := [[97], [98], [97]]) (v := .tup [.str [97], .str [98], .str [97]]) (seed := 0) (.inr rfl) abaT (by decide) (by decide)).mono ?_
  rintro u S1 ⟨rfl, y1⟩
  refine (spot_loads (many := 4) (seed := 0) (keysAt S1) keysT (by decide) (by decide) (by decide) (by decide)).mono ?_
  rintro u S2 ⟨rfl, y2⟩
  refine (how_even (many := 4) (seed := 0) (keysAt S2) keysT (by decide) (by decide) (by decide) (by decide)).mono ?_
  rintro u S3 ⟨rfl, y3⟩
  have v1 : (U.tup ((List.range (4 : Int).toNat).map fun k : Nat => U.int ((mixF [112, 101, 110] 0 % 10 + (k : Int) * stepF [112, 101, 110] 10 0) % 10))) = .tup [.int 5, .int 2, .int 9, .int 6] := by kernel_rfl
  have v2 : sumM [[97], [98], [97]] 0 % 1000003 = 770107 := by decide +kernel
  have v3 : (U.tup ((loadsL keysL 4 0).map U.int)) = .tup [.int 1, .int 2, .int 3, .int 2] := by kernel_rfl
  have v4 : evenF keysL 4 0 = .int 112 := by kernel_rfl
  rw [v1, v2, v3, v4]
  have y : Sx No S S3 := (y1.trans y2).trans y3
  refine ⟨by decide, ?_⟩
  rw [wp_cat (a.sx (y.trans Sx.new)) At.new (by decide)]
  exact ⟨_, rfl, At.new, (y.trans Sx.new).trans Sx.new⟩
def told3 : List U := [.tup [.tup [.str [112, 101, 110], .str [99, 117, 112]], .tup [.str [112, 97, 100], .str [98, 111, 120], .str [107, 101, 121]], .tup [.str [105, 110, 107], .str [104, 97, 116]]], .int 0, .tup [.int 43, .int 50], .int 97, .int 9, .non, .int 2]
theorem first_0 (S : Store) : Wp (F_first_seed [keysU, .int 16, .int 500] S) fun u S' => u = .int 0 ∧ Sx No S S' := by
  have h := first_seed (many := 16) (most := 500) (keysAt S) keysT (by decide) (by decide) (by decide) (by decide)
  have e : (((500 : Nat) : Nat) : Int) = 500 := rfl
  rw [e] at h
  have v : firstU keysL 16 500 = .int 0 := by kernel_rfl
  rw [v] at h
  exact h
theorem np_90 (S : Store) : Wp (F_next_prime [.int 90] S) (Is S (.int 97)) := by
  have h := next_prime (n := 90) S (by decide)
  have e : (((90 : Nat) : Nat) : Int) = 90 := rfl
  rw [e] at h
  have v : np 90 = 97 := by decide +kernel
  rw [v] at h
  exact h
theorem np_0 (S : Store) : Wp (F_next_prime [.int 0] S) (Is S (.int 2)) := by
  have h := next_prime (n := 0) S (by decide)
  have e : (((0 : Nat) : Nat) : Int) = 0 := rfl
  rw [e] at h
  have v : np 0 = 2 := by decide +kernel
  rw [v] at h
  exact h
theorem root_99 (S : Store) : F_root_of [.int 99] S = .ok (.int 9) S := by kernel_rfl
theorem plain_s4 {n : Nat} (a : At S n (.lst (told1 ++ told2))) : WpS (plain_4 [some keysU, some (.ref n), x2, x3, x4] S) (fun ρ S' => ∃ n, ρ = [some keysU, some (.ref n), x2, x3, x4] ∧ At S' n (.lst ((told1 ++ told2) ++ told3)) ∧ Sx No S S') NoR := by
  unfold plain_4
  simp only [wp_var, wp_ok, wp_bin, wp_c, wp_b, wp_if, wps_if, wp_and, wp_or, wp_not, wp_nil, wp_cons, wp_callC, wp_callF, wp_call0, wp_tup, wp_lst, wps_nil, wps_ret, wps_set, wps_asg, wp_gN, wp_gsNil, wp_gsCons, wp_gS, wp_yes, wp_bm, wp_cut, wp_oNo, wp_oSo, wp_neg, wp_int, wp_add, wp_sub, wp_mul, wp_cInt, wp_eqI, wp_neI, wps_seq, List.getElem?_cons_zero, List.getElem?_cons_succ, List.set_cons_zero, List.set_cons_succ, List.map_cons, List.map_nil, List.length_cons, List.length_nil, List.cons_append, List.nil_append, List.append_nil, List.replicate, U.bl.injEq, U.int.injEq, exists_eq_left', Nat.reduceAdd, Nat.reduceSub, Nat.reduceMul, reduceCtorEq, false_implies, true_implies, true_and, and_true, eq_self]
  refine (meeting_rows (many := 4) (seed := 0) (keysAt S) keysT (by decide) (by decide) (by decide) (by decide)).mono ?_
  rintro u S1 ⟨rfl, y1⟩
  refine (first_0 S1).mono ?_
  rintro u S2 ⟨rfl, y2⟩
  refine (changed_spots (t := [97, 98]) (many := 8) (seed := 0) S2 (by decide) (by decide) (by decide) (by decide)).mono ?_
  rintro u S3 ⟨rfl, y3⟩
  refine (np_90 S3).mono ?_
  rintro u S4 ⟨rfl, e⟩
  subst S4
  rw [root_99, wp_ok]
  refine ⟨Nat.zero_le _, ?_⟩
  refine (how_even (ts := []) (many := 3) (seed := 0) (u := .tup []) (.inr rfl) ⟨by decide, fun _ h => nomatch h⟩ (by decide) (by decide) (by decide) (by decide)).mono ?_
  rintro u S4 ⟨rfl, y4⟩
  refine (np_0 S4).mono ?_
  rintro u S5 ⟨rfl, e⟩
  subst S5
  have v1 : meetU keysL 4 0 = .tup [.tup [.str [112, 101, 110], .str [99, 117, 112]], .tup [.str [112, 97, 100], .str [98, 111, 120], .str [107, 101, 121]], .tup [.str [105, 110, 107], .str [104, 97, 116]]] := by kernel_rfl
  have v3 : chgU [97, 98] 8 0 = .tup [.int 43, .int 50] := by kernel_rfl
  have v5 : evenF [] 3 0 = .non := by kernel_rfl
  rw [v1, v3, v5]
  have y : Sx No S S4 := ((y1.trans y2).trans y3).trans y4
  refine ⟨by decide, ?_⟩
  rw [wp_cat (a.sx (y.trans Sx.new)) At.new (by decide)]
  exact ⟨_, rfl, At.new, (y.trans Sx.new).trans Sx.new⟩
end K01
/-! text K01_q -/
namespace K01
open Sm Pl
variable {S : Store} {x0 x1 x2 x3 x4 : Option U}
def bad1 : List U := [.lam 0, .lam 1, .lam 2, .lam 3, .lam 4]
def bad2 : List U := [.lam 5, .lam 6, .lam 7, .lam 8]
def bad3 : List U := [.lam 9, .lam 10, .lam 11, .lam 12]
def bad4 : List U := [.lam 13]
theorem plain_s5 : WpS (plain_5 [x0, x1, x2, x3, x4] S) (fun ρ S' => ∃ n, ρ = [x0, x1, some (.ref n), x3, x4] ∧ At S' n (.lst bad1) ∧ Sx No S S') NoR := by
  unfold plain_5
  simp only [wp_var, wp_ok, wp_bin, wp_c, wp_b, wp_if, wps_if, wp_and, wp_or, wp_not, wp_nil, wp_cons, wp_callC, wp_callF, wp_call0, wp_tup, wp_lst, wps_nil, wps_ret, wps_set, wps_asg, wp_gN, wp_gsNil, wp_gsCons, wp_gS, wp_yes, wp_bm, wp_cut, wp_oNo, wp_oSo, wp_neg, wp_int, wp_add, wp_sub, wp_mul, wp_cInt, wp_eqI, wp_neI, wps_seq, List.getElem?_cons_zero, List.getElem?_cons_succ, List.set_cons_zero, List.set_cons_succ, List.map_cons, List.map_nil, List.length_cons, List.length_nil, List.cons_append, List.nil_append, List.append_nil, List.replicate, U.bl.injEq, U.int.injEq, exists_eq_left', Nat.reduceAdd, Nat.reduceSub, Nat.reduceMul, reduceCtorEq, false_implies, true_implies, true_and, and_true, eq_self]
  exact ⟨by decide, S.n, rfl, At.new, Sx.new⟩
theorem plain_s6 {n : Nat} (a : At S n (.lst bad1)) : WpS (plain_6 [x0, x1, some (.ref n), x3, x4] S) (fun ρ S' => ∃ n, ρ = [x0, x1, some (.ref n), x3, x4] ∧ At S' n (.lst (bad1 ++ bad2)) ∧ Sx No S S') NoR := by
  unfold plain_6
  simp only [wp_var, wp_ok, wp_bin, wp_c, wp_b, wp_if, wps_if, wp_and, wp_or, wp_not, wp_nil, wp_cons, wp_callC, wp_callF, wp_call0, wp_tup, wp_lst, wps_nil, wps_ret, wps_set, wps_asg, wp_gN, wp_gsNil, wp_gsCons, wp_gS, wp_yes, wp_bm, wp_cut, wp_oNo, wp_oSo, wp_neg, wp_int, wp_add, wp_sub, wp_mul, wp_cInt, wp_eqI, wp_neI, wps_seq, List.getElem?_cons_zero, List.getElem?_cons_succ, List.set_cons_zero, List.set_cons_succ, List.map_cons, List.map_nil, List.length_cons, List.length_nil, List.cons_append, List.nil_append, List.append_nil, List.replicate, U.bl.injEq, U.int.injEq, exists_eq_left', Nat.reduceAdd, Nat.reduceSub, Nat.reduceMul, reduceCtorEq, false_implies, true_implies, true_and, and_true, eq_self]
  refine ⟨by decide, ?_⟩
  rw [wp_cat (a.sx (P := No) Sx.new) At.new (by decide)]
  exact ⟨_, rfl, At.new, (Sx.new).trans Sx.new⟩
theorem plain_s7 {n : Nat} (a : At S n (.lst (bad1 ++ bad2))) : WpS (plain_7 [x0, x1, some (.ref n), x3, x4] S) (fun ρ S' => ∃ n, ρ = [x0, x1, some (.ref n), x3, x4] ∧ At S' n (.lst ((bad1 ++ bad2) ++ bad3)) ∧ Sx No S S') NoR := by
  unfold plain_7
  simp only [wp_var, wp_ok, wp_bin, wp_c, wp_b, wp_if, wps_if, wp_and, wp_or, wp_not, wp_nil, wp_cons, wp_callC, wp_callF, wp_call0, wp_tup, wp_lst, wps_nil, wps_ret, wps_set, wps_asg, wp_gN, wp_gsNil, wp_gsCons, wp_gS, wp_yes, wp_bm, wp_cut, wp_oNo, wp_oSo, wp_neg, wp_int, wp_add, wp_sub, wp_mul, wp_cInt, wp_eqI, wp_neI, wps_seq, List.getElem?_cons_zero, List.getElem?_cons_succ, List.set_cons_zero, List.set_cons_succ, List.map_cons, List.map_nil, List.length_cons, List.length_nil, List.cons_append, List.nil_append, List.append_nil, List.replicate, U.bl.injEq, U.int.injEq, exists_eq_left', Nat.reduceAdd, Nat.reduceSub, Nat.reduceMul, reduceCtorEq, false_implies, true_implies, true_and, and_true, eq_self]
  refine ⟨by decide, ?_⟩
  rw [wp_cat (a.sx (P := No) Sx.new) At.new (by decide)]
  exact ⟨_, rfl, At.new, (Sx.new).trans Sx.new⟩
theorem plain_s8 {n : Nat} (a : At S n (.lst ((bad1 ++ bad2) ++ bad3))) : WpS (plain_8 [x0, x1, some (.ref n), x3, x4] S) (fun ρ S' => ∃ n, ρ = [x0, x1, some (.ref n), x3, x4] ∧ At S' n (.lst (((bad1 ++ bad2) ++ bad3) ++ bad4)) ∧ Sx No S S') NoR := by
  unfold plain_8
  simp only [wp_var, wp_ok, wp_bin, wp_c, wp_b, wp_if, wps_if, wp_and, wp_or, wp_not, wp_nil, wp_cons, wp_callC, wp_callF, wp_call0, wp_tup, wp_lst, wps_nil, wps_ret, wps_set, wps_asg, wp_gN, wp_gsNil, wp_gsCons, wp_gS, wp_yes, wp_bm, wp_cut, wp_oNo, wp_oSo, wp_neg, wp_int, wp_add, wp_sub, wp_mul, wp_cInt, wp_eqI, wp_neI, wps_seq, List.getElem?_cons_zero, List.getElem?_cons_succ, List.set_cons_zero, List.set_cons_succ, List.map_cons, List.map_nil, List.length_cons, List.length_nil, List.cons_append, List.nil_append, List.append_nil, List.replicate, U.bl.injEq, U.int.injEq, exists_eq_left', Nat.reduceAdd, Nat.reduceSub, Nat.reduceMul, reduceCtorEq, false_implies, true_implies, true_and, and_true, eq_self]
  refine ⟨by decide, ?_⟩
  rw [wp_cat (a.sx (P := No) Sx.new) At.new (by decide)]
  exact ⟨_, rfl, At.new, (Sx.new).trans Sx.new⟩
theorem bads : ((bad1 ++ bad2) ++ bad3) ++ bad4 = (List.range 14).map U.lam := rfl
theorem plain_s9 {n : Nat} (a : At S n (.lst (((bad1 ++ bad2) ++ bad3) ++ bad4))) : WpS (plain_9 [x0, x1, some (.ref n), x3, x4] S) (fun ρ S' => ρ = [x0, x1, some (.ref n), x3, x4] ∧ Sx No S S') NoR := by
  rw [bads] at a
  unfold plain_9
  rw [wps_if, wp_or, wp_b, wp_bin]
  refine Wp.mono (wp_lcM (List.range 14) U.lam (fun _ => false) (fun _ => U.int 1) (wp_itL ?_) ?_ (by decide)) ?_
  · simp only [wp_var, wp_ok, wp_bin, wp_c, wp_b, wp_if, wps_if, wp_and, wp_or, wp_not, wp_nil, wp_cons, wp_callC, wp_callF, wp_call0, wp_tup, wp_lst, wps_nil, wps_ret, wps_set, wps_asg, wp_gN, wp_gsNil, wp_gsCons, wp_gS, wp_yes, wp_bm, wp_cut, wp_oNo, wp_oSo, wp_neg, wp_int, wp_add, wp_sub, wp_mul, wp_cInt, wp_eqI, wp_neI, wps_seq, List.getElem?_cons_zero, List.getElem?_cons_succ, List.set_cons_zero, List.set_cons_succ, List.map_cons, List.map_nil, List.length_cons, List.length_nil, List.cons_append, List.nil_append, List.append_nil, List.replicate, U.bl.injEq, U.int.injEq, exists_eq_left', Nat.reduceAdd, Nat.reduceSub, Nat.reduceMul, reduceCtorEq, false_implies, true_implies, true_and, and_true, eq_self]
    exact ⟨n, _, rfl, a, Sx.refl, fun S' x' => yld_l (a.sx x').get⟩
  · intro j S' hj y
    simp only [wipeU, wp_var, wp_ok, wp_bin, wp_c, wp_b, wp_if, wps_if, wp_and, wp_or, wp_not, wp_nil, wp_cons, wp_callC, wp_callF, wp_call0, wp_tup, wp_lst, wps_nil, wps_ret, wps_set, wps_asg, wp_gN, wp_gsNil, wp_gsCons, wp_gS, wp_yes, wp_bm, wp_cut, wp_oNo, wp_oSo, wp_neg, wp_int, wp_add, wp_sub, wp_mul, wp_cInt, wp_eqI, wp_neI, wps_seq, List.getElem?_cons_zero, List.getElem?_cons_succ, List.set_cons_zero, List.set_cons_succ, List.map_cons, List.map_nil, List.length_cons, List.length_nil, List.cons_append, List.nil_append, List.append_nil, List.replicate, U.bl.injEq, U.int.injEq, exists_eq_left', Nat.reduceAdd, Nat.reduceSub, Nat.reduceMul, reduceCtorEq, false_implies, true_implies, true_and, and_true, eq_self]
    refine (bad_all j (List.mem_range.mp hj) S').mono ?_
    rintro u S2 ⟨rfl, y2⟩
    rw [wp_neS]
    exact ⟨_, rfl, by decide, y2⟩
  · rintro u S1 ⟨b, rfl, ge, ab, y1⟩
    have e0 : ((List.range 14).filter fun _ => false).map (fun _ => U.int 1) = ([] : List Int).map U.int := rfl
    rw [e0] at ab
    rw [wp_lst]
    simp only [wp_nil]
    refine ⟨by decide, ?_⟩
    have a2 : At (S1.new (.lst [])) S1.n (.lst (([] : List Int).map U.int)) := At.new
    have y2 : Sx No S (S1.new (.lst [])) := y1.trans Sx.new
    refine (wp_neSame (toD_ints (ab.sx (P := No) Sx.new)) (toD_ints a2) shp_ints).mpr ⟨false, rfl, fun z => (nomatch z), fun _ => ?_⟩
    have el : ∀ S, cLen [.str L_SIGNS] S = .ok (.int 73) S := fun S => by kernel_rfl
    simp only [el, wp_var, wp_ok, wp_bin, wp_c, wp_b, wp_if, wps_if, wp_and, wp_or, wp_not, wp_nil, wp_cons, wp_callC, wp_callF, wp_call0, wp_tup, wp_lst, wps_nil, wps_ret, wps_set, wps_asg, wp_gN, wp_gsNil, wp_gsCons, wp_gS, wp_yes, wp_bm, wp_cut, wp_oNo, wp_oSo, wp_neg, wp_int, wp_add, wp_sub, wp_mul, wp_cInt, wp_eqI, wp_neI, wps_seq, List.getElem?_cons_zero, List.getElem?_cons_succ, List.set_cons_zero, List.set_cons_succ, List.map_cons, List.map_nil, List.length_cons, List.length_nil, List.cons_append, List.nil_append, List.append_nil, List.replicate, U.bl.injEq, U.int.injEq, exists_eq_left', Nat.reduceAdd, Nat.reduceSub, Nat.reduceMul, reduceCtorEq, false_implies, true_implies, true_and, and_true, eq_self]
    refine ⟨by decide, ?_⟩
    refine ⟨by decide, ?_⟩
    exact ne_end toD_two toD_two shp_two y2
theorem plain_s10 : WpS (plain_10 [x0, x1, x2, x3, x4] S) (fun ρ S' => ∃ n l, l.length ≤ 100 ∧ ρ = [x0, x1, x2, x3, some (.ref n)] ∧ At S' n (.lst l) ∧ Sx No S S') NoR := by
  unfold plain_10
  simp only [wp_var, wp_ok, wp_bin, wp_c, wp_b, wp_if, wps_if, wp_and, wp_or, wp_not, wp_nil, wp_cons, wp_callC, wp_callF, wp_call0, wp_tup, wp_lst, wps_nil, wps_ret, wps_set, wps_asg, wp_gN, wp_gsNil, wp_gsCons, wp_gS, wp_yes, wp_bm, wp_cut, wp_oNo, wp_oSo, wp_neg, wp_int, wp_add, wp_sub, wp_mul, wp_cInt, wp_eqI, wp_neI, wps_seq, List.getElem?_cons_zero, List.getElem?_cons_succ, List.set_cons_zero, List.set_cons_succ, List.map_cons, List.map_nil, List.length_cons, List.length_nil, List.cons_append, List.nil_append, List.append_nil, List.replicate, U.bl.injEq, U.int.injEq, exists_eq_left', Nat.reduceAdd, Nat.reduceSub, Nat.reduceMul, reduceCtorEq, false_implies, true_implies, true_and, and_true, eq_self]
  exact ⟨by decide, by decide, by decide, by decide, S.n, _, by decide, rfl, At.new, Sx.new⟩
theorem plain_s11 {n : Nat} {l : List U} (hl : l.length ≤ 100) (a : At S n (.lst l)) : WpS (plain_11 [x0, x1, x2, x3, some (.ref n)] S) (fun ρ S' => ∃ n, ρ = [x0, x1, x2, x3, some (.ref n)] ∧ Sx No S S') NoR := by
  have lm : lim = 1000000 := rfl
  unfold plain_11
  simp only [wp_var, wp_ok, wp_bin, wp_c, wp_b, wp_if, wps_if, wp_and, wp_or, wp_not, wp_nil, wp_cons, wp_callC, wp_callF, wp_call0, wp_tup, wp_lst, wps_nil, wps_ret, wps_set, wps_asg, wp_gN, wp_gsNil, wp_gsCons, wp_gS, wp_yes, wp_bm, wp_cut, wp_oNo, wp_oSo, wp_neg, wp_int, wp_add, wp_sub, wp_mul, wp_cInt, wp_eqI, wp_neI, wps_seq, List.getElem?_cons_zero, List.getElem?_cons_succ, List.set_cons_zero, List.set_cons_succ, List.map_cons, List.map_nil, List.length_cons, List.length_nil, List.cons_append, List.nil_append, List.append_nil, List.replicate, U.bl.injEq, U.int.injEq, exists_eq_left', Nat.reduceAdd, Nat.reduceSub, Nat.reduceMul, reduceCtorEq, false_implies, true_implies, true_and, and_true, eq_self]
  refine ⟨by decide, by decide, by decide, by decide, by decide, by decide, ?_⟩
  rw [wp_cat (a.sx (P := No) Sx.new) At.new (by simp; omega)]
  exact ⟨_, rfl, (Sx.new).trans Sx.new⟩
def toldL : List U := (told1 ++ told2) ++ told3
theorem told_lay : ∃ d, (∀ (S : Store) (n : Nat), At S n (.lst toldL) → toD S (.ref n) = some d) ∧ Shp 5 d := by
  refine ⟨.list ((toDs1 (fun _ => none) toldL).getD []), fun S n a => ?_, ?_, ?_⟩
  · show goD S 8 n = _
    simp only [goD, a.get]
    rfl
  · decide +kernel
  · decide +kernel
theorem plain_s12 {n : Nat} (a : At S n (.lst ((told1 ++ told2) ++ told3))) : WpS (plain_12 [x0, some (.ref n), x2, x3, x4] S) (fun _ _ => False) (fun u _ => u = .bl true) := by
  unfold plain_12
  simp only [wp_var, wp_ok, wp_bin, wp_c, wp_b, wp_if, wps_if, wp_and, wp_or, wp_not, wp_nil, wp_cons, wp_callC, wp_callF, wp_call0, wp_tup, wp_lst, wps_nil, wps_ret, wps_set, wps_asg, wp_gN, wp_gsNil, wp_gsCons, wp_gS, wp_yes, wp_bm, wp_cut, wp_oNo, wp_oSo, wp_neg, wp_int, wp_add, wp_sub, wp_mul, wp_cInt, wp_eqI, wp_neI, wps_seq, List.getElem?_cons_zero, List.getElem?_cons_succ, List.set_cons_zero, List.set_cons_succ, List.map_cons, List.map_nil, List.length_cons, List.length_nil, List.cons_append, List.nil_append, List.append_nil, List.replicate, U.bl.injEq, U.int.injEq, exists_eq_left', Nat.reduceAdd, Nat.reduceSub, Nat.reduceMul, reduceCtorEq, false_implies, true_implies, true_and, and_true, eq_self]
  obtain ⟨d, h1, h2⟩ := told_lay
  refine ⟨by decide, by decide, by decide, by decide, by decide, by decide, by decide, by decide, by decide, ?_⟩
  have h3 := h1 (S.new (.lst toldL)) S.n At.new
  have h4 := h1 (S.new (.lst toldL)) n (a.sx (P := No) Sx.new)
  show Wp (oEq (.ref n) (.ref S.n) (S.new (.lst toldL))) _
  rw [wp_eqD h4 h3 h2 h2, PySem.SeqAt.eqv_refl d h2.lay]
theorem law_plain (S : Store) : Wp (F__law_plain [] S) fun u _ => u = .bl true := by
  refine wp_call ?_
  rw [m_plain_eq]
  refine step (plain_s1 (x0 := none) (x1 := none) (x2 := none) (x3 := none) (x4 := none)) ?_
  rintro ρ S1 ⟨rfl, rfl⟩
  refine step plain_s2 ?_
  rintro ρ S2 ⟨n, rfl, a, y⟩
  refine step (plain_s3 a) ?_
  rintro ρ S3 ⟨n, rfl, a, y⟩
  refine step (plain_s4 a) ?_
  rintro ρ S4 ⟨n, rfl, a, y⟩
  refine step plain_s5 ?_
  rintro ρ S5 ⟨m, rfl, b, y⟩
  have a := a.sx y
  refine step (plain_s6 b) ?_
  rintro ρ S6 ⟨m, rfl, b, y⟩
  have a := a.sx y
  refine step (plain_s7 b) ?_
  rintro ρ S7 ⟨m, rfl, b, y⟩
  have a := a.sx y
  refine step (plain_s8 b) ?_
  rintro ρ S8 ⟨m, rfl, b, y⟩
  have a := a.sx y
  refine step (plain_s9 b) ?_
  rintro ρ S9 ⟨rfl, y⟩
  have a := a.sx y
  refine step plain_s10 ?_
  rintro ρ S10 ⟨k, l, hl, rfl, c, y⟩
  have a := a.sx y
  refine step (plain_s11 hl c) ?_
  rintro ρ S11 ⟨k, rfl, y⟩
  have a := a.sx y
  exact (plain_s12 a).mono (fun _ _ z => z.elim) fun _ _ z => z
theorem k01_holds : (PySem.Challenge.rw_hashstack_k01_mixes_of_texts).Holds := holds (law_true law_plain)
end K01
theorem PySem.Challenge.cw_hashstack_k01_mixes_of_texts_holds : PySem.Challenge.rw_hashstack_k01_mixes_of_texts.Holds := by
  exact K01.k01_holds
