import PyProof.Rows.All
import Wide.All
import OpenK.AllK
import Wide.FinOn
import HandS.ForMost
import HandS.Codes
import HandS.Deep
import HandS.IsInst
import HandS.NoneIn
import HandS.More
import HandS.Rev
import PySem.Challenge.RW_everguard_k41_both_either_opposite
set_option Elab.async false
set_option linter.all false
set_option maxRecDepth 100000
set_option maxHeartbeats 4000000
/-! Pv: a typed layer over the hand layer: values told by Lean data, one state word, one lemma a construct. -/
namespace Pv
open PySem L2

/-! ### Option, said plainly -/
def bd {α β : Type} (o : Option α) (f : α → Option β) : Option β := match o with
  | none => none
  | some a => f a
theorem bs {α β : Type} {o : Option α} {f : α → Option β} {r : β} (h : bd o f = some r) : ∃ a, o = some a ∧ f a = some r := by
  cases o with
  | none => cases h
  | some a => exact ⟨a, rfl, h⟩
theorem bd_some {α β : Type} (a : α) (f : α → Option β) : bd (some a) f = f a := rfl
theorem bd_none {α β : Type} (f : α → Option β) : bd none f = none := rfl
/-- a condition that must hold -/
def ck (p : Prop) [Decidable p] : Option Unit := if p then some () else none
theorem ck_ok {p : Prop} [Decidable p] {u : Unit} (h : ck p = some u) : p := by
  unfold ck at h
  split at h
  · assumption
  · cases h
theorem ck_pos {p : Prop} [Decidable p] (h : p) : ck p = some () := if_pos h
theorem cks {p : Prop} [Decidable p] {β : Type} {f : Unit → Option β} {r : β} (h : bd (ck p) f = some r) : p ∧ f () = some r := by
  obtain ⟨u, hu, h⟩ := bs h
  exact ⟨ck_ok hu, h⟩
theorem it2 {c : Bool} {α : Type} {x y : Option α} {r : α} (h : (if c = true then x else y) = some r) : (c = true ∧ x = some r) ∨ (c = false ∧ y = some r) := by
  cases c with
  | true => exact .inl ⟨rfl, h⟩
  | false => exact .inr ⟨rfl, h⟩
theorem ifT {c : Bool} {A B : Prop} (h : c = true) (a : A) : if c = true then A else B := by rw [if_pos h]; exact a
theorem ifF {c : Bool} {A B : Prop} (h : c = false) (b : B) : if c = true then A else B := by rw [h]; exact b

/-! ### heaps: what stands, but that a dict may be locked -/
def er : HO → HO
  | .frz _ (.dK k) => .dK k
  | .frz _ (.dT k) => .dT k
  | o => o
def Le (B B' : Hp) : Prop := ∀ a o, B a = some o → ∃ o', B' a = some o' ∧ er o' = er o
theorem Le.refl (B : Hp) : Le B B := fun _ o h => ⟨o, h, rfl⟩
theorem Le.tr {B B1 B2 : Hp} (a : Le B B1) (b : Le B1 B2) : Le B B2 := fun x o h => by
  obtain ⟨o1, h1, e1⟩ := a x o h
  obtain ⟨o2, h2, e2⟩ := b x o1 h1
  exact ⟨o2, h2, e2.trans e1⟩
theorem Le.free {B H : Hp} (l : Le B H) {p : Addr} (h : H p = none) : B p = none := by
  cases e : B p with
  | none => rfl
  | some o =>
    obtain ⟨o', h', _⟩ := l p o e
    rw [h] at h'
    cases h'
theorem Le.new {B : Hp} {p : Addr} {o : HO} (h : B p = none) : Le B (upd B p o) := fun a u e => ⟨u, by rw [upd_ne (ne_of_none e h)]; exact e, rfl⟩
theorem er_keep {o u : HO} (h : er o = er u) (n1 : ∀ k, er u ≠ .dK k) (n2 : ∀ k, er u ≠ .dT k) : o = u := by
  have p1 : ∀ o : HO, (∀ k, er o ≠ .dK k) → (∀ k, er o ≠ .dT k) → er o = o := by
    intro o n1 n2
    cases o with
    | frz ob w =>
      cases w with
      | dK k => exact absurd rfl (n1 k)
      | dT k => exact absurd rfl (n2 k)
      | _ => rfl
    | _ => rfl
  rw [← p1 u n1 n2, ← h]
  exact (p1 o (by rw [h]; exact n1) (by rw [h]; exact n2)).symm
theorem Le.lst {B B' : Hp} {a : Addr} {xs : List V} (l : Le B B') (h : B a = some (.lst xs)) : B' a = some (.lst xs) := by
  obtain ⟨o', h', e⟩ := l a _ h
  rw [h', er_keep e (fun k z => by cases z) (fun k z => by cases z)]
theorem Le.tup {B B' : Hp} {a : Addr} {xs : List V} (l : Le B B') (h : B a = some (.tup xs)) : B' a = some (.tup xs) := by
  obtain ⟨o', h', e⟩ := l a _ h
  rw [h', er_keep e (fun k z => by cases z) (fun k z => by cases z)]
theorem Le.ins {B B' : Hp} {a C dx : Addr} {fs : List (Str × V)} (l : Le B B') (h : B a = some (.ins C dx fs)) : B' a = some (.ins C dx fs) := by
  obtain ⟨o', h', e⟩ := l a _ h
  rw [h', er_keep e (fun k z => by cases z) (fun k z => by cases z)]
theorem Le.own {B B' : Hp} {a x : Addr} (l : Le B B') (h : B a = some (.own x)) : B' a = some (.own x) := by
  obtain ⟨o', h', e⟩ := l a _ h
  rw [h', er_keep e (fun k z => by cases z) (fun k z => by cases z)]
theorem Le.frzL {B B' : Hp} {a : Addr} {o : Obj} {xs : List V} (l : Le B B') (h : B a = some (.frz o (.lst xs))) : B' a = some (.frz o (.lst xs)) := by
  obtain ⟨o', h', e⟩ := l a _ h
  rw [h', er_keep e (fun k z => by cases z) (fun k z => by cases z)]
/-- a list that is read: tracked, or the script -/
def LsA (B : Hp) (a : Addr) (xs : List V) : Prop := Rd B a (.lst xs)
theorem LsA.mono {B B' : Hp} {a : Addr} {xs : List V} (l : Le B B') (h : LsA B a xs) : LsA B' a xs := by
  rcases h with h | ⟨o, h⟩
  · exact .inl (l.lst h)
  · exact .inr ⟨o, l.frzL h⟩
theorem LsA.sq {K : PySem.W.Frag} {H : Hp} {a : Addr} {xs : List V} (h : LsA H a xs) : SqL K H a xs := .inl h
/-- a dict that is read: tracked, or locked -/
def DkA (B : Hp) (a : Addr) (l : List (Key × V)) : Prop := ∃ o, B a = some o ∧ er o = .dK l
theorem DkA.mono {B B' : Hp} {a : Addr} {xs : List (Key × V)} (l : Le B B') (h : DkA B a xs) : DkA B' a xs := by
  obtain ⟨o, h, e⟩ := h
  obtain ⟨o', h', e'⟩ := l a o h
  exact ⟨o', h', e'.trans e⟩
theorem er_dK {o : HO} {k : List (Key × V)} (h : er o = .dK k) : o = .dK k ∨ ∃ ob, o = .frz ob (.dK k) := by
  cases o with
  | frz ob w =>
    cases w with
    | dK k' =>
      have e : HO.dK k' = .dK k := h
      cases e
      exact .inr ⟨ob, rfl⟩
    | dT k' =>
      have e : HO.dT k' = .dK k := h
      cases e
    | _ => cases h
  | dK k' =>
    have e : HO.dK k' = .dK k := h
    cases e
    exact .inl rfl
  | _ => cases h
theorem er_dT {o : HO} {k : List (List Key × V)} (h : er o = .dT k) : o = .dT k ∨ ∃ ob, o = .frz ob (.dT k) := by
  cases o with
  | frz ob w =>
    cases w with
    | dT k' =>
      have e : HO.dT k' = .dT k := h
      cases e
      exact .inr ⟨ob, rfl⟩
    | dK k' =>
      have e : HO.dK k' = .dT k := h
      cases e
    | _ => cases h
  | dT k' =>
    have e : HO.dT k' = .dT k := h
    cases e
    exact .inl rfl
  | _ => cases h
theorem DkA.rd {B : Hp} {a : Addr} {l : List (Key × V)} (h : DkA B a l) : Rd B a (.dK l) := by
  obtain ⟨o, h, e⟩ := h
  rcases er_dK e with rfl | ⟨ob, rfl⟩
  · exact .inl h
  · exact .inr ⟨ob, h⟩
def DtA (B : Hp) (a : Addr) (l : List (List Key × V)) : Prop := ∃ o, B a = some o ∧ er o = .dT l
theorem DtA.mono {B B' : Hp} {a : Addr} {xs : List (List Key × V)} (l : Le B B') (h : DtA B a xs) : DtA B' a xs := by
  obtain ⟨o, h, e⟩ := h
  obtain ⟨o', h', e'⟩ := l a o h
  exact ⟨o', h', e'.trans e⟩
theorem DtA.rd {B : Hp} {a : Addr} {l : List (List Key × V)} (h : DtA B a l) : Rd B a (.dT l) := by
  obtain ⟨o, h, e⟩ := h
  rcases er_dT e with rfl | ⟨ob, rfl⟩
  · exact .inl h
  · exact .inr ⟨ob, h⟩

/-! ### values told by Lean data -/
class Rp (α : Type) where
  R : Hp → V → α → Prop
  mono : ∀ {B B' : Hp} {v : V} {x : α}, Le B B' → R B v x → R B' v x
/-- never None -/
class NN (α : Type) [Rp α] : Prop where
  ne : ∀ {B : Hp} {v : V} {x : α}, Rp.R B v x → v ≠ .non
instance : Rp Int := ⟨fun _ v x => v = .int x, fun _ h => h⟩
instance : Rp Bool := ⟨fun _ v x => v = .bl x, fun _ h => h⟩
instance : Rp Str := ⟨fun _ v x => v = .str x, fun _ h => h⟩
instance : Rp Unit := ⟨fun _ v _ => v = .non, fun _ h => h⟩
instance : NN Int := ⟨fun h => by cases h; exact fun z => by cases z⟩
instance : NN Bool := ⟨fun h => by cases h; exact fun z => by cases z⟩
instance : NN Str := ⟨fun h => by cases h; exact fun z => by cases z⟩
/-- item by item -/
abbrev Rs {α : Type} [Rp α] (B : Hp) : List V → List α → Prop := Paired (Rp.R B)
section
variable {α β : Type} [Rp α] [Rp β] {B B' : Hp}
theorem Rs.mono (l : Le B B') : ∀ {vs : List V} {xs : List α}, Rs B vs xs → Rs B' vs xs
  | _, _, .nil => .nil
  | _, _, .cons h t => .cons (Rp.mono l h) (Rs.mono l t)
theorem Rs.len : ∀ {vs : List V} {xs : List α}, Rs B vs xs → vs.length = xs.length
  | _, _, .nil => rfl
  | _, _, .cons h t => congrArg (· + 1) (Rs.len t)
theorem Rs.get : ∀ {vs : List V} {xs : List α} {i : Nat} {x : α}, Rs B vs xs → xs[i]? = some x → ∃ v, vs[i]? = some v ∧ Rp.R B v x
  | _, _, i, x, .nil, e => by simp at e
  | _, _, 0, x, .cons h t, e => by simp at e; subst e; exact ⟨_, rfl, h⟩
  | _, _, i + 1, x, .cons h t, e => by
    obtain ⟨v, h1, h2⟩ := Rs.get (i := i) (x := x) t (by simpa using e)
    exact ⟨v, by simpa using h1, h2⟩
theorem Rs.app : ∀ {vs ws : List V} {xs ys : List α}, Rs B vs xs → Rs B ws ys → Rs B (vs ++ ws) (xs ++ ys)
  | _, _, _, _, .nil, s => s
  | _, _, _, _, .cons h t, s => .cons h (Rs.app t s)
theorem Rs.one {v : V} {x : α} (h : Rp.R B v x) : Rs B [v] [x] := .cons h .nil
theorem Rs.set {v : V} {x : α} (h : Rp.R B v x) : ∀ {vs : List V} {xs : List α} (i : Nat), Rs B vs xs → Rs B (vs.set i v) (xs.set i x)
  | _, _, _, .nil => .nil
  | _, _, 0, .cons _ t => .cons h t
  | _, _, i + 1, .cons q t => .cons q (Rs.set h i t)
theorem Rs.drop : ∀ {vs : List V} {xs : List α} (n : Nat), Rs B vs xs → Rs B (vs.drop n) (xs.drop n)
  | _, _, 0, r => r
  | _, _, n + 1, .nil => .nil
  | _, _, n + 1, .cons h t => Rs.drop n t
theorem Rs.take : ∀ {vs : List V} {xs : List α} (n : Nat), Rs B vs xs → Rs B (vs.take n) (xs.take n)
  | _, _, 0, r => .nil
  | _, _, n + 1, .nil => .nil
  | _, _, n + 1, .cons h t => .cons h (Rs.take n t)
theorem Rs.rev : ∀ {vs : List V} {xs : List α}, Rs B vs xs → Rs B vs.reverse xs.reverse
  | _, _, .nil => .nil
  | _, _, .cons h t => by rw [List.reverse_cons, List.reverse_cons]; exact Rs.app (Rs.rev t) (Rs.one h)
theorem Rs.ints {xs : List Int} {vs : List V} (h : Rs B vs xs) : vs = xs.map V.int := by
  induction h with
  | nil => rfl
  | cons h t ih => rw [List.map_cons, ih, show _ = V.int _ from h]
theorem Rs.strs {xs : List Str} {vs : List V} (h : Rs B vs xs) : vs = xs.map V.str := by
  induction h with
  | nil => rfl
  | cons h t ih => rw [List.map_cons, ih, show _ = V.str _ from h]
theorem Rs.bls {xs : List Bool} {vs : List V} (h : Rs B vs xs) : vs = xs.map V.bl := by
  induction h with
  | nil => rfl
  | cons h t ih => rw [List.map_cons, ih, show _ = V.bl _ from h]
theorem Rs.of_ints (B : Hp) : ∀ xs : List Int, Rs B (xs.map V.int) xs
  | [] => .nil
  | _ :: r => .cons rfl (Rs.of_ints B r)
theorem Rs.of_strs (B : Hp) : ∀ xs : List Str, Rs B (xs.map V.str) xs
  | [] => .nil
  | _ :: r => .cons rfl (Rs.of_strs B r)
theorem Rs.of_bls (B : Hp) : ∀ xs : List Bool, Rs B (xs.map V.bl) xs
  | [] => .nil
  | _ :: r => .cons rfl (Rs.of_bls B r)
end
/-- a list -/
instance {α : Type} [Rp α] : Rp (List α) := ⟨fun B v xs => ∃ a l, v = .ref a ∧ B a = some (.lst l) ∧ l.length ≤ sizeLine ∧ Rs B l xs,
  fun m h => by obtain ⟨a, l, e, h1, h2, h3⟩ := h; exact ⟨a, l, e, m.lst h1, h2, h3.mono m⟩⟩
/-- the script -/
structure Scr where
  l : List Int
theorem SqL.le {K : PySem.W.Frag} {B B' : Hp} {a : Addr} {xs : List V} (l : Le B B') (h : SqL K B a xs) : SqL K B' a xs := by
  rcases h with h | h
  · exact .inl (LsA.mono l h)
  · exact .inr h
def RC (K : PySem.W.Frag) (B : Hp) (v : V) (x : Scr) : Prop := ∃ a, v = .ref a ∧ SqL K B a (x.l.map V.int) ∧ x.l.length ≤ 63
theorem RC.mono {K : PySem.W.Frag} {B B' : Hp} {v : V} {x : Scr} (m : Le B B') (h : RC K B v x) : RC K B' v x := by
  obtain ⟨a, e, h1, h2⟩ := h
  exact ⟨a, e, SqL.le m h1, h2⟩
instance {α : Type} [Rp α] : NN (List α) := ⟨fun h => by obtain ⟨a, l, rfl, _⟩ := h; exact fun z => by cases z⟩
/-- a tuple of two, of three, four .. -/
instance {α β : Type} [Rp α] [Rp β] : Rp (α × β) := ⟨fun B v x => ∃ a u w, v = .ref a ∧ B a = some (.tup [u, w]) ∧ Rp.R B u x.1 ∧ Rp.R B w x.2,
  fun m h => by obtain ⟨a, u, w, e, h1, h2, h3⟩ := h; exact ⟨a, u, w, e, m.tup h1, Rp.mono m h2, Rp.mono m h3⟩⟩
instance {α β : Type} [Rp α] [Rp β] : NN (α × β) := ⟨fun h => by obtain ⟨a, u, w, rfl, _⟩ := h; exact fun z => by cases z⟩
structure T3 (α β γ : Type) where
  a : α
  b : β
  c : γ
  deriving DecidableEq
instance {α β γ : Type} [Rp α] [Rp β] [Rp γ] : Rp (T3 α β γ) := ⟨fun B v x => ∃ p u w z, v = .ref p ∧ B p = some (.tup [u, w, z]) ∧ Rp.R B u x.a ∧ Rp.R B w x.b ∧ Rp.R B z x.c,
  fun m h => by obtain ⟨p, u, w, z, e, h1, h2, h3, h4⟩ := h; exact ⟨p, u, w, z, e, m.tup h1, Rp.mono m h2, Rp.mono m h3, Rp.mono m h4⟩⟩
instance {α β γ : Type} [Rp α] [Rp β] [Rp γ] : NN (T3 α β γ) := ⟨fun h => by obtain ⟨a, u, w, z, rfl, _⟩ := h; exact fun z => by cases z⟩
structure T4 (α β γ δ : Type) where
  a : α
  b : β
  c : γ
  d : δ
  deriving DecidableEq
instance {α β γ δ : Type} [Rp α] [Rp β] [Rp γ] [Rp δ] : Rp (T4 α β γ δ) := ⟨fun B v x => ∃ p u w z y, v = .ref p ∧ B p = some (.tup [u, w, z, y]) ∧ Rp.R B u x.a ∧ Rp.R B w x.b ∧ Rp.R B z x.c ∧ Rp.R B y x.d,
  fun m h => by obtain ⟨p, u, w, z, y, e, h1, h2, h3, h4, h5⟩ := h; exact ⟨p, u, w, z, y, e, m.tup h1, Rp.mono m h2, Rp.mono m h3, Rp.mono m h4, Rp.mono m h5⟩⟩
instance {α β γ δ : Type} [Rp α] [Rp β] [Rp γ] [Rp δ] : NN (T4 α β γ δ) := ⟨fun h => by obtain ⟨a, u, w, z, y, rfl, _⟩ := h; exact fun z => by cases z⟩
/-- a tuple of as many as there are, of one kind -/
structure TV (α : Type) where
  l : List α
  deriving DecidableEq
instance {α : Type} [Rp α] : Rp (TV α) := ⟨fun B v x => ∃ a l, v = .ref a ∧ B a = some (.tup l) ∧ l.length ≤ sizeLine ∧ Rs B l x.l,
  fun m h => by obtain ⟨a, l, e, h1, h2, h3⟩ := h; exact ⟨a, l, e, m.tup h1, h2, h3.mono m⟩⟩
instance {α : Type} [Rp α] : NN (TV α) := ⟨fun h => by obtain ⟨a, l, rfl, _⟩ := h; exact fun z => by cases z⟩
/-- None, or one -/
instance {α : Type} [Rp α] : Rp (Option α) := ⟨fun B v o => match o with | none => v = .non | some x => Rp.R B v x,
  fun m h => by
    rename_i o
    cases o with
    | none => exact h
    | some x => exact Rp.mono (α := α) m h⟩
/-- a dict whose keys are ints or texts: its pairs -/
class Kp (κ : Type) where
  k : κ → Key
  inj : ∀ a b, k a = k b → a = b
instance : Kp Int := ⟨.inl, fun _ _ h => Sum.inl.inj h⟩
instance : Kp Str := ⟨.inr, fun _ _ h => Sum.inr.inj h⟩
structure Dc (κ α : Type) where
  l : List (κ × α)
  deriving DecidableEq
abbrev RK {κ α : Type} [Kp κ] [Rp α] (B : Hp) : List (Key × V) → List (κ × α) → Prop := Paired fun p q => p.1 = Kp.k q.1 ∧ Rp.R B p.2 q.2
theorem RK.mono {κ α : Type} [Kp κ] [Rp α] {B B' : Hp} (l : Le B B') : ∀ {ks : List (Key × V)} {xs : List (κ × α)}, RK B ks xs → RK B' ks xs
  | _, _, .nil => .nil
  | _, _, .cons h t => .cons ⟨h.1, Rp.mono l h.2⟩ (RK.mono l t)
instance {κ α : Type} [Kp κ] [Rp α] : Rp (Dc κ α) := ⟨fun B v x => ∃ a l, v = .ref a ∧ DkA B a l ∧ l.length ≤ sizeLine ∧ RK B l x.l,
  fun m h => by obtain ⟨a, l, e, h1, h2, h3⟩ := h; exact ⟨a, l, e, h1.mono m, h2, h3.mono m⟩⟩
instance {κ α : Type} [Kp κ] [Rp α] : NN (Dc κ α) := ⟨fun h => by obtain ⟨a, l, rfl, _⟩ := h; exact fun z => by cases z⟩

/-! ### the state: B what is known of values that stay, O the objects of one's own, A those that were handed in to be changed -/
structure Ws (A : List Addr) (B0 H0 B H : Hp) (O : List (Addr × HO)) : Prop where
  le : Le B H
  own : ∀ p ∈ O, H p.1 = some p.2 ∧ B p.1 = none ∧ (p.1 ∈ A ∨ H0 p.1 = none)
  nd : (O.map (·.1)).Nodup
  bb : Le B0 B
  fr : ∀ a o, H0 a = some o → a ∉ A → H a = some o
  al : ∀ a o, H0 a = some o → ∃ o', H a = some o'
  no : ∀ a o, H0 a = some o → B0 a = none → B a = none
theorem erase_map {α β : Type} {f : α → β} : ∀ (l : List α) (i : Nat), (l.eraseIdx i).map f = (l.map f).eraseIdx i
  | [], _ => rfl
  | _ :: _, 0 => rfl
  | a :: r, i + 1 => congrArg (fun z => f a :: z) (erase_map r i)
section
variable {A : List Addr} {B0 H0 B H : Hp} {O O1 O2 : List (Addr × HO)} {p : Addr} {o o' : HO}
theorem Ws.at_ (W : Ws A B0 H0 B H O) (i : Nat) (h : O[i]? = some (p, o)) : H p = some o := (W.own _ (List.mem_of_getElem? h)).1
theorem Ws.bn (W : Ws A B0 H0 B H O) (i : Nat) (h : O[i]? = some (p, o)) : B p = none := (W.own _ (List.mem_of_getElem? h)).2.1
theorem Ws.old (W : Ws A B0 H0 B H O) (h : H p = none) : H0 p = none := by
  cases e : H0 p with
  | none => rfl
  | some u =>
    obtain ⟨o', h'⟩ := W.al p u e
    rw [h] at h'
    cases h'
/-- a new thing that stays as it is -/
theorem Ws.np (W : Ws A B0 H0 B H O) (h : H p = none) (o : HO) : Ws A B0 H0 (upd B p o) (upd H p o) O := by
  have hb : B p = none := W.le.free h
  have h0 : ∀ a u, H0 a = some u → a ≠ p := fun a u e z => by rw [z, W.old h] at e; cases e
  refine ⟨fun a u e => ?_, fun q hq => ?_, W.nd, W.bb.tr (Le.new hb), fun a u e n => by rw [upd_ne (h0 a u e)]; exact W.fr a u e n, fun a u e => by rw [upd_ne (h0 a u e)]; exact W.al a u e, fun a u e n => by rw [upd_ne (h0 a u e)]; exact W.no a u e n⟩
  · by_cases z : a = p
    · subst z; rw [upd_same] at e ⊢; exact ⟨u, e, rfl⟩
    · rw [upd_ne z] at e ⊢; exact W.le a u e
  · obtain ⟨h1, h2, h3⟩ := W.own q hq
    have z : q.1 ≠ p := ne_of_none h1 h
    rw [upd_ne z, upd_ne z]
    exact ⟨h1, h2, h3⟩
/-- a new thing of one's own -/
theorem Ws.nw (W : Ws A B0 H0 B H O) (h : H p = none) (o : HO) : Ws A B0 H0 B (upd H p o) (O ++ [(p, o)]) := by
  have hb : B p = none := W.le.free h
  have h0 : ∀ a u, H0 a = some u → a ≠ p := fun a u e z => by rw [z, W.old h] at e; cases e
  refine ⟨fun a u e => by rw [upd_ne (ne_of_none e hb)]; exact W.le a u e, fun q hq => ?_, ?_, W.bb, fun a u e n => by rw [upd_ne (h0 a u e)]; exact W.fr a u e n, fun a u e => by rw [upd_ne (h0 a u e)]; exact W.al a u e, W.no⟩
  · rcases List.mem_append.mp hq with hq | hq
    · obtain ⟨h1, h2, h3⟩ := W.own q hq
      rw [upd_ne (ne_of_none h1 h)]
      exact ⟨h1, h2, h3⟩
    · have e : q = (p, o) := by simpa using hq
      subst e
      exact ⟨upd_same, hb, .inr (W.old h)⟩
  · rw [List.map_append, List.nodup_append]
    refine ⟨W.nd, by simp, fun a ha b hb' z => ?_⟩
    obtain ⟨q, hq, rfl⟩ := List.mem_map.mp ha
    have e : b = p := by simpa using hb'
    have := (W.own q hq).1
    rw [z, e, h] at this
    cases this
/-- one of one's own is changed -/
theorem Ws.set (W : Ws A B0 H0 B H O) (i : Nat) (h : O[i]? = some (p, o)) (o' : HO) : Ws A B0 H0 B (upd H p o') (O.set i (p, o')) := by
  obtain ⟨hi, hg⟩ := List.getElem?_eq_some_iff.mp h
  have hp := W.own _ (List.mem_of_getElem? h)
  have nd' : ((O.set i (p, o')).map (·.1)).Nodup := by
    have e : (O.set i (p, o')).map (·.1) = O.map (·.1) := by
      rw [List.map_set]
      refine List.ext_getElem? fun j => ?_
      by_cases z : i = j
      · subst z
        rw [List.getElem?_set_self (by simpa using hi), List.getElem?_map, h]
        rfl
      · rw [List.getElem?_set_ne z]
    rw [e]
    exact W.nd
  refine ⟨fun a u e => by rw [upd_ne (ne_of_none e hp.2.1)]; exact W.le a u e, fun q hq => ?_, nd', W.bb, fun a u e n => ?_, fun a u e => ?_, W.no⟩
  · obtain ⟨j, hj, e⟩ := List.getElem_of_mem hq
    have hj' : j < O.length := by simpa using hj
    by_cases z : i = j
    · subst z
      rw [List.getElem_set_self] at e
      subst e
      exact ⟨upd_same, hp.2.1, hp.2.2⟩
    · rw [List.getElem_set_ne z] at e
      have hm : q ∈ O := by rw [← e]; exact List.getElem_mem hj'
      have ne : q.1 ≠ p := by
        intro y
        apply z
        have h1 : (O.map (·.1))[i]? = some p := by rw [List.getElem?_map, h]; rfl
        have h2 : (O.map (·.1))[j]? = some p := by rw [List.getElem?_map, List.getElem?_eq_getElem hj', e, ← y]; rfl
        exact nd_ix W.nd h1 h2
      obtain ⟨h1, h2, h3⟩ := W.own q hm
      rw [upd_ne ne]
      exact ⟨h1, h2, h3⟩
  · by_cases z : a = p
    · subst z
      rcases hp.2.2 with m | m
      · exact absurd m n
      · rw [m] at e; cases e
    · rw [upd_ne z]; exact W.fr a u e n
  · by_cases z : a = p
    · subst z; exact ⟨o', upd_same⟩
    · rw [upd_ne z]; exact W.al a u e
/-- one of one's own made when the def began is let stay as it is -/
theorem Ws.fz (W : Ws A B0 H0 B H O) (i : Nat) (h : O[i]? = some (p, o)) (hn : H0 p = none) : Ws A B0 H0 (upd B p o) H (O.eraseIdx i) ∧ Le B (upd B p o) := by
  have hp := W.own _ (List.mem_of_getElem? h)
  refine ⟨⟨fun a u e => ?_, fun q hq => ?_, ?_, W.bb.tr (Le.new hp.2.1), W.fr, W.al, fun a u e n => ?_⟩, Le.new hp.2.1⟩
  · by_cases z : a = p
    · subst z; rw [upd_same] at e; cases e; exact ⟨o, hp.1, rfl⟩
    · rw [upd_ne z] at e; exact W.le a u e
  · have hm : q ∈ O := List.mem_of_mem_eraseIdx hq
    have ne : q.1 ≠ p := by
      intro y
      obtain ⟨j, hj, e1, e2⟩ := List.mem_eraseIdx_iff_getElem.mp hq
      have h1 : (O.map (·.1))[i]? = some p := by rw [List.getElem?_map, h]; rfl
      have h2 : (O.map (·.1))[j]? = some p := by rw [List.getElem?_map, List.getElem?_eq_getElem hj, e2, ← y]; rfl
      exact e1 (nd_ix W.nd h2 h1)
    obtain ⟨h1, h2, h3⟩ := W.own q hm
    rw [upd_ne ne]
    exact ⟨h1, h2, h3⟩
  · have e2 : (O.eraseIdx i).map (·.1) = (O.map (·.1)).eraseIdx i := erase_map O i
    rw [e2]
    exact W.nd.sublist (List.eraseIdx_sublist _ _)
  · have z : a ≠ p := fun z => by rw [z, hn] at e; cases e
    rw [upd_ne z]
    exact W.no a u e n
/-- .. is forgotten -/
theorem Ws.drop (W : Ws A B0 H0 B H O) (i : Nat) : Ws A B0 H0 B H (O.eraseIdx i) :=
  ⟨W.le, fun q hq => W.own q (List.mem_of_mem_eraseIdx hq), by
    have e2 : (O.eraseIdx i).map (·.1) = (O.map (·.1)).eraseIdx i := erase_map O i
    rw [e2]
    exact W.nd.sublist (List.eraseIdx_sublist _ _), W.bb, W.fr, W.al, W.no⟩
/-- the state at a def's entry, from the caller's -/
theorem Ws.call (W : Ws A B0 H0 B H (O1 ++ O ++ O2)) : Ws (O.map (·.1)) B H B H O := by
  have hs : ∀ p ∈ O, p ∈ O1 ++ O ++ O2 := fun p hp => List.mem_append_left _ (List.mem_append_right _ hp)
  refine ⟨W.le, fun p hp => ⟨(W.own p (hs p hp)).1, (W.own p (hs p hp)).2.1, .inl (List.mem_map.mpr ⟨p, hp, rfl⟩)⟩, ?_, Le.refl _, fun _ _ e _ => e, fun a u e => ⟨u, e⟩, fun _ _ _ n => n⟩
  have := W.nd
  rw [List.map_append, List.map_append] at this
  exact (List.nodup_append.mp (List.nodup_append.mp this).1).2.1
/-- .. and behind the call -/
theorem Ws.back {B' H' : Hp} {O' : List (Addr × HO)} (W : Ws A B0 H0 B H (O1 ++ O ++ O2)) (V : Ws (O.map (·.1)) B H B' H' O') : Ws A B0 H0 B' H' (O1 ++ O' ++ O2) := by
  have nd := W.nd
  rw [List.map_append, List.map_append] at nd
  obtain ⟨n12, n2, n3⟩ := List.nodup_append.mp nd
  obtain ⟨n1, nO, n4⟩ := List.nodup_append.mp n12
  have other : ∀ p ∈ O1 ++ O2, p ∈ O1 ++ O ++ O2 ∧ p.1 ∉ O.map (·.1) := fun p hp => by
    rcases List.mem_append.mp hp with m | m
    · exact ⟨List.mem_append_left _ (List.mem_append_left _ m), fun z => n4 p.1 (List.mem_map.mpr ⟨p, m, rfl⟩) _ z rfl⟩
    · exact ⟨List.mem_append_right _ m, fun z => n3 p.1 (List.mem_append_right _ z) p.1 (List.mem_map.mpr ⟨p, m, rfl⟩) rfl⟩
  have stay : ∀ p ∈ O1 ++ O2, H' p.1 = some p.2 ∧ B' p.1 = none ∧ (p.1 ∈ A ∨ H0 p.1 = none) := fun p hp => by
    obtain ⟨m, n⟩ := other p hp
    obtain ⟨h1, h2, h3⟩ := W.own p m
    exact ⟨V.fr _ _ h1 n, V.no _ _ h1 h2, h3⟩
  have inA : ∀ a, a ∈ O.map (·.1) → a ∈ A ∨ H0 a = none := fun a ha => by
    obtain ⟨p, hp, rfl⟩ := List.mem_map.mp ha
    exact (W.own p (List.mem_append_left _ (List.mem_append_right _ hp))).2.2
  have fresh : ∀ p ∈ O', p.1 ∈ O.map (·.1) ∨ H p.1 = none := fun p hp => (V.own p hp).2.2
  refine ⟨V.le, fun p hp => ?_, ?_, W.bb.tr V.bb, fun a u e n => ?_, fun a u e => ?_, fun a u e n => ?_⟩
  · rcases List.mem_append.mp hp with hp | hp
    · rcases List.mem_append.mp hp with hp | hp
      · exact stay p (List.mem_append_left _ hp)
      · obtain ⟨h1, h2, h3⟩ := V.own p hp
        refine ⟨h1, h2, ?_⟩
        rcases h3 with m | m
        · exact inA _ m
        · exact .inr (W.old m)
    · exact stay p (List.mem_append_right _ hp)
  · have apart : ∀ p ∈ O1 ++ O2, ∀ q ∈ O', p.1 ≠ q.1 := fun p hp q hq z => by
      obtain ⟨m, n⟩ := other p hp
      rcases fresh q hq with k | k
      · exact n (by rw [z]; exact k)
      · have := (W.own p m).1
        rw [z, k] at this
        cases this
    rw [List.map_append, List.map_append, List.nodup_append]
    refine ⟨List.nodup_append.mpr ⟨n1, V.nd, fun a ha b hb z => ?_⟩, n2, fun a ha b hb z => ?_⟩
    · obtain ⟨p, hp, rfl⟩ := List.mem_map.mp ha
      obtain ⟨q, hq, rfl⟩ := List.mem_map.mp hb
      exact apart p (List.mem_append_left _ hp) q hq z
    · obtain ⟨q, hq, rfl⟩ := List.mem_map.mp hb
      rcases List.mem_append.mp ha with ha | ha
      · exact n3 a (List.mem_append_left _ ha) q.1 (List.mem_map.mpr ⟨q, hq, rfl⟩) z
      · obtain ⟨p, hp, rfl⟩ := List.mem_map.mp ha
        exact apart q (List.mem_append_right _ hq) p hp z.symm
  · by_cases m : a ∈ O.map (·.1)
    · rcases inA a m with k | k
      · exact absurd k n
      · rw [k] at e; cases e
    · exact V.fr a u (W.fr a u e n) m
  · obtain ⟨o1, e1⟩ := W.al a u e
    exact V.al a o1 e1
  · obtain ⟨o1, e1⟩ := W.al a u e
    exact V.no a o1 e1 (W.no a u e n)
end
end Pv

namespace Pv
open PySem L2

/-! ### readings under names (so that a goal's parts are told apart) -/
def rdLen (K : PySem.W.Frag) : List V → Hp → VK → Prop := fun xs H Q => ∃ p ys, xs = [.ref p] ∧ (SqL K H p ys ∨ SqT K H p ys) ∧ Q (.int ys.length) H
def rdLenS : List V → Hp → VK → Prop := fun xs H Q => ∃ z, xs = [.str z] ∧ z.length ≤ sizeLine ∧ Q (.int z.length) H
def rdList (K : PySem.W.Frag) : List V → Hp → VK → Prop := fun xs H Q => ∃ p ys, xs = [.ref p] ∧ (SqL K H p ys ∨ SqT K H p ys) ∧ ∀ l, H l = none → Q (.ref l) (upd H l (.lst ys))
def rdTup (K : PySem.W.Frag) : List V → Hp → VK → Prop := fun xs H Q => ∃ p ys, xs = [.ref p] ∧ ((SqL K H p ys ∧ ∀ l, H l = none → Q (.ref l) (upd H l (.tup ys))) ∨ (SqT K H p ys ∧ Q (.ref p) H))
def rdInt : List V → Hp → VK → Prop := fun xs H Q => (∃ i, xs = [.int i] ∧ Q (.int i) H) ∨ ∃ k, xs = [.bl k] ∧ Q (.int (if k then 1 else 0)) H
def rdIntS : List V → Hp → VK → Prop := fun xs H Q => ∃ a n, xs = [.str a] ∧ PySem.intText? a = some n ∧ a.length ≤ 640 ∧ Q (.int n) H
def rdStrI : List V → Hp → VK → Prop := fun xs H Q => ∃ i, xs = [.int i] ∧ i.natAbs.log2 < 1920 ∧ Q (.str (toString i)) H
def rdMin : List V → Hp → VK → Prop := fun xs H Q => ∃ i j, xs = [.int i, .int j] ∧ Q (.int (if j < i then j else i)) H
def rdMax : List V → Hp → VK → Prop := fun xs H Q => ∃ i j, xs = [.int i, .int j] ∧ Q (.int (if j > i then j else i)) H
def rdAbs : List V → Hp → VK → Prop := fun xs H Q => ∃ i, xs = [.int i] ∧ Q (.int (if i < 0 then -i else i)) H
def rdSplit : V → List V → Hp → VK → Prop := fun x xs H Q => ∃ a b, x = .str a ∧ xs = [.str b] ∧ (b.length == 0) = false ∧ a.length + 2 ≤ sizeLine ∧ rNewStrs (Txt.split a b) H Q
def rdJoin (K : PySem.W.Frag) : V → List V → Hp → VK → Prop := fun x xs H Q => ∃ a p, ∃ ys : List Str, x = .str a ∧ xs = [.ref p] ∧ (SqL K H p (ys.map V.str) ∨ SqT K H p (ys.map V.str)) ∧ (ys.map (·.length)).sum + ys.length * a.length ≤ 16777216 ∧ Q (.str (Txt.join a ys)) H
def rdStarts : V → List V → Hp → VK → Prop := fun x xs H Q => ∃ a b, x = .str a ∧ xs = [.str b] ∧ Q (.bl (Txt.startswith a b)) H
def rdIns : V → List V → Hp → VK → Prop := fun x vs H Q => ∃ (l : Addr) (xs : List V) (i : Int) (y : V), x = .ref l ∧ vs = [.int i, y] ∧ H l = some (.lst xs) ∧ xs.length < sizeLine ∧ 0 ≤ i ∧ i < 2 ^ 63 ∧
    Q .non (upd H l (.lst (xs.take i.toNat ++ [y] ++ xs.drop i.toNat)))
def rdAddS : R2 := fun x y H Q => ∃ i j, x = .str i ∧ y = .str j ∧ i.length + j.length ≤ sizeLine ∧ Q (.str (i ++ j)) H
section
variable {X : Cx} {K : PySem.W.Frag}
theorem k_len (hK : X.K = K := by rfl) : CallR X (.builtin "len") (rdLen K) := by subst hK; exact call_len_seq
theorem k_lenS : CallR X (.builtin "len") rdLenS := call_len_str
theorem k_list (hK : X.K = K := by rfl) : CallR X (.type "list") (rdList K) := by subst hK; exact call_list_of
theorem k_tup (hK : X.K = K := by rfl) : CallR X (.type "tuple") (rdTup K) := by subst hK; exact call_tuple_of
theorem k_int : CallR X (.type "int") rdInt := call_int1
theorem k_intS : CallR X (.type "int") rdIntS := call_int_str
theorem k_strI : CallR X (.type "str") rdStrI := call_str_int
theorem k_min (hc : X.calm = true) : CallR X (.builtin "min") rdMin := call_min2 hc
theorem k_max (hc : X.calm = true) : CallR X (.builtin "max") rdMax := call_max2 hc
theorem k_abs : CallR X (.builtin "abs") rdAbs := call_abs
theorem k_all (hc : X.calm = true) (hK : X.K = K := by rfl) : CallR X (.builtin "all") (rAll K) := by subst hK; exact cr_all hc
theorem k_any (hc : X.calm = true) (hK : X.K = K := by rfl) : CallR X (.builtin "any") (rAny K) := by subst hK; exact cr_any hc
theorem k_ins : MtR X "list.insert" rdIns := mt_insert
theorem k_split : MtR X "str.split" rdSplit := mt_split
theorem k_join (hK : X.K = K := by rfl) : MtR X "str.join" (rdJoin K) := by subst hK; exact mt_join
theorem k_starts : MtR X "str.startswith" rdStarts := mt_startswith
theorem k_addS : OpR X (binaryOp .Add) rdAddS := op_add_str
theorem k_ixL (hK : X.K = K := by rfl) : IxR X (rIxL K) := by subst hK; exact ix_list
theorem k_ixT (hK : X.K = K := by rfl) : IxR X (rIxT K) := by subst hK; exact ix_tup
theorem k_slL (hK : X.K = K := by rfl) : SlR X (rSlL K) := by subst hK; exact sl_list
theorem k_slT (hK : X.K = K := by rfl) : SlR X (rSlT K) := by subst hK; exact sl_tup
theorem k_in (hK : X.K = K := by rfl) : OpR X (compareOp .In) (rIn K false) := by subst hK; exact op_in_seq
theorem k_nin (hK : X.K = K := by rfl) : OpR X (compareOp .NotIn) (rIn K true) := by subst hK; exact op_notIn_seq
theorem k_eqD (hu : X.A.units + 64 < cLine) (hK : X.K = K := by rfl) : OpR X (compareOp .Eq) (rEqD K) := by subst hK; exact op_eqD hu
theorem k_neD (hu : X.A.units + 64 < cLine) (hK : X.K = K := by rfl) : OpR X (compareOp .NotEq) (rNeD K) := by subst hK; exact op_neD hu
theorem k_inD (hu : X.A.units + 65 < cLine) (hK : X.K = K := by rfl) : OpR X (compareOp .In) (rInD K) := by subst hK; exact op_inD hu
theorem k_ninD (hu : X.A.units + 65 < cLine) (hK : X.K = K := by rfl) : OpR X (compareOp .NotIn) (rNotInD K) := by subst hK; exact op_notInD hu
theorem k_catT (hK : X.K = K := by rfl) : OpR X (binaryOp .Add) (rCatT K) := by subst hK; exact op_catT
theorem k_gtup {es : List Expr} {k : Nat} {t : TGs} {n : Nat} {pos : Pos} (hc : X.calm = true) (h : PGs X es t) (hn : (assignEach es X.env).length = n := by rfl) (hst : (assignEach es X.env).findIdx? (·.1) = none := by rfl) (hK : X.K = K := by rfl) : PG X (.Tuple es k pos) (gTup K n t) := by
  subst hK; exact pg_tup hc h hn hst
theorem k_pil {tg l : Expr} {tl : TE} (hl : PE X l tl) (hK : X.K = K := by rfl) : PI X tg l (iList K tl) := by subst hK; exact pi_list hl
theorem k_pit {tg l : Expr} {tl : TE} (hl : PE X l tl) (hK : X.K = K := by rfl) : PI X tg l (iTup K tl) := by subst hK; exact pi_tup hl
theorem k_pie {e : Expr} {ta : TA} {p pos tpos : Pos} {elts : List Expr} {kk : Nat} (hg : Gl X "enumerate") (hm : X.mg "enumerate" = none) (ha : PA X [e] ta) (hs : starEach [e] X.env = [(false, eval e X.env)] := by rfl) (hK : X.K = K := by rfl) :
    PI X (.Tuple elts kk tpos) (.Call (.Name "enumerate" p) [e] [] pos) (iEnum K ta) := by subst hK; exact pi_enum hg hm ha hs
theorem k_piz {e e2 : Expr} {ta : TA} {p pos tpos : Pos} {elts : List Expr} {kk : Nat} (hg : Gl X "zip") (hm : X.mg "zip" = none) (ha : PA X [e, e2] ta)
    (hs : starEach [e, e2] X.env = (false, eval e X.env) :: starEach [e2] X.env := by rfl) (hpl : (backTo pos (starEach [e2] X.env)).any (·.1) = false := by rfl) (hK : X.K = K := by rfl) :
    PI X (.Tuple elts kk tpos) (.Call (.Name "zip" p) [e, e2] [] pos) (iZip K ta) := by subst hK; exact pi_zip hg hm ha hs hpl
theorem k_bm0 {T id : String} {name : Str} {r : V → List V → Hp → VK → Prop} {o : Expr} {to : TE} {apos cpos : Pos} (pa : PlainAttrs T) (slot : Slot T name id) (hty : typeOf (.builtin id) = pure (.type "method_descriptor")) (hm : MtR X id r) (ho : PE X o to)
    (hbase : attributeBase o name X.env (eval o X.env) = eval o X.env := by rfl) (hline : (apos.endLine == cpos.line) = true := by rfl) (hK : X.K = K := by rfl) : PE X (.Call (.Attribute o name apos) [] [] cpos) (tBM0 K T r to) := by
  subst hK; exact pe_bm0 pa slot hty hm ho hbase hline
theorem k_bm {T id : String} {name : Str} {r : V → List V → Hp → VK → Prop} {o e : Expr} {es : List Expr} {to : TE} {t : TA} {apos cpos : Pos} (pa : PlainAttrs T) (slot : Slot T name id) (hty : typeOf (.builtin id) = pure (.type "method_descriptor")) (hm : MtR X id r) (ho : PE X o to) (ha : PA X (e :: es) t)
    (hbase : attributeBase o name X.env (eval o X.env) = eval o X.env := by rfl)
    (hfew : ((backTo cpos (starEach (e :: es) X.env)).all (fun x => !x.1) && (backToKw cpos (keywordEach [] X.env)).all (fun x => x.1.isSome)
      && decide ((e :: es).length + ([] : List Keyword).length + (if ([] : List Keyword).isEmpty then 0 else 1) < 30)) = true := by rfl)
    (hline : (apos.endLine == cpos.line) = true := by rfl) (hs : starEach (e :: es) X.env = (false, eval e X.env) :: starEach es X.env := by rfl) (hplain : (backTo cpos (starEach es X.env)).any (·.1) = false := by rfl) (hK : X.K = K := by rfl) :
    PE X (.Call (.Attribute o name apos) (e :: es) [] cpos) (tBM K T r to t) := by
  subst hK; exact pe_bm pa slot hty hm ho ha hbase hfew hline hs hplain
theorem units65 {k : Nat} {A : Around} (r : Room k A) : A.units + 65 < cLine := by have := r.un; omega
end

/-- a display's end -/
def MkLs (Q : VK) : List V → Hp → Prop := fun xs H1 => xs.length ≤ sizeLine ∧ ∀ p, H1 p = none → Q (.ref p) (upd H1 p (.lst xs))
def MkTs (Q : VK) : List V → Hp → Prop := fun xs H1 => xs.length ≤ sizeLine ∧ ∀ p, H1 p = none → Q (.ref p) (upd H1 p (.tup xs))

/-! ### one step of a reading -/
section
variable {σ : L2.St} {H : Hp} {Q : VK} {D : Ends} {ta tb te to : TE} {t u : TS} {tt : TT} {tA : TA} {K : PySem.W.Frag} {v w : V} {a b : Int}
theorem seq_ (h : t { D with nx := u D } σ H) : tSeq t u D σ H := h
theorem var_ {i : Nat} (e : σ[i]? = some (some v)) (k : Q v H) : tVar i σ H Q := ⟨v, e, k⟩
theorem cst_ (k : Q v H) : tC v σ H Q := k
theorem op_ {r : R2} (h : ta σ H fun x H1 => tb σ H1 fun y H2 => r x y H2 Q) : tOp r ta tb σ H Q := h
theorem un_ {r : V → Hp → VK → Prop} (h : ta σ H fun x H1 => r x H1 Q) : tUn r ta σ H Q := h
theorem tst_ {Q : Bool → Hp → Prop} (h : te σ H fun x H' => ∃ k, x = .bl k ∧ Q k H') : tTest te σ H Q := h
theorem tB_ {Q : Bool → Hp → Prop} (h : te σ H fun x H' => ∃ k, x = .bl k ∧ Q k H') : tB te σ H Q := h
theorem bl_ {Q : Bool → Hp → Prop} {k : Bool} (h : Q k H) : ∃ c, V.bl k = .bl c ∧ Q c H := ⟨k, rfl, h⟩
theorem tnot_ {Q : Bool → Hp → Prop} (h : tt σ H fun c H1 => Q (!c) H1) : tNot tt σ H Q := h
theorem tnil_ {Q : List V → Hp → Prop} (h : Q [] H) : tNil σ H Q := h
theorem tcons_ {Q : List V → Hp → Prop} (h : ta σ H fun x H1 => tA σ H1 fun xs H2 => Q (x :: xs) H2) : tCons ta tA σ H Q := h
theorem cb_ {r : List V → Hp → VK → Prop} (h : tA σ H fun vs H1 => r vs H1 Q) : tCB r tA σ H Q := h
theorem call_ {sp : Sp} {E : XK} (h : tA σ H fun vs H1 => sp (vs ++ []) H1 Q E) : tCall sp [] E tA σ H Q := h
theorem lst_ (h : tA σ H (MkLs Q)) : tLst tA σ H Q := h
theorem tup_ (h : tA σ H (MkTs Q)) : tTup tA σ H Q := h
theorem bm0_ {T : String} {r : V → List V → Hp → VK → Prop} (h : to σ H fun x H1 => tyV K T x H1 ∧ r x [] H1 Q) : tBM0 K T r to σ H Q := h
theorem bm_ {T : String} {r : V → List V → Hp → VK → Prop} (h : to σ H fun x H1 => tyV K T x H1 ∧ tA σ H1 fun xs H2 => r x xs H2 Q) : tBM K T r to tA σ H Q := h
theorem m0_ {r : V → List V → Hp → VK → Prop} (h : to σ H fun x H1 => (∃ a, x = .str a) ∧ r x [] H1 Q) : tM0 r to σ H Q := h
theorem m1_ {r : V → List V → Hp → VK → Prop} (h : to σ H fun x H1 => (∃ a, x = .str a) ∧ te σ H1 fun y H2 => r x [y] H2 Q) : tM1 r to te σ H Q := h
theorem isS_ {x : Str} {P : Prop} (h : P) : (∃ a, V.str x = .str a) ∧ P := ⟨⟨x, rfl⟩, h⟩
theorem sl_ {r : V → Option Int → Option Int → Hp → VK → Prop} {tl th : TO} (h : te σ H fun x H1 => tl σ H1 fun l H2 => th σ H2 fun u H3 => r x l u H3 Q) : tSl r te tl th σ H Q := h
theorem part_ {Q : Option Int → Hp → Prop} (h : te σ H fun x H1 => ∃ i, x = .int i ∧ Q (some i) H1) : tPart te σ H Q := h
theorem parti_ {Q : Option Int → Hp → Prop} {i : Int} (h : Q (some i) H) : ∃ j, V.int i = .int j ∧ Q (some j) H := ⟨i, rfl, h⟩
theorem nopart_ {Q : Option Int → Hp → Prop} (h : Q none H) : tNoPart σ H Q := h
theorem asg_ {g : TG} (h : te σ H fun x H1 => g x σ H1 D.nx) : tAsg te g D σ H := h
theorem aug_ {i : Nat} {ti : TIp} (e : σ[i]? = some (some v)) (h : te σ H fun y H1 => ti v y H1 fun z H2 => D.nx (σ.set i (some z)) H2) : tAug i te ti D σ H := ⟨v, e, h⟩
theorem drop_ (h : te σ H fun _ H1 => D.nx σ H1) : tDrop te D σ H := h
theorem ret_ (h : te σ H D.rt) : tRet te D σ H := h
theorem retN_ (h : D.rt .non H) : tRetN D σ H := h
theorem nx_ {nx : L2.St → Hp → Prop} {rt : VK} {bk ct : L2.St → Hp → Prop} (h : nx σ H) : (Ends.mk nx rt bk ct).nx σ H := h
theorem rt_ {nx : L2.St → Hp → Prop} {rt : VK} {bk ct : L2.St → Hp → Prop} (h : rt v H) : (Ends.mk nx rt bk ct).rt v H := h
theorem bk_ {nx : L2.St → Hp → Prop} {rt : VK} {bk ct : L2.St → Hp → Prop} (h : bk σ H) : (Ends.mk nx rt bk ct).bk σ H := h
theorem ct_ {nx : L2.St → Hp → Prop} {rt : VK} {bk ct : L2.St → Hp → Prop} (h : ct σ H) : (Ends.mk nx rt bk ct).ct σ H := h
theorem next_ (h : D.nx σ H) : tNext D σ H := h
theorem brk_ (h : D.bk σ H) : tBreak D σ H := h
theorem cnt_ (h : D.ct σ H) : tCont D σ H := h
theorem cut_ (J : L2.St → Hp → Prop) (h : t { D with nx := J } σ H) (k : ∀ σ' H', J σ' H' → u D σ' H') : C8.tCut t u D σ H := ⟨J, h, k⟩
theorem gset_ {i : Nat} {σ' : L2.St} {Q : L2.St → Hp → Prop} (e : σ.set i (some v) = σ') (k : Q σ' H) : gName i v σ H Q := by
  subst e
  exact k
theorem st_ {σ' : L2.St} (e : σ = σ') (k : t D σ' H) : t D σ H := by
  subst e
  exact k
/-- the stored value under another name -/
theorem gas_ {i : Nat} {σ' : L2.St} {Q : L2.St → Hp → Prop} (w : V) (e : v = w) (e' : σ.set i (some w) = σ') (k : Q σ' H) : gName i v σ H Q := by
  subst e
  subst e'
  exact k
theorem qe {Q : Bool → Hp → Prop} {x y : Bool} (e : x = y) (k : Q y H) : Q x H := e ▸ k
theorem andT {x y : Bool} (h : x = true) : y = (x && y) := by rw [h]; rfl
theorem andF {x y : Bool} (h : x = false) : false = (x && y) := by rw [h]; rfl
theorem orT {x y : Bool} (h : x = true) : true = (x || y) := by rw [h]; rfl
theorem orF {x y : Bool} (h : x = false) : y = (x || y) := by rw [h]; rfl
theorem opT {α : Type} {c : Bool} {x y : Option α} {r : α} (e : c = true) (h : (if c = true then x else y) = some r) : x = some r := by rw [if_pos e] at h; exact h
theorem opF {α : Type} {c : Bool} {x y : Option α} {r : α} (e : c = false) (h : (if c = true then x else y) = some r) : y = some r := by rw [e] at h; exact h
theorem gnil_ {Q : L2.St → Hp → Prop} (k : Q σ H) : gNil [] σ H Q := ⟨rfl, k⟩
theorem gcons_ {g : TG} {gs : TGs} {vs : List V} {Q : L2.St → Hp → Prop} (k : g v σ H fun σ' H' => gs vs σ' H' Q) : gCons g gs (v :: vs) σ H Q := ⟨v, vs, rfl, k⟩
/-- a test: what it comes to, said once; then the two ways -/
theorem if_ {tc : TT} (J : Bool → Hp → Prop) (h : ∀ Q', (∀ c H', J c H' → Q' c H') → tc σ H Q') (kt : ∀ H', J true H' → t D σ H') (kf : ∀ H', J false H' → u D σ H') : tIfS tc t u D σ H :=
  h _ fun c H' j => by
    cases c with
    | true => exact ifT rfl (kt H' j)
    | false => exact ifF rfl (kf H' j)
/-- .. of one comparison that makes nothing -/
theorem if1_ {tc : TT} (c : Bool) (h : ∀ Q' : Bool → Hp → Prop, Q' c H → tc σ H Q') (kt : c = true → t D σ H) (kf : c = false → u D σ H) : tIfS tc t u D σ H :=
  h _ (by
    cases e : c with
    | true => exact ifT rfl (kt e)
    | false => exact ifF rfl (kf e))
theorem ife_ {tc : TT} (J : Bool → Hp → Prop) (h : ∀ Q', (∀ c H', J c H' → Q' c H') → tc σ H Q') (kt : ∀ H', J true H' → ta σ H' Q) (kf : ∀ H', J false H' → tb σ H' Q) : tIf tc ta tb σ H Q :=
  h _ fun c H' j => by
    cases c with
    | true => exact ifT rfl (kt H' j)
    | false => exact ifF rfl (kf H' j)
/-- an expression: what it comes to, said once -/
theorem ex_ (J : V → Hp → Prop) (h : ∀ Q', (∀ v H', J v H' → Q' v H') → te σ H Q') (k : ∀ v H', J v H' → Q v H') : te σ H Q := h Q k
theorem tx_ {tc : TT} {Q : Bool → Hp → Prop} (J : Bool → Hp → Prop) (h : ∀ Q', (∀ v H', J v H' → Q' v H') → tc σ H Q') (k : ∀ v H', J v H' → Q v H') : tc σ H Q := h Q k
theorem yes_ {Q : Bool → Hp → Prop} (h : Q true H) : tYes σ H Q := h
theorem tand_ {t u : TT} {Q : Bool → Hp → Prop} (h : t σ H fun c H1 => if c = true then u σ H1 Q else Q false H1) : tAnd t u σ H Q := h
theorem tor_ {t u : TT} {Q : Bool → Hp → Prop} (h : t σ H fun c H1 => if c = true then Q true H1 else u σ H1 Q) : tOr t u σ H Q := h
theorem tandV_ (h : ta σ H fun x H1 => ∃ c, x = .bl c ∧ if c = true then tb σ H1 Q else Q (.bl false) H1) : tAndV ta tb σ H Q := h
theorem torV_ (h : ta σ H fun x H1 => ∃ c, x = .bl c ∧ if c = true then Q (.bl true) H1 else tb σ H1 Q) : tOrV ta tb σ H Q := h
theorem tnotV_ (h : ta σ H fun x H1 => ∃ c, x = .bl c ∧ Q (.bl (!c)) H1) : tNotV ta σ H Q := h
theorem br_ {c : Bool} {A B : Prop} (kt : c = true → A) (kf : c = false → B) : if c = true then A else B := by
  cases e : c with
  | true => exact ifT rfl (kt e)
  | false => exact ifF rfl (kf e)

theorem if_neg' {α : Type} {c : Bool} {x y : α} (h : c = false) : (if c = true then x else y) = y := by rw [h]; rfl
theorem tchain_ {r r' : R2} {tc : TE} (h : ta σ H fun x H1 => tb σ H1 fun y H2 => r x y H2 fun z H3 => ∃ k, z = .bl k ∧ (if k = true then tc σ H3 fun w' H4 => r' y w' H4 Q else Q (.bl false) H3)) : tChain r r' ta tb tc σ H Q := h
theorem tisN_ (h : ta σ H fun x H1 => Q (.bl (decide (x = .non))) H1) : tIsN ta σ H Q := h
theorem tisNN_ (h : ta σ H fun x H1 => Q (.bl (!decide (x = .non))) H1) : tNotN ta σ H Q := h
theorem gsub_ {ti : TE} {ts : TSet} {Q : L2.St → Hp → Prop} (h : to σ H fun o H1 => ti σ H1 fun i H2 => ts o i v H2 fun H3 => Q σ H3) : gSub to ti ts v σ H Q := h
theorem augas_ {i : Nat} {σ' : L2.St} (w : V) (e : v = w) (e' : σ.set i (some w) = σ') (k : D.nx σ' H) : D.nx (σ.set i (some v)) H := by
  subst e
  subst e'
  exact k

/-! ### whole numbers, texts, None, truth -/
theorem i0_ {g : Int → Int → V} (k : Q (g a b) H) : rI0 g (.int a) (.int b) H Q := ⟨a, b, rfl, rfl, k⟩
theorem iC_ {C : Int → Int → Prop} {g : Int → Int → V} (hc : C a b) (k : Q (g a b) H) : rI C g (.int a) (.int b) H Q := ⟨a, b, rfl, rfl, hc, k⟩
theorem iU_ {g : Int → V} (k : Q (g a) H) : rU g (.int a) H Q := ⟨a, rfl, k⟩
theorem ipI_ {f : Int → Int → Int} (k : Q (.int (f a b)) H) : ipI f (.int a) (.int b) H Q := ⟨a, b, rfl, rfl, k⟩
theorem eqI_ (k : Q (.bl (decide (a = b))) H) : rEq (.int a) (.int b) H Q := ⟨rfl, by rw [show decide (V.int a = V.int b) = decide (a = b) from decide_eq_decide.mpr ⟨fun e => V.int.inj e, fun e => e ▸ rfl⟩]; exact k⟩
theorem neI_ (k : Q (.bl (!decide (a = b))) H) : rNe (.int a) (.int b) H Q := ⟨rfl, by rw [show decide (V.int a = V.int b) = decide (a = b) from decide_eq_decide.mpr ⟨fun e => V.int.inj e, fun e => e ▸ rfl⟩]; exact k⟩
theorem eqS_ {a b : Str} (k : Q (.bl (decide (a = b))) H) : rEq (.str a) (.str b) H Q := ⟨rfl, by rw [show decide (V.str a = V.str b) = decide (a = b) from decide_eq_decide.mpr ⟨fun e => V.str.inj e, fun e => e ▸ rfl⟩]; exact k⟩
theorem neS_ {a b : Str} (k : Q (.bl (!decide (a = b))) H) : rNe (.str a) (.str b) H Q := ⟨rfl, by rw [show decide (V.str a = V.str b) = decide (a = b) from decide_eq_decide.mpr ⟨fun e => V.str.inj e, fun e => e ▸ rfl⟩]; exact k⟩
theorem eqB_ {a b : Bool} (k : Q (.bl (decide (a = b))) H) : rEq (.bl a) (.bl b) H Q := ⟨rfl, by rw [show decide (V.bl a = V.bl b) = decide (a = b) from decide_eq_decide.mpr ⟨fun e => V.bl.inj e, fun e => e ▸ rfl⟩]; exact k⟩
theorem neB_ {a b : Bool} (k : Q (.bl (!decide (a = b))) H) : rNe (.bl a) (.bl b) H Q := ⟨rfl, by rw [show decide (V.bl a = V.bl b) = decide (a = b) from decide_eq_decide.mpr ⟨fun e => V.bl.inj e, fun e => e ▸ rfl⟩]; exact k⟩
theorem isN_ (k : Q (.bl (decide (v = .non))) H) (h : ta σ H fun x H1 => x = v ∧ H1 = H) : True := trivial
theorem addS_ {a b : Str} (hl : a.length + b.length ≤ sizeLine) (k : Q (.str (a ++ b)) H) : rdAddS (.str a) (.str b) H Q := ⟨a, b, rfl, rfl, hl, k⟩
theorem none_ {α : Type} [Rp α] [NN α] {B : Hp} {x : Option α} (r : Rp.R B v x) : decide (v = .non) = x.isNone := by
  cases x with
  | none => exact decide_eq_true r
  | some y => exact decide_eq_false (NN.ne (α := α) r)
theorem int_bl {k : Bool} (h : Q (.int (if k = true then 1 else 0)) H) : rdInt [V.bl k] H Q := .inr ⟨k, rfl, h⟩
theorem int_int {i : Int} (h : Q (.int i) H) : rdInt [V.int i] H Q := .inl ⟨i, rfl, h⟩
theorem min2_ (h : Q (.int (if b < a then b else a)) H) : rdMin [V.int a, V.int b] H Q := ⟨a, b, rfl, h⟩
theorem max2_ (h : Q (.int (if b > a then b else a)) H) : rdMax [V.int a, V.int b] H Q := ⟨a, b, rfl, h⟩
theorem abs_ (h : Q (.int (if a < 0 then -a else a)) H) : rdAbs [V.int a] H Q := ⟨a, rfl, h⟩
end

/-! ### lists and tuples -/
theorem Rs.atI {α : Type} [Rp α] {B : Hp} {l : List V} {xs : List α} {i : Int} {x : α} (r : Rs B l xs) (h : atI xs i = some x) : ∃ v, atI l i = some v ∧ Rp.R B v x := by
  unfold L2.atI at h ⊢
  rw [r.len]
  cases e : ixN xs.length i with
  | none => rw [e] at h; cases h
  | some j =>
    rw [e] at h
    exact r.get h
section
variable {α β γ δ : Type} [Rp α] [Rp β] [Rp γ] [Rp δ] {A : List Addr} {B0 H0 B H : Hp} {O : List (Addr × HO)} {Q : VK} {K : PySem.W.Frag} {v w z y : V} {vs l : List V} {xs : List α} {σ : L2.St} {D : Ends}
/-- a list made of parts, that stays -/
theorem mkL (W : Ws A B0 H0 B H O) (rs : Rs B vs xs) (hl : vs.length ≤ sizeLine) (k : ∀ v B' H', Ws A B0 H0 B' H' O → Le B B' → Rp.R B' v xs → Q v H') : MkLs Q vs H :=
  ⟨hl, fun p hp => k _ _ _ (W.np hp _) (Le.new (W.le.free hp)) ⟨p, vs, rfl, upd_same, hl, rs.mono (Le.new (W.le.free hp))⟩⟩
/-- .. of one's own -/
theorem mkO (W : Ws A B0 H0 B H O) (hl : vs.length ≤ sizeLine) (k : ∀ p H', H0 p = none → Ws A B0 H0 B H' (O ++ [(p, .lst vs)]) → Q (.ref p) H') : MkLs Q vs H :=
  ⟨hl, fun p hp => k p _ (W.old hp) (W.nw hp _)⟩
theorem newL (W : Ws A B0 H0 B H O) (rs : Rs B vs xs) (hl : vs.length ≤ sizeLine) (k : ∀ v B' H', Ws A B0 H0 B' H' O → Le B B' → Rp.R B' v xs → Q v H') : ∀ p, H p = none → Q (.ref p) (upd H p (.lst vs)) := (mkL W rs hl k).2
theorem newO (W : Ws A B0 H0 B H O) (k : ∀ p H', H0 p = none → Ws A B0 H0 B H' (O ++ [(p, .lst vs)]) → Q (.ref p) H') : ∀ p, H p = none → Q (.ref p) (upd H p (.lst vs)) := fun p hp => k p _ (W.old hp) (W.nw hp _)
theorem newV (W : Ws A B0 H0 B H O) (rs : Rs B vs xs) (hl : vs.length ≤ sizeLine) (k : ∀ v B' H', Ws A B0 H0 B' H' O → Le B B' → Rp.R B' v (TV.mk xs) → Q v H') : ∀ p, H p = none → Q (.ref p) (upd H p (.tup vs)) :=
  fun p hp => k _ _ _ (W.np hp _) (Le.new (W.le.free hp)) ⟨p, vs, rfl, upd_same, hl, rs.mono (Le.new (W.le.free hp))⟩
theorem mkV (W : Ws A B0 H0 B H O) (rs : Rs B vs xs) (hl : vs.length ≤ sizeLine) (k : ∀ v B' H', Ws A B0 H0 B' H' O → Le B B' → Rp.R B' v (TV.mk xs) → Q v H') : MkTs Q vs H := ⟨hl, newV W rs hl k⟩
theorem mk2 {x : α} {x2 : β} (W : Ws A B0 H0 B H O) (r : Rp.R B v x) (r2 : Rp.R B w x2) (k : ∀ v B' H', Ws A B0 H0 B' H' O → Le B B' → Rp.R B' v (x, x2) → Q v H') : MkTs Q [v, w] H :=
  ⟨by show 2 ≤ sizeLine; decide, fun p hp => k _ _ _ (W.np hp _) (Le.new (W.le.free hp)) ⟨p, v, w, rfl, upd_same, Rp.mono (Le.new (W.le.free hp)) r, Rp.mono (Le.new (W.le.free hp)) r2⟩⟩
theorem mk3 {x : α} {x2 : β} {x3 : γ} (W : Ws A B0 H0 B H O) (r : Rp.R B v x) (r2 : Rp.R B w x2) (r3 : Rp.R B z x3) (k : ∀ v B' H', Ws A B0 H0 B' H' O → Le B B' → Rp.R B' v (T3.mk x x2 x3) → Q v H') : MkTs Q [v, w, z] H :=
  ⟨by show 3 ≤ sizeLine; decide, fun p hp => k _ _ _ (W.np hp _) (Le.new (W.le.free hp)) ⟨p, v, w, z, rfl, upd_same, Rp.mono (Le.new (W.le.free hp)) r, Rp.mono (Le.new (W.le.free hp)) r2, Rp.mono (Le.new (W.le.free hp)) r3⟩⟩
theorem mk4 {x : α} {x2 : β} {x3 : γ} {x4 : δ} (W : Ws A B0 H0 B H O) (r : Rp.R B v x) (r2 : Rp.R B w x2) (r3 : Rp.R B z x3) (r4 : Rp.R B y x4) (k : ∀ v B' H', Ws A B0 H0 B' H' O → Le B B' → Rp.R B' v (T4.mk x x2 x3 x4) → Q v H') :
    MkTs Q [v, w, z, y] H :=
  ⟨by show 4 ≤ sizeLine; decide, fun p hp => k _ _ _ (W.np hp _) (Le.new (W.le.free hp)) ⟨p, v, w, z, y, rfl, upd_same, Rp.mono (Le.new (W.le.free hp)) r, Rp.mono (Le.new (W.le.free hp)) r2, Rp.mono (Le.new (W.le.free hp)) r3, Rp.mono (Le.new (W.le.free hp)) r4⟩⟩
/-- an item -/
theorem ixL_ {x : α} {i : Int} (W : Ws A B0 H0 B H O) (r : Rp.R B v xs) (h : atI xs i = some x) (k : ∀ w, Rp.R B w x → Q w H) : rIxL K v (.int i) H Q := by
  obtain ⟨a, l, rfl, h1, h2, h3⟩ := r
  obtain ⟨w, h4, h5⟩ := h3.atI h
  exact ⟨a, l, i, w, rfl, rfl, SqL.of (W.le.lst h1), h4, k w h5⟩
theorem ixLo_ {x : α} {i : Int} {a : Addr} (W : Ws A B0 H0 B H O) (n : Nat) (hn : O[n]? = some (a, .lst l)) (rs : Rs B l xs) (h : atI xs i = some x) (k : ∀ w, Rp.R B w x → Q w H) : rIxL K (.ref a) (.int i) H Q := by
  obtain ⟨w, h4, h5⟩ := rs.atI h
  exact ⟨a, l, i, w, rfl, rfl, SqL.of (W.at_ n hn), h4, k w h5⟩
theorem ixV_ {x : α} {t : TV α} {i : Int} (W : Ws A B0 H0 B H O) (r : Rp.R B v t) (h : atI t.l i = some x) (k : ∀ w, Rp.R B w x → Q w H) : rIxT K v (.int i) H Q := by
  obtain ⟨a, l, rfl, h1, h2, h3⟩ := r
  obtain ⟨w, h4, h5⟩ := h3.atI h
  exact ⟨a, l, i, w, rfl, rfl, SqT.of (W.le.tup h1), h4, k w h5⟩
theorem ixP0_ {t : α × β} (W : Ws A B0 H0 B H O) (r : Rp.R B v t) (k : ∀ w, Rp.R B w t.1 → Q w H) : rIxT K v (.int 0) H Q := by
  obtain ⟨a, u, w, rfl, h1, h2, h3⟩ := r
  exact ⟨a, _, 0, u, rfl, rfl, SqT.of (W.le.tup h1), rfl, k u h2⟩
theorem ixP1_ {t : α × β} (W : Ws A B0 H0 B H O) (r : Rp.R B v t) (k : ∀ w, Rp.R B w t.2 → Q w H) : rIxT K v (.int 1) H Q := by
  obtain ⟨a, u, w, rfl, h1, h2, h3⟩ := r
  exact ⟨a, _, 1, w, rfl, rfl, SqT.of (W.le.tup h1), rfl, k w h3⟩
theorem ixT0_ {t : T3 α β γ} (W : Ws A B0 H0 B H O) (r : Rp.R B v t) (k : ∀ w, Rp.R B w t.a → Q w H) : rIxT K v (.int 0) H Q := by
  obtain ⟨a, u, w, z, rfl, h1, h2, h3, h4⟩ := r
  exact ⟨a, _, 0, u, rfl, rfl, SqT.of (W.le.tup h1), rfl, k u h2⟩
theorem ixT1_ {t : T3 α β γ} (W : Ws A B0 H0 B H O) (r : Rp.R B v t) (k : ∀ w, Rp.R B w t.b → Q w H) : rIxT K v (.int 1) H Q := by
  obtain ⟨a, u, w, z, rfl, h1, h2, h3, h4⟩ := r
  exact ⟨a, _, 1, w, rfl, rfl, SqT.of (W.le.tup h1), rfl, k w h3⟩
theorem ixT2_ {t : T3 α β γ} (W : Ws A B0 H0 B H O) (r : Rp.R B v t) (k : ∀ w, Rp.R B w t.c → Q w H) : rIxT K v (.int 2) H Q := by
  obtain ⟨a, u, w, z, rfl, h1, h2, h3, h4⟩ := r
  exact ⟨a, _, 2, z, rfl, rfl, SqT.of (W.le.tup h1), rfl, k z h4⟩
theorem ixF0_ {t : T4 α β γ δ} (W : Ws A B0 H0 B H O) (r : Rp.R B v t) (k : ∀ w, Rp.R B w t.a → Q w H) : rIxT K v (.int 0) H Q := by
  obtain ⟨a, u, w, z, y, rfl, h1, h2, h3, h4, h5⟩ := r
  exact ⟨a, _, 0, u, rfl, rfl, SqT.of (W.le.tup h1), rfl, k u h2⟩
theorem ixF1_ {t : T4 α β γ δ} (W : Ws A B0 H0 B H O) (r : Rp.R B v t) (k : ∀ w, Rp.R B w t.b → Q w H) : rIxT K v (.int 1) H Q := by
  obtain ⟨a, u, w, z, y, rfl, h1, h2, h3, h4, h5⟩ := r
  exact ⟨a, _, 1, w, rfl, rfl, SqT.of (W.le.tup h1), rfl, k w h3⟩
theorem ixF2_ {t : T4 α β γ δ} (W : Ws A B0 H0 B H O) (r : Rp.R B v t) (k : ∀ w, Rp.R B w t.c → Q w H) : rIxT K v (.int 2) H Q := by
  obtain ⟨a, u, w, z, y, rfl, h1, h2, h3, h4, h5⟩ := r
  exact ⟨a, _, 2, z, rfl, rfl, SqT.of (W.le.tup h1), rfl, k z h4⟩
theorem ixF3_ {t : T4 α β γ δ} (W : Ws A B0 H0 B H O) (r : Rp.R B v t) (k : ∀ w, Rp.R B w t.d → Q w H) : rIxT K v (.int 3) H Q := by
  obtain ⟨a, u, w, z, y, rfl, h1, h2, h3, h4, h5⟩ := r
  exact ⟨a, _, 3, y, rfl, rfl, SqT.of (W.le.tup h1), rfl, k y h5⟩
/-- one sign of a text -/
def sAt (s : Str) (i : Int) : Option Str := if s.length ≤ sizeLine then (atI s.cps.toList i).map fun c => ⟨#[c]⟩ else none
theorem ixS_ {s x : Str} {i : Int} (h : sAt s i = some x) (k : Q (.str x) H) : rIxS (.str s) (.int i) H Q := by
  unfold sAt at h
  split at h
  · rename_i hl
    cases e : atI s.cps.toList i with
    | none => rw [e] at h; cases h
    | some c =>
      rw [e] at h
      have e2 : (⟨#[c]⟩ : Str) = x := Option.some.inj h
      subst e2
      exact ⟨s, i, c, rfl, rfl, hl, e, k⟩
  · cases h
/-- the script's cells -/
theorem ixC_ {s : Scr} {x : Int} {i : Int} (W : Ws A B0 H0 B H O) (r : RC K B v s) (h : atI s.l i = some x) (k : Q (.int x) H) : rIxL K v (.int i) H Q := by
  obtain ⟨a, rfl, h1, h2⟩ := r
  obtain ⟨w, h4, h5⟩ := (Rs.of_ints B s.l).atI h
  cases h5
  exact ⟨a, _, i, _, rfl, rfl, SqL.le W.le h1, h4, k⟩
/-- len -/
theorem lenL_ (W : Ws A B0 H0 B H O) (r : Rp.R B v xs) (k : Q (.int (xs.length : Int)) H) : rdLen K [v] H Q := by
  obtain ⟨a, l, rfl, h1, h2, h3⟩ := r
  exact ⟨a, l, rfl, .inl (SqL.of (W.le.lst h1)), by rw [h3.len]; exact k⟩
theorem lenLo_ {a : Addr} (W : Ws A B0 H0 B H O) (n : Nat) (hn : O[n]? = some (a, .lst l)) (rs : Rs B l xs) (k : Q (.int (xs.length : Int)) H) : rdLen K [V.ref a] H Q :=
  ⟨a, l, rfl, .inl (SqL.of (W.at_ n hn)), by rw [rs.len]; exact k⟩
theorem lenV_ {t : TV α} (W : Ws A B0 H0 B H O) (r : Rp.R B v t) (k : Q (.int (t.l.length : Int)) H) : rdLen K [v] H Q := by
  obtain ⟨a, l, rfl, h1, h2, h3⟩ := r
  exact ⟨a, l, rfl, .inr (SqT.of (W.le.tup h1)), by rw [h3.len]; exact k⟩
theorem lenC_ {s : Scr} (W : Ws A B0 H0 B H O) (r : RC K B v s) (k : Q (.int (s.l.length : Int)) H) : rdLen K [v] H Q := by
  obtain ⟨a, rfl, h1, h2⟩ := r
  exact ⟨a, _, rfl, .inl (SqL.le W.le h1), by rw [List.length_map]; exact k⟩
theorem lenS_ {s : Str} (h : s.length ≤ sizeLine) (k : Q (.int (s.length : Int)) H) : rdLenS [V.str s] H Q := ⟨s, rfl, h, k⟩
/-- slices -/
def cutL {α : Type} (xs : List α) (lo hi : Option Int) : List α := (xs.drop (HT.sIx xs.length 0 lo)).take (HT.sIx xs.length xs.length hi - HT.sIx xs.length 0 lo)
theorem Rs.cut {lo hi : Option Int} (r : Rs B l xs) : Rs B (cutV l lo hi) (cutL xs lo hi) := by
  unfold cutV cutL
  rw [r.len]
  exact (r.drop _).take _
theorem slL_ {lo hi : Option Int} (W : Ws A B0 H0 B H O) (r : Rp.R B v xs) (k : ∀ v B' H', Ws A B0 H0 B' H' O → Le B B' → Rp.R B' v (cutL xs lo hi) → Q v H') : rSlL K v lo hi H Q := by
  obtain ⟨a, l, rfl, h1, h2, h3⟩ := r
  exact ⟨a, l, rfl, SqL.of (W.le.lst h1), newL W h3.cut (Nat.le_trans (cutV_length _ _ _) h2) k⟩
theorem slC_ {s : Scr} {lo hi : Option Int} (W : Ws A B0 H0 B H O) (r : RC K B v s) (k : ∀ v B' H', Ws A B0 H0 B' H' O → Le B B' → Rp.R B' v (cutL s.l lo hi) → Q v H') : rSlL K v lo hi H Q := by
  obtain ⟨a, rfl, h1, h2⟩ := r
  refine ⟨a, _, rfl, SqL.le W.le h1, newL W (Rs.of_ints B s.l).cut ?_ k⟩
  refine Nat.le_trans (cutV_length _ _ _) ?_
  rw [List.length_map]
  exact Nat.le_trans h2 (by decide)
theorem slS_ {s : Str} {lo hi : Option Int} (h : s.length ≤ sizeLine) (k : Q (.str (Txt.slice s lo hi)) H) : C8.rSlX (.str s) lo hi H Q := ⟨s, rfl, h, k⟩
/-- one list behind another -/
theorem cat_ {ys : List α} (W : Ws A B0 H0 B H O) (r : Rp.R B v xs) (r2 : Rp.R B w ys) (hl : xs.length + ys.length ≤ sizeLine) (k : ∀ v B' H', Ws A B0 H0 B' H' O → Le B B' → Rp.R B' v (xs ++ ys) → Q v H') : rCat v w H Q := by
  obtain ⟨a, l, rfl, h1, h2, h3⟩ := r
  obtain ⟨a', l', rfl, h1', h2', h3'⟩ := r2
  have e : l.length + l'.length ≤ sizeLine := by rw [h3.len, h3'.len]; exact hl
  exact ⟨a, a', l, l', rfl, rfl, W.le.lst h1, W.le.lst h1', e, newL W (h3.app h3') (by rw [List.length_append]; exact e) k⟩
/-- x in (a, b), x in xs: whole numbers, texts -/
theorem inV_int {x : Int} : ∀ {xs : List Int}, inV (.int x) (xs.map V.int) = decide (x ∈ xs)
  | [] => by simp [inV]
  | y :: r => by
    have ih := inV_int (x := x) (xs := r)
    unfold inV at ih ⊢
    rw [List.map_cons, List.any_cons, ih]
    show (y == x || _) = _
    by_cases e : x = y
    · subst e; simp
    · have e' : (y == x) = false := beq_eq_false_iff_ne.mpr (Ne.symm e)
      rw [e', Bool.false_or]
      exact decide_eq_decide.mpr (by simp [e])
theorem inV_str {x : Str} : ∀ {xs : List Str}, inV (.str x) (xs.map V.str) = decide (x ∈ xs)
  | [] => by simp [inV]
  | y :: r => by
    have ih := inV_str (x := x) (xs := r)
    unfold inV at ih ⊢
    rw [List.map_cons, List.any_cons, ih]
    show (y == x || _) = _
    by_cases e : x = y
    · subst e; simp
    · have e' : (y == x) = false := beq_eq_false_iff_ne.mpr (Ne.symm e)
      rw [e', Bool.false_or]
      exact decide_eq_decide.mpr (by simp [e])
theorem flatI : ∀ {xs : List Int}, (xs.map V.int).all flatV = true
  | [] => rfl
  | _ :: r => by rw [List.map_cons, List.all_cons, flatI (xs := r)]; rfl
theorem flatS : ∀ {xs : List Str}, (xs.map V.str).all flatV = true
  | [] => rfl
  | _ :: r => by rw [List.map_cons, List.all_cons, flatS (xs := r)]; rfl
theorem inI_ {x : Int} {xs : List Int} {neg : Bool} (W : Ws A B0 H0 B H O) (r : Rp.R B v xs) (k : Q (.bl (if neg then !decide (x ∈ xs) else decide (x ∈ xs))) H) : rIn K neg (.int x) v H Q := by
  obtain ⟨a, l, rfl, h1, h2, h3⟩ := r
  cases h3.ints
  exact ⟨a, _, rfl, .inl (SqL.of (W.le.lst h1)), rfl, flatI, by rw [inV_int]; exact k⟩
theorem inS_ {x : Str} {xs : List Str} {neg : Bool} (W : Ws A B0 H0 B H O) (r : Rp.R B v xs) (k : Q (.bl (if neg then !decide (x ∈ xs) else decide (x ∈ xs))) H) : rIn K neg (.str x) v H Q := by
  obtain ⟨a, l, rfl, h1, h2, h3⟩ := r
  cases h3.strs
  exact ⟨a, _, rfl, .inl (SqL.of (W.le.lst h1)), rfl, flatS, by rw [inV_str]; exact k⟩
theorem inIo_ {x : Int} {xs : List Int} {neg : Bool} {a : Addr} (W : Ws A B0 H0 B H O) (n : Nat) (hn : O[n]? = some (a, .lst l)) (rs : Rs B l xs) (k : Q (.bl (if neg then !decide (x ∈ xs) else decide (x ∈ xs))) H) : rIn K neg (.int x) (.ref a) H Q := by
  cases rs.ints
  exact ⟨a, _, rfl, .inl (SqL.of (W.at_ n hn)), rfl, flatI, by rw [inV_int]; exact k⟩
theorem inSo_ {x : Str} {xs : List Str} {neg : Bool} {a : Addr} (W : Ws A B0 H0 B H O) (n : Nat) (hn : O[n]? = some (a, .lst l)) (rs : Rs B l xs) (k : Q (.bl (if neg then !decide (x ∈ xs) else decide (x ∈ xs))) H) : rIn K neg (.str x) (.ref a) H Q := by
  cases rs.strs
  exact ⟨a, _, rfl, .inl (SqL.of (W.at_ n hn)), rfl, flatS, by rw [inV_str]; exact k⟩
theorem inIV_ {x : Int} {t : TV Int} {neg : Bool} (W : Ws A B0 H0 B H O) (r : Rp.R B v t) (k : Q (.bl (if neg then !decide (x ∈ t.l) else decide (x ∈ t.l))) H) : rIn K neg (.int x) v H Q := by
  obtain ⟨a, l, rfl, h1, h2, h3⟩ := r
  cases h3.ints
  exact ⟨a, _, rfl, .inr (SqT.of (W.le.tup h1)), rfl, flatI, by rw [inV_int]; exact k⟩
theorem inSV_ {x : Str} {t : TV Str} {neg : Bool} (W : Ws A B0 H0 B H O) (r : Rp.R B v t) (k : Q (.bl (if neg then !decide (x ∈ t.l) else decide (x ∈ t.l))) H) : rIn K neg (.str x) v H Q := by
  obtain ⟨a, l, rfl, h1, h2, h3⟩ := r
  cases h3.strs
  exact ⟨a, _, rfl, .inr (SqT.of (W.le.tup h1)), rfl, flatS, by rw [inV_str]; exact k⟩
/-- what is one's own: item stored, append, pop, insert, clear, reverse -/
theorem tyL_ {a : Addr} {P : Prop} (W : Ws A B0 H0 B H O) (n : Nat) (hn : O[n]? = some (a, .lst l)) (k : P) : tyV K "list" (.ref a) H ∧ P := ⟨.inl ⟨rfl, _, SqL.of (W.at_ n hn)⟩, k⟩
theorem tyLp_ {P : Prop} (W : Ws A B0 H0 B H O) (r : Rp.R B v xs) (k : P) : tyV K "list" v H ∧ P := by
  obtain ⟨a, l, rfl, h1, h2, h3⟩ := r
  exact ⟨.inl ⟨rfl, _, SqL.of (W.le.lst h1)⟩, k⟩
theorem setL_ {i : Int} {j : Nat} {a : Addr} {Q : Hp → Prop} (W : Ws A B0 H0 B H O) (n : Nat) (hn : O[n]? = some (a, .lst l)) (hj : ixN l.length i = some j) (k : ∀ H', Ws A B0 H0 B H' (O.set n (a, .lst (l.set j v))) → Q H') : rSetL (.ref a) (.int i) v H Q :=
  ⟨a, l, i, j, rfl, rfl, W.at_ n hn, hj, k _ (W.set n hn _)⟩
theorem app_ {a : Addr} (W : Ws A B0 H0 B H O) (n : Nat) (hn : O[n]? = some (a, .lst l)) (hl : l.length < sizeLine) (k : ∀ H', Ws A B0 H0 B H' (O.set n (a, .lst (l ++ [v]))) → Q .non H') : rAppend (.ref a) [v] H Q :=
  ⟨a, l, v, rfl, rfl, W.at_ n hn, hl, k _ (W.set n hn _)⟩
theorem pop_ {a : Addr} (W : Ws A B0 H0 B H O) (n : Nat) (hn : O[n]? = some (a, .lst l)) (h : l[l.length - 1]? = some v) (k : ∀ H', Ws A B0 H0 B H' (O.set n (a, .lst l.dropLast)) → Q v H') : rPop (.ref a) [] H Q :=
  ⟨a, l, v, rfl, rfl, W.at_ n hn, h, k _ (W.set n hn _)⟩
theorem rev_ {a : Addr} (W : Ws A B0 H0 B H O) (n : Nat) (hn : O[n]? = some (a, .lst l)) (k : ∀ H', Ws A B0 H0 B H' (O.set n (a, .lst l.reverse)) → Q .non H') : rReverse (.ref a) [] H Q :=
  ⟨a, l, rfl, rfl, W.at_ n hn, k _ (W.set n hn _)⟩
theorem clr_ {a : Addr} (W : Ws A B0 H0 B H O) (n : Nat) (hn : O[n]? = some (a, .lst l)) (k : ∀ H', Ws A B0 H0 B H' (O.set n (a, .lst [])) → Q .non H') : rClear (.ref a) [] H Q :=
  ⟨a, l, rfl, rfl, W.at_ n hn, k _ (W.set n hn _)⟩
/-- what one made is let be: a list that stays -/
theorem fzL {a : Addr} {P : Prop} (W : Ws A B0 H0 B H O) (n : Nat) (hn : O[n]? = some (a, .lst l)) (h0 : H0 a = none) (hl : l.length ≤ sizeLine) (rs : Rs B l xs) (k : ∀ B', Ws A B0 H0 B' H (O.eraseIdx n) → Le B B' → Rp.R B' (.ref a) xs → P) : P := by
  obtain ⟨W', le⟩ := W.fz n hn h0
  exact k _ W' le ⟨a, l, rfl, upd_same, hl, rs.mono le⟩
/-- a, b = e: a tuple's parts -/
theorem gP_ {t : α × β} {g : TGs} {Q : L2.St → Hp → Prop} (W : Ws A B0 H0 B H O) (r : Rp.R B v t) (k : ∀ u w, Rp.R B u t.1 → Rp.R B w t.2 → g [u, w] σ H Q) : gTup K 2 g v σ H Q := by
  obtain ⟨a, u, w, rfl, h1, h2, h3⟩ := r
  exact ⟨a, _, rfl, SqT.of (W.le.tup h1), rfl, k u w h2 h3⟩
theorem gT_ {t : T3 α β γ} {g : TGs} {Q : L2.St → Hp → Prop} (W : Ws A B0 H0 B H O) (r : Rp.R B v t) (k : ∀ u w z, Rp.R B u t.a → Rp.R B w t.b → Rp.R B z t.c → g [u, w, z] σ H Q) : gTup K 3 g v σ H Q := by
  obtain ⟨a, u, w, z, rfl, h1, h2, h3, h4⟩ := r
  exact ⟨a, _, rfl, SqT.of (W.le.tup h1), rfl, k u w z h2 h3 h4⟩
/-- list(xs), tuple(xs), list(t) -/
theorem listL_ (W : Ws A B0 H0 B H O) (r : Rp.R B v xs) (k : ∀ v B' H', Ws A B0 H0 B' H' O → Le B B' → Rp.R B' v xs → Q v H') : rdList K [v] H Q := by
  obtain ⟨a, l, rfl, h1, h2, h3⟩ := r
  exact ⟨a, l, rfl, .inl (SqL.of (W.le.lst h1)), newL W h3 h2 k⟩
theorem listLo_ {a : Addr} (W : Ws A B0 H0 B H O) (n : Nat) (hn : O[n]? = some (a, .lst l)) (hl : l.length ≤ sizeLine) (rs : Rs B l xs) (k : ∀ v B' H', Ws A B0 H0 B' H' O → Le B B' → Rp.R B' v xs → Q v H') : rdList K [V.ref a] H Q :=
  ⟨a, l, rfl, .inl (SqL.of (W.at_ n hn)), newL W rs hl k⟩
theorem listV_ {t : TV α} (W : Ws A B0 H0 B H O) (r : Rp.R B v t) (k : ∀ v B' H', Ws A B0 H0 B' H' O → Le B B' → Rp.R B' v t.l → Q v H') : rdList K [v] H Q := by
  obtain ⟨a, l, rfl, h1, h2, h3⟩ := r
  exact ⟨a, l, rfl, .inr (SqT.of (W.le.tup h1)), newL W h3 h2 k⟩
theorem tupL_ (W : Ws A B0 H0 B H O) (r : Rp.R B v xs) (k : ∀ v B' H', Ws A B0 H0 B' H' O → Le B B' → Rp.R B' v (TV.mk xs) → Q v H') :
    rdTup K [v] H Q := by
  obtain ⟨a, l, rfl, h1, h2, h3⟩ := r
  exact ⟨a, l, rfl, .inl ⟨SqL.of (W.le.lst h1), newV W h3 h2 k⟩⟩
/-- all(xs), any(xs), sum(xs) -/
theorem all_ {bs : List Bool} (W : Ws A B0 H0 B H O) (r : Rp.R B v bs) (k : Q (.bl (bs.all id)) H) : rAll K [v] H Q := by
  obtain ⟨a, l, rfl, h1, h2, h3⟩ := r
  cases h3.bls
  exact ⟨a, bs, rfl, SqL.of (W.le.lst h1), k⟩
theorem any_ {bs : List Bool} (W : Ws A B0 H0 B H O) (r : Rp.R B v bs) (k : Q (.bl (bs.any id)) H) : rAny K [v] H Q := by
  obtain ⟨a, l, rfl, h1, h2, h3⟩ := r
  cases h3.bls
  exact ⟨a, bs, rfl, SqL.of (W.le.lst h1), k⟩
/-- texts: split, join, startswith -/
theorem split_ {a b : Str} (hb : (b.length == 0) = false) (ha : a.length + 2 ≤ sizeLine) (hn : (Txt.split a b).length ≤ sizeLine) (W : Ws A B0 H0 B H O) (k : ∀ v B' H', Ws A B0 H0 B' H' O → Le B B' → Rp.R B' v (Txt.split a b) → Q v H') :
    rdSplit (.str a) [.str b] H Q :=
  ⟨a, b, rfl, rfl, hb, ha, newL W (Rs.of_strs B _) (by rw [List.length_map]; exact hn) k⟩
theorem join_ {a : Str} {ys : List Str} (W : Ws A B0 H0 B H O) (r : Rp.R B v ys) (hl : (ys.map (·.length)).sum + ys.length * a.length ≤ 16777216) (k : Q (.str (Txt.join a ys)) H) :
    rdJoin K (.str a) [v] H Q := by
  obtain ⟨p, l, rfl, h1, h2, h3⟩ := r
  cases h3.strs
  exact ⟨a, p, ys, rfl, rfl, .inl (SqL.of (W.le.lst h1)), hl, k⟩
theorem starts_ {a b : Str} (k : Q (.bl (Txt.startswith a b)) H) : rdStarts (.str a) [.str b] H Q := ⟨a, b, rfl, rfl, k⟩
end
end Pv

namespace Pv
open PySem L2

/-! ### what a loop comes to -/
/-- the end of a turn: on with a state, out of the loop with a state, out of the def with an answer -/
inductive Ct (ρ S : Type) where
  | nx (s : S)
  | bk (s : S)
  | rt (r : ρ)
/-- what follows a loop, or an if that may leave -/
def ctk {ρ S τ : Type} (c : Ct ρ S) (n : S → Option τ) (r : ρ → Option τ) : Option τ := match c with
  | .nx s => n s
  | .bk s => n s
  | .rt v => r v
theorem ct_nx {ρ S τ : Type} {s : S} {n : S → Option τ} {r : ρ → Option τ} {x : τ} (h : ctk (.nx s) n r = some x) : n s = some x := h
theorem ct_bk {ρ S τ : Type} {s : S} {n : S → Option τ} {r : ρ → Option τ} {x : τ} (h : ctk (.bk s) n r = some x) : n s = some x := h
theorem ct_rt {ρ S τ : Type} {v : ρ} {n : S → Option τ} {r : ρ → Option τ} {x : τ} (h : ctk (.rt v) n r = some x) : r v = some x := h
/-- a for: its turns folded -/
def lp {ρ S α : Type} (f : S → α → Option (Ct ρ S)) : S → List α → Option (Ct ρ S)
  | s, [] => some (.nx s)
  | s, x :: r => bd (f s x) fun c => match c with
    | .nx s' => lp f s' r
    | .bk s' => some (.bk s')
    | .rt v => some (.rt v)
/-- .. that is never left -/
def lpn {S α : Type} (f : S → α → Option S) : S → List α → Option S
  | s, [] => some s
  | s, x :: r => bd (f s x) fun s' => lpn f s' r
/-- a while, with so many turns at most -/
def wh {ρ S : Type} (t : S → Option Bool) (f : S → Option (Ct ρ S)) : Nat → S → Option (Ct ρ S)
  | 0, _ => none
  | n + 1, s => bd (t s) fun b => if b = true then bd (f s) fun c => match c with
      | .nx s' => wh t f n s'
      | .bk s' => some (.bk s')
      | .rt v => some (.rt v)
    else some (.nx s)
def ocons {β : Type} : Option β → List β → List β
  | some y, r => y :: r
  | none, r => r
/-- a comprehension with a state: some elements are left out -/
def lcs {S α β : Type} (f : S → α → Option (S × Option β)) : S → List α → Option (S × List β)
  | s, [] => some (s, [])
  | s, x :: r => bd (f s x) fun p => bd (lcs f p.1 r) fun q => some (q.1, ocons p.2 q.2)
/-- .. without one: each element by itself -/
def mapO {α β : Type} (f : α → Option β) : List α → Option (List β)
  | [] => some []
  | x :: r => bd (f x) fun y => bd (mapO f r) fun ys => some (y :: ys)
/-- .. some left out -/
def fmapO {α β : Type} (f : α → Option (Option β)) : List α → Option (List β)
  | [] => some []
  | x :: r => bd (f x) fun o => bd (fmapO f r) fun ys => some (ocons o ys)
/-- whole numbers from lo, so many -/
def rng (lo : Int) (n : Nat) : List Int := (List.range n).map fun (i : Nat) => lo + (i : Int)
theorem rng_len (lo : Int) (n : Nat) : (rng lo n).length = n := by simp [rng]
theorem rng_get {lo : Int} {n i : Nat} {x : Int} (h : (rng lo n)[i]? = some x) : i < n ∧ x = lo + (i : Int) := by
  unfold rng at h
  rw [List.getElem?_map] at h
  by_cases hi : i < n
  · rw [List.getElem?_range hi] at h
    exact ⟨hi, (Option.some.inj h).symm⟩
  · rw [List.getElem?_eq_none (by rw [List.length_range]; omega)] at h
    cases h

/-! ### what is walked -/
/-- the iterator J gives the items xs, one by one -/
structure TW {α : Type} [Rp α] (J : It) (B : Hp) (xs : List α) : Prop where
  go : ∀ {B' H' : Hp} {i : Nat}, Le B B' → Le B' H' → i < xs.length → J.go i H'
  stop : ∀ {B' H' : Hp} {i : Nat}, Le B B' → Le B' H' → xs.length ≤ i → J.stop i H'
  yld : ∀ {A : List Addr} {B0 H0 B' H' Hn : Hp} {O : List (Addr × HO)} {v : V} {i : Nat} {x : α}, Le B B' → Ws A B0 H0 B' H' O → xs[i]? = some x → J.yld i H' v Hn → ∃ Bn, Ws A B0 H0 Bn Hn O ∧ Le B' Bn ∧ Rp.R Bn v x
section
variable {α β : Type} [Rp α] [Rp β] {B : Hp} {K : PySem.W.Frag} {a b : Addr} {l l2 : List V} {xs : List α} {ys : List β}
theorem tw_list (h : B a = some (.lst l)) (rs : Rs B l xs) : TW (Itl K a) B xs := by
  refine ⟨fun {B' H' i} l1 l2 hi => ?_, fun {B' H' i} l1 l2 hi => ⟨l, SqL.of (l2.lst (l1.lst h)), by rw [rs.len]; exact hi⟩, fun {A B0 H0 B' H' Hn O v i x} l1 W hx y => ?_⟩
  · obtain ⟨v, hv, _⟩ := rs.get (List.getElem?_eq_getElem hi)
    exact ⟨l, v, SqL.of (l2.lst (l1.lst h)), hv⟩
  · obtain ⟨rfl, hy⟩ := y
    obtain ⟨w, hw, r⟩ := rs.get hx
    have e := hy l (SqL.of (W.le.lst (l1.lst h)))
    rw [hw] at e
    cases e
    exact ⟨B', W, Le.refl _, Rp.mono l1 r⟩
theorem tw_scr {s : Scr} {v : V} (h : RC K B v s) : ∃ a, v = .ref a ∧ (∀ H, Le B H → ∃ ys, SqL K H a ys) ∧ TW (α := Int) (Itl K a) B s.l := by
  obtain ⟨a, rfl, h1, h2⟩ := h
  have rs := Rs.of_ints B s.l
  refine ⟨a, rfl, fun H l => ⟨_, SqL.le l h1⟩, fun {B' H' i} l1 l2 hi => ?_, fun {B' H' i} l1 l2 hi => ⟨_, SqL.le l2 (SqL.le l1 h1), by rw [rs.len]; exact hi⟩, fun {A B0 H0 B' H' Hn O v i x} l1 W hx y => ?_⟩
  · obtain ⟨v, hv, _⟩ := rs.get (List.getElem?_eq_getElem hi)
    exact ⟨_, v, SqL.le l2 (SqL.le l1 h1), hv⟩
  · obtain ⟨rfl, hy⟩ := y
    obtain ⟨w, hw, r⟩ := rs.get hx
    have e := hy _ (SqL.le W.le (SqL.le l1 h1))
    rw [hw] at e
    cases e
    exact ⟨B', W, Le.refl _, Rp.mono l1 r⟩
theorem tw_tup (h : B a = some (.tup l)) (rs : Rs B l xs) : TW (Itt K a) B xs := by
  refine ⟨fun {B' H' i} l1 l2 hi => ?_, fun {B' H' i} l1 l2 hi => ⟨l, SqT.of (l2.tup (l1.tup h)), by rw [rs.len]; exact hi⟩, fun {A B0 H0 B' H' Hn O v i x} l1 W hx y => ?_⟩
  · obtain ⟨v, hv, _⟩ := rs.get (List.getElem?_eq_getElem hi)
    exact ⟨l, v, SqT.of (l2.tup (l1.tup h)), hv⟩
  · obtain ⟨rfl, hy⟩ := y
    obtain ⟨w, hw, r⟩ := rs.get hx
    have e := hy l (SqT.of (W.le.tup (l1.tup h)))
    rw [hw] at e
    cases e
    exact ⟨B', W, Le.refl _, Rp.mono l1 r⟩
theorem tw_rng {lo : Int} {n : Nat} : TW (Itr lo n) B (rng lo n) := by
  refine ⟨fun {B' H' i} _ _ hi => by rw [rng_len] at hi; exact hi, fun {B' H' i} _ _ hi => by rw [rng_len] at hi; exact hi, fun {A B0 H0 B' H' Hn O v i x} l1 W hx y => ?_⟩
  obtain ⟨rfl, rfl⟩ := y
  obtain ⟨hi, rfl⟩ := rng_get hx
  exact ⟨B', W, Le.refl _, rfl⟩
/-- the signs of a text -/
def signs (s : Str) : List Str := s.cps.toList.map fun c => (⟨#[c]⟩ : Str)
theorem signs_len (s : Str) : (signs s).length = s.cps.size := by simp [signs]
theorem tw_str {s : Str} : TW (Its s) B (signs s) := by
  refine ⟨fun {B' H' i} _ _ hi => by rw [signs_len] at hi; exact hi, fun {B' H' i} _ _ hi => by rw [signs_len] at hi; exact hi, fun {A B0 H0 B' H' Hn O v i x} l1 W hx y => ?_⟩
  obtain ⟨rfl, c, hc, rfl⟩ := y
  refine ⟨B', W, Le.refl _, ?_⟩
  unfold signs at hx
  rw [List.getElem?_map, Array.getElem?_toList, hc] at hx
  show V.str _ = V.str x
  rw [← Option.some.inj hx]
/-- places and items -/
def enuF {α : Type} : Nat → List α → List (Int × α)
  | _, [] => []
  | n, x :: r => ((n : Int), x) :: enuF (n + 1) r
abbrev enu {α : Type} (xs : List α) : List (Int × α) := enuF 0 xs
theorem enuF_len {α : Type} : ∀ (n : Nat) (xs : List α), (enuF n xs).length = xs.length
  | _, [] => rfl
  | n, _ :: r => congrArg (· + 1) (enuF_len (n + 1) r)
theorem enuF_get {α : Type} : ∀ {n i : Nat} {xs : List α} {p : Int × α}, (enuF n xs)[i]? = some p → p.1 = ((n + i : Nat) : Int) ∧ xs[i]? = some p.2
  | n, i, [], p, h => by simp [enuF] at h
  | n, 0, x :: r, p, h => by simp [enuF] at h; subst h; simp
  | n, i + 1, x :: r, p, h => by
    have h' : (enuF (n + 1) r)[i]? = some p := by simpa [enuF] using h
    obtain ⟨h1, h2⟩ := enuF_get h'
    exact ⟨by rw [h1]; congr 1; omega, by simpa using h2⟩
theorem tw_enu (h : B a = some (.lst l)) (rs : Rs B l xs) : TW (Ite K a) B (enu xs) := by
  refine ⟨fun {B' H' i} l1 l2 hi => ?_, fun {B' H' i} l1 l2 hi => ⟨l, SqL.of (l2.lst (l1.lst h)), by rw [rs.len]; rw [enuF_len] at hi; exact hi⟩, fun {A B0 H0 B' H' Hn O v i x} l1 W hx y => ?_⟩
  · rw [enuF_len] at hi
    obtain ⟨v, hv, _⟩ := rs.get (List.getElem?_eq_getElem hi)
    exact ⟨l, v, SqL.of (l2.lst (l1.lst h)), hv⟩
  · obtain ⟨T, y, rfl, hT, rfl, hy⟩ := y
    obtain ⟨e1, e2⟩ := enuF_get hx
    obtain ⟨w, hw, r⟩ := rs.get e2
    have e := hy l (SqL.of (W.le.lst (l1.lst h)))
    rw [hw] at e
    cases e
    have ln : Le B' (upd B' T (.tup [.int (i : Nat), y])) := Le.new (W.le.free hT)
    refine ⟨_, W.np hT _, ln, T, _, _, rfl, upd_same, ?_, Rp.mono (l1.tr ln) r⟩
    show V.int (i : Nat) = V.int x.1
    rw [e1, Nat.zero_add]
/-- two lists side by side -/
theorem tw_zip (h : B a = some (.lst l)) (rs : Rs B l xs) (h2 : B b = some (.lst l2)) (rs2 : Rs B l2 ys) : TW (Itz K a b) B (xs.zip ys) := by
  refine ⟨fun {B' H' i} q1 q2 hi => ?_, fun {B' H' i} q1 q2 hi => ⟨l, l2, SqL.of (q2.lst (q1.lst h)), SqL.of (q2.lst (q1.lst h2)), by rw [rs.len, rs2.len]; rw [List.length_zip] at hi; omega⟩, fun {A B0 H0 B' H' Hn O v i x} q1 W hx y => ?_⟩
  · rw [List.length_zip] at hi
    obtain ⟨v, hv, _⟩ := rs.get (List.getElem?_eq_getElem (show i < xs.length by omega))
    obtain ⟨w, hw, _⟩ := rs2.get (List.getElem?_eq_getElem (show i < ys.length by omega))
    exact ⟨l, l2, v, w, SqL.of (q2.lst (q1.lst h)), SqL.of (q2.lst (q1.lst h2)), hv, hw⟩
  · obtain ⟨T, y1, y2, rfl, hT, rfl, hy1, hy2⟩ := y
    obtain ⟨e1, e2⟩ := List.getElem?_zip_eq_some.mp hx
    obtain ⟨w, hw, r⟩ := rs.get e1
    obtain ⟨w2, hw2, r2⟩ := rs2.get e2
    have e := hy1 l (SqL.of (W.le.lst (q1.lst h)))
    rw [hw] at e
    cases e
    have e := hy2 l2 (SqL.of (W.le.lst (q1.lst h2)))
    rw [hw2] at e
    cases e
    have ln : Le B' (upd B' T (.tup [y1, y2])) := Le.new (W.le.free hT)
    exact ⟨_, W.np hT _, ln, T, _, _, rfl, upd_same, Rp.mono (q1.tr ln) r, Rp.mono (q1.tr ln) r2⟩
end

/-! ### the loops -/
/-- what a for asks behind its iterable; a comprehension -/
def ForK (g : TG) (tb : TS) (D : Ends) (σ : L2.St) : It → Hp → Prop := fun J H1 => ∃ W : Nat → Nat → L2.St → Hp → Prop, (∃ m, W 0 m σ H1) ∧ ∀ i m σ H, W i m σ H →
  (J.stop i H ∧ D.nx σ H) ∨ (J.go i H ∧ ∃ N : L2.St → Hp → Prop, (∀ σ' H', N σ' H' → ∃ m', m' < m ∧ W (i + 1) m' σ' H') ∧ ∀ x H', J.yld i H x H' → g x σ H' fun σ2 H2 => tb { D with nx := N, ct := N, bk := D.nx } σ2 H2)
theorem for_ {wi : TI} {g : TG} {tb : TS} {D : Ends} {σ : L2.St} {H : Hp} (h : wi σ H (ForK g tb D σ)) : tFor wi g tb D σ H := h
def LcK (g : TG) (tt : TT) (te : TE) (vs : List Nat) (σ : L2.St) (Q : VK) : It → Hp → Prop := fun J H1 => ∀ D, H1 D = none → ∃ W : Nat → Nat → Hp → Prop, (∃ m, W 0 m (upd H1 D (.lst []))) ∧ ∀ i m H, W i m H →
  (J.stop i H ∧ Q (.ref D) H) ∨ (J.go i H ∧ ∃ Nx : Hp → Prop, (∀ H', Nx H' → ∃ m', m' < m ∧ W (i + 1) m' H') ∧ ∀ x H', J.yld i H x H' → g x (wipe σ vs) H' fun σ2 H2 => wipe σ2 vs = wipe σ vs ∧ tt σ2 H2 fun b H3 =>
    if b = true then te σ2 H3 fun y H4 => ∃ acc, H4 D = some (.lst acc) ∧ acc.length < sizeLine ∧ Nx (upd H4 D (.lst (acc ++ [y]))) else Nx H3)
theorem lc_ {wi : TI} {g : TG} {tt : TT} {te : TE} {vs : List Nat} {σ : L2.St} {H : Hp} {Q : VK} (h : wi σ H (LcK g tt te vs σ Q)) : tLc wi g tt te vs σ H Q := h
theorem ilist_ {K : PySem.W.Frag} {tl : TE} {σ : L2.St} {H : Hp} {R : It → Hp → Prop} (h : tl σ H fun x H1 => ∃ a, x = .ref a ∧ (∃ xs, SqL K H1 a xs) ∧ R (Itl K a) H1) : iList K tl σ H R := h
theorem itup_ {K : PySem.W.Frag} {tl : TE} {σ : L2.St} {H : Hp} {R : It → Hp → Prop} (h : tl σ H fun x H1 => ∃ a, x = .ref a ∧ (∃ xs, SqT K H1 a xs) ∧ R (Itt K a) H1) : iTup K tl σ H R := h
theorem irng1_ {ta : TA} {σ : L2.St} {H : Hp} {R : It → Hp → Prop} (h : ta σ H fun vs H1 => ∃ j : Int, vs = [.int j] ∧ -(2 ^ 62) ≤ j ∧ j < 2 ^ 62 ∧ R (Itr 0 j.toNat) H1) : iRng1 ta σ H R := h
theorem irng2_ {ta : TA} {σ : L2.St} {H : Hp} {R : It → Hp → Prop} (h : ta σ H fun vs H1 => ∃ i j : Int, vs = [.int i, .int j] ∧ (-(2 ^ 62) ≤ i ∧ i < 2 ^ 62 ∧ -(2 ^ 62) ≤ j ∧ j < 2 ^ 62) ∧ R (Itr i (j - i).toNat) H1) : iRng2 ta σ H R := h
theorem istr_ {te : TE} {σ : L2.St} {H : Hp} {R : It → Hp → Prop} (h : te σ H fun v H1 => ∃ x, v = .str x ∧ R (Its x) H1) : iStr te σ H R := h
theorem ienum_ {K : PySem.W.Frag} {ta : TA} {σ : L2.St} {H : Hp} {R : It → Hp → Prop} (h : ta σ H fun vs H1 => ∃ a xs, vs = [.ref a] ∧ SqL K H1 a xs ∧ R (Ite K a) H1) : iEnum K ta σ H R := h
theorem izip_ {K : PySem.W.Frag} {ta : TA} {σ : L2.St} {H : Hp} {R : It → Hp → Prop} (h : ta σ H fun vs H1 => ∃ a b xs ys, vs = [.ref a, .ref b] ∧ SqL K H1 a xs ∧ SqL K H1 b ys ∧ R (Itz K a b) H1) : iZip K ta σ H R := h
section
variable {α : Type} [Rp α] {A : List Addr} {B0 H0 B H : Hp} {O : List (Addr × HO)} {σ : L2.St} {D : Ends} {g : TG} {tb : TS} {J : It} {xs : List α}
theorem lp_drop {ρ S : Type} {f : S → α → Option (Ct ρ S)} {s : S} {i : Nat} {x : α} {fin : Ct ρ S} (hx : xs[i]? = some x) (h : lp f s (xs.drop i) = some fin) :
    ∃ c, f s x = some c ∧ (∀ s', c = .nx s' → lp f s' (xs.drop (i + 1)) = some fin) ∧ (∀ s', c = .bk s' → fin = .bk s') ∧ ∀ r, c = .rt r → fin = .rt r := by
  obtain ⟨hi, e⟩ := List.getElem?_eq_some_iff.mp hx
  rw [List.drop_eq_getElem_cons hi, e] at h
  unfold lp at h
  obtain ⟨c, hc, h⟩ := bs h
  refine ⟨c, hc, fun s' e => ?_, fun s' e => ?_, fun r e => ?_⟩
  · subst e; exact h
  · subst e; exact (Option.some.inj h).symm
  · subst e; exact (Option.some.inj h).symm
/-- a for over what is walked -/
theorem for_t {ρ S : Type} (W : Ws A B0 H0 B H O) (tw : TW J B xs) (f : S → α → Option (Ct ρ S)) {s0 : S} {fin : Ct ρ S} (hx : lp f s0 xs = some fin)
    (I : S → L2.St → List (Addr × HO) → Hp → Prop) (mono : ∀ s σ O B B', Le B B' → I s σ O B → I s σ O B') (h0 : I s0 σ O B)
    (turn : ∀ s x c v σ' O' B' H', Le B B' → Ws A B0 H0 B' H' O' → I s σ' O' B' → Rp.R B' v x → f s x = some c → (∀ s', c = .bk s' → fin = .bk s') → (∀ r, c = .rt r → fin = .rt r) →
      g v σ' H' fun σ2 H2 => tb { D with nx := fun σ3 H3 => ∃ s' O3 B3, c = .nx s' ∧ Le B B3 ∧ Ws A B0 H0 B3 H3 O3 ∧ I s' σ3 O3 B3, ct := fun σ3 H3 => ∃ s' O3 B3, c = .nx s' ∧ Le B B3 ∧ Ws A B0 H0 B3 H3 O3 ∧ I s' σ3 O3 B3, bk := D.nx } σ2 H2)
    (done : ∀ s σ' O' B' H', fin = .nx s → Le B B' → Ws A B0 H0 B' H' O' → I s σ' O' B' → D.nx σ' H') :
    ForK g tb D σ J H := by
  unfold ForK
  refine ⟨fun i m σ H => m = xs.length - i ∧ i ≤ xs.length ∧ ∃ s O' B', lp f s (xs.drop i) = some fin ∧ Le B B' ∧ Ws A B0 H0 B' H O' ∧ I s σ O' B', ⟨xs.length, by simp, Nat.zero_le _, s0, O, B, by rw [List.drop_zero]; exact hx, Le.refl _, W, h0⟩, ?_⟩
  rintro i m σ1 H1 ⟨rfl, hi, s, O1, B1, hl, le1, W1, i1⟩
  by_cases hlt : i < xs.length
  · refine .inr ⟨tw.go le1 W1.le hlt, ?_⟩
    have hget : xs[i]? = some xs[i] := List.getElem?_eq_getElem hlt
    obtain ⟨c, hc, hn, hb, hr⟩ := lp_drop hget hl
    refine ⟨fun σ3 H3 => ∃ s' O3 B3, c = .nx s' ∧ Le B B3 ∧ Ws A B0 H0 B3 H3 O3 ∧ I s' σ3 O3 B3, ?_, fun x Hn y => ?_⟩
    · rintro σ3 H3 ⟨s', O3, B3, e, le3, W3, i3⟩
      exact ⟨xs.length - (i + 1), by omega, rfl, hlt, s', O3, B3, hn s' e, le3, W3, i3⟩
    · obtain ⟨Bn, Wn, len, rn⟩ := tw.yld le1 W1 hget y
      exact turn s _ c x σ1 O1 Bn Hn (le1.tr len) Wn (mono _ _ _ _ _ len i1) rn hc hb hr
  · refine .inl ⟨tw.stop le1 W1.le (by omega), ?_⟩
    rw [List.drop_eq_nil_of_le (by omega)] at hl
    exact done s σ1 O1 B1 H1 (Option.some.inj hl).symm le1 W1 i1
theorem lpn_lp {S : Type} {f : S → α → Option S} : ∀ {xs : List α} {s t : S}, lpn f s xs = some t → lp (ρ := Empty) (fun s x => (f s x).map .nx) s xs = some (.nx t)
  | [], s, t, h => by
    have e : s = t := Option.some.inj h
    subst e; rfl
  | x :: r, s, t, h => by
    unfold lpn at h
    obtain ⟨s', hs, h⟩ := bs h
    unfold lp
    rw [hs]
    exact lpn_lp h
/-- .. that is never left -/
theorem for_n {S : Type} (W : Ws A B0 H0 B H O) (tw : TW J B xs) (f : S → α → Option S) {s0 fin : S} (hx : lpn f s0 xs = some fin)
    (I : S → L2.St → List (Addr × HO) → Hp → Prop) (mono : ∀ s σ O B B', Le B B' → I s σ O B → I s σ O B') (h0 : I s0 σ O B)
    (turn : ∀ s x s' v σ' O' B' H', Le B B' → Ws A B0 H0 B' H' O' → I s σ' O' B' → Rp.R B' v x → f s x = some s' →
      g v σ' H' fun σ2 H2 => tb { D with nx := fun σ3 H3 => ∃ O3 B3, Le B B3 ∧ Ws A B0 H0 B3 H3 O3 ∧ I s' σ3 O3 B3, ct := fun σ3 H3 => ∃ O3 B3, Le B B3 ∧ Ws A B0 H0 B3 H3 O3 ∧ I s' σ3 O3 B3, bk := D.nx } σ2 H2)
    (done : ∀ σ' O' B' H', Le B B' → Ws A B0 H0 B' H' O' → I fin σ' O' B' → D.nx σ' H') :
    ForK g tb D σ J H := by
  unfold ForK
  refine ⟨fun i m σ H => m = xs.length - i ∧ i ≤ xs.length ∧ ∃ s O' B', lpn f s (xs.drop i) = some fin ∧ Le B B' ∧ Ws A B0 H0 B' H O' ∧ I s σ O' B', ⟨xs.length, by simp, Nat.zero_le _, s0, O, B, by rw [List.drop_zero]; exact hx, Le.refl _, W, h0⟩, ?_⟩
  rintro i m σ1 H1 ⟨rfl, hi, s, O1, B1, hl, le1, W1, i1⟩
  by_cases hlt : i < xs.length
  · refine .inr ⟨tw.go le1 W1.le hlt, ?_⟩
    have hget : xs[i]? = some xs[i] := List.getElem?_eq_getElem hlt
    rw [List.drop_eq_getElem_cons hlt] at hl
    unfold lpn at hl
    obtain ⟨s', hs, hl⟩ := bs hl
    refine ⟨fun σ3 H3 => ∃ O3 B3, Le B B3 ∧ Ws A B0 H0 B3 H3 O3 ∧ I s' σ3 O3 B3, ?_, fun x Hn y => ?_⟩
    · rintro σ3 H3 ⟨O3, B3, le3, W3, i3⟩
      exact ⟨xs.length - (i + 1), by omega, rfl, hlt, s', O3, B3, hl, le3, W3, i3⟩
    · obtain ⟨Bn, Wn, len, rn⟩ := tw.yld le1 W1 hget y
      exact turn s _ s' x σ1 O1 Bn Hn (le1.tr len) Wn (mono _ _ _ _ _ len i1) rn hs
  · refine .inl ⟨tw.stop le1 W1.le (by omega), ?_⟩
    rw [List.drop_eq_nil_of_le (by omega)] at hl
    cases (Option.some.inj hl : s = fin)
    exact done σ1 O1 B1 H1 le1 W1 i1
/-- the iterables: what is asked behind the reading, then TW -/
theorem itL {v : V} {K : PySem.W.Frag} {R : It → Hp → Prop} (W : Ws A B0 H0 B H O) (r : Rp.R B v xs) (k : ∀ a, TW (Itl K a) B xs → R (Itl K a) H) : ∃ a, v = .ref a ∧ (∃ xs, SqL K H a xs) ∧ R (Itl K a) H := by
  obtain ⟨a, l, rfl, h1, h2, h3⟩ := r
  exact ⟨a, rfl, ⟨l, SqL.of (W.le.lst h1)⟩, k a (tw_list h1 h3)⟩
theorem itC {v : V} {s : Scr} {K : PySem.W.Frag} {R : It → Hp → Prop} (W : Ws A B0 H0 B H O) (r : RC K B v s) (k : ∀ a, TW (α := Int) (Itl K a) B s.l → R (Itl K a) H) : ∃ a, v = .ref a ∧ (∃ xs, SqL K H a xs) ∧ R (Itl K a) H := by
  obtain ⟨a, rfl, h1, h2⟩ := tw_scr (K := K) r
  exact ⟨a, rfl, h1 H W.le, k a h2⟩
theorem itV {v : V} {t : TV α} {K : PySem.W.Frag} {R : It → Hp → Prop} (W : Ws A B0 H0 B H O) (r : Rp.R B v t) (k : ∀ a, TW (Itt K a) B t.l → R (Itt K a) H) : ∃ a, v = .ref a ∧ (∃ xs, SqT K H a xs) ∧ R (Itt K a) H := by
  obtain ⟨a, l, rfl, h1, h2, h3⟩ := r
  exact ⟨a, rfl, ⟨l, SqT.of (W.le.tup h1)⟩, k a (tw_tup h1 h3)⟩
theorem itR1 {j : Int} {R : It → Hp → Prop} (h : -(2 ^ 62) ≤ j ∧ j < 2 ^ 62) (k : TW (Itr 0 j.toNat) B (rng 0 j.toNat) → R (Itr 0 j.toNat) H) : ∃ i : Int, [V.int j] = [.int i] ∧ -(2 ^ 62) ≤ i ∧ i < 2 ^ 62 ∧ R (Itr 0 i.toNat) H := ⟨j, rfl, h.1, h.2, k tw_rng⟩
theorem itR2 {i j : Int} {R : It → Hp → Prop} (h : -(2 ^ 62) ≤ i ∧ i < 2 ^ 62 ∧ -(2 ^ 62) ≤ j ∧ j < 2 ^ 62) (k : TW (Itr i (j - i).toNat) B (rng i (j - i).toNat) → R (Itr i (j - i).toNat) H) :
    ∃ i' j' : Int, [V.int i, V.int j] = [.int i', .int j'] ∧ (-(2 ^ 62) ≤ i' ∧ i' < 2 ^ 62 ∧ -(2 ^ 62) ≤ j' ∧ j' < 2 ^ 62) ∧ R (Itr i' (j' - i').toNat) H := ⟨i, j, rfl, h, k tw_rng⟩
theorem itS {s : Str} {R : It → Hp → Prop} (k : TW (Its s) B (signs s) → R (Its s) H) : ∃ x, V.str s = .str x ∧ R (Its x) H := ⟨s, rfl, k tw_str⟩
theorem itE {v : V} {K : PySem.W.Frag} {R : It → Hp → Prop} (W : Ws A B0 H0 B H O) (r : Rp.R B v xs) (k : ∀ a, TW (Ite K a) B (enu xs) → R (Ite K a) H) : ∃ a ys, [v] = [.ref a] ∧ SqL K H a ys ∧ R (Ite K a) H := by
  obtain ⟨a, l, rfl, h1, h2, h3⟩ := r
  exact ⟨a, l, rfl, SqL.of (W.le.lst h1), k a (tw_enu h1 h3)⟩
theorem itZ {β : Type} [Rp β] {ys : List β} {v w : V} {K : PySem.W.Frag} {R : It → Hp → Prop} (W : Ws A B0 H0 B H O) (r : Rp.R B v xs) (r2 : Rp.R B w ys) (k : ∀ a b, TW (Itz K a b) B (xs.zip ys) → R (Itz K a b) H) :
    ∃ a b ys zs, [v, w] = [.ref a, .ref b] ∧ SqL K H a ys ∧ SqL K H b zs ∧ R (Itz K a b) H := by
  obtain ⟨a, l, rfl, h1, h2, h3⟩ := r
  obtain ⟨b, l', rfl, h1', h2', h3'⟩ := r2
  exact ⟨a, b, l, l', rfl, SqL.of (W.le.lst h1), SqL.of (W.le.lst h1'), k a b (tw_zip h1 h3 h1' h3')⟩
end

/-! ### comprehensions -/
section
variable {α β : Type} [Rp α] [Rp β] {A : List Addr} {B0 H0 B H : Hp} {O : List (Addr × HO)} {σ : L2.St} {g : TG} {tt : TT} {te : TE} {J : It} {xs : List α} {vs : List Nat} {Q : VK}
theorem er_last {α : Type} (l : List α) (x : α) : (l ++ [x]).eraseIdx l.length = l := by
  rw [List.eraseIdx_append_of_length_le (Nat.le_refl _), Nat.sub_self]
  simp
theorem set_last {α : Type} (l : List α) (x y : α) : (l ++ [x]).set l.length y = l ++ [y] := by
  rw [List.set_append_right _ _ (Nat.le_refl _), Nat.sub_self]
  rfl
theorem get_last {α : Type} (l : List α) (x : α) : (l ++ [x])[l.length]? = some x := by
  rw [List.getElem?_append_right (Nat.le_refl _), Nat.sub_self]
  rfl
/-- a comprehension with a state: its list is one's own -/
theorem lc_so {S : Type} (W : Ws A B0 H0 B H O) (tw : TW J B xs) (hn : xs.length ≤ sizeLine) (f : S → α → Option (S × Option β)) {s0 s1 : S} {ys : List β} (hx : lcs f s0 xs = some (s1, ys))
    (I : S → List (Addr × HO) → Hp → Prop) (mono : ∀ s O B B', Le B B' → I s O B → I s O B') (h0 : I s0 O B)
    (turn : ∀ s x s' o v O' B' H' D acc (Nx : Hp → Prop), Le B B' → Ws A B0 H0 B' H' (O' ++ [(D, .lst acc)]) → I s O' B' → Rp.R B' v x → f s x = some (s', o) →
      (∀ z O4 B4 H4 y, o = some z → Le B' B4 → Ws A B0 H0 B4 H4 (O4 ++ [(D, .lst acc)]) → I s' O4 B4 → Rp.R B4 y z → ∃ acc', H4 D = some (.lst acc') ∧ acc'.length < sizeLine ∧ Nx (upd H4 D (.lst (acc' ++ [y])))) →
      (∀ O4 B4 H4, o = none → Le B' B4 → Ws A B0 H0 B4 H4 (O4 ++ [(D, .lst acc)]) → I s' O4 B4 → Nx H4) →
      g v (wipe σ vs) H' fun σ2 H2 => wipe σ2 vs = wipe σ vs ∧ tt σ2 H2 fun b H3 => if b = true then te σ2 H3 fun y H4 => ∃ acc, H4 D = some (.lst acc) ∧ acc.length < sizeLine ∧ Nx (upd H4 D (.lst (acc ++ [y]))) else Nx H3)
    (done : ∀ p l O' B' H', H0 p = none → Le B B' → Ws A B0 H0 B' H' (O' ++ [(p, .lst l)]) → I s1 O' B' → l.length ≤ sizeLine → Rs B' l ys → Q (.ref p) H') :
    LcK g tt te vs σ Q J H := by
  intro D hD
  have hD0 : H0 D = none := W.old hD
  refine ⟨fun i m H1 => m = xs.length - i ∧ i ≤ xs.length ∧ ∃ s O' B' acc pre rest, lcs f s (xs.drop i) = some (s1, rest) ∧ ys = pre ++ rest ∧ Rs B' acc pre ∧ acc.length ≤ i ∧ Le B B' ∧ Ws A B0 H0 B' H1 (O' ++ [(D, .lst acc)]) ∧ I s O' B',
    ⟨xs.length, by simp, Nat.zero_le _, s0, O, B, [], [], ys, by rw [List.drop_zero]; exact hx, rfl, .nil, Nat.le_refl _, Le.refl _, W.nw hD _, h0⟩, ?_⟩
  rintro i m H1 ⟨rfl, hi, s, O1, B1, acc, pre, rest, hl, ey, rs, ha, le1, W1, i1⟩
  by_cases hlt : i < xs.length
  · refine .inr ⟨tw.go le1 W1.le hlt, ?_⟩
    have hget : xs[i]? = some xs[i] := List.getElem?_eq_getElem hlt
    rw [List.drop_eq_getElem_cons hlt] at hl
    unfold lcs at hl
    obtain ⟨⟨s', o⟩, hs, hl⟩ := bs hl
    obtain ⟨⟨s2, r2⟩, hs2, hl⟩ := bs hl
    have hl := Option.some.inj hl
    have e1 : s2 = s1 := congrArg Prod.fst hl
    have e2 : ocons o r2 = rest := congrArg Prod.snd hl
    subst e1
    refine ⟨fun H3 => ∃ O3 B3 acc' pre', ys = pre' ++ r2 ∧ Rs B3 acc' pre' ∧ acc'.length ≤ i + 1 ∧ Le B B3 ∧ Ws A B0 H0 B3 H3 (O3 ++ [(D, .lst acc')]) ∧ I s' O3 B3, ?_, fun x Hn y => ?_⟩
    · rintro H3 ⟨O3, B3, acc', pre', q1, q2, q3, q4, q5, q6⟩
      exact ⟨xs.length - (i + 1), by omega, rfl, hlt, s', O3, B3, acc', pre', r2, hs2, q1, q2, q3, q4, q5, q6⟩
    · obtain ⟨Bn, Wn, len, rn⟩ := tw.yld le1 W1 hget y
      refine turn s _ s' o x O1 Bn Hn D acc _ (le1.tr len) Wn (mono _ _ _ _ len i1) rn hs (fun z O4 B4 H4 y eo le4 W4 i4 r4 => ?_) (fun O4 B4 H4 eo le4 W4 i4 => ?_)
      · subst eo
        have hacc : acc.length < sizeLine := by omega
        refine ⟨acc, W4.at_ O4.length (get_last _ _), hacc, O4, B4, acc ++ [y], pre ++ [z], ?_, ?_, by rw [List.length_append, List.length_singleton]; omega, (le1.tr len).tr le4, ?_, i4⟩
        · rw [ey, ← e2, List.append_assoc]
          rfl
        · exact Rs.app (rs.mono (len.tr le4)) (Rs.one r4)
        · have q := W4.set O4.length (get_last _ _) (.lst (acc ++ [y]))
          rw [set_last] at q
          exact q
      · subst eo
        exact ⟨O4, B4, acc, pre, by rw [ey, ← e2]; rfl, rs.mono (len.tr le4), by omega, (le1.tr len).tr le4, W4, i4⟩
  · refine .inl ⟨tw.stop le1 W1.le (by omega), ?_⟩
    rw [List.drop_eq_nil_of_le (by omega)] at hl
    have hl := Option.some.inj hl
    have e1 : s = s1 := congrArg Prod.fst hl
    have e2 : [] = rest := congrArg Prod.snd hl
    subst e1
    subst e2
    rw [List.append_nil] at ey
    subst ey
    exact done D acc O1 B1 H1 hD0 le1 W1 i1 (by omega) rs
/-- .. let be -/
theorem lc_s {S : Type} (W : Ws A B0 H0 B H O) (tw : TW J B xs) (hn : xs.length ≤ sizeLine) (f : S → α → Option (S × Option β)) {s0 s1 : S} {ys : List β} (hx : lcs f s0 xs = some (s1, ys))
    (I : S → List (Addr × HO) → Hp → Prop) (mono : ∀ s O B B', Le B B' → I s O B → I s O B') (h0 : I s0 O B)
    (turn : ∀ s x s' o v O' B' H' D acc (Nx : Hp → Prop), Le B B' → Ws A B0 H0 B' H' (O' ++ [(D, .lst acc)]) → I s O' B' → Rp.R B' v x → f s x = some (s', o) →
      (∀ z O4 B4 H4 y, o = some z → Le B' B4 → Ws A B0 H0 B4 H4 (O4 ++ [(D, .lst acc)]) → I s' O4 B4 → Rp.R B4 y z → ∃ acc', H4 D = some (.lst acc') ∧ acc'.length < sizeLine ∧ Nx (upd H4 D (.lst (acc' ++ [y])))) →
      (∀ O4 B4 H4, o = none → Le B' B4 → Ws A B0 H0 B4 H4 (O4 ++ [(D, .lst acc)]) → I s' O4 B4 → Nx H4) →
      g v (wipe σ vs) H' fun σ2 H2 => wipe σ2 vs = wipe σ vs ∧ tt σ2 H2 fun b H3 => if b = true then te σ2 H3 fun y H4 => ∃ acc, H4 D = some (.lst acc) ∧ acc.length < sizeLine ∧ Nx (upd H4 D (.lst (acc ++ [y]))) else Nx H3)
    (done : ∀ v O' B' H', Le B B' → Ws A B0 H0 B' H' O' → I s1 O' B' → Rp.R B' v ys → Q v H') :
    LcK g tt te vs σ Q J H :=
  lc_so W tw hn f hx I mono h0 turn fun p l O' B' H' h0 le1 W1 i1 hl rs => by
    obtain ⟨Wf, lf⟩ := W1.fz O'.length (get_last _ _) h0
    rw [er_last] at Wf
    exact done _ O' _ H' (le1.tr lf) Wf (mono _ _ _ _ lf i1) ⟨p, l, rfl, upd_same, hl, rs.mono lf⟩
end
end Pv

namespace Pv
open PySem L2
/-- a list of one's own, told by its items -/
structure Ow {α : Type} [Rp α] (B : Hp) (l : List V) (xs : List α) : Prop where
  len : l.length ≤ sizeLine
  rs : Rs B l xs

/-! ### comprehensions without a state -/
theorem lcs_o {α β : Type} {f : α → Option β} : ∀ {xs : List α} {ys : List β}, mapO f xs = some ys → lcs (fun (_ : Unit) x => bd (f x) fun y => some ((), some y)) () xs = some ((), ys)
  | [], ys, h => by cases (Option.some.inj h : [] = ys); rfl
  | x :: r, ys, h => by
    unfold mapO at h
    obtain ⟨y, hy, h⟩ := bs h
    obtain ⟨zs, hz, h⟩ := bs h
    cases (Option.some.inj h : y :: zs = ys)
    show bd (bd (f x) _) _ = _
    rw [hy]
    show bd (lcs _ () r) _ = _
    rw [lcs_o hz]
    rfl
theorem lcs_fo {α β : Type} {f : α → Option (Option β)} : ∀ {xs : List α} {ys : List β}, fmapO f xs = some ys → lcs (fun (_ : Unit) x => bd (f x) fun o => some ((), o)) () xs = some ((), ys)
  | [], ys, h => by cases (Option.some.inj h : [] = ys); rfl
  | x :: r, ys, h => by
    unfold fmapO at h
    obtain ⟨o, hy, h⟩ := bs h
    obtain ⟨zs, hz, h⟩ := bs h
    cases (Option.some.inj h : ocons o zs = ys)
    show bd (bd (f x) _) _ = _
    rw [hy]
    show bd (lcs _ () r) _ = _
    rw [lcs_fo hz]
    rfl
theorem lcs_m {α β : Type} {f : α → β} : ∀ {xs : List α}, lcs (fun (_ : Unit) x => some ((), some (f x))) () xs = some ((), xs.map f)
  | [] => rfl
  | x :: r => by
    show bd (lcs _ () r) _ = _
    rw [lcs_m]
    rfl
theorem lcs_fm {α β : Type} {p : α → Bool} {f : α → β} : ∀ {xs : List α}, lcs (fun (_ : Unit) x => some ((), if p x = true then some (f x) else none)) () xs = some ((), (xs.filter p).map f)
  | [] => rfl
  | x :: r => by
    show bd (lcs _ () r) _ = _
    rw [lcs_fm]
    show some ((), ocons (if p x = true then some (f x) else none) _) = _
    rw [List.filter_cons]
    by_cases h : p x = true
    · rw [if_pos h, if_pos h]; rfl
    · rw [if_neg h, if_neg h]; rfl
section
variable {α β : Type} [Rp α] [Rp β] {A : List Addr} {B0 H0 B H : Hp} {O : List (Addr × HO)} {σ : L2.St} {g : TG} {tt : TT} {te : TE} {J : It} {xs : List α} {ys : List β} {vs : List Nat} {Q : VK}
/-- every element by itself; it may lack -/
theorem lc_fo (W : Ws A B0 H0 B H O) (tw : TW J B xs) (hn : xs.length ≤ sizeLine) (f : α → Option (Option β)) (hx : fmapO f xs = some ys)
    (turn : ∀ x o v B' H' D acc (Nx : Hp → Prop), Le B B' → Ws A B0 H0 B' H' (O ++ [(D, .lst acc)]) → Rp.R B' v x → f x = some o →
      (∀ z B4 H4 y, o = some z → Le B' B4 → Ws A B0 H0 B4 H4 (O ++ [(D, .lst acc)]) → Rp.R B4 y z → ∃ acc', H4 D = some (.lst acc') ∧ acc'.length < sizeLine ∧ Nx (upd H4 D (.lst (acc' ++ [y])))) →
      (∀ B4 H4, o = none → Le B' B4 → Ws A B0 H0 B4 H4 (O ++ [(D, .lst acc)]) → Nx H4) →
      g v (wipe σ vs) H' fun σ2 H2 => wipe σ2 vs = wipe σ vs ∧ tt σ2 H2 fun b H3 => if b = true then te σ2 H3 fun y H4 => ∃ acc, H4 D = some (.lst acc) ∧ acc.length < sizeLine ∧ Nx (upd H4 D (.lst (acc ++ [y]))) else Nx H3)
    (done : ∀ v B' H', Le B B' → Ws A B0 H0 B' H' O → Rp.R B' v ys → Q v H') :
    LcK g tt te vs σ Q J H := by
  refine lc_s W tw hn _ (lcs_fo hx) (fun _ O' _ => O' = O) (fun _ _ _ _ _ h => h) rfl (fun s x s' o v O' B' H' D acc Nx le1 W1 e1 r1 hf k1 k2 => ?_) (fun v O' B' H' le1 W1 e1 r1 => ?_)
  · subst e1
    obtain ⟨o2, ho, hf⟩ := bs hf
    cases (Option.some.inj hf : ((), o2) = (s', o))
    exact turn x o v B' H' D acc Nx le1 W1 r1 ho (fun z B4 H4 y e l4 W4 r4 => k1 z _ B4 H4 y e l4 W4 rfl r4) (fun B4 H4 e l4 W4 => k2 _ B4 H4 e l4 W4 rfl)
  · subst e1
    exact done v B' H' le1 W1 r1
/-- every element by itself -/
theorem lc_o (W : Ws A B0 H0 B H O) (tw : TW J B xs) (hn : xs.length ≤ sizeLine) (f : α → Option β) (hx : mapO f xs = some ys)
    (turn : ∀ x z v B' H' D acc (Nx : Hp → Prop), Le B B' → Ws A B0 H0 B' H' (O ++ [(D, .lst acc)]) → Rp.R B' v x → f x = some z →
      (∀ B4 H4 y, Le B' B4 → Ws A B0 H0 B4 H4 (O ++ [(D, .lst acc)]) → Rp.R B4 y z → ∃ acc', H4 D = some (.lst acc') ∧ acc'.length < sizeLine ∧ Nx (upd H4 D (.lst (acc' ++ [y])))) →
      g v (wipe σ vs) H' fun σ2 H2 => wipe σ2 vs = wipe σ vs ∧ te σ2 H2 fun y H4 => ∃ acc, H4 D = some (.lst acc) ∧ acc.length < sizeLine ∧ Nx (upd H4 D (.lst (acc ++ [y]))))
    (done : ∀ v B' H', Le B B' → Ws A B0 H0 B' H' O → Rp.R B' v ys → Q v H') :
    LcK g tYes te vs σ Q J H := by
  refine lc_s W tw hn _ (lcs_o hx) (fun _ O' _ => O' = O) (fun _ _ _ _ _ h => h) rfl (fun s x s' o v O' B' H' D acc Nx le1 W1 e1 r1 hf k1 k2 => ?_) (fun v O' B' H' le1 W1 e1 r1 => ?_)
  · subst e1
    obtain ⟨z, ho, hf⟩ := bs hf
    cases (Option.some.inj hf : ((), some z) = (s', o))
    exact turn x z v B' H' D acc Nx le1 W1 r1 ho (fun B4 H4 y l4 W4 r4 => k1 z _ B4 H4 y rfl l4 W4 rfl r4)
  · subst e1
    exact done v B' H' le1 W1 r1
/-- .. total -/
theorem lc_m (W : Ws A B0 H0 B H O) (tw : TW J B xs) (hn : xs.length ≤ sizeLine) (f : α → β)
    (turn : ∀ x v B' H' D acc (Nx : Hp → Prop), Le B B' → Ws A B0 H0 B' H' (O ++ [(D, .lst acc)]) → Rp.R B' v x →
      (∀ B4 H4 y, Le B' B4 → Ws A B0 H0 B4 H4 (O ++ [(D, .lst acc)]) → Rp.R B4 y (f x) → ∃ acc', H4 D = some (.lst acc') ∧ acc'.length < sizeLine ∧ Nx (upd H4 D (.lst (acc' ++ [y])))) →
      g v (wipe σ vs) H' fun σ2 H2 => wipe σ2 vs = wipe σ vs ∧ te σ2 H2 fun y H4 => ∃ acc, H4 D = some (.lst acc) ∧ acc.length < sizeLine ∧ Nx (upd H4 D (.lst (acc ++ [y]))))
    (done : ∀ v B' H', Le B B' → Ws A B0 H0 B' H' O → Rp.R B' v (xs.map f) → Q v H') :
    LcK g tYes te vs σ Q J H := by
  refine lc_s W tw hn _ (lcs_m (f := f)) (fun _ O' _ => O' = O) (fun _ _ _ _ _ h => h) rfl (fun s x s' o v O' B' H' D acc Nx le1 W1 e1 r1 hf k1 k2 => ?_) (fun v O' B' H' le1 W1 e1 r1 => ?_)
  · subst e1
    cases (Option.some.inj hf : ((), some (f x)) = (s', o))
    exact turn x v B' H' D acc Nx le1 W1 r1 (fun B4 H4 y l4 W4 r4 => k1 _ _ B4 H4 y rfl l4 W4 rfl r4)
  · subst e1
    exact done v B' H' le1 W1 r1
/-- .. total, some left out -/
theorem lc_fm (W : Ws A B0 H0 B H O) (tw : TW J B xs) (hn : xs.length ≤ sizeLine) (p : α → Bool) (f : α → β)
    (turn : ∀ x v B' H' D acc (Nx : Hp → Prop), Le B B' → Ws A B0 H0 B' H' (O ++ [(D, .lst acc)]) → Rp.R B' v x →
      (∀ B4 H4 y, p x = true → Le B' B4 → Ws A B0 H0 B4 H4 (O ++ [(D, .lst acc)]) → Rp.R B4 y (f x) → ∃ acc', H4 D = some (.lst acc') ∧ acc'.length < sizeLine ∧ Nx (upd H4 D (.lst (acc' ++ [y])))) →
      (∀ B4 H4, p x = false → Le B' B4 → Ws A B0 H0 B4 H4 (O ++ [(D, .lst acc)]) → Nx H4) →
      g v (wipe σ vs) H' fun σ2 H2 => wipe σ2 vs = wipe σ vs ∧ tt σ2 H2 fun b H3 => if b = true then te σ2 H3 fun y H4 => ∃ acc, H4 D = some (.lst acc) ∧ acc.length < sizeLine ∧ Nx (upd H4 D (.lst (acc ++ [y]))) else Nx H3)
    (done : ∀ v B' H', Le B B' → Ws A B0 H0 B' H' O → Rp.R B' v ((xs.filter p).map f) → Q v H') :
    LcK g tt te vs σ Q J H := by
  refine lc_s W tw hn _ (lcs_fm (p := p) (f := f)) (fun _ O' _ => O' = O) (fun _ _ _ _ _ h => h) rfl (fun s x s' o v O' B' H' D acc Nx le1 W1 e1 r1 hf k1 k2 => ?_) (fun v O' B' H' le1 W1 e1 r1 => ?_)
  · subst e1
    have hf := Option.some.inj hf
    have e2 : (if p x = true then some (f x) else none) = o := congrArg Prod.snd hf
    cases e : p x with
    | true =>
      rw [e, if_pos rfl] at e2
      exact turn x v B' H' D acc Nx le1 W1 r1 (fun B4 H4 y _ l4 W4 r4 => k1 _ _ B4 H4 y e2.symm l4 W4 rfl r4) (fun B4 H4 z _ _ => by rw [e] at z; cases z)
    | false =>
      rw [e] at e2
      exact turn x v B' H' D acc Nx le1 W1 r1 (fun B4 H4 y z _ _ _ => by rw [e] at z; cases z) (fun B4 H4 _ l4 W4 => k2 _ B4 H4 e2.symm l4 W4 rfl)
  · subst e1
    exact done v B' H' le1 W1 r1
/-! .. the list one's own -/
/-- every element by itself; it may lack -/
theorem lc_fow (W : Ws A B0 H0 B H O) (tw : TW J B xs) (hn : xs.length ≤ sizeLine) (f : α → Option (Option β)) (hx : fmapO f xs = some ys)
    (turn : ∀ x o v B' H' D acc (Nx : Hp → Prop), Le B B' → Ws A B0 H0 B' H' (O ++ [(D, .lst acc)]) → Rp.R B' v x → f x = some o →
      (∀ z B4 H4 y, o = some z → Le B' B4 → Ws A B0 H0 B4 H4 (O ++ [(D, .lst acc)]) → Rp.R B4 y z → ∃ acc', H4 D = some (.lst acc') ∧ acc'.length < sizeLine ∧ Nx (upd H4 D (.lst (acc' ++ [y])))) →
      (∀ B4 H4, o = none → Le B' B4 → Ws A B0 H0 B4 H4 (O ++ [(D, .lst acc)]) → Nx H4) →
      g v (wipe σ vs) H' fun σ2 H2 => wipe σ2 vs = wipe σ vs ∧ tt σ2 H2 fun b H3 => if b = true then te σ2 H3 fun y H4 => ∃ acc, H4 D = some (.lst acc) ∧ acc.length < sizeLine ∧ Nx (upd H4 D (.lst (acc ++ [y]))) else Nx H3)
    (done : ∀ q l B' H', H0 q = none → Le B B' → Ws A B0 H0 B' H' (O ++ [(q, .lst l)]) → Ow B' l ys → Q (.ref q) H') :
    LcK g tt te vs σ Q J H := by
  refine lc_so W tw hn _ (lcs_fo hx) (fun _ O' _ => O' = O) (fun _ _ _ _ _ h => h) rfl (fun s x s' o v O' B' H' D acc Nx le1 W1 e1 r1 hf k1 k2 => ?_) (fun p l O' B' H' hp le1 W1 e1 hl r1 => ?_)
  · subst e1
    obtain ⟨o2, ho, hf⟩ := bs hf
    cases (Option.some.inj hf : ((), o2) = (s', o))
    exact turn x o v B' H' D acc Nx le1 W1 r1 ho (fun z B4 H4 y e l4 W4 r4 => k1 z _ B4 H4 y e l4 W4 rfl r4) (fun B4 H4 e l4 W4 => k2 _ B4 H4 e l4 W4 rfl)
  · subst e1
    exact done p l B' H' hp le1 W1 ⟨hl, r1⟩
/-- every element by itself -/
theorem lc_ow (W : Ws A B0 H0 B H O) (tw : TW J B xs) (hn : xs.length ≤ sizeLine) (f : α → Option β) (hx : mapO f xs = some ys)
    (turn : ∀ x z v B' H' D acc (Nx : Hp → Prop), Le B B' → Ws A B0 H0 B' H' (O ++ [(D, .lst acc)]) → Rp.R B' v x → f x = some z →
      (∀ B4 H4 y, Le B' B4 → Ws A B0 H0 B4 H4 (O ++ [(D, .lst acc)]) → Rp.R B4 y z → ∃ acc', H4 D = some (.lst acc') ∧ acc'.length < sizeLine ∧ Nx (upd H4 D (.lst (acc' ++ [y])))) →
      g v (wipe σ vs) H' fun σ2 H2 => wipe σ2 vs = wipe σ vs ∧ te σ2 H2 fun y H4 => ∃ acc, H4 D = some (.lst acc) ∧ acc.length < sizeLine ∧ Nx (upd H4 D (.lst (acc ++ [y]))))
    (done : ∀ q l B' H', H0 q = none → Le B B' → Ws A B0 H0 B' H' (O ++ [(q, .lst l)]) → Ow B' l ys → Q (.ref q) H') :
    LcK g tYes te vs σ Q J H := by
  refine lc_so W tw hn _ (lcs_o hx) (fun _ O' _ => O' = O) (fun _ _ _ _ _ h => h) rfl (fun s x s' o v O' B' H' D acc Nx le1 W1 e1 r1 hf k1 k2 => ?_) (fun p l O' B' H' hp le1 W1 e1 hl r1 => ?_)
  · subst e1
    obtain ⟨z, ho, hf⟩ := bs hf
    cases (Option.some.inj hf : ((), some z) = (s', o))
    exact turn x z v B' H' D acc Nx le1 W1 r1 ho (fun B4 H4 y l4 W4 r4 => k1 z _ B4 H4 y rfl l4 W4 rfl r4)
  · subst e1
    exact done p l B' H' hp le1 W1 ⟨hl, r1⟩
/-- .. total -/
theorem lc_mw (W : Ws A B0 H0 B H O) (tw : TW J B xs) (hn : xs.length ≤ sizeLine) (f : α → β)
    (turn : ∀ x v B' H' D acc (Nx : Hp → Prop), Le B B' → Ws A B0 H0 B' H' (O ++ [(D, .lst acc)]) → Rp.R B' v x →
      (∀ B4 H4 y, Le B' B4 → Ws A B0 H0 B4 H4 (O ++ [(D, .lst acc)]) → Rp.R B4 y (f x) → ∃ acc', H4 D = some (.lst acc') ∧ acc'.length < sizeLine ∧ Nx (upd H4 D (.lst (acc' ++ [y])))) →
      g v (wipe σ vs) H' fun σ2 H2 => wipe σ2 vs = wipe σ vs ∧ te σ2 H2 fun y H4 => ∃ acc, H4 D = some (.lst acc) ∧ acc.length < sizeLine ∧ Nx (upd H4 D (.lst (acc ++ [y]))))
    (done : ∀ q l B' H', H0 q = none → Le B B' → Ws A B0 H0 B' H' (O ++ [(q, .lst l)]) → Ow B' l (xs.map f) → Q (.ref q) H') :
    LcK g tYes te vs σ Q J H := by
  refine lc_so W tw hn _ (lcs_m (f := f)) (fun _ O' _ => O' = O) (fun _ _ _ _ _ h => h) rfl (fun s x s' o v O' B' H' D acc Nx le1 W1 e1 r1 hf k1 k2 => ?_) (fun p l O' B' H' hp le1 W1 e1 hl r1 => ?_)
  · subst e1
    cases (Option.some.inj hf : ((), some (f x)) = (s', o))
    exact turn x v B' H' D acc Nx le1 W1 r1 (fun B4 H4 y l4 W4 r4 => k1 _ _ B4 H4 y rfl l4 W4 rfl r4)
  · subst e1
    exact done p l B' H' hp le1 W1 ⟨hl, r1⟩
/-- .. total, some left out -/
theorem lc_fmw (W : Ws A B0 H0 B H O) (tw : TW J B xs) (hn : xs.length ≤ sizeLine) (p : α → Bool) (f : α → β)
    (turn : ∀ x v B' H' D acc (Nx : Hp → Prop), Le B B' → Ws A B0 H0 B' H' (O ++ [(D, .lst acc)]) → Rp.R B' v x →
      (∀ B4 H4 y, p x = true → Le B' B4 → Ws A B0 H0 B4 H4 (O ++ [(D, .lst acc)]) → Rp.R B4 y (f x) → ∃ acc', H4 D = some (.lst acc') ∧ acc'.length < sizeLine ∧ Nx (upd H4 D (.lst (acc' ++ [y])))) →
      (∀ B4 H4, p x = false → Le B' B4 → Ws A B0 H0 B4 H4 (O ++ [(D, .lst acc)]) → Nx H4) →
      g v (wipe σ vs) H' fun σ2 H2 => wipe σ2 vs = wipe σ vs ∧ tt σ2 H2 fun b H3 => if b = true then te σ2 H3 fun y H4 => ∃ acc, H4 D = some (.lst acc) ∧ acc.length < sizeLine ∧ Nx (upd H4 D (.lst (acc ++ [y]))) else Nx H3)
    (done : ∀ q l B' H', H0 q = none → Le B B' → Ws A B0 H0 B' H' (O ++ [(q, .lst l)]) → Ow B' l ((xs.filter p).map f) → Q (.ref q) H') :
    LcK g tt te vs σ Q J H := by
  refine lc_so W tw hn _ (lcs_fm (p := p) (f := f)) (fun _ O' _ => O' = O) (fun _ _ _ _ _ h => h) rfl (fun s x s' o v O' B' H' D acc Nx le1 W1 e1 r1 hf k1 k2 => ?_) (fun p l O' B' H' hp le1 W1 e1 hl r1 => ?_)
  · subst e1
    have hf := Option.some.inj hf
    have e2 : (if p x = true then some (f x) else none) = o := congrArg Prod.snd hf
    cases e : p x with
    | true =>
      rw [e, if_pos rfl] at e2
      exact turn x v B' H' D acc Nx le1 W1 r1 (fun B4 H4 y _ l4 W4 r4 => k1 _ _ B4 H4 y e2.symm l4 W4 rfl r4) (fun B4 H4 z _ _ => by rw [e] at z; cases z)
    | false =>
      rw [e] at e2
      exact turn x v B' H' D acc Nx le1 W1 r1 (fun B4 H4 y z _ _ _ => by rw [e] at z; cases z) (fun B4 H4 _ l4 W4 => k2 _ B4 H4 e2.symm l4 W4 rfl)
  · subst e1
    exact done p l B' H' hp le1 W1 ⟨hl, r1⟩
end

/-! ### while -/
section
variable {A : List Addr} {B0 H0 B H : Hp} {O : List (Addr × HO)} {σ : L2.St} {D : Ends} {tc : TT} {tb : TS}
theorem wh_t {ρ S : Type} (W : Ws A B0 H0 B H O) (t : S → Option Bool) (f : S → Option (Ct ρ S)) {n : Nat} {s0 : S} {fin : Ct ρ S} (hx : wh t f n s0 = some fin)
    (I : S → L2.St → List (Addr × HO) → Hp → Prop) (mono : ∀ s σ O B B', Le B B' → I s σ O B → I s σ O B') (h0 : I s0 σ O B)
    (test : ∀ s b σ' O' B' H' (Q' : Bool → Hp → Prop), Le B B' → Ws A B0 H0 B' H' O' → I s σ' O' B' → t s = some b → (∀ B2 H2, Le B' B2 → Ws A B0 H0 B2 H2 O' → Q' b H2) → tc σ' H' Q')
    (turn : ∀ s c σ' O' B' H', Le B B' → Ws A B0 H0 B' H' O' → I s σ' O' B' → t s = some true → f s = some c → (∀ s', c = .bk s' → fin = .bk s') → (∀ r, c = .rt r → fin = .rt r) →
      tb { D with nx := fun σ3 H3 => ∃ s' O3 B3, c = .nx s' ∧ Le B B3 ∧ Ws A B0 H0 B3 H3 O3 ∧ I s' σ3 O3 B3, ct := fun σ3 H3 => ∃ s' O3 B3, c = .nx s' ∧ Le B B3 ∧ Ws A B0 H0 B3 H3 O3 ∧ I s' σ3 O3 B3, bk := D.nx } σ' H')
    (done : ∀ s σ' O' B' H', fin = .nx s → t s = some false → Le B B' → Ws A B0 H0 B' H' O' → I s σ' O' B' → D.nx σ' H') : tWhile tc tb D σ H := by
  refine ⟨fun m σ H => ∃ s O' B', wh t f m s = some fin ∧ Le B B' ∧ Ws A B0 H0 B' H O' ∧ I s σ O' B', ⟨n, s0, O, B, hx, Le.refl _, W, h0⟩, ?_⟩
  rintro m σ1 H1 ⟨s, O1, B1, hl, le1, W1, i1⟩
  cases m with
  | zero => cases hl
  | succ m =>
    unfold wh at hl
    obtain ⟨b, hb, hl⟩ := bs hl
    refine test s b σ1 O1 B1 H1 _ le1 W1 i1 hb fun B2 H2 le2 W2 => ?_
    have i2 := mono s σ1 O1 B1 B2 le2 i1
    cases b with
    | false =>
      refine ifF rfl ?_
      exact done s σ1 O1 B2 H2 (Option.some.inj hl).symm hb (le1.tr le2) W2 i2
    | true =>
      refine ifT rfl ?_
      have hl : bd (f s) _ = some fin := hl
      obtain ⟨c, hc, hl⟩ := bs hl
      refine ⟨fun σ3 H3 => ∃ s' O3 B3, c = .nx s' ∧ Le B B3 ∧ Ws A B0 H0 B3 H3 O3 ∧ I s' σ3 O3 B3, ?_, ?_⟩
      · rintro σ3 H3 ⟨s', O3, B3, e, le3, W3, i3⟩
        subst e
        exact ⟨m, Nat.lt_succ_self _, s', O3, B3, hl, le3, W3, i3⟩
      · refine turn s c σ1 O1 B2 H2 (le1.tr le2) W2 i2 hb hc (fun s' e => ?_) (fun r e => ?_)
        · subst e; exact (Option.some.inj hl).symm
        · subst e; exact (Option.some.inj hl).symm
end

/-! ### a list of one's own, told by its items -/
section
variable {α : Type} [Rp α] {A : List Addr} {B0 H0 B B' H : Hp} {O : List (Addr × HO)} {Q : VK} {K : PySem.W.Frag} {v : V} {l : List V} {xs : List α} {a : Addr}
theorem Ow.mono (m : Le B B') (o : Ow B l xs) : Ow B' l xs := ⟨o.len, o.rs.mono m⟩
theorem Ow.nil : Ow B [] ([] : List α) := ⟨Nat.zero_le _, .nil⟩
theorem oIx {x : α} {i : Int} (W : Ws A B0 H0 B H O) (n : Nat) (hn : O[n]? = some (a, .lst l)) (o : Ow B l xs) (h : atI xs i = some x) (k : ∀ w, Rp.R B w x → Q w H) : rIxL K (.ref a) (.int i) H Q := ixLo_ W n hn o.rs h k
theorem oSet {x : α} {i : Int} {j : Nat} {Q : Hp → Prop} (W : Ws A B0 H0 B H O) (n : Nat) (hn : O[n]? = some (a, .lst l)) (o : Ow B l xs) (r : Rp.R B v x) (hj : ixN xs.length i = some j)
    (k : ∀ H' l', Ws A B0 H0 B H' (O.set n (a, .lst l')) → Ow B l' (xs.set j x) → Q H') : rSetL (.ref a) (.int i) v H Q :=
  setL_ W n hn (by rw [o.rs.len]; exact hj) fun H' W' => k H' _ W' ⟨by rw [List.length_set]; exact o.len, o.rs.set r j⟩
theorem oApp {x : α} (W : Ws A B0 H0 B H O) (n : Nat) (hn : O[n]? = some (a, .lst l)) (o : Ow B l xs) (r : Rp.R B v x) (h : xs.length < sizeLine)
    (k : ∀ H' l', Ws A B0 H0 B H' (O.set n (a, .lst l')) → Ow B l' (xs ++ [x]) → Q .non H') : rAppend (.ref a) [v] H Q :=
  app_ W n hn (by rw [o.rs.len]; exact h) fun H' W' => k H' _ W' ⟨by rw [List.length_append, o.rs.len]; exact h, o.rs.app (Rs.one r)⟩
theorem oPop {x : α} (W : Ws A B0 H0 B H O) (n : Nat) (hn : O[n]? = some (a, .lst l)) (o : Ow B l xs) (h : xs.getLast? = some x)
    (k : ∀ w H' l', Ws A B0 H0 B H' (O.set n (a, .lst l')) → Rp.R B w x → Ow B l' xs.dropLast → Q w H') : rPop (.ref a) [] H Q := by
  rw [List.getLast?_eq_getElem?] at h
  obtain ⟨w, hw, r⟩ := o.rs.get h
  refine pop_ W n hn (v := w) (by rw [o.rs.len]; exact hw) fun H' W' => k w H' _ W' r ⟨by rw [List.length_dropLast]; exact Nat.le_trans (Nat.sub_le _ _) o.len, ?_⟩
  rw [List.dropLast_eq_take, List.dropLast_eq_take, o.rs.len]
  exact o.rs.take _
theorem oRev (W : Ws A B0 H0 B H O) (n : Nat) (hn : O[n]? = some (a, .lst l)) (o : Ow B l xs)
    (k : ∀ H' l', Ws A B0 H0 B H' (O.set n (a, .lst l')) → Ow B l' xs.reverse → Q .non H') : rReverse (.ref a) [] H Q :=
  rev_ W n hn fun H' W' => k H' _ W' ⟨by rw [List.length_reverse]; exact o.len, o.rs.rev⟩
theorem oClr (W : Ws A B0 H0 B H O) (n : Nat) (hn : O[n]? = some (a, .lst l)) (o : Ow B l xs)
    (k : ∀ H' l', Ws A B0 H0 B H' (O.set n (a, .lst l')) → Ow B l' ([] : List α) → Q .non H') : rClear (.ref a) [] H Q :=
  clr_ W n hn fun H' W' => k H' _ W' .nil
theorem oIns {x : α} {i : Int} (W : Ws A B0 H0 B H O) (n : Nat) (hn : O[n]? = some (a, .lst l)) (o : Ow B l xs) (r : Rp.R B v x) (h : xs.length < sizeLine ∧ 0 ≤ i ∧ i < 2 ^ 63)
    (k : ∀ H' l', Ws A B0 H0 B H' (O.set n (a, .lst l')) → Ow B l' (xs.take i.toNat ++ [x] ++ xs.drop i.toNat) → Q .non H') :
    rdIns (.ref a) [.int i, v] H Q := by
  have hl : l.length < sizeLine := by rw [o.rs.len]; exact h.1
  refine ⟨a, l, i, v, rfl, rfl, W.at_ n hn, hl, h.2.1, h.2.2, k _ _ (W.set n hn _) ⟨?_, ((o.rs.take _).app (Rs.one r)).app (o.rs.drop _)⟩⟩
  rw [List.length_append, List.length_append, List.length_take, List.length_drop, List.length_singleton]
  omega
theorem oLen (W : Ws A B0 H0 B H O) (n : Nat) (hn : O[n]? = some (a, .lst l)) (o : Ow B l xs) (k : Q (.int (xs.length : Int)) H) : rdLen K [V.ref a] H Q := lenLo_ W n hn o.rs k
/-- let be for good -/
theorem oFz {P : Prop} (W : Ws A B0 H0 B H O) (n : Nat) (hn : O[n]? = some (a, .lst l)) (h0 : H0 a = none) (o : Ow B l xs) (k : ∀ B', Ws A B0 H0 B' H (O.eraseIdx n) → Le B B' → Rp.R B' (.ref a) xs → P) : P := fzL W n hn h0 o.len o.rs k
/-- a new one of one's own -/
theorem oMk {vs : List V} (W : Ws A B0 H0 B H O) (rs : Rs B vs xs) (hl : vs.length ≤ sizeLine) (k : ∀ p H' l, H0 p = none → Ws A B0 H0 B H' (O ++ [(p, .lst l)]) → Ow B l xs → Q (.ref p) H') : MkLs Q vs H :=
  mkO W hl fun p H' h0 W' => k p H' vs h0 W' ⟨hl, rs⟩
end

/-! ### what is one's own, handed in for a while as what stays -/
structure Ln (B H : Hp) (Os O : List (Addr × HO)) (B1 : Hp) : Prop where
  le : Le B B1
  leH : Le B1 H
  off : ∀ p ∈ O, B1 p.1 = none
  src : ∀ a o, B1 a = some o → B a = some o ∨ a ∈ Os.map (·.1)
section
variable {α : Type} [Rp α] {A : List Addr} {B0 H0 B B1 B' H H' : Hp} {O O' O1 O2 : List (Addr × HO)} {l : List V} {xs : List α} {a : Addr}
theorem Ws.ln (W : Ws A B0 H0 B H (O1 ++ O ++ O2)) : Ln B H (O1 ++ O2) O B :=
  ⟨Le.refl _, W.le, fun p hp => (W.own p (List.mem_append_left _ (List.mem_append_right _ hp))).2.1, fun _ _ e => .inl e⟩
theorem Ws.apart (W : Ws A B0 H0 B H (O1 ++ O ++ O2)) : ∀ p ∈ O1 ++ O2, p ∈ O1 ++ O ++ O2 ∧ p.1 ∉ O.map (·.1) := fun p hp => by
  have nd := W.nd
  rw [List.map_append, List.map_append] at nd
  obtain ⟨n12, n2, n3⟩ := List.nodup_append.mp nd
  obtain ⟨n1, nO, n4⟩ := List.nodup_append.mp n12
  rcases List.mem_append.mp hp with m | m
  · exact ⟨List.mem_append_left _ (List.mem_append_left _ m), fun z => n4 p.1 (List.mem_map.mpr ⟨p, m, rfl⟩) _ z rfl⟩
  · exact ⟨List.mem_append_right _ m, fun z => n3 p.1 (List.mem_append_right _ z) p.1 (List.mem_map.mpr ⟨p, m, rfl⟩) rfl⟩
theorem Ln.add (L : Ln B H (O1 ++ O2) O B1) (W : Ws A B0 H0 B H (O1 ++ O ++ O2)) (n : Nat) (hn : (O1 ++ O2)[n]? = some (a, .lst l)) (o : Ow B l xs) :
    ∃ B2, Ln B H (O1 ++ O2) O B2 ∧ Le B1 B2 ∧ Rp.R B2 (.ref a) xs := by
  have hm := List.mem_of_getElem? hn
  obtain ⟨m1, m2⟩ := W.apart _ hm
  have hH : H a = some (.lst l) := (W.own _ m1).1
  have l12 : Le B1 (upd B1 a (.lst l)) := fun b u e => by
    by_cases z : b = a
    · subst z
      obtain ⟨u', e1, e2⟩ := L.leH b u e
      rw [hH] at e1
      cases e1
      exact ⟨_, upd_same, e2⟩
    · exact ⟨u, by rw [upd_ne z]; exact e, rfl⟩
  refine ⟨upd B1 a (.lst l), ⟨L.le.tr l12, fun b u e => ?_, fun p hp => ?_, fun b u e => ?_⟩, l12, a, l, rfl, upd_same, o.len, o.rs.mono (L.le.tr l12)⟩
  · by_cases z : b = a
    · subst z; rw [upd_same] at e; cases e; exact ⟨_, hH, rfl⟩
    · rw [upd_ne z] at e; exact L.leH b u e
  · have ne : p.1 ≠ a := fun z => m2 (List.mem_map.mpr ⟨p, hp, z⟩)
    rw [upd_ne ne]
    exact L.off p hp
  · by_cases z : b = a
    · subst z; exact .inr (List.mem_map.mpr ⟨_, hm, rfl⟩)
    · rw [upd_ne z] at e; exact L.src b u e
theorem Ln.call (L : Ln B H (O1 ++ O2) O B1) (W : Ws A B0 H0 B H (O1 ++ O ++ O2)) : Ws (O.map (·.1)) B1 H B1 H O := by
  have V := W.call
  exact ⟨L.leH, fun p hp => ⟨(V.own p hp).1, L.off p hp, (V.own p hp).2.2⟩, V.nd, Le.refl _, V.fr, V.al, fun _ _ _ n => n⟩
theorem Ln.back (L : Ln B H (O1 ++ O2) O B1) (W : Ws A B0 H0 B H (O1 ++ O ++ O2)) (V : Ws (O.map (·.1)) B1 H B' H' O') : ∃ B2, Ws A B0 H0 B2 H' (O1 ++ O' ++ O2) ∧ Le B B2 := by
  let B2 : Hp := fun b => if b ∈ (O1 ++ O2).map (·.1) then none else B' b
  have b2n : ∀ b, B' b = none → B2 b = none := fun b e => by
    show (if _ then _ else _) = _
    split
    · rfl
    · exact e
  have lB : Le B B2 := fun b u e => by
    have n : b ∉ (O1 ++ O2).map (·.1) := fun z => by
      obtain ⟨p, hp, rfl⟩ := List.mem_map.mp z
      rw [(W.own p (W.apart p hp).1).2.1] at e
      cases e
    obtain ⟨u', e1, e2⟩ := (L.le.tr V.bb) b u e
    exact ⟨u', (if_neg n).trans e1, e2⟩
  have V2 : Ws (O.map (·.1)) B H B2 H' O' := by
    refine ⟨fun b u e => ?_, fun p hp => ⟨(V.own p hp).1, b2n _ (V.own p hp).2.1, (V.own p hp).2.2⟩, V.nd, lB, V.fr, V.al, fun b u e n => ?_⟩
    · have e : (if b ∈ (O1 ++ O2).map (·.1) then none else B' b) = some u := e
      split at e
      · cases e
      · exact V.le b u e
    · by_cases m : b ∈ (O1 ++ O2).map (·.1)
      · exact if_pos m
      · refine b2n b (V.no b u e ?_)
        cases z : B1 b with
        | none => rfl
        | some q =>
          rcases L.src b q z with k | k
          · rw [n] at k; cases k
          · exact absurd k m
  exact ⟨B2, W.back V2, lB⟩
end
/-! ### what does not lie in the heap -/
class Sc (α : Type) [Rp α] : Prop where
  any : ∀ {B B' : Hp} {v : V} {x : α}, Rp.R B v x → Rp.R B' v x
instance : Sc Int := ⟨fun h => h⟩
instance : Sc Bool := ⟨fun h => h⟩
instance : Sc Str := ⟨fun h => h⟩
theorem Rs.any {α : Type} [Rp α] [Sc α] {B B' : Hp} : ∀ {vs : List V} {xs : List α}, Rs B vs xs → Rs B' vs xs
  | _, _, .nil => .nil
  | _, _, .cons h t => .cons (Sc.any h) (Rs.any t)
theorem Ow.any {α : Type} [Rp α] [Sc α] {B B' : Hp} {vs : List V} {xs : List α} (o : Ow B vs xs) : Ow B' vs xs := ⟨o.len, o.rs.any⟩
/-- turns enough -/
def FU : Nat := 2 ^ 200
theorem ct_nb {ρ S τ : Type} {c : Ct ρ S} {s : S} {n : S → Option τ} {r : ρ → Option τ} {x : τ} (e : c = .nx s ∨ c = .bk s) (h : ctk c n r = some x) : n s = some x := by
  rcases e with rfl | rfl
  · exact h
  · exact h
theorem Ws.start (H : Hp) : Ws [] H H H H [] := ⟨Le.refl _, (fun p hp => absurd hp (List.not_mem_nil)), List.Pairwise.nil, Le.refl _, fun _ _ e _ => e, fun _ o e => ⟨o, e⟩, fun _ _ _ n => n⟩
end Pv

namespace Pv
open PySem L2

/-! ### deep ==, deep in -/
class Dat (α : Type) [Rp α] [DecidableEq α] where
  d : α → PyData
  dp : ∀ {K : PySem.W.Frag} {B H : Hp} {v : V} {x : α}, Le B H → Rp.R B v x → Dp K H v (d x)
  eqv : ∀ x y : α, PyData.eqv (d x) (d y) = decide (x = y)
/-- small enough, and its texts are texts -/
def shp {α : Type} [Rp α] [DecidableEq α] [Dat α] (x : α) : Bool := SeqAt.shaped (Dat.d x)
def shps {α : Type} [Rp α] [DecidableEq α] [Dat α] (xs : List α) : Bool := SeqAt.shaped (.list (xs.map Dat.d))
section
variable {α β γ δ : Type} [Rp α] [Rp β] [Rp γ] [Rp δ] [DecidableEq α] [DecidableEq β] [DecidableEq γ] [DecidableEq δ] [Dat α] [Dat β] [Dat γ] [Dat δ] {K : PySem.W.Frag} {B H : Hp}
theorem Rs.dps (l : Le B H) : ∀ {vs : List V} {xs : List α}, Rs B vs xs → DpAll K H vs (xs.map Dat.d)
  | _, _, .nil => .nil
  | _, _, .cons h t => .cons (Dat.dp l h) (Rs.dps l t)
theorem eqvs : ∀ xs ys : List α, PyData.eqvAll (xs.map Dat.d) (ys.map Dat.d) = decide (xs = ys)
  | [], [] => by simp [PyData.eqvAll]
  | [], _ :: _ => by simp [PyData.eqvAll]
  | _ :: _, [] => by simp [PyData.eqvAll]
  | x :: xs, y :: ys => by
    rw [List.map_cons, List.map_cons, PyData.eqvAll, Dat.eqv, eqvs xs ys]
    by_cases h1 : x = y
    · by_cases h2 : xs = ys
      · simp [h1, h2]
      · simp [h1, h2]
    · simp [h1]
theorem anyD (xs : List α) (x : α) : ((xs.map Dat.d).any fun z => PyData.eqv z (Dat.d x)) = decide (x ∈ xs) := by
  induction xs with
  | nil => simp
  | cons y r ih =>
    rw [List.map_cons, List.any_cons, ih, Dat.eqv]
    by_cases e : y = x
    · subst e; simp
    · have e' : ¬ x = y := fun z => e z.symm
      simp [e, e']
instance : Dat Int := ⟨.int, fun _ r => by cases (show _ = V.int _ from r); exact .int _, fun x y => by
  rw [PyData.eqv]; by_cases h : x = y <;> simp [h]⟩
instance : Dat Str := ⟨.str, fun _ r => by cases (show _ = V.str _ from r); exact .str _, fun x y => by
  rw [PyData.eqv]; by_cases h : x = y <;> simp [h]⟩
instance : Dat Bool := ⟨.bool, fun _ r => by cases (show _ = V.bl _ from r); exact .bl _, fun x y => by
  rw [PyData.eqv]; by_cases h : x = y <;> simp [h]⟩
instance : Dat (List α) := ⟨fun xs => .list (xs.map Dat.d), fun l r => by
  obtain ⟨a, vs, rfl, h1, h2, h3⟩ := r
  exact .lst (SqL.of (l.lst h1)) (h3.dps l), fun x y => by rw [PyData.eqv, eqvs]⟩
instance : Dat (TV α) := ⟨fun t => .tuple (t.l.map Dat.d), fun l r => by
  obtain ⟨a, vs, rfl, h1, h2, h3⟩ := r
  exact .tup (SqT.of (l.tup h1)) (h3.dps l), fun x y => by
  obtain ⟨x⟩ := x
  obtain ⟨y⟩ := y
  rw [PyData.eqv, eqvs]
  exact decide_eq_decide.mpr (by simp)⟩
instance : Dat (α × β) := ⟨fun t => .tuple [Dat.d t.1, Dat.d t.2], fun l r => by
  obtain ⟨a, u, w, rfl, h1, h2, h3⟩ := r
  exact .tup (SqT.of (l.tup h1)) (.cons (Dat.dp l h2) (.cons (Dat.dp l h3) .nil)), fun x y => by
  obtain ⟨x1, x2⟩ := x
  obtain ⟨y1, y2⟩ := y
  rw [PyData.eqv, PyData.eqvAll, PyData.eqvAll, PyData.eqvAll, Dat.eqv, Dat.eqv]
  by_cases h1 : x1 = y1 <;> by_cases h2 : x2 = y2 <;> simp [h1, h2]⟩
instance : Dat (T3 α β γ) := ⟨fun t => .tuple [Dat.d t.a, Dat.d t.b, Dat.d t.c], fun l r => by
  obtain ⟨a, u, w, z, rfl, h1, h2, h3, h4⟩ := r
  exact .tup (SqT.of (l.tup h1)) (.cons (Dat.dp l h2) (.cons (Dat.dp l h3) (.cons (Dat.dp l h4) .nil))), fun x y => by
  obtain ⟨x1, x2, x3⟩ := x
  obtain ⟨y1, y2, y3⟩ := y
  rw [PyData.eqv, PyData.eqvAll, PyData.eqvAll, PyData.eqvAll, PyData.eqvAll, Dat.eqv, Dat.eqv, Dat.eqv]
  by_cases h1 : x1 = y1 <;> by_cases h2 : x2 = y2 <;> by_cases h3 : x3 = y3 <;> simp [h1, h2, h3]⟩
instance : Dat (T4 α β γ δ) := ⟨fun t => .tuple [Dat.d t.a, Dat.d t.b, Dat.d t.c, Dat.d t.d], fun l r => by
  obtain ⟨a, u, w, z, y, rfl, h1, h2, h3, h4, h5⟩ := r
  exact .tup (SqT.of (l.tup h1)) (.cons (Dat.dp l h2) (.cons (Dat.dp l h3) (.cons (Dat.dp l h4) (.cons (Dat.dp l h5) .nil)))), fun x y => by
  obtain ⟨x1, x2, x3, x4⟩ := x
  obtain ⟨y1, y2, y3, y4⟩ := y
  rw [PyData.eqv, PyData.eqvAll, PyData.eqvAll, PyData.eqvAll, PyData.eqvAll, PyData.eqvAll, Dat.eqv, Dat.eqv, Dat.eqv, Dat.eqv]
  by_cases h1 : x1 = y1 <;> by_cases h2 : x2 = y2 <;> by_cases h3 : x3 = y3 <;> by_cases h4 : x4 = y4 <;> simp [h1, h2, h3, h4]⟩
/-- what a deep comparison asks: the datum, its shape -/
structure DX (K : PySem.W.Frag) (H : Hp) (v : V) (x : α) : Prop where
  dp : Dp K H v (Dat.d x)
  sh : SeqAt.shaped (Dat.d x) = true
variable {A : List Addr} {B0 H0 : Hp} {O : List (Addr × HO)} {v w : V} {x y : α} {Q : VK}
theorem dat (W : Ws A B0 H0 B H O) (r : Rp.R B v x) (s : shp x = true) : DX K H v x := ⟨Dat.dp W.le r, s⟩
theorem datO {a : Addr} {l : List V} {xs : List α} (W : Ws A B0 H0 B H O) (n : Nat) (hn : O[n]? = some (a, .lst l)) (o : Ow B l xs) (s : shp xs = true) : DX K H (.ref a) xs :=
  ⟨.lst (SqL.of (W.at_ n hn)) (o.rs.dps W.le), s⟩
theorem eqD_ (a : DX K H v x) (b : DX K H w y) (k : Q (.bl (decide (x = y))) H) : rEqD K v w H Q := ⟨_, _, a.dp, b.dp, a.sh, b.sh, by rw [Dat.eqv]; exact k⟩
theorem eqD_n (a : DX K H v x) (b : DX K H w y) (k : Q (.bl (!decide (x = y))) H) : rNeD K v w H Q := ⟨_, _, a.dp, b.dp, a.sh, b.sh, by rw [Dat.eqv]; exact k⟩
theorem inD_ {xs : List α} (a : DX K H v x) (b : DX K H w xs) (k : Q (.bl (decide (x ∈ xs))) H) : rInD K v w H Q := ⟨_, _, a.dp, b.dp, a.sh, b.sh, by rw [anyD]; exact k⟩
theorem inD_n {xs : List α} (a : DX K H v x) (b : DX K H w xs) (k : Q (.bl (!decide (x ∈ xs))) H) : rNotInD K v w H Q := ⟨_, _, a.dp, b.dp, a.sh, b.sh, by rw [anyD]; exact k⟩
end

/-! ### isinstance against a built-in -/
theorem k_isi {X : Cx} {K : PySem.W.Frag} (hK : X.K = K := by rfl) : CallR X (.builtin "isinstance") (rIsi K) := by subst hK; exact call_isi
theorem k_tyn {X : Cx} {x : Str} {pos : Pos} (T : String) (hg : Gl X x) (hm : X.mg x = none) (hv : bootBuiltins x = some (.type T)) (hn : x ≠ "__name__" := by decide) (hdb : (x == ("__debug__" : Str)) = false := by decide) : PE X (.Name x pos) (tC (.ty T)) := pe_bltn hg hm hv rfl hn hdb
theorem isi_ {K : PySem.W.Frag} {H : Hp} {Q : VK} {v : V} {t n : String} {b : Bool} (ty : TyX K H v (.type t)) (e : kitB t n = some b) (k : Q (.bl b) H) : rIsi K [v, .ty n] H Q :=
  ⟨v, .ty n, .type t, .type n, b, rfl, .ty n, ty, kit_ty e, k⟩
theorem ty_int {K : PySem.W.Frag} {H : Hp} {i : Int} : TyX K H (.int i) (.type "int") := .base (.int i)
theorem ty_str {K : PySem.W.Frag} {H : Hp} {i : Str} : TyX K H (.str i) (.type "str") := .base (.str i)
theorem ty_bl {K : PySem.W.Frag} {H : Hp} {i : Bool} : TyX K H (.bl i) (.type "bool") := .base (.bl i)
section
variable {α β γ : Type} [Rp α] [Rp β] [Rp γ] {K : PySem.W.Frag} {A : List Addr} {B0 H0 B H : Hp} {O : List (Addr × HO)} {v : V}
theorem ty_list {xs : List α} (W : Ws A B0 H0 B H O) (r : Rp.R B v xs) : TyX K H v (.type "list") := by
  obtain ⟨a, l, rfl, h1, h2, h3⟩ := r
  exact .base (.lst (W.le.lst h1))
theorem ty_tv {x : TV α} (W : Ws A B0 H0 B H O) (r : Rp.R B v x) : TyX K H v (.type "tuple") := by
  obtain ⟨a, l, rfl, h1, h2, h3⟩ := r
  exact .base (.tup (W.le.tup h1))
theorem ty_pair {x : α × β} (W : Ws A B0 H0 B H O) (r : Rp.R B v x) : TyX K H v (.type "tuple") := by
  obtain ⟨a, u, w, rfl, h1, h2, h3⟩ := r
  exact .base (.tup (W.le.tup h1))
theorem ty_t3 {x : T3 α β γ} (W : Ws A B0 H0 B H O) (r : Rp.R B v x) : TyX K H v (.type "tuple") := by
  obtain ⟨a, u, w, z, rfl, h1, h2, h3, h4⟩ := r
  exact .base (.tup (W.le.tup h1))
end

/-! ### decision trees: a bool, or (name, low, high) -/
inductive Tr where
  | lit (b : Bool)
  | nd (n : Str) (l h : Tr)
  deriving DecidableEq
namespace Tr
def isLit : Tr → Bool
  | .lit _ => true
  | .nd _ _ _ => false
def b? : Tr → Option Bool
  | .lit b => some b
  | .nd _ _ _ => none
def n? : Tr → Option Str
  | .lit _ => none
  | .nd n _ _ => some n
/-- tree[i], i one of 1 and 2 -/
def k? : Tr → Int → Option Tr
  | .lit _, _ => none
  | .nd _ l h, i => if i = 1 then some l else if i = 2 then some h else none
def R : Hp → V → Tr → Prop
  | _, v, .lit b => v = .bl b
  | B, v, .nd n l h => ∃ a u w, v = .ref a ∧ B a = some (.tup [.str n, u, w]) ∧ R B u l ∧ R B w h
theorem R_mono {B B' : Hp} (m : Le B B') : ∀ {v : V} {x : Tr}, R B v x → R B' v x
  | _, .lit _, h => h
  | _, .nd _ _ _, h => by
    obtain ⟨a, u, w, e, h1, h2, h3⟩ := h
    exact ⟨a, u, w, e, m.tup h1, R_mono m h2, R_mono m h3⟩
instance : Rp Tr := ⟨R, fun m h => R_mono m h⟩
instance : NN Tr := ⟨fun {_ _ x} h => by
  cases x with
  | lit b => cases (show _ = V.bl b from h); exact fun z => by cases z
  | nd n l h' => obtain ⟨a, u, w, rfl, _⟩ := h; exact fun z => by cases z⟩
def dat : Tr → PyData
  | .lit b => .bool b
  | .nd n l h => .tuple [.str n, dat l, dat h]
theorem dat_dp {K : PySem.W.Frag} {B H : Hp} (l : Le B H) : ∀ {x : Tr} {v : V}, R B v x → Dp K H v (dat x)
  | .lit _, _, r => by cases (show _ = V.bl _ from r); exact .bl _
  | .nd _ _ _, _, r => by
    obtain ⟨a, u, w, rfl, h1, h2, h3⟩ := r
    exact .tup (SqT.of (l.tup h1)) (.cons (.str _) (.cons (dat_dp l h2) (.cons (dat_dp l h3) .nil)))
theorem dat_eqv : ∀ x y : Tr, PyData.eqv (dat x) (dat y) = decide (x = y)
  | .lit a, .lit b => by
    rw [dat, dat, PyData.eqv]
    by_cases h : a = b <;> simp [h]
  | .lit _, .nd _ _ _ => by rw [dat, dat, PyData.eqv]; simp
  | .nd _ _ _, .lit _ => by rw [dat, dat, PyData.eqv]; simp
  | .nd n l h, .nd n' l' h' => by
    rw [dat, dat, PyData.eqv, PyData.eqvAll, PyData.eqvAll, PyData.eqvAll, PyData.eqvAll, dat_eqv l l', dat_eqv h h', PyData.eqv]
    by_cases e1 : n = n' <;> by_cases e2 : l = l' <;> by_cases e3 : h = h' <;> simp [e1, e2, e3]
instance : Dat Tr := ⟨dat, fun l r => dat_dp l r, dat_eqv⟩
section
variable {K : PySem.W.Frag} {A : List Addr} {B0 H0 B H : Hp} {O : List (Addr × HO)} {v : V} {x : Tr} {Q : VK}
theorem lit_r {b : Bool} : Rp.R B (.bl b) (Tr.lit b) := rfl
theorem b_v {b : Bool} (r : Rp.R B v x) (e : x.b? = some b) : v = .bl b := by
  cases x with
  | lit c => cases e; exact r
  | nd n l h => cases e
theorem isB (W : Ws A B0 H0 B H O) (r : Rp.R B v x) (k : Q (.bl x.isLit) H) : rIsi K [v, .ty "bool"] H Q := by
  cases x with
  | lit b => cases (show v = V.bl b from r); exact isi_ (b := true) ty_bl (by decide +kernel) k
  | nd n l h => obtain ⟨a, u, w, rfl, h1, h2, h3⟩ := r; exact isi_ (b := false) (.base (.tup (W.le.tup h1))) (t := "tuple") (by decide +kernel) k
theorem isT (W : Ws A B0 H0 B H O) (r : Rp.R B v x) (k : Q (.bl (!x.isLit)) H) : rIsi K [v, .ty "tuple"] H Q := by
  cases x with
  | lit b => cases (show v = V.bl b from r); exact isi_ (b := false) ty_bl (by decide +kernel) k
  | nd n l h => obtain ⟨a, u, w, rfl, h1, h2, h3⟩ := r; exact isi_ (b := true) (.base (.tup (W.le.tup h1))) (t := "tuple") (by decide +kernel) k
theorem ix0 {n : Str} (W : Ws A B0 H0 B H O) (r : Rp.R B v x) (e : x.n? = some n) (k : Q (.str n) H) : rIxT K v (.int 0) H Q := by
  cases x with
  | lit b => cases e
  | nd n' l h =>
    cases e
    obtain ⟨a, u, w, rfl, h1, h2, h3⟩ := r
    exact ⟨a, _, 0, _, rfl, rfl, SqT.of (W.le.tup h1), rfl, k⟩
theorem ixk {i : Int} {y : Tr} (W : Ws A B0 H0 B H O) (r : Rp.R B v x) (e : x.k? i = some y) (k : ∀ w, Rp.R B w y → Q w H) : rIxT K v (.int i) H Q := by
  cases x with
  | lit b => cases e
  | nd n l h =>
    obtain ⟨a, u, w, rfl, h1, h2, h3⟩ := r
    unfold k? at e
    by_cases h1' : i = 1
    · subst h1'
      have e : some l = some y := e
      cases e
      exact ⟨a, _, 1, u, rfl, rfl, SqT.of (W.le.tup h1), rfl, k u h2⟩
    · by_cases h2' : i = 2
      · subst h2'
        have e : some h = some y := e
        cases e
        exact ⟨a, _, 2, w, rfl, rfl, SqT.of (W.le.tup h1), rfl, k w h3⟩
      · have e : (if i = 1 then some l else if i = 2 then some h else none) = some y := e
        rw [if_neg h1', if_neg h2'] at e
        cases e
theorem len3 (W : Ws A B0 H0 B H O) (r : Rp.R B v x) (e : x.isLit = false) (k : Q (.int 3) H) : rdLen K [v] H Q := by
  cases x with
  | lit b => cases e
  | nd n l h =>
    obtain ⟨a, u, w, rfl, h1, h2, h3⟩ := r
    exact ⟨a, _, rfl, .inr (SqT.of (W.le.tup h1)), k⟩
theorem mk {n : Str} {l h : Tr} {u w : V} (W : Ws A B0 H0 B H O) (r2 : Rp.R B u l) (r3 : Rp.R B w h) (k : ∀ v B' H', Ws A B0 H0 B' H' O → Le B B' → Rp.R B' v (Tr.nd n l h) → Q v H') : MkTs Q [.str n, u, w] H :=
  ⟨by show 3 ≤ sizeLine; decide, fun p hp => k _ _ _ (W.np hp _) (Le.new (W.le.free hp)) ⟨p, u, w, rfl, upd_same, Rp.mono (Le.new (W.le.free hp)) r2, Rp.mono (Le.new (W.le.free hp)) r3⟩⟩
end
end Tr
/-- None or not: taken as there -/
theorem opt_v {α : Type} [Rp α] {B : Hp} {v : V} {o : Option α} {x : α} (r : Rp.R B v o) (e : o = some x) : Rp.R B v x := by subst e; exact r
/-- the same value, told otherwise: at a test's value -/
theorem asB_ {v : V} {b : Bool} {Q : Bool → Hp → Prop} {H : Hp} (e : v = .bl b) (k : Q b H) : ∃ c, v = .bl c ∧ Q c H := ⟨b, e, k⟩
end Pv

/-! list(reversed(xs)) -/
namespace PvRev
open PySem PySem.Spec PyProof.Rows L2 RT
section
variable {prog : Program} {w : World} {A : Around} {E : Value → Shared → Prop} {s : Shared}
theorem extend_rev {R : Result → Shared → Prop} (hh : A.handled = none) {it l : Addr} {items : Array Value} (S : Addr) (res : Value) (c₀ : Nat) (hit : s.heap.IsRevIter it l ((items.size : Int) - 1)) (hl : s.heap.IsList l items) (hne : l ≠ it) (hSi : S ≠ it) (hSl : S ≠ l)
    (hn : items.size ≤ sizeLine) (hS : s.heap.get? S = some { cls := .type "list", data := .seq #[] c₀ })
    (hR : ∀ (h' : Heap) (tk : Nat) (acc' : Array Value) (c' : Nat), (∀ b o, b ≠ S → b ≠ it → s.heap.get? b = some o → h'.get? b = some o) → h'.get? S = some { cls := .type "list", dict := none, data := .seq acc' c', slots := #[] } →
      ItemsOf (fun i v => items[items.size - 1 - i]? = some v) acc' items.size → R (.ok (.ret res)) { s with heap := h', toks := tk }) :
    wpAny (model prog w) A.in1 (Builtin.List.listExtendWith (.ref S) (.ref it) res)
      (fun fin s' => match fin with | .done f => R (.ok f) s' | .again c' => c'.quiet = true ∧ codeAny (model prog w) A c' R s') (fun e s' => R (.error e) s') s := by
  have W := (Walks.listRev (prog := prog) (w := w) (A := A.in1) hh it l hne items).toS
  have hSf : S ∉ [it, l] := by simp only [List.mem_cons, List.not_mem_nil, or_false, not_or]; exact ⟨hSi, hSl⟩
  have hT : s.TypeIs (.ref it) "list_reverseiterator" := hit.typeIs
  have h1 : Builtin.List.listSameRef (.ref S) (.ref it) = false := by simp [Builtin.List.listSameRef, hSi]
  unfold Builtin.List.listExtendWith
  refine wpAny_bind (wpAny_typeOf hT ?_)
  rw [if_neg (by rw [h1]; decide)]
  refine wpAny_bind (wpAny_pyIter_revIter hit ?_)
  refine wpAny_bind (wpAny_holding ?_)
  unfold Builtin.List.listLengthHint
  refine wpAny_bind (wpAny_specialOf hT nolen_lri ?_)
  show wpAny _ A.in1 (specialOf (Value.ref it) (Str.ofString "__length_hint__") >>= _) _ _ _
  refine wpAny_bind (wpAny_specialOf hT hint_lri ?_)
  generalize hid : ("list_reverseiterator.__length_hint__" : String) = id0
  wp_delta
  rw [show splitId id0 = some ("list_reverseiterator", "__length_hint__") from by subst hid; decide +kernel]
  subst hid
  refine wpAny_bind (wpAny_isInstance (b := true) hT (by rw [isSubtype_type]; kernel_rfl) ?_)
  refine wpAny_pure ?_
  rw [if_neg (by decide)]
  have e0 : ((items.size : Nat) : Int) - 1 - ((0 : Nat) : Int) = (items.size : Int) - 1 := by omega
  refine wpAny_pure ⟨plainId_quiet F.plain_extend_loop _, codeAny_extend_loopS W hn _ hSf _ items.size 0 _ _ _ rfl (Nat.zero_le _) ⟨Nat.zero_le _, by rw [e0]; exact hit, hl⟩ hS (ItemsOf.nil _) fun s' acc' c' hm hS' hacc => ?_⟩
  rw [Moved.eq_with hm]
  refine hR s'.heap s'.toks acc' c' (fun b o hb hb2 e => hm.heap b o (fun hmem => ?_) e) hS' hacc
  rcases List.mem_cons.mp hmem with e' | hmem
  · exact hb e'
  · exact hb2 (List.mem_singleton.mp hmem)
theorem list_init_rev {R : Result → Shared → Prop} (hh : A.handled = none) {it l : Addr} {items : Array Value} (S : Addr) (hit : s.heap.IsRevIter it l ((items.size : Int) - 1)) (hl : s.heap.IsList l items) (hne : l ≠ it) (hSi : S ≠ it) (hSl : S ≠ l)
    (hn : items.size ≤ sizeLine) (hS : s.heap.get? S = some { cls := .type "list", data := .seq #[] })
    (hR : ∀ (h' : Heap) (tk : Nat) (acc' : Array Value) (c' : Nat), (∀ b o, b ≠ S → b ≠ it → s.heap.get? b = some o → h'.get? b = some o) → h'.get? S = some { cls := .type "list", dict := none, data := .seq acc' c', slots := #[] } →
      ItemsOf (fun i v => items[items.size - 1 - i]? = some v) acc' items.size → R (.ok (.ret .none)) { s with heap := h', toks := tk }) :
    wpAny (model prog w) A.in1 (Builtin.«list.__init__» ⟨[.ref S, .ref it], []⟩)
      (fun fin s' => match fin with | .done f => R (.ok f) s' | .again c' => c'.quiet = true ∧ codeAny (model prog w) A c' R s') (fun e s' => R (.error e) s') s := by
  show wpAny _ _ (do let old ← Builtin.List.listItems (.ref S); Builtin.List.listUpdate (.ref S) (fun _ => #[]); letGo old.toList.reverse; Builtin.List.listExtendWith (.ref S) (.ref it) .none) _ _ s
  refine wpAny_bind ?_
  unfold Builtin.List.listItems
  refine wpAny_bind (wpAny_seqItems hS rfl (wpAny_pure ?_))
  show wpAny _ _ (updateSeq S (fun _ => #[]) >>= fun _ => letGo (#[] : Array Value).toList.reverse >>= fun _ => Builtin.List.listExtendWith (.ref S) (.ref it) .none) _ _ s
  refine wpAny_bind (wpAny_updateSeq hS rfl ?_)
  have hS₂ := Heap.get?_update_self (Obj.mapSeq (fun _ => (#[] : Array Value))) hS rfl
  have oth : ∀ b o, b ≠ S → s.heap.get? b = some o → (s.heap.update S (Obj.mapSeq (fun _ => (#[] : Array Value)))).get? b = some o :=
    fun b o hb e => (Heap.get?_update_other _ _ (Ne.symm hb)).trans e
  refine wpAny_bind (wpAny_letGo ?_)
  have hl2 : (s.heap.update S (Obj.mapSeq (fun _ => (#[] : Array Value)))).IsList l items := by
    obtain ⟨o, e, r⟩ := hl
    exact ⟨o, oth l o (Ne.symm hSl) e, r⟩
  refine extend_rev (s := { s with heap := s.heap.update S (Obj.mapSeq (fun _ => (#[] : Array Value))) }) hh S .none _ (hit.at fun o e => oth it o (Ne.symm hSi) e) hl2 hne hSi hSl hn hS₂ (fun h' tk acc' c' hk hS' hacc => ?_)
  exact hR h' tk acc' c' (fun b o hb hb2 e => hk b o hb hb2 (oth b o hb e)) hS' hacc
theorem call_list_rev {it l : Addr} {items : Array Value} {Q : Value → Shared → Prop} (hh : A.handled = none) (hit : s.heap.IsRevIter it l ((items.size : Int) - 1)) (hl : s.heap.IsList l items) (hne : l ≠ it) (hn : items.size ≤ sizeLine)
    (hQ : ∀ (h' : Heap) (tk : Nat) (acc' : Array Value) (c' : Nat), (∀ b o, b ≠ it → s.heap.get? b = some o → h'.get? b = some o) →
      h'.get? s.heap.objs.size = some { cls := .type "list", dict := none, data := .seq acc' c', slots := #[] } → ItemsOf (fun i v => items[items.size - 1 - i]? = some v) acc' items.size → Q (.ref s.heap.objs.size) { s with heap := h', toks := tk }) :
    wpAny (model prog w) A (call (.type "list") [.ref it]) Q E s := by
  obtain ⟨oi, hoi, _⟩ := id hit
  obtain ⟨ol, hol, _⟩ := id hl
  refine callType_codes (Q₁ := fun obj s₁ => obj = .ref s.heap.objs.size ∧ s₁ = { s with heap := s.heap.push { cls := .type "list", data := .seq #[] } }) PySem.F.called_list (PySem.F.typeCall_list_1 _) PySem.F.entry_list_init
    (code_list_new _ ⟨rfl, rfl⟩) fun obj s₁ h₁ => ?_
  obtain ⟨rfl, rfl⟩ := h₁
  have hS : (s.heap.push { cls := .type "list", data := .seq #[] }).get? s.heap.objs.size = some { cls := .type "list", data := .seq #[] } := Heap.get?_push_size _ rfl
  refine ⟨⟨_, hS, rfl⟩, PySem.F.args_list_init_2 _ _, list_init_rev (s := { s with heap := s.heap.push { cls := .type "list", data := .seq #[] } }) (A := A.in1) hh s.heap.objs.size (hit.at fun o e => Heap.get?_push_of_some _ e) (hl.push _) hne (Nat.ne_of_gt (Heap.lt_size hoi)) (Nat.ne_of_gt (Heap.lt_size hol)) hn hS (fun h' tk acc' c' hk hS' hacc => ?_)⟩
  exact ⟨rfl, hQ h' tk acc' c' (fun b o hb e => hk b o (Nat.ne_of_lt (Heap.lt_size e)) hb (Heap.get?_push_of_some _ e)) hS' hacc⟩
end
section
variable {X : Cx}
/-- list(reversed(x)), x a list: a new list -/
def tListRev (K : PySem.W.Frag) (te : TE) : TE := fun σ H Q => te σ H fun v H1 => ∃ (a : Addr) (xs : List V), v = .ref a ∧ SqL K H1 a xs ∧ ∀ q, H1 q = none → Q (.ref q) (upd H1 q (.lst xs.reverse))
theorem pe_listRev {K : PySem.W.Frag} {e : Expr} {te : TE} {p p2 pos pos2 : Pos} (hc : X.calm = true) (hg : Gl X "list") (hm : X.mg "list" = none) (hg2 : Gl X "reversed") (hm2 : X.mg "reversed" = none) (he : PE X e te)
    (hs : starEach [e] X.env = (false, eval e X.env) :: starEach [] X.env := by rfl)
    (hs2 : starEach [.Call (.Name "reversed" p2) [e] [] pos2] X.env = (false, eval (.Call (.Name "reversed" p2) [e] [] pos2) X.env) :: starEach [] X.env := by rfl) (hK : X.K = K := by rfl) :
    PE X (.Call (.Name "list" p) [.Call (.Name "reversed" p2) [e] [] pos2] [] pos) (tListRev K te) := by
  subst hK
  refine ⟨fun pins s σ H Q I h => ?_⟩
  refine Call_ (ld_blt I hg hm boot_list (PyProof.Rows.callWith_type1 (args_cons (Call_ (ld_blt I hg2 hm2 PyProof.Rows.boot_reversed (PyProof.Rows.callWith_type1 (args_cons (thn (he.run pins s σ H _ I h) fun u s1 ⟨v, H1, I1, r1, q1⟩ => args_nil ?_) hs) hs rfl))) hs2) hs2 rfl))
  obtain ⟨a, xs, ev, hq, q⟩ := q1
  subst ev
  obtain rfl : u = Value.ref a := r1
  obtain ⟨its, rv, p', hz⟩ := I1.list hq
  refine call_reversed_list p'.isList (args_nil ?_)
  have k0 : ∀ b o, s1.heap.get? b = some o → (s1.heap.push (revObj a ((its.toArray.size : Int) - 1))).get? b = some o := fun b o e => Heap.get?_push_of_some _ e
  have I2 : Inv X pins σ H1 { s1 with heap := s1.heap.push (revObj a ((its.toArray.size : Int) - 1)) } := I1.kept (t' := s1.toks) k0
  obtain ⟨f0, f1, f2, f3, f4, f5⟩ := I1.fpOk (H' := H1) (b := s1.heap.objs.size) (Nat.le_refl _) (I1.hok.fresh (Nat.le_refl _))
  have hl := p'.isList
  obtain ⟨ol, hol, _⟩ := id hl
  have hne : a ≠ s1.heap.objs.size := Nat.ne_of_lt (Heap.lt_size hol)
  have hn : its.toArray.size ≤ sizeLine := by rw [List.size_toArray, ← rv.length]; exact hz
  have hps : s1.heap.objs.size < (s1.heap.push (revObj a ((its.toArray.size : Int) - 1))).objs.size := Heap.lt_size (Heap.get?_push_size s1.heap (o := revObj a ((its.toArray.size : Int) - 1)) rfl)
  refine call_list_rev (s := { s1 with heap := s1.heap.push (revObj a ((its.toArray.size : Int) - 1)) }) (I1.ok.hd hc) ⟨_, Heap.get?_push_size _ rfl, rfl, rfl⟩ (hl.push _) hne hn fun h' tk acc c' hk hnew hi => ?_
  have I3 := I2.turnedNew (t' := tk) (h' := h') (ch := [s1.heap.objs.size]) (T := (s1.heap.push (revObj a ((its.toArray.size : Int) - 1))).objs.size) (ob := .lst xs.reverse) (fun b o hb e => hk b o (fun z => hb (by rw [z]; exact List.mem_singleton.mpr rfl)) e)
    (fun b hb => by rw [List.mem_singleton.mp hb]; exact ⟨f0, f1, f2, f3, f4, f5⟩) (Nat.le_refl _)
    (show ObjOk X.prog X.w _ h' _ (.lst xs.reverse) from ⟨by rw [List.length_reverse]; exact hz, acc.toList, c', vals_rev rv hi, by rw [Array.toArray_toList]; exact hnew⟩)
  exact ⟨.ref _, _, I3, rfl, q _ (I2.hok.fresh (Nat.le_refl _))⟩
/-- .. told by its items -/
def RdLrev (K : PySem.W.Frag) (Q : VK) : V → Hp → Prop := fun v H1 => ∃ (a : Addr) (xs : List V), v = .ref a ∧ SqL K H1 a xs ∧ ∀ q, H1 q = none → Q (.ref q) (upd H1 q (.lst xs.reverse))
theorem lrev_ {te : TE} {K : PySem.W.Frag} {σ : L2.St} {H : Hp} {Q : VK} (h : te σ H (RdLrev K Q)) : tListRev K te σ H Q := h
end
section
open Pv
variable {α : Type} [Rp α] {A : List Addr} {B0 H0 B H : Hp} {O : List (Addr × HO)} {Q : VK} {K : PySem.W.Frag} {v : V} {xs : List α}
theorem lrevL_ (W : Ws A B0 H0 B H O) (r : Rp.R B v xs) (k : ∀ v B' H', Ws A B0 H0 B' H' O → Le B B' → Rp.R B' v xs.reverse → Q v H') : RdLrev K Q v H := by
  obtain ⟨a, l, rfl, h1, h2, h3⟩ := r
  exact ⟨a, l, rfl, SqL.of (W.le.lst h1), newL W h3.rev (by rw [List.length_reverse]; exact h2) k⟩
end
end PvRev

/-! PvM: the maths' tools: a mirror gives a value, and what is said of it. -/
namespace Pv
open PySem L2

def Ok {α : Type} (o : Option α) (p : α → Prop) : Prop := ∃ a, o = some a ∧ p a
namespace Ok
variable {α β : Type} {o : Option α} {p : α → Prop} {q : β → Prop}
theorem ret {a : α} (h : p a) : Ok (some a) p := ⟨a, rfl, h⟩
theorem bd {f : α → Option β} (h : Ok o p) (k : ∀ a, p a → Ok (f a) q) : Ok (bd o f) q := by
  obtain ⟨a, rfl, h⟩ := h
  exact k a h
theorem lt {a : α} {f : α → Option β} (k : Ok (f a) q) : Ok (Pv.bd (some a) f) q := k
theorem is {a : α} {f : α → Option β} (h : o = some a) (k : Ok (f a) q) : Ok (Pv.bd o f) q := by subst h; exact k
theorem ck {P : Prop} [Decidable P] {f : Unit → Option β} (h : P) (k : Ok (f ()) q) : Ok (Pv.bd (Pv.ck P) f) q := by
  rw [ck_pos h]
  exact k
theorem ite {c : Bool} {x y : Option α} (t : c = true → Ok x p) (f : c = false → Ok y p) : Ok (if c = true then x else y) p := by
  cases e : c with
  | true => rw [if_pos rfl]; exact t e
  | false => exact f e
theorem imp {r : α → Prop} (h : Ok o p) (k : ∀ a, p a → r a) : Ok o r := by
  obtain ⟨a, e, h⟩ := h
  exact ⟨a, e, k a h⟩
theorem eq {a : α} (h : Ok o (· = a)) : o = some a := by
  obtain ⟨b, e, rfl⟩ := h
  exact e
theorem of {a : α} (h : o = some a) : Ok o (· = a) := ⟨a, h, rfl⟩
end Ok
section
variable {α β S ρ : Type}
theorem lpn_ok {f : S → α → Option S} (I : Nat → S → Prop) : ∀ (xs : List α) (i : Nat) (s : S), I i s → (∀ j s x, xs[j]? = some x → I (i + j) s → Ok (f s x) (I (i + j + 1))) → Ok (lpn f s xs) (I (i + xs.length))
  | [], i, s, h, _ => Ok.ret h
  | x :: r, i, s, h, k => by
    refine Ok.bd (k 0 s x rfl h) fun s' h' => ?_
    have := lpn_ok I r (i + 1) s' h' (fun j s x hx hi => by
      have e : i + 1 + j = i + (j + 1) := by omega
      rw [e] at hi ⊢
      exact k (j + 1) s x (by simpa using hx) hi)
    have e : i + (x :: r).length = i + 1 + r.length := by rw [List.length_cons]; omega
    rw [e]
    exact this
theorem lpn_at {f : S → α → Option S} {xs : List α} {s : S} (I : Nat → S → Prop) (h : I 0 s) (k : ∀ j s x, xs[j]? = some x → I j s → Ok (f s x) (I (j + 1))) : Ok (lpn f s xs) (I xs.length) := by
  have := lpn_ok I xs 0 s h (fun j s x hx hi => by rw [Nat.zero_add] at hi ⊢; exact k j s x hx hi)
  rw [Nat.zero_add] at this
  exact this
/-- one word that stands at every turn -/
theorem lpn_inv {f : S → α → Option S} {xs : List α} {s : S} (I : S → Prop) (h : I s) (k : ∀ s x, x ∈ xs → I s → Ok (f s x) I) : Ok (lpn f s xs) I :=
  (lpn_at (fun _ => I) h fun j s x hx hi => k s x (List.mem_of_getElem? hx) hi)
/-- how a loop may end -/
def CtP (N : S → Prop) (B : S → Prop) (R : ρ → Prop) : Ct ρ S → Prop
  | .nx s => N s
  | .bk s => B s
  | .rt r => R r
theorem lp_ok {f : S → α → Option (Ct ρ S)} (I : Nat → S → Prop) (B : S → Prop) (R : ρ → Prop) : ∀ (xs : List α) (i : Nat) (s : S), I i s → (∀ j s x, xs[j]? = some x → I (i + j) s → Ok (f s x) (CtP (I (i + j + 1)) B R)) → Ok (lp f s xs) (CtP (I (i + xs.length)) B R)
  | [], i, s, h, _ => Ok.ret h
  | x :: r, i, s, h, k => by
    unfold lp
    refine Ok.bd (k 0 s x rfl h) fun c hc => ?_
    cases c with
    | nx s' =>
      have := lp_ok I B R r (i + 1) s' hc (fun j s x hx hi => by
        have e : i + 1 + j = i + (j + 1) := by omega
        rw [e] at hi ⊢
        exact k (j + 1) s x (by simpa using hx) hi)
      have e : i + (x :: r).length = i + 1 + r.length := by rw [List.length_cons]; omega
      rw [e]
      exact this
    | bk s' => exact Ok.ret hc
    | rt r' => exact Ok.ret hc
theorem lp_at {f : S → α → Option (Ct ρ S)} {xs : List α} {s : S} (I : Nat → S → Prop) (B : S → Prop) (R : ρ → Prop) (h : I 0 s) (k : ∀ j s x, xs[j]? = some x → I j s → Ok (f s x) (CtP (I (j + 1)) B R)) : Ok (lp f s xs) (CtP (I xs.length) B R) := by
  have := lp_ok I B R xs 0 s h (fun j s x hx hi => by rw [Nat.zero_add] at hi ⊢; exact k j s x hx hi)
  rw [Nat.zero_add] at this
  exact this
theorem lp_inv {f : S → α → Option (Ct ρ S)} {xs : List α} {s : S} (I : S → Prop) (B : S → Prop) (R : ρ → Prop) (h : I s) (k : ∀ s x, x ∈ xs → I s → Ok (f s x) (CtP I B R)) : Ok (lp f s xs) (CtP I B R) :=
  lp_at (fun _ => I) B R h fun j s x hx hi => k s x (List.mem_of_getElem? hx) hi
/-- a loop that always goes on -/
theorem lp_thru {f : S → α → Option (Ct ρ S)} {xs : List α} {s : S} (I : S → Prop) (h : I s) (k : ∀ s x, x ∈ xs → I s → Ok (f s x) fun c => ∃ s', c = .nx s' ∧ I s') : Ok (lp f s xs) fun c => ∃ s', c = .nx s' ∧ I s' := by
  refine Ok.imp (lp_inv I (fun _ => False) (fun _ => False) h fun s x hx hi => Ok.imp (k s x hx hi) fun c hc => ?_) fun c hc => ?_
  · obtain ⟨s', rfl, h⟩ := hc; exact h
  · cases c with
    | nx s' => exact ⟨s', rfl, hc⟩
    | bk _ => exact hc.elim
    | rt _ => exact hc.elim
theorem mapO_eq {f : α → Option β} {g : α → β} : ∀ {xs : List α}, (∀ x ∈ xs, f x = some (g x)) → mapO f xs = some (xs.map g)
  | [], _ => rfl
  | x :: r, h => by
    unfold mapO
    rw [h x (List.mem_cons_self ..), bd_some, mapO_eq (xs := r) fun y hy => h y (List.mem_cons_of_mem _ hy)]
    rfl
theorem mapO_ok {f : α → Option β} {P : β → Prop} : ∀ {xs : List α}, (∀ x ∈ xs, Ok (f x) P) → Ok (mapO f xs) fun ys => ys.length = xs.length ∧ ∀ y ∈ ys, P y
  | [], _ => Ok.ret ⟨rfl, fun y h => absurd h List.not_mem_nil⟩
  | x :: r, h => by
    unfold mapO
    refine Ok.bd (h x (List.mem_cons_self ..)) fun y hy => Ok.bd (mapO_ok fun z hz => h z (List.mem_cons_of_mem _ hz)) fun ys hys => Ok.ret ⟨by simp [hys.1], fun z hz => ?_⟩
    rcases List.mem_cons.mp hz with rfl | hz
    · exact hy
    · exact hys.2 z hz
theorem fmapO_eq {f : α → Option (Option β)} {g : α → Option β} : ∀ {xs : List α}, (∀ x ∈ xs, f x = some (g x)) → fmapO f xs = some (xs.filterMap g)
  | [], _ => rfl
  | x :: r, h => by
    unfold fmapO
    rw [h x (List.mem_cons_self ..), bd_some, fmapO_eq (xs := r) fun y hy => h y (List.mem_cons_of_mem _ hy)]
    show some (ocons (g x) _) = _
    rw [List.filterMap_cons]
    cases g x <;> rfl
theorem fmapO_ok {f : α → Option (Option β)} {P : β → Prop} : ∀ {xs : List α}, (∀ x ∈ xs, Ok (f x) fun o => ∀ y, o = some y → P y) → Ok (fmapO f xs) fun ys => ys.length ≤ xs.length ∧ ∀ y ∈ ys, P y
  | [], _ => Ok.ret ⟨Nat.le_refl _, fun y h => absurd h List.not_mem_nil⟩
  | x :: r, h => by
    unfold fmapO
    refine Ok.bd (h x (List.mem_cons_self ..)) fun o ho => Ok.bd (fmapO_ok fun z hz => h z (List.mem_cons_of_mem _ hz)) fun ys hys => Ok.ret ?_
    cases o with
    | none => exact ⟨Nat.le_succ_of_le hys.1, hys.2⟩
    | some y =>
      refine ⟨Nat.succ_le_succ hys.1, fun z hz => ?_⟩
      rcases List.mem_cons.mp hz with rfl | hz
      · exact ho _ rfl
      · exact hys.2 z hz
theorem lcs_ok {f : S → α → Option (S × Option β)} (I : S → Prop) (P : β → Prop) : ∀ {xs : List α} {s : S}, I s → (∀ s x, x ∈ xs → I s → Ok (f s x) fun r => I r.1 ∧ ∃ y, r.2 = some y ∧ P y) → Ok (lcs f s xs) fun r => I r.1 ∧ r.2.length = xs.length ∧ ∀ y ∈ r.2, P y
  | [], s, h, _ => Ok.ret ⟨h, rfl, fun y h => absurd h List.not_mem_nil⟩
  | x :: r, s, h, k => by
    unfold lcs
    refine Ok.bd (k s x (List.mem_cons_self ..) h) fun a ha => Ok.bd (lcs_ok I P ha.1 fun s x hx => k s x (List.mem_cons_of_mem _ hx)) fun b hb => ?_
    obtain ⟨y, e, hy⟩ := ha.2
    refine Ok.ret ⟨hb.1, ?_, fun z hz => ?_⟩
    · rw [e]; show b.2.length + 1 = r.length + 1; rw [hb.2.1]
    · rw [e] at hz
      rcases List.mem_cons.mp hz with rfl | hz
      · exact hy
      · exact hb.2.2 z hz
/-- a while, by a measure -/
theorem wh_ok {t : S → Option Bool} {f : S → Option (Ct ρ S)} (I : S → Prop) (B : S → Prop) (R : ρ → Prop) (m : S → Nat) : ∀ (n : Nat) (s : S), m s < n → I s →
    (∀ s, I s → Ok (t s) fun b => b = true → Ok (f s) (CtP (fun s' => I s' ∧ m s' < m s) B R)) → Ok (wh t f n s) (CtP (fun s => I s ∧ t s = some false) B R)
  | 0, s, h, _, _ => absurd h (Nat.not_lt_zero _)
  | n + 1, s, h, hi, k => by
    unfold wh
    obtain ⟨b, e, hb⟩ := k s hi
    rw [e, bd_some]
    cases b with
    | false => exact Ok.ret ⟨hi, e⟩
    | true =>
      rw [if_pos rfl]
      refine Ok.bd (hb rfl) fun c hc => ?_
      cases c with
      | nx s' => exact wh_ok I B R m n s' (by have := hc.2; omega) hc.1 k
      | bk s' => exact Ok.ret hc
      | rt r' => exact Ok.ret hc
end
theorem FU_big {n : Nat} (h : n < 2 ^ 200) : n < FU := h

/-! ### whole numbers, places -/
theorem atI_nat {α : Type} {xs : List α} {i : Nat} : atI xs (i : Int) = xs[i]? := by
  unfold L2.atI ixN
  rw [if_pos (by omega)]
  by_cases h : i < xs.length
  · rw [if_pos (by omega)]
    show xs[((i : Int)).toNat]? = _
    rw [Int.toNat_natCast]
  · rw [if_neg (by omega)]
    show none = _
    rw [List.getElem?_eq_none (by omega)]
theorem atI_pos {α : Type} {xs : List α} {i : Int} (h : 0 ≤ i) : atI xs i = xs[i.toNat]? := by
  obtain ⟨n, rfl⟩ := Int.eq_ofNat_of_zero_le h
  rw [Int.toNat_natCast]
  exact atI_nat
theorem atI_ok {α : Type} {xs : List α} {i : Int} (h : 0 ≤ i) (h2 : i < xs.length) : Ok (atI xs i) (fun x => xs[i.toNat]? = some x ∧ x ∈ xs) := by
  rw [atI_pos h]
  have hl : i.toNat < xs.length := by omega
  exact ⟨xs[i.toNat], List.getElem?_eq_getElem hl, List.getElem?_eq_getElem hl, List.getElem_mem hl⟩
theorem atI_cons0 {α : Type} {x : α} {r : List α} : atI (x :: r) 0 = some x := by
  have := atI_nat (xs := x :: r) (i := 0)
  simpa using this
theorem ixN_pos {n : Nat} {i : Int} (h : 0 ≤ i) (h2 : i < n) : ixN n i = some i.toNat := by
  unfold ixN
  rw [if_pos h, if_pos h2]
theorem cut_to {α : Type} {xs : List α} {k : Nat} : cutL xs none (some (k : Int)) = xs.take k := by
  unfold cutL
  rw [HT.sIx_none, HT.sIx_nat, List.drop_zero, Nat.sub_zero]
  by_cases h : k ≤ xs.length
  · rw [Nat.min_eq_left h]
  · rw [Nat.min_eq_right (by omega), List.take_length, List.take_of_length_le (by omega)]
theorem cut_from {α : Type} {xs : List α} {k : Nat} : cutL xs (some (k : Int)) none = xs.drop k := by
  unfold cutL
  rw [HT.sIx_none, HT.sIx_nat]
  by_cases h : k ≤ xs.length
  · rw [Nat.min_eq_left h, List.take_of_length_le (by rw [List.length_drop]; omega)]
  · rw [Nat.min_eq_right (by omega), List.drop_eq_nil_of_le (Nat.le_refl _), List.drop_eq_nil_of_le (by omega), List.take_nil]
theorem rng_mem {lo x : Int} {n : Nat} (h : x ∈ rng lo n) : lo ≤ x ∧ x < lo + n := by
  unfold rng at h
  obtain ⟨i, hi, rfl⟩ := List.mem_map.mp h
  have := List.mem_range.mp hi
  omega
theorem and1 (x : Int) : Builtin.bitAnd x 1 = x % 2 := PyProof.Rows.bitAnd_m1 x
theorem size64 : sizeLine = 16777216 := by decide

/-! ### texts -/
/-- plain signs -/
def Asc (s : Str) : Prop := ∀ c ∈ s.cps.toList, c < 128
instance (s : Str) : Decidable (Asc s) := inferInstanceAs (Decidable (∀ c ∈ s.cps.toList, c < 128))
theorem Str.toL_app (a b : Str) : (a ++ b).cps.toList = a.cps.toList ++ b.cps.toList := by
  show (a.cps ++ b.cps).toList = _
  rw [Array.toList_append]
theorem Str.len_app (a b : Str) : (a ++ b).length = a.length + b.length := Str.length_append a b
theorem Asc.app {a b : Str} (h : Asc a) (k : Asc b) : Asc (a ++ b) := fun c hc => by
  rw [Str.toL_app] at hc
  rcases List.mem_append.mp hc with h1 | h1
  · exact h c h1
  · exact k c h1
theorem Asc.slice {a : Str} {l u : Option Int} (h : Asc a) : Asc (Txt.slice a l u) := fun c hc => by
  unfold Txt.slice at hc
  split at hc
  · exact h c hc
  · rw [List.toList_toArray] at hc
    obtain ⟨i, _, e⟩ := List.mem_filterMap.mp hc
    refine h c ?_
    have := Array.mem_of_getElem? e
    exact Array.mem_toList_iff.mpr this
theorem Asc.join {sep : Str} {ts : List Str} (h : Asc sep) (k : ∀ t ∈ ts, Asc t) : Asc (Txt.join sep ts) := fun c hc => by
  rw [show Txt.join sep ts = Str.join sep ts from StrLaws.glued_eq_join sep ts] at hc
  rcases (PyProof.Rows.mem_join sep c ts).mp hc with ⟨t, ht, hc⟩ | ⟨_, hc⟩
  · exact k t ht c hc
  · exact h c hc
theorem join_len (sep : Str) (ts : List Str) : (Txt.join sep ts).length ≤ (ts.map (·.length)).sum + ts.length * sep.length := by
  rw [show Txt.join sep ts = Str.join sep ts from StrLaws.glued_eq_join sep ts]
  exact StrLaws.join_length_le sep ts
theorem sum_le {ts : List Str} {k : Nat} (h : ∀ t ∈ ts, t.length ≤ k) : (ts.map (fun (s : Str) => s.length)).sum ≤ ts.length * k := by
  induction ts with
  | nil => exact Nat.zero_le _
  | cons t r ih =>
    rw [List.map_cons, List.sum_cons, List.length_cons, Nat.succ_mul]
    have h1 := h t (List.mem_cons_self ..)
    have h2 := ih fun u hu => h u (List.mem_cons_of_mem _ hu)
    omega
theorem Asc.ok {s : Str} (h : Asc s) : PySem.PyData.strOk s = true := by
  unfold PySem.PyData.strOk
  rw [Array.all_eq_true]
  intro i hi
  have := h s.cps[i] (by simp)
  exact decide_eq_true (by omega)
theorem shp_strs {xs : List Str} (h : ∀ x ∈ xs, Asc x) : shp xs = true := by
  have h1 : ∀ ys : List Str, (∀ x ∈ ys, Asc x) → PyData.canLayAll0 (ys.map Dat.d) = true := by
    intro ys
    induction ys with
    | nil => intro _; simp [PyData.canLayAll0]
    | cons y r ih =>
      intro h
      rw [List.map_cons, PyData.canLayAll0, ih fun u hu => h u (List.mem_cons_of_mem _ hu), Bool.and_true]
      show PyData.canLay0 (.str y) = true
      rw [PyData.canLay0]
      exact (h y (List.mem_cons_self ..)).ok
  have h2 : ∀ ys : List Str, PyData.depthAll (ys.map Dat.d) ≤ 1 := by
    intro ys
    induction ys with
    | nil => simp [PyData.depthAll]
    | cons y r ih =>
      rw [List.map_cons, PyData.depthAll]
      have : PyData.depth (Dat.d y) ≤ 1 := by show PyData.depth (.str y) ≤ 1; simp [PyData.depth]
      omega
  show (PyData.canLay0 (.list (xs.map Dat.d)) && decide (PyData.depth (.list (xs.map Dat.d)) ≤ 64)) = true
  rw [Bool.and_eq_true]
  refine ⟨by rw [PyData.canLay0]; exact h1 xs h, decide_eq_true ?_⟩
  rw [PyData.depth]
  have := h2 xs
  omega
end Pv

namespace G
open PySem L2 Pv
def top (i : Nat) : Stmt := PySem.Challenge.pw_everguard_k41_both_either_opposite.main.body.getD i (.Pass ⟨0, 0, 0, 0⟩)
structure Tx (mg : Str → Option Value) : Prop where
  b_bool : mg "bool" = none
  b_int : mg "int" = none
  b_isinstance : mg "isinstance" = none
  b_len : mg "len" = none
  b_list : mg "list" = none
  b_min : mg "min" = none
  b_range : mg "range" = none
  b_reversed : mg "reversed" = none
  b_str : mg "str" = none
  b_tuple : mg "tuple" = none
  b_zip : mg "zip" = none
section
variable {P : Program} {w : World} {K : PySem.W.Frag} {mg : Str → Option Value} {base : Heap}
def m_cell_at (x_script : Scr) (x_k : Int) : Option Int :=
  if decide (x_k < (x_script.l.length : Int)) = true then (bd (atI x_script.l x_k) fun x4 => some x4) else (some (0 : Int))
def sp_cell_at (K : PySem.W.Frag) : Sp := fun vs H Q _ => ∃ (B : Hp) (v_script : V) (x_script : Scr) (x_k : Int) (r : Int), vs = [v_script, V.int x_k] ∧ Ws [] B H B H [] ∧ RC K B v_script x_script ∧ m_cell_at x_script x_k = some r ∧ ∀ w B' H', Ws [] B H B' H' [] → Rp.R B' w r → Q w H'
abbrev s_cell_at : Stmt := top 8
theorem sc_cell_at : FnScope ["_law_script", "_law_k"] ["_law_script", "_law_k"] (C8.fnScope s_cell_at) := C8.fnScope_by (by decide +kernel)
theorem ok_cell_at (T : Tx mg) {f : Addr} {fd : FuncData} (F : C8.Def K mg "_law_cell_at" s_cell_at f fd) (b : Binds K fd ["_law_script", "_law_k"] []) : C8.Cal P w K mg base 1 "_law_cell_at" (sp_cell_at K) [] := by
  refine C8.cal0 F b .nil sc_cell_at (fun vs H Q E h => ?_) (fun cdv A outer s H vs Q E hr h => ?_)
  · obtain ⟨B, v_script, x_script, x_k, r, rfl, _⟩ := h
    rfl
  obtain ⟨B, v_script, x_script, x_k, r, rfl, W, r_script, h, k⟩ := h
  refine ⟨_, (pss_cons (ps_if (pt_cmpR op_lt (pv 1) (pe_callB (k_len (K := K)) (by rfl) T.b_len (by decide +kernel) (pa_cons (pv 0) pa_nil)) (nomark _)) (pss_one (ps_ret (pe_ix (k_ixL (K := K)) (pv 0) (pv 1) (fun _ _ => rfl)))) pss_nil) (pss_one (ps_ret pe_int))), ?_⟩
  refine st_ (σ' := [some v_script, some (V.int x_k)]) rfl ?_
  unfold m_cell_at at h
  refine seq_ ?_
  refine if_ (fun v' H' => v' = (decide (x_k < (x_script.l.length : Int))) ∧ H = H') (fun Q1 kk2 => ?_) (fun Hq hw => ?_) (fun Hq hw => ?_)
  · refine tst_ ?_
    refine op_ ?_
    refine var_ rfl ?_
    refine cb_ ?_
    refine tcons_ ?_
    refine var_ rfl ?_
    refine tnil_ ?_
    refine lenC_ W r_script ?_
    refine i0_ ?_
    refine ⟨_, rfl, ?_⟩
    exact kk2 _ _ ⟨rfl, rfl⟩
  · obtain ⟨c3, rfl⟩ := hw
    have c3 := c3.symm
    have h := opT c3 h
    obtain ⟨x4, ex4, h⟩ := bs h
    refine ret_ ?_
    refine op_ ?_
    refine var_ rfl ?_
    refine var_ rfl ?_
    refine ixC_ W r_script ex4 ?_
    rw [← Option.some.inj h] at k
    exact k (V.int x4) B H  W rfl 
  · obtain ⟨c3, rfl⟩ := hw
    have c3 := c3.symm
    have h := opF c3 h
    refine next_ ?_
    refine nx_ ?_
    refine ret_ ?_
    refine cst_ ?_
    rw [← Option.some.inj h] at k
    exact k (V.int (0 : Int)) B H  W rfl 

def m_mix (x_cell : Int) (x_k : Int) : Option Int :=
  bd (ck ((-(2 ^ 64) < x_k ∧ x_k < 2 ^ 64) ∨ (-(2 ^ 64) < x_k ∧ x_k < 2 ^ 64))) fun _ => bd (some (((((x_cell % (2147483629 : Int)) + ((x_k * x_k) * (7919 : Int))) + (11 : Int)) * (48271 : Int)) % (2147483647 : Int))) fun x2 => bd (ck ((-(2 ^ 64) < x2 ∧ x2 < 2 ^ 64) ∨ (-(2 ^ 64) < x2 ∧ x2 < 2 ^ 64))) fun _ => some ((x2 * x2) % (1999999973 : Int))
def sp_mix (K : PySem.W.Frag) : Sp := fun vs H Q _ => ∃ (B : Hp) (x_cell : Int) (x_k : Int) (r : Int), vs = [V.int x_cell, V.int x_k] ∧ Ws [] B H B H [] ∧ m_mix x_cell x_k = some r ∧ ∀ w B' H', Ws [] B H B' H' [] → Rp.R B' w r → Q w H'
abbrev s_mix : Stmt := top 9
theorem sc_mix : FnScope ["_law_cell", "_law_k", "_law_m"] ["_law_cell", "_law_k"] (C8.fnScope s_mix) := C8.fnScope_by (by decide +kernel)
theorem ok_mix (T : Tx mg) {f : Addr} {fd : FuncData} (F : C8.Def K mg "_law_mix" s_mix f fd) (b : Binds K fd ["_law_cell", "_law_k"] []) : C8.Cal P w K mg base 1 "_law_mix" (sp_mix K) [] := by
  refine C8.cal0 F b .nil sc_mix (fun vs H Q E h => ?_) (fun cdv A outer s H vs Q E hr h => ?_)
  · obtain ⟨B, x_cell, x_k, r, rfl, _⟩ := h
    rfl
  obtain ⟨B, x_cell, x_k, r, rfl, W, h, k⟩ := h
  refine ⟨_, (pss_cons (ps_set (i := 2) sc_mix.nd rfl (Or.inl rfl) (pe_op op_mod (pe_op op_mul (pe_op op_add (pe_op op_add (pe_op op_mod (pv 0) pe_int) (pe_op op_mul (pe_op op_mul (pv 1) (pv 1)) pe_int)) pe_int) pe_int) pe_int)) (pss_one (ps_ret (pe_op op_mod (pe_op op_mul (pv 2) (pv 2)) pe_int)))), ?_⟩
  refine st_ (σ' := [some (V.int x_cell), some (V.int x_k), none]) rfl ?_
  unfold m_mix at h
  obtain ⟨q1, h⟩ := cks h
  obtain ⟨x2, ex2, h⟩ := bs h
  refine seq_ ?_
  refine asg_ ?_
  refine op_ ?_
  refine op_ ?_
  refine op_ ?_
  refine op_ ?_
  refine op_ ?_
  refine var_ rfl ?_
  refine cst_ ?_
  refine iC_ (by show (0 : Int) < 2147483629; decide) ?_
  refine op_ ?_
  refine op_ ?_
  refine var_ rfl ?_
  refine var_ rfl ?_
  refine iC_ q1 ?_
  refine cst_ ?_
  refine iC_ (.inr ⟨by decide, by decide⟩) ?_
  refine i0_ ?_
  refine cst_ ?_
  refine i0_ ?_
  refine cst_ ?_
  refine iC_ (.inr ⟨by decide, by decide⟩) ?_
  refine cst_ ?_
  refine iC_ (by show (0 : Int) < 2147483647; decide) ?_
  refine gas_ (V.int x2) (congrArg V.int (Option.some.inj ex2)) (σ' := [some (V.int x_cell), some (V.int x_k), some (V.int x2)]) rfl ?_
  refine nx_ ?_
  obtain ⟨q3, h⟩ := cks h
  refine ret_ ?_
  refine op_ ?_
  refine op_ ?_
  refine var_ rfl ?_
  refine var_ rfl ?_
  refine iC_ q3 ?_
  refine cst_ ?_
  refine iC_ (by show (0 : Int) < 1999999973; decide) ?_
  rw [← Option.some.inj h] at k
  exact k (V.int ((x2 * x2) % (1999999973 : Int))) B H  W rfl 


def m_rich (x_cell : Int) (x_k : Int) : Option Int :=
  bd (lpn (fun (s2 : Int) (x4 : Int) => bd (m_mix x_cell (((20 : Int) * x_k) + x4)) fun r16 => bd (some ((s2 * (1999999973 : Int)) + r16)) fun x24 => some x24) (0 : Int) (rng 0 ((12 : Int) : Int).toNat)) fun fin25 => some fin25
def sp_rich (K : PySem.W.Frag) : Sp := fun vs H Q _ => ∃ (B : Hp) (x_cell : Int) (x_k : Int) (r : Int), vs = [V.int x_cell, V.int x_k] ∧ Ws [] B H B H [] ∧ m_rich x_cell x_k = some r ∧ ∀ w B' H', Ws [] B H B' H' [] → Rp.R B' w r → Q w H'
abbrev s_rich : Stmt := top 10
theorem sc_rich : FnScope ["_law_cell", "_law_k", "_law_number_here", "_law_j"] ["_law_cell", "_law_k"] (C8.fnScope s_rich) := C8.fnScope_by (by decide +kernel)
theorem ok_rich (T : Tx mg) (c_mix : C8.Cal P w K mg base 1 "_law_mix" (sp_mix K) []) {f : Addr} {fd : FuncData} (F : C8.Def K mg "_law_rich" s_rich f fd) (b : Binds K fd ["_law_cell", "_law_k"] []) : C8.Cal P w K mg base 2 "_law_rich" (sp_rich K) [] := by
  refine C8.cal0 F b .nil sc_rich (fun vs H Q E h => ?_) (fun cdv A outer s H vs Q E hr h => ?_)
  · obtain ⟨B, x_cell, x_k, r, rfl, _⟩ := h
    rfl
  obtain ⟨B, x_cell, x_k, r, rfl, W, h, k⟩ := h
  refine ⟨_, (pss_cons (ps_set (i := 2) sc_rich.nd rfl (Or.inl rfl) pe_int) (pss_cons (ps_for PassesOwn.never rfl (pi_range1 (by rfl) T.b_range (pa_cons pe_int pa_nil)) (pg_name (i := 3) sc_rich.nd rfl (Or.inl rfl)) (pss_one (ps_set (i := 2) sc_rich.nd rfl (Or.inl rfl) (pe_op op_add (pe_op op_mul (pv 2) pe_int) (C8.pe_c c_mix hr (by omega) (by rfl) (pa_cons (pv 0) (pa_cons (pe_op op_add (pe_op op_mul pe_int (pv 1)) (pv 3)) pa_nil))))))) (pss_one (ps_ret (pv 2))))), ?_⟩
  refine st_ (σ' := [some (V.int x_cell), some (V.int x_k), none, none]) rfl ?_
  unfold m_rich at h
  refine seq_ ?_
  refine asg_ ?_
  refine cst_ ?_
  refine gset_ (σ' := [some (V.int x_cell), some (V.int x_k), some (V.int (0 : Int)), none]) rfl ?_
  refine nx_ ?_
  obtain ⟨fin25, hx27, h⟩ := bs h
  refine seq_ ?_
  refine for_ ?_
  refine irng1_ ?_
  refine tcons_ ?_
  refine cst_ ?_
  refine tnil_ ?_
  refine itR1 (B := B) (by decide) fun tw1 => ?_
  refine for_n W tw1 (fun (s2 : Int) (x4 : Int) => bd (m_mix x_cell (((20 : Int) * x_k) + x4)) fun r16 => bd (some ((s2 * (1999999973 : Int)) + r16)) fun x24 => some x24) hx27 (fun s σ O B => ∃ (u0' : Option V), σ = [some (V.int x_cell), some (V.int x_k), some (V.int s), u0'] ∧ O = []) (by rintro _ _ _ _ _ m' ⟨e0', a', b'⟩; exact ⟨e0', a', b'⟩) ⟨none, rfl, rfl⟩ (fun s2 x4 c30 v5 σ' O8 B6 H7 l10 W9 i' r11 hs12 => ?_) ?_
  · obtain ⟨u3, rfl, rfl⟩ := i'
    have W9 : Ws [] B H B6 H7 [] := W9
    obtain rfl : v5 = V.int x4 := r11
    refine gset_ (σ' := [some (V.int x_cell), some (V.int x_k), some (V.int s2), some (V.int x4)]) rfl ?_
    obtain ⟨r16, er16, hs12⟩ := bs hs12
    obtain ⟨x24, ex24, hs12⟩ := bs hs12
    refine asg_ ?_
    refine op_ ?_
    refine op_ ?_
    refine var_ rfl ?_
    refine cst_ ?_
    refine iC_ (.inr ⟨by decide, by decide⟩) ?_
    refine call_ ?_
    refine tcons_ ?_
    refine var_ rfl ?_
    refine tcons_ ?_
    refine op_ ?_
    refine op_ ?_
    refine cst_ ?_
    refine var_ rfl ?_
    refine iC_ (.inl ⟨by decide, by decide⟩) ?_
    refine var_ rfl ?_
    refine i0_ ?_
    refine tnil_ ?_
    have L15 := Ws.ln (O1 := []) (O := []) (O2 := []) W9
    refine ⟨B6, x_cell, (((20 : Int) * x_k) + x4), r16, rfl, Ln.call (O1 := []) (O := []) (O2 := []) L15 W9, er16, fun v17 B18 H19 V20 q21 => ?_⟩
    have W22 := Ws.back (O1 := []) (O := []) (O2 := []) W9 (O' := []) V20
    have l23 := (Ws.bb V20)
    have W22 : Ws [] B H B18 H19 [] := W22
    obtain rfl : v17 = V.int r16 := q21
    refine i0_ ?_
    refine gas_ (V.int x24) (congrArg V.int (Option.some.inj ex24)) (σ' := [some (V.int x_cell), some (V.int x_k), some (V.int x24), some (V.int x4)]) rfl ?_
    refine nx_ ?_
    rw [← Option.some.inj hs12]
    exact ⟨_, B18, (l10.tr l23), W22, ⟨(some (V.int x4)), rfl, rfl⟩⟩
  rintro σ' O35 B31 H32 l34 W33 ⟨u36, rfl, rfl⟩
  refine nx_ ?_
  refine ret_ ?_
  refine var_ rfl ?_
  rw [← Option.some.inj h] at k
  exact k (V.int fin25) B31 H32  W33 rfl 

def m_pick (x_left : List Int) (x_many : Int) : Option (Int × (List Int)) :=
  bd (atI x_left (0 : Int)) fun x1 => bd (ck (0 < x_many)) fun _ => bd (some (x1 % x_many)) fun x5 => bd (atI x_left (0 : Int)) fun x6 => bd (ck (0 < x_many ∧ x_many < 1073741824)) fun _ => bd (ixN (x_left).length (0 : Int)) fun x10 => some (x5, (x_left.set x10 (x6 / x_many)))
def sp_pick (K : PySem.W.Frag) : Sp := fun vs H Q _ => ∃ (B : Hp) (a_left : Addr) (l_left : List V) (x_left : List Int) (x_many : Int) (r : Int × (List Int)), vs = [V.ref a_left, V.int x_many] ∧ Ws [a_left] B H B H [(a_left, .lst l_left)] ∧ Ow B l_left x_left ∧ m_pick x_left x_many = some r ∧ ∀ w B' H' l_left', Ws [a_left] B H B' H' [(a_left, .lst l_left')] → Rp.R B' w r.1 → Ow B' l_left' r.2 → Q w H'
abbrev s_pick : Stmt := top 11
theorem sc_pick : FnScope ["_law_left", "_law_many", "_law_digit"] ["_law_left", "_law_many"] (C8.fnScope s_pick) := C8.fnScope_by (by decide +kernel)
theorem ok_pick (T : Tx mg) {f : Addr} {fd : FuncData} (F : C8.Def K mg "_law_pick" s_pick f fd) (b : Binds K fd ["_law_left", "_law_many"] []) : C8.Cal P w K mg base 1 "_law_pick" (sp_pick K) [] := by
  refine C8.cal0 F b .nil sc_pick (fun vs H Q E h => ?_) (fun cdv A outer s H vs Q E hr h => ?_)
  · obtain ⟨B, a_left, l_left, x_left, x_many, r, rfl, _⟩ := h
    rfl
  obtain ⟨B, a_left, l_left, x_left, x_many, r, rfl, W, o_left, h, k⟩ := h
  refine ⟨_, (pss_cons (ps_set (i := 2) sc_pick.nd rfl (Or.inl rfl) (pe_op op_mod (pe_ix (k_ixL (K := K)) (pv 0) pe_int (fun _ _ => rfl)) (pv 1))) (pss_cons (ps_asg (pe_op op_fdiv (pe_ix (k_ixL (K := K)) (pv 0) pe_int (fun _ _ => rfl)) (pv 1)) (pg_sub (pv 0) pe_int set_list)) (pss_one (ps_ret (pv 2))))), ?_⟩
  refine st_ (σ' := [some (V.ref a_left), some (V.int x_many), none]) rfl ?_
  unfold m_pick at h
  obtain ⟨x1, ex1, h⟩ := bs h
  obtain ⟨q4, h⟩ := cks h
  obtain ⟨x5, ex5, h⟩ := bs h
  refine seq_ ?_
  refine asg_ ?_
  refine op_ ?_
  refine op_ ?_
  refine var_ rfl ?_
  refine cst_ ?_
  refine oIx W 0 rfl o_left ex1 fun v2 r3 => ?_
  obtain rfl : v2 = V.int x1 := r3
  refine var_ rfl ?_
  refine iC_ q4 ?_
  refine gas_ (V.int x5) (congrArg V.int (Option.some.inj ex5)) (σ' := [some (V.ref a_left), some (V.int x_many), some (V.int x5)]) rfl ?_
  refine nx_ ?_
  obtain ⟨x6, ex6, h⟩ := bs h
  obtain ⟨q9, h⟩ := cks h
  obtain ⟨x10, ex10, h⟩ := bs h
  refine seq_ ?_
  refine asg_ ?_
  refine op_ ?_
  refine op_ ?_
  refine var_ rfl ?_
  refine cst_ ?_
  refine oIx W 0 rfl o_left ex6 fun v7 r8 => ?_
  obtain rfl : v7 = V.int x6 := r8
  refine var_ rfl ?_
  refine iC_ q9 ?_
  refine gsub_ ?_
  refine var_ rfl ?_
  refine cst_ ?_
  refine oSet W 0 rfl o_left (show Rp.R B (V.int (x6 / x_many)) ((x6 / x_many) : Int) from rfl) ex10 fun H11 l12 W13 o14 => ?_
  have W13 : Ws [a_left] B H B H11 [(a_left, .lst l12)] := W13
  refine nx_ ?_
  refine ret_ ?_
  refine var_ rfl ?_
  rw [← Option.some.inj h] at k
  exact k (V.int x5) B H11 l12 W13 rfl o14

def m_spelt (x_left : List Int) (x_told : List Str) : Option (Str × (List Int)) :=
  bd (some (Txt.split ("switch keep gate next never some wall row step piece lasso" : Str) (" " : Str))) fun x7 => bd (m_pick x_left (9 : Int)) fun r10 => bd (some ((1 : Int) + r10.1)) fun x20 => bd (m_pick r10.2 (11 : Int)) fun r22 => bd (atI x7 r22.1) fun x32 => bd (if decide (x20 < (9 : Int)) = true then (bd (ck (-(2 ^ 62) ≤ x20 ∧ x20 < 2 ^ 62)) fun _ => bd (ck ((rng 0 (x20 : Int).toNat).length ≤ sizeLine)) fun _ => bd (lcs (fun (s53 : (List Int)) (x42 : Int) => bd (m_pick s53 (26 : Int)) fun r59 => bd (sAt ("abcdefghijklmnopqrstuvwxyz" : Str) r59.1) fun x69 => some (r59.2, some x69)) r22.2 (rng 0 (x20 : Int).toNat)) fun x71 => bd (ck ((List.map (fun (s : Str) => s.length) x71.2).sum + (x71.2).length * (("" : Str)).length ≤ 16777216)) fun _ => bd (some (Txt.join ("" : Str) x71.2)) fun x86 => some (x86, x71.1)) else (some (x32, r22.2))) fun j37 => bd (ck ((signs ("abcdefghijklmnopqrstuvwxyz" : Str)).length ≤ sizeLine)) fun _ => bd (mapO (fun (x100 : Str) => bd (ck ((j37.1).length ≤ sizeLine)) fun _ => bd (ck (((Txt.slice j37.1 none (some (7 : Int)))).length + (x100).length ≤ sizeLine)) fun _ => some ((Txt.slice j37.1 none (some (7 : Int))) ++ x100)) (signs ("abcdefghijklmnopqrstuvwxyz" : Str))) fun x117 => bd (ck ((([j37.1] : List Str)).length + (x117).length ≤ sizeLine)) fun _ => bd (ck ((signs ("abcdefghijklmnopqrstuvwxyz" : Str)).length ≤ sizeLine)) fun _ => bd (mapO (fun (x133 : Str) => bd (ck ((j37.1).length ≤ sizeLine)) fun _ => bd (ck (((Txt.slice j37.1 none (some (6 : Int)))).length + (x133).length ≤ sizeLine)) fun _ => bd (ck ((((Txt.slice j37.1 none (some (6 : Int))) ++ x133)).length + (("q" : Str)).length ≤ sizeLine)) fun _ => some (((Txt.slice j37.1 none (some (6 : Int))) ++ x133) ++ ("q" : Str))) (signs ("abcdefghijklmnopqrstuvwxyz" : Str))) fun x151 => bd (ck (((([j37.1] : List Str) ++ x117)).length + (x151).length ≤ sizeLine)) fun _ => bd (some ((([j37.1] : List Str) ++ x117) ++ x151)) fun x166 => bd (ck ((signs ("abcdefghijklmnopqrstuvwxyz" : Str)).length ≤ sizeLine)) fun _ => bd (mapO (fun (x169 : Str) => bd (ck ((j37.1).length ≤ sizeLine)) fun _ => bd (ck (((Txt.slice j37.1 none (some (6 : Int)))).length + (x169).length ≤ sizeLine)) fun _ => bd (ck ((((Txt.slice j37.1 none (some (6 : Int))) ++ x169)).length + (("z" : Str)).length ≤ sizeLine)) fun _ => some (((Txt.slice j37.1 none (some (6 : Int))) ++ x169) ++ ("z" : Str))) (signs ("abcdefghijklmnopqrstuvwxyz" : Str))) fun x187 => bd (ck ((x166).length + (x187).length ≤ sizeLine)) fun _ => bd (ck ((signs ("abcdefghijklmnopqrstuvwxyz" : Str)).length ≤ sizeLine)) fun _ => bd (mapO (fun (x203 : Str) => bd (ck ((j37.1).length ≤ sizeLine)) fun _ => bd (ck (((Txt.slice j37.1 none (some (5 : Int)))).length + (x203).length ≤ sizeLine)) fun _ => bd (ck ((((Txt.slice j37.1 none (some (5 : Int))) ++ x203)).length + (("qz" : Str)).length ≤ sizeLine)) fun _ => some (((Txt.slice j37.1 none (some (5 : Int))) ++ x203) ++ ("qz" : Str))) (signs ("abcdefghijklmnopqrstuvwxyz" : Str))) fun x221 => bd (ck (((x166 ++ x187)).length + (x221).length ≤ sizeLine)) fun _ => bd (some ((x166 ++ x187) ++ x221)) fun x236 => bd (ck (x236.length ≤ sizeLine)) fun _ => bd (atI (List.map (fun (x240 : Str) => x240) (List.filter (fun (x240 : Str) => (!decide (x240 ∈ x_told))) x236)) (0 : Int)) fun x265 => some (x265, j37.2)
def sp_spelt (K : PySem.W.Frag) : Sp := fun vs H Q _ => ∃ (B : Hp) (a_left : Addr) (l_left : List V) (x_left : List Int) (v_told : V) (x_told : List Str) (r : Str × (List Int)), vs = [V.ref a_left, v_told] ∧ Ws [a_left] B H B H [(a_left, .lst l_left)] ∧ Ow B l_left x_left ∧ Rp.R B v_told x_told ∧ m_spelt x_left x_told = some r ∧ ∀ w B' H' l_left', Ws [a_left] B H B' H' [(a_left, .lst l_left')] → Rp.R B' w r.1 → Ow B' l_left' r.2 → Q w H'
abbrev s_spelt : Stmt := top 12
theorem sc_spelt : FnScope ["_law_left", "_law_told", "_law_letters", "_law_words", "_law_size", "_law_name", "_law_some", "_law_one", "_law_k"] ["_law_left", "_law_told"] (C8.fnScope s_spelt) := C8.fnScope_by (by decide +kernel)
theorem ok_spelt (T : Tx mg) (c_pick : C8.Cal P w K mg base 1 "_law_pick" (sp_pick K) []) {f : Addr} {fd : FuncData} (F : C8.Def K mg "_law_spelt" s_spelt f fd) (b : Binds K fd ["_law_left", "_law_told"] []) : C8.Cal P w K mg base 2 "_law_spelt" (sp_spelt K) [] := by
  refine C8.cal0 F b .nil sc_spelt (fun vs H Q E h => ?_) (fun cdv A outer s H vs Q E hr h => ?_)
  · obtain ⟨B, a_left, l_left, x_left, v_told, x_told, r, rfl, _⟩ := h
    rfl
  obtain ⟨B, a_left, l_left, x_left, v_told, x_told, r, rfl, W, o_left, r_told, h, k⟩ := h
  refine ⟨_, (pss_cons (ps_set (i := 2) sc_spelt.nd rfl (Or.inr rfl) pe_str) (pss_cons (ps_set (i := 3) sc_spelt.nd rfl (Or.inl rfl) (pe_m1 PySem.F.slot_str_split PySem.F.type_str_split k_split pe_str pe_str)) (pss_cons (ps_set (i := 4) sc_spelt.nd rfl (Or.inl rfl) (pe_op op_add pe_int (C8.pe_c c_pick hr (by omega) (by rfl) (pa_cons (pv 0) (pa_cons pe_int pa_nil))))) (pss_cons (ps_set (i := 5) sc_spelt.nd rfl (Or.inr rfl) (pe_ix (k_ixL (K := K)) (pv 3) (C8.pe_c c_pick hr (by omega) (by rfl) (pa_cons (pv 0) (pa_cons pe_int pa_nil))) (fun _ _ => rfl))) (C8.pss_cut (ps_if (pt_cmpR op_lt (pv 4) pe_int (nomark _)) (pss_one (ps_set (i := 5) sc_spelt.nd rfl (Or.inr rfl) (pe_m1 PySem.F.slot_str_join PySem.F.type_str_join (k_join (K := K)) pe_str (pe_lc (own := [("_law_k", 8)]) (g := (gName 8)) (tt := tYes) (by rfl) sc_spelt.nd (pi_range1 (by rfl) T.b_range (pa_cons (pv 4) pa_nil)) (blkOk_by (own := [("_law_k", 8)]) (N := ["_law_left", "_law_told", "_law_letters", "_law_words", "_law_size", "_law_name", "_law_some", "_law_one", "_law_k"]) (sc := C8.fnScope s_spelt) (by decide +kernel)) (fun _ _ _ _ _ => (pg_name (i := 8) sc_spelt.nd rfl (Or.inl rfl))) (fun _ _ _ _ _ => pts_nil) (fun _ _ _ _ _ => (pe_ix ix_str (pv 2) (C8.pe_c c_pick hr (by omega) (by rfl) (pa_cons (pv 0) (pa_cons pe_int pa_nil))) (fun _ _ => rfl))))))) pss_nil) (pss_cons (ps_set (i := 6) sc_spelt.nd rfl (Or.inl rfl) (pe_op op_cat (pe_op op_cat (pe_lst (pa_cons (pv 5) pa_nil)) (pe_lc (own := [("_law_one", 7)]) (g := (gName 7)) (tt := tYes) (by rfl) sc_spelt.nd (pi_str (pv 2)) (blkOk_by (own := [("_law_one", 7)]) (N := ["_law_left", "_law_told", "_law_letters", "_law_words", "_law_size", "_law_name", "_law_some", "_law_one", "_law_k"]) (sc := C8.fnScope s_spelt) (by decide +kernel)) (fun _ _ _ _ _ => (pg_name (i := 7) sc_spelt.nd rfl (Or.inl rfl))) (fun _ _ _ _ _ => pts_nil) (fun _ _ _ _ _ => (pe_op k_addS (pe_slice C8.sl_txt (pv 5) po_none (po_some pe_int)) (pv 7))))) (pe_lc (own := [("_law_one", 7)]) (g := (gName 7)) (tt := tYes) (by rfl) sc_spelt.nd (pi_str (pv 2)) (blkOk_by (own := [("_law_one", 7)]) (N := ["_law_left", "_law_told", "_law_letters", "_law_words", "_law_size", "_law_name", "_law_some", "_law_one", "_law_k"]) (sc := C8.fnScope s_spelt) (by decide +kernel)) (fun _ _ _ _ _ => (pg_name (i := 7) sc_spelt.nd rfl (Or.inl rfl))) (fun _ _ _ _ _ => pts_nil) (fun _ _ _ _ _ => (pe_op k_addS (pe_op k_addS (pe_slice C8.sl_txt (pv 5) po_none (po_some pe_int)) (pv 7)) pe_str))))) (pss_cons (ps_set (i := 6) sc_spelt.nd rfl (Or.inl rfl) (pe_op op_cat (pe_op op_cat (pv 6) (pe_lc (own := [("_law_one", 7)]) (g := (gName 7)) (tt := tYes) (by rfl) sc_spelt.nd (pi_str (pv 2)) (blkOk_by (own := [("_law_one", 7)]) (N := ["_law_left", "_law_told", "_law_letters", "_law_words", "_law_size", "_law_name", "_law_some", "_law_one", "_law_k"]) (sc := C8.fnScope s_spelt) (by decide +kernel)) (fun _ _ _ _ _ => (pg_name (i := 7) sc_spelt.nd rfl (Or.inl rfl))) (fun _ _ _ _ _ => pts_nil) (fun _ _ _ _ _ => (pe_op k_addS (pe_op k_addS (pe_slice C8.sl_txt (pv 5) po_none (po_some pe_int)) (pv 7)) pe_str)))) (pe_lc (own := [("_law_one", 7)]) (g := (gName 7)) (tt := tYes) (by rfl) sc_spelt.nd (pi_str (pv 2)) (blkOk_by (own := [("_law_one", 7)]) (N := ["_law_left", "_law_told", "_law_letters", "_law_words", "_law_size", "_law_name", "_law_some", "_law_one", "_law_k"]) (sc := C8.fnScope s_spelt) (by decide +kernel)) (fun _ _ _ _ _ => (pg_name (i := 7) sc_spelt.nd rfl (Or.inl rfl))) (fun _ _ _ _ _ => pts_nil) (fun _ _ _ _ _ => (pe_op k_addS (pe_op k_addS (pe_slice C8.sl_txt (pv 5) po_none (po_some pe_int)) (pv 7)) pe_str))))) (pss_one (ps_ret (pe_ix (k_ixL (K := K)) (pe_lc (own := [("_law_one", 7)]) (g := (gName 7)) (by rfl) sc_spelt.nd (k_pil (K := K) (pv 6)) (blkOk_by (own := [("_law_one", 7)]) (N := ["_law_left", "_law_told", "_law_letters", "_law_words", "_law_size", "_law_name", "_law_some", "_law_one", "_law_k"]) (sc := C8.fnScope s_spelt) (by decide +kernel)) (fun _ _ _ _ _ => (pg_name (i := 7) sc_spelt.nd rfl (Or.inl rfl))) (fun _ _ _ _ _ => (pts_one (pt_cmpR (k_nin (K := K)) (pv 7) (pv 1) (by rfl)))) (fun _ _ _ _ _ => (pv 7))) pe_int (fun _ _ => rfl))))))))))), ?_⟩
  refine st_ (σ' := [some (V.ref a_left), some v_told, none, none, none, none, none, none, none]) rfl ?_
  unfold m_spelt at h
  refine seq_ ?_
  refine asg_ ?_
  refine cst_ ?_
  refine gset_ (σ' := [some (V.ref a_left), some v_told, some (V.str ("abcdefghijklmnopqrstuvwxyz" : Str)), none, none, none, none, none, none]) rfl ?_
  refine nx_ ?_
  obtain ⟨x7, ex7, h⟩ := bs h
  refine seq_ ?_
  refine asg_ ?_
  refine m1_ ?_
  refine cst_ ?_
  refine isS_ ?_
  refine cst_ ?_
  refine split_ (a := ("switch keep gate next never some wall row step piece lasso" : Str)) (b := (" " : Str)) (by decide +kernel) (by decide +kernel) (by decide +kernel) W fun v1 B2 H3 W4 l5 r6 => ?_
  have r8 : Rp.R B2 v1 (x7 : List Str) := Option.some.inj ex7 ▸ r6
  refine gset_ (σ' := [some (V.ref a_left), some v_told, some (V.str ("abcdefghijklmnopqrstuvwxyz" : Str)), some v1, none, none, none, none, none]) rfl ?_
  refine nx_ ?_
  obtain ⟨r10, er10, h⟩ := bs h
  obtain ⟨x20, ex20, h⟩ := bs h
  refine seq_ ?_
  refine asg_ ?_
  refine op_ ?_
  refine cst_ ?_
  refine call_ ?_
  refine tcons_ ?_
  refine var_ rfl ?_
  refine tcons_ ?_
  refine cst_ ?_
  refine tnil_ ?_
  have L9 := Ws.ln (O1 := []) (O := [(a_left, .lst l_left)]) (O2 := []) W4
  refine ⟨B2, a_left, l_left, x_left, (9 : Int), r10, rfl, Ln.call (O1 := []) (O := [(a_left, .lst l_left)]) (O2 := []) L9 W4, (Ow.mono l5 o_left), er10, fun v11 B12 H13 l16 V14 q15 o17 => ?_⟩
  have W18 := Ws.back (O1 := []) (O := [(a_left, .lst l_left)]) (O2 := []) W4 (O' := [(a_left, .lst l16)]) V14
  have l19 := (Ws.bb V14)
  have W18 : Ws [a_left] B H B12 H13 [(a_left, .lst l16)] := W18
  obtain rfl : v11 = V.int r10.1 := q15
  refine i0_ ?_
  refine gas_ (V.int x20) (congrArg V.int (Option.some.inj ex20)) (σ' := [some (V.ref a_left), some v_told, some (V.str ("abcdefghijklmnopqrstuvwxyz" : Str)), some v1, some (V.int x20), none, none, none, none]) rfl ?_
  refine nx_ ?_
  obtain ⟨r22, er22, h⟩ := bs h
  obtain ⟨x32, ex32, h⟩ := bs h
  refine seq_ ?_
  refine asg_ ?_
  refine op_ ?_
  refine var_ rfl ?_
  refine call_ ?_
  refine tcons_ ?_
  refine var_ rfl ?_
  refine tcons_ ?_
  refine cst_ ?_
  refine tnil_ ?_
  have L21 := Ws.ln (O1 := []) (O := [(a_left, .lst l16)]) (O2 := []) W18
  refine ⟨B12, a_left, l16, r10.2, (11 : Int), r22, rfl, Ln.call (O1 := []) (O := [(a_left, .lst l16)]) (O2 := []) L21 W18, o17, er22, fun v23 B24 H25 l28 V26 q27 o29 => ?_⟩
  have W30 := Ws.back (O1 := []) (O := [(a_left, .lst l16)]) (O2 := []) W18 (O' := [(a_left, .lst l28)]) V26
  have l31 := (Ws.bb V26)
  have W30 : Ws [a_left] B H B24 H25 [(a_left, .lst l28)] := W30
  obtain rfl : v23 = V.int r22.1 := q27
  refine ixL_ W30 (Rp.mono (l19.tr l31) r8) ex32 fun v33 r34 => ?_
  obtain rfl : v33 = V.str x32 := r34
  refine gset_ (σ' := [some (V.ref a_left), some v_told, some (V.str ("abcdefghijklmnopqrstuvwxyz" : Str)), some v1, some (V.int x20), some (V.str x32), none, none, none]) rfl ?_
  refine nx_ ?_
  obtain ⟨j37, hj38, h⟩ := bs h
  refine cut_ (fun σ' H' => ∃ (B' : Hp) (l0' : List V), σ' = [some (V.ref a_left), some v_told, some (V.str ("abcdefghijklmnopqrstuvwxyz" : Str)), some v1, some (V.int x20), some (V.str j37.1), none, none, none] ∧ Le B24 B' ∧ Ws [a_left] B H B' H' [(a_left, .lst l0')] ∧ Ow B' l0' j37.2) ?_ ?_
  · refine if_ (fun v' H' => v' = (decide (x20 < (9 : Int))) ∧ H25 = H') (fun Q35 kk36 => ?_) (fun H25q hw => ?_) (fun H25q hw => ?_)
    · refine tst_ ?_
      refine op_ ?_
      refine var_ rfl ?_
      refine cst_ ?_
      refine i0_ ?_
      refine ⟨_, rfl, ?_⟩
      exact kk36 _ _ ⟨rfl, rfl⟩
    · obtain ⟨c39, rfl⟩ := hw
      have c39 := c39.symm
      have hj38 := opT c39 hj38
      obtain ⟨q41, hj38⟩ := cks hj38
      obtain ⟨q70, hj38⟩ := cks hj38
      obtain ⟨x71, ex71, hj38⟩ := bs hj38
      have ex71' : lcs (fun (s53 : (List Int)) (x42 : Int) => bd (m_pick s53 (26 : Int)) fun r59 => bd (sAt ("abcdefghijklmnopqrstuvwxyz" : Str) r59.1) fun x69 => some (r59.2, some x69)) r22.2 (rng 0 (x20 : Int).toNat) = some (x71.1, x71.2) := ex71
      obtain ⟨q85, hj38⟩ := cks hj38
      obtain ⟨x86, ex86, hj38⟩ := bs hj38
      refine asg_ ?_
      refine m1_ ?_
      refine cst_ ?_
      refine isS_ ?_
      refine lc_ ?_
      refine irng1_ ?_
      refine tcons_ ?_
      refine var_ rfl ?_
      refine tnil_ ?_
      refine itR1 (B := B24) q41 fun tw40 => ?_
      refine lc_s W30 tw40 q70 (fun (s53 : (List Int)) (x42 : Int) => bd (m_pick s53 (26 : Int)) fun r59 => bd (sAt ("abcdefghijklmnopqrstuvwxyz" : Str) r59.1) fun x69 => some (r59.2, some x69)) ex71' (fun s O B => ∃ l0', O = [(a_left, .lst l0')] ∧ Ow B l0' s) (by rintro _ _ _ _ l' ⟨m0', e', w0'⟩; exact ⟨m0', e', w0'.mono l'⟩) ⟨l28, rfl, o29⟩ (fun s53 x42 s74 z72 v44 O75 B45 H46 D47 acc48 Nx49 l50 W51 i' r52 hs43 k56 k57 => ?_) ?_
      · obtain ⟨l54, rfl, o55⟩ := i'
        obtain ⟨r59, er59, hs43⟩ := bs hs43
        obtain ⟨x69, ex69, hs43⟩ := bs hs43
        obtain ⟨e1', e2'⟩ := Prod.mk.inj (Option.some.inj hs43)
        subst e1'
        subst e2'
        have W51 : Ws [a_left] B H B45 H46 [(a_left, .lst l54), (D47, .lst acc48)] := W51
        obtain rfl : v44 = V.int x42 := r52
        refine gset_ (σ' := [some (V.ref a_left), some v_told, some (V.str ("abcdefghijklmnopqrstuvwxyz" : Str)), some v1, some (V.int x20), some (V.str x32), none, none, some (V.int x42)]) rfl ?_
        refine ⟨rfl, ?_⟩
        refine yes_ ?_
        refine ifT rfl ?_
        refine op_ ?_
        refine var_ rfl ?_
        refine call_ ?_
        refine tcons_ ?_
        refine var_ rfl ?_
        refine tcons_ ?_
        refine cst_ ?_
        refine tnil_ ?_
        have L58 := Ws.ln (O1 := []) (O := [(a_left, .lst l54)]) (O2 := [(D47, .lst acc48)]) W51
        refine ⟨B45, a_left, l54, s53, (26 : Int), r59, rfl, Ln.call (O1 := []) (O := [(a_left, .lst l54)]) (O2 := [(D47, .lst acc48)]) L58 W51, o55, er59, fun v60 B61 H62 l65 V63 q64 o66 => ?_⟩
        have W67 := Ws.back (O1 := []) (O := [(a_left, .lst l54)]) (O2 := [(D47, .lst acc48)]) W51 (O' := [(a_left, .lst l65)]) V63
        have l68 := (Ws.bb V63)
        have W67 : Ws [a_left] B H B61 H62 [(a_left, .lst l65), (D47, .lst acc48)] := W67
        obtain rfl : v60 = V.int r59.1 := q64
        refine ixS_ ex69 ?_
        exact k56 _ _ _ _ _ rfl l68 (show Ws [a_left] B H B61 H62 ([(a_left, .lst l65)] ++ [(D47, .lst acc48)]) from W67) ⟨l65, rfl, o66⟩ (show Rp.R B61 (V.str x69) (x69 : Str) from rfl)
      rintro v76 O82 B77 H78 l79 W80 ⟨l83, rfl, o84⟩ r81
      refine join_ W80 r81 q85 ?_
      refine gas_ (V.str x86) (congrArg V.str (Option.some.inj ex86)) (σ' := [some (V.ref a_left), some v_told, some (V.str ("abcdefghijklmnopqrstuvwxyz" : Str)), some v1, some (V.int x20), some (V.str x86), none, none, none]) rfl ?_
      refine nx_ ?_
      rw [← Option.some.inj hj38]; exact ⟨B77, l83, rfl, l79, W80, o84⟩
    · obtain ⟨c39, rfl⟩ := hw
      have c39 := c39.symm
      have hj38 := opF c39 hj38
      refine next_ ?_
      refine nx_ ?_
      rw [← Option.some.inj hj38]; exact ⟨B24, l28, rfl, (Le.refl _), W30, o29⟩
  rintro _ H88 ⟨B87, l91, rfl, l90, W89, o92⟩
  obtain ⟨q116, h⟩ := cks h
  obtain ⟨x117, ex117, h⟩ := bs h
  obtain ⟨q125, h⟩ := cks h
  obtain ⟨q150, h⟩ := cks h
  obtain ⟨x151, ex151, h⟩ := bs h
  obtain ⟨q159, h⟩ := cks h
  obtain ⟨x166, ex166, h⟩ := bs h
  refine seq_ ?_
  refine asg_ ?_
  refine op_ ?_
  refine op_ ?_
  refine lst_ ?_
  refine tcons_ ?_
  refine var_ rfl ?_
  refine tnil_ ?_
  refine mkL (xs := ([j37.1] : List Str)) W89 (.cons (show Rp.R B87 (V.str j37.1) (j37.1 : Str) from rfl) .nil) (by show 1 ≤ sizeLine; decide) fun v93 B94 H95 W96 l97 r98 => ?_
  refine lc_ ?_
  refine istr_ ?_
  refine var_ rfl ?_
  refine itS (B := B94) fun tw99 => ?_
  refine lc_o W96 tw99 q116 (fun (x100 : Str) => bd (ck ((j37.1).length ≤ sizeLine)) fun _ => bd (ck (((Txt.slice j37.1 none (some (7 : Int)))).length + (x100).length ≤ sizeLine)) fun _ => some ((Txt.slice j37.1 none (some (7 : Int))) ++ x100)) ex117 (fun x100 z118 v102 B103 H104 D105 acc106 Nx107 l108 W109 r110 hs101 k112 => ?_) ?_
  · obtain ⟨q114, hs101⟩ := cks hs101
    obtain ⟨q115, hs101⟩ := cks hs101
    obtain rfl := Option.some.inj hs101
    obtain rfl : v102 = V.str x100 := r110
    refine gset_ (σ' := [some (V.ref a_left), some v_told, some (V.str ("abcdefghijklmnopqrstuvwxyz" : Str)), some v1, some (V.int x20), some (V.str j37.1), none, some (V.str x100), none]) rfl ?_
    refine ⟨rfl, ?_⟩
    refine op_ ?_
    refine sl_ ?_
    refine var_ rfl ?_
    refine nopart_ ?_
    refine part_ ?_
    refine cst_ ?_
    refine ⟨_, rfl, ?_⟩
    refine slS_ q114 ?_
    refine var_ rfl ?_
    refine addS_ q115 ?_
    exact k112 _ _ _ (Le.refl _) W109 (show Rp.R B103 (V.str ((Txt.slice j37.1 none (some (7 : Int))) ++ x100)) (((Txt.slice j37.1 none (some (7 : Int))) ++ x100) : Str) from rfl)
  intro v119 B120 H121 l122 W123 r124
  refine cat_ W123 (Rp.mono l122 r98) r124 q125 fun v126 B127 H128 W129 l130 r131 => ?_
  refine lc_ ?_
  refine istr_ ?_
  refine var_ rfl ?_
  refine itS (B := B127) fun tw132 => ?_
  refine lc_o W129 tw132 q150 (fun (x133 : Str) => bd (ck ((j37.1).length ≤ sizeLine)) fun _ => bd (ck (((Txt.slice j37.1 none (some (6 : Int)))).length + (x133).length ≤ sizeLine)) fun _ => bd (ck ((((Txt.slice j37.1 none (some (6 : Int))) ++ x133)).length + (("q" : Str)).length ≤ sizeLine)) fun _ => some (((Txt.slice j37.1 none (some (6 : Int))) ++ x133) ++ ("q" : Str))) ex151 (fun x133 z152 v135 B136 H137 D138 acc139 Nx140 l141 W142 r143 hs134 k145 => ?_) ?_
  · obtain ⟨q147, hs134⟩ := cks hs134
    obtain ⟨q148, hs134⟩ := cks hs134
    obtain ⟨q149, hs134⟩ := cks hs134
    obtain rfl := Option.some.inj hs134
    obtain rfl : v135 = V.str x133 := r143
    refine gset_ (σ' := [some (V.ref a_left), some v_told, some (V.str ("abcdefghijklmnopqrstuvwxyz" : Str)), some v1, some (V.int x20), some (V.str j37.1), none, some (V.str x133), none]) rfl ?_
    refine ⟨rfl, ?_⟩
    refine op_ ?_
    refine op_ ?_
    refine sl_ ?_
    refine var_ rfl ?_
    refine nopart_ ?_
    refine part_ ?_
    refine cst_ ?_
    refine ⟨_, rfl, ?_⟩
    refine slS_ q147 ?_
    refine var_ rfl ?_
    refine addS_ q148 ?_
    refine cst_ ?_
    refine addS_ q149 ?_
    exact k145 _ _ _ (Le.refl _) W142 (show Rp.R B136 (V.str (((Txt.slice j37.1 none (some (6 : Int))) ++ x133) ++ ("q" : Str))) ((((Txt.slice j37.1 none (some (6 : Int))) ++ x133) ++ ("q" : Str)) : Str) from rfl)
  intro v153 B154 H155 l156 W157 r158
  refine cat_ W157 (Rp.mono l156 r131) r158 q159 fun v160 B161 H162 W163 l164 r165 => ?_
  have r167 : Rp.R B161 v160 (x166 : List Str) := Option.some.inj ex166 ▸ r165
  refine gset_ (σ' := [some (V.ref a_left), some v_told, some (V.str ("abcdefghijklmnopqrstuvwxyz" : Str)), some v1, some (V.int x20), some (V.str j37.1), some v160, none, none]) rfl ?_
  refine nx_ ?_
  obtain ⟨q186, h⟩ := cks h
  obtain ⟨x187, ex187, h⟩ := bs h
  obtain ⟨q195, h⟩ := cks h
  obtain ⟨q220, h⟩ := cks h
  obtain ⟨x221, ex221, h⟩ := bs h
  obtain ⟨q229, h⟩ := cks h
  obtain ⟨x236, ex236, h⟩ := bs h
  refine seq_ ?_
  refine asg_ ?_
  refine op_ ?_
  refine op_ ?_
  refine var_ rfl ?_
  refine lc_ ?_
  refine istr_ ?_
  refine var_ rfl ?_
  refine itS (B := B161) fun tw168 => ?_
  refine lc_o W163 tw168 q186 (fun (x169 : Str) => bd (ck ((j37.1).length ≤ sizeLine)) fun _ => bd (ck (((Txt.slice j37.1 none (some (6 : Int)))).length + (x169).length ≤ sizeLine)) fun _ => bd (ck ((((Txt.slice j37.1 none (some (6 : Int))) ++ x169)).length + (("z" : Str)).length ≤ sizeLine)) fun _ => some (((Txt.slice j37.1 none (some (6 : Int))) ++ x169) ++ ("z" : Str))) ex187 (fun x169 z188 v171 B172 H173 D174 acc175 Nx176 l177 W178 r179 hs170 k181 => ?_) ?_
  · obtain ⟨q183, hs170⟩ := cks hs170
    obtain ⟨q184, hs170⟩ := cks hs170
    obtain ⟨q185, hs170⟩ := cks hs170
    obtain rfl := Option.some.inj hs170
    obtain rfl : v171 = V.str x169 := r179
    refine gset_ (σ' := [some (V.ref a_left), some v_told, some (V.str ("abcdefghijklmnopqrstuvwxyz" : Str)), some v1, some (V.int x20), some (V.str j37.1), some v160, some (V.str x169), none]) rfl ?_
    refine ⟨rfl, ?_⟩
    refine op_ ?_
    refine op_ ?_
    refine sl_ ?_
    refine var_ rfl ?_
    refine nopart_ ?_
    refine part_ ?_
    refine cst_ ?_
    refine ⟨_, rfl, ?_⟩
    refine slS_ q183 ?_
    refine var_ rfl ?_
    refine addS_ q184 ?_
    refine cst_ ?_
    refine addS_ q185 ?_
    exact k181 _ _ _ (Le.refl _) W178 (show Rp.R B172 (V.str (((Txt.slice j37.1 none (some (6 : Int))) ++ x169) ++ ("z" : Str))) ((((Txt.slice j37.1 none (some (6 : Int))) ++ x169) ++ ("z" : Str)) : Str) from rfl)
  intro v189 B190 H191 l192 W193 r194
  refine cat_ W193 (Rp.mono l192 r167) r194 q195 fun v196 B197 H198 W199 l200 r201 => ?_
  refine lc_ ?_
  refine istr_ ?_
  refine var_ rfl ?_
  refine itS (B := B197) fun tw202 => ?_
  refine lc_o W199 tw202 q220 (fun (x203 : Str) => bd (ck ((j37.1).length ≤ sizeLine)) fun _ => bd (ck (((Txt.slice j37.1 none (some (5 : Int)))).length + (x203).length ≤ sizeLine)) fun _ => bd (ck ((((Txt.slice j37.1 none (some (5 : Int))) ++ x203)).length + (("qz" : Str)).length ≤ sizeLine)) fun _ => some (((Txt.slice j37.1 none (some (5 : Int))) ++ x203) ++ ("qz" : Str))) ex221 (fun x203 z222 v205 B206 H207 D208 acc209 Nx210 l211 W212 r213 hs204 k215 => ?_) ?_
  · obtain ⟨q217, hs204⟩ := cks hs204
    obtain ⟨q218, hs204⟩ := cks hs204
    obtain ⟨q219, hs204⟩ := cks hs204
    obtain rfl := Option.some.inj hs204
    obtain rfl : v205 = V.str x203 := r213
    refine gset_ (σ' := [some (V.ref a_left), some v_told, some (V.str ("abcdefghijklmnopqrstuvwxyz" : Str)), some v1, some (V.int x20), some (V.str j37.1), some v160, some (V.str x203), none]) rfl ?_
    refine ⟨rfl, ?_⟩
    refine op_ ?_
    refine op_ ?_
    refine sl_ ?_
    refine var_ rfl ?_
    refine nopart_ ?_
    refine part_ ?_
    refine cst_ ?_
    refine ⟨_, rfl, ?_⟩
    refine slS_ q217 ?_
    refine var_ rfl ?_
    refine addS_ q218 ?_
    refine cst_ ?_
    refine addS_ q219 ?_
    exact k215 _ _ _ (Le.refl _) W212 (show Rp.R B206 (V.str (((Txt.slice j37.1 none (some (5 : Int))) ++ x203) ++ ("qz" : Str))) ((((Txt.slice j37.1 none (some (5 : Int))) ++ x203) ++ ("qz" : Str)) : Str) from rfl)
  intro v223 B224 H225 l226 W227 r228
  refine cat_ W227 (Rp.mono l226 r201) r228 q229 fun v230 B231 H232 W233 l234 r235 => ?_
  have r237 : Rp.R B231 v230 (x236 : List Str) := Option.some.inj ex236 ▸ r235
  refine gset_ (σ' := [some (V.ref a_left), some v_told, some (V.str ("abcdefghijklmnopqrstuvwxyz" : Str)), some v1, some (V.int x20), some (V.str j37.1), some v230, none, none]) rfl ?_
  refine nx_ ?_
  obtain ⟨q258, h⟩ := cks h
  obtain ⟨x265, ex265, h⟩ := bs h
  refine ret_ ?_
  refine op_ ?_
  refine lc_ ?_
  refine ilist_ ?_
  refine var_ rfl ?_
  refine itL W233 r237 fun a238 tw239 => ?_
  refine lc_fm W233 tw239 q258 (fun (x240 : Str) => (!decide (x240 ∈ x_told))) (fun (x240 : Str) => x240) (fun x240 v242 B243 H244 D245 acc246 Nx247 l248 W249 r250 k252 k253 => ?_) ?_
  · obtain rfl : v242 = V.str x240 := r250
    refine gset_ (σ' := [some (V.ref a_left), some v_told, some (V.str ("abcdefghijklmnopqrstuvwxyz" : Str)), some v1, some (V.int x20), some (V.str j37.1), some v230, some (V.str x240), none]) rfl ?_
    refine ⟨rfl, ?_⟩
    refine tx_ (fun v' H' => v' = ((!decide (x240 ∈ x_told))) ∧ H244 = H') ?_ ?_
    · intro Q254 kk255
      refine tst_ ?_
      refine op_ ?_
      refine var_ rfl ?_
      refine var_ rfl ?_
      refine inS_ W249 (Rp.mono (l5.tr (l19.tr (l31.tr (l90.tr (l97.tr (l122.tr (l130.tr (l156.tr (l164.tr (l192.tr (l200.tr (l226.tr (l234.tr l248))))))))))))) r_told) ?_
      refine ⟨_, rfl, ?_⟩
      exact kk255 _ _ ⟨rfl, rfl⟩
    rintro b' H244q hw
    cases b' with
    | true =>
      refine ifT rfl ?_
      obtain ⟨c257, rfl⟩ := hw
      have c257 := c257.symm
      refine var_ rfl ?_
      exact k252 _ _ _ c257 (Le.refl _) W249 (show Rp.R B243 (V.str x240) (x240 : Str) from rfl)
    | false =>
      refine ifF rfl ?_
      obtain ⟨c257, rfl⟩ := hw
      have c257 := c257.symm
      exact k253 _ _ c257 (Le.refl _) W249
  intro v259 B260 H261 l262 W263 r264
  refine cst_ ?_
  refine ixL_ W263 r264 ex265 fun v266 r267 => ?_
  obtain rfl : v266 = V.str x265 := r267
  rw [← Option.some.inj h] at k
  exact k (V.str x265) B260 H261 l91 W263 rfl (Ow.mono (l97.tr (l122.tr (l130.tr (l156.tr (l164.tr (l192.tr (l200.tr (l226.tr (l234.tr l262))))))))) o92)

def m_p_two_halves (x_name : Str) (x_low : Tr) (x_high : Tr) : Option Tr :=
  bd (ck (shp (x_low : Tr) = true ∧ shp (x_high : Tr) = true)) fun _ => if decide (x_low = x_high) = true then (some x_low) else (some (Tr.nd x_name x_low x_high))
def sp_p_two_halves (K : PySem.W.Frag) : Sp := fun vs H Q _ => ∃ (B : Hp) (x_name : Str) (v_low : V) (x_low : Tr) (v_high : V) (x_high : Tr) (r : Tr), vs = [V.str x_name, v_low, v_high] ∧ Ws [] B H B H [] ∧ Rp.R B v_low x_low ∧ Rp.R B v_high x_high ∧ m_p_two_halves x_name x_low x_high = some r ∧ ∀ w B' H', Ws [] B H B' H' [] → Rp.R B' w r → Q w H'
abbrev s_p_two_halves : Stmt := top 1
theorem sc_p_two_halves : FnScope ["name", "low", "high"] ["name", "low", "high"] (C8.fnScope s_p_two_halves) := C8.fnScope_by (by decide +kernel)
theorem ok_p_two_halves (T : Tx mg) {f : Addr} {fd : FuncData} (F : C8.Def K mg "two_halves" s_p_two_halves f fd) (b : Binds K fd ["name", "low", "high"] []) : C8.Cal P w K mg base 1 "two_halves" (sp_p_two_halves K) [] := by
  refine C8.cal0 F b .nil sc_p_two_halves (fun vs H Q E h => ?_) (fun cdv A outer s H vs Q E hr h => ?_)
  · obtain ⟨B, x_name, v_low, x_low, v_high, x_high, r, rfl, _⟩ := h
    rfl
  obtain ⟨B, x_name, v_low, x_low, v_high, x_high, r, rfl, W, r_low, r_high, h, k⟩ := h
  refine ⟨_, (pss_cons (ps_if (pt_cmpR (k_eqD (K := K) hr.units) (pv 1) (pv 2) (nomark _)) (pss_one (ps_ret (pv 1))) pss_nil) (pss_one (ps_ret (pe_tup (pa_cons (pv 0) (pa_cons (pv 1) (pa_cons (pv 2) pa_nil))))))), ?_⟩
  refine st_ (σ' := [some (V.str x_name), some v_low, some v_high]) rfl ?_
  unfold m_p_two_halves at h
  obtain ⟨q3, h⟩ := cks h
  refine seq_ ?_
  refine if_ (fun v' H' => v' = (decide (x_low = x_high)) ∧ H = H') (fun Q1 kk2 => ?_) (fun Hq hw => ?_) (fun Hq hw => ?_)
  · refine tst_ ?_
    refine op_ ?_
    refine var_ rfl ?_
    refine var_ rfl ?_
    refine eqD_ (dat W r_low q3.1) (dat W r_high q3.2) ?_
    refine ⟨_, rfl, ?_⟩
    exact kk2 _ _ ⟨rfl, rfl⟩
  · obtain ⟨c4, rfl⟩ := hw
    have c4 := c4.symm
    have h := opT c4 h
    refine ret_ ?_
    refine var_ rfl ?_
    rw [← Option.some.inj h] at k
    exact k v_low B H  W r_low 
  · obtain ⟨c4, rfl⟩ := hw
    have c4 := c4.symm
    have h := opF c4 h
    refine next_ ?_
    refine nx_ ?_
    refine ret_ ?_
    refine tup_ ?_
    refine tcons_ ?_
    refine var_ rfl ?_
    refine tcons_ ?_
    refine var_ rfl ?_
    refine tcons_ ?_
    refine var_ rfl ?_
    refine tnil_ ?_
    refine Tr.mk W r_low r_high fun v5 B6 H7 W8 l9 r10 => ?_
    rw [← Option.some.inj h] at k
    exact k v5 B6 H7  W8 r10 


def m_p_top_name (x_order : List Str) (x_trees : List Tr) : Option (Option Str) :=
  bd (ck (x_trees.length ≤ sizeLine)) fun _ => bd (fmapO (fun (x3 : Tr) => if (!x3.isLit) = true then bd (x3.n?) fun x21 => some (some x21) else some none) x_trees) fun x23 => bd (lp (fun (s33 : Unit) (x35 : Str) => if decide (x35 ∈ x23) = true then (some (.rt (some x35))) else (some (.nx ()))) () x_order) fun fin50 => ctk fin50 (fun s61 => some none) (fun r' => some r')
def sp_p_top_name (K : PySem.W.Frag) : Sp := fun vs H Q _ => ∃ (B : Hp) (v_order : V) (x_order : List Str) (v_trees : V) (x_trees : List Tr) (r : Option Str), vs = [v_order, v_trees] ∧ Ws [] B H B H [] ∧ Rp.R B v_order x_order ∧ Rp.R B v_trees x_trees ∧ m_p_top_name x_order x_trees = some r ∧ ∀ w B' H', Ws [] B H B' H' [] → Rp.R B' w r → Q w H'
abbrev s_p_top_name : Stmt := top 2
theorem sc_p_top_name : FnScope ["order", "trees", "tops", "name", "tree"] ["order", "trees"] (C8.fnScope s_p_top_name) := C8.fnScope_by (by decide +kernel)
theorem ok_p_top_name (T : Tx mg) {f : Addr} {fd : FuncData} (F : C8.Def K mg "top_name" s_p_top_name f fd) (b : Binds K fd ["order", "trees"] []) : C8.Cal P w K mg base 1 "top_name" (sp_p_top_name K) [] := by
  refine C8.cal0 F b .nil sc_p_top_name (fun vs H Q E h => ?_) (fun cdv A outer s H vs Q E hr h => ?_)
  · obtain ⟨B, v_order, x_order, v_trees, x_trees, r, rfl, _⟩ := h
    rfl
  obtain ⟨B, v_order, x_order, v_trees, x_trees, r, rfl, W, r_order, r_trees, h, k⟩ := h
  refine ⟨_, (pss_cons (ps_setLc (i := 2) (own := [("tree", 4)]) (g := (gName 4)) (by rfl) sc_p_top_name.nd rfl rfl (sw_true rfl rfl rfl (by decide +kernel)) (k_pil (K := K) (pv 1)) (blkOk_by (own := [("tree", 4)]) (N := ["order", "trees", "tops", "name", "tree"]) (sc := C8.fnScope s_p_top_name) (by decide +kernel)) (fun _ _ _ _ _ => (pg_name (i := 4) sc_p_top_name.nd rfl (Or.inl rfl))) (fun _ _ _ _ _ => (pts_one (pt_val (pe_callB (k_isi (K := K)) (by rfl) T.b_isinstance (by decide +kernel) (pa_cons (pv 4) (pa_cons (k_tyn "tuple" (by rfl) T.b_tuple (by decide +kernel)) pa_nil)))))) (fun _ _ _ _ _ => (pe_ix (k_ixT (K := K)) (pv 4) pe_int (fun _ _ => rfl)))) (pss_cons (ps_for PassesOwn.never rfl (k_pil (K := K) (pv 0)) (pg_name (i := 3) sc_p_top_name.nd rfl (Or.inl rfl)) (pss_one (ps_if (pt_cmpR (k_in (K := K)) (pv 3) (pv 2) (by rfl)) (pss_one (ps_ret (pv 3))) pss_nil))) (pss_one (ps_ret pe_non)))), ?_⟩
  refine st_ (σ' := [some v_order, some v_trees, none, none, none]) rfl ?_
  unfold m_p_top_name at h
  obtain ⟨q22, h⟩ := cks h
  obtain ⟨x23, ex23, h⟩ := bs h
  refine seq_ ?_
  refine asg_ ?_
  refine lc_ ?_
  refine ilist_ ?_
  refine var_ rfl ?_
  refine itL W r_trees fun a1 tw2 => ?_
  refine lc_fo W tw2 q22 (fun (x3 : Tr) => if (!x3.isLit) = true then bd (x3.n?) fun x21 => some (some x21) else some none) ex23 (fun x3 z24 v5 B6 H7 D8 acc9 Nx10 l11 W12 r13 hs4 k15 k16 => ?_) ?_
  · refine gset_ (σ' := [some v_order, some v_trees, none, none, some v5]) rfl ?_
    refine ⟨rfl, ?_⟩
    refine tx_ (fun v' H' => v' = ((!x3.isLit)) ∧ H7 = H') ?_ ?_
    · intro Q17 kk18
      refine tB_ ?_
      refine cb_ ?_
      refine tcons_ ?_
      refine var_ rfl ?_
      refine tcons_ ?_
      refine cst_ ?_
      refine tnil_ ?_
      refine Tr.isT W12 r13 ?_
      refine ⟨_, rfl, ?_⟩
      exact kk18 _ _ ⟨rfl, rfl⟩
    rintro b' H7q hw
    cases b' with
    | true =>
      refine ifT rfl ?_
      obtain ⟨c20, rfl⟩ := hw
      have c20 := c20.symm
      have hs19 := opT c20 hs4
      obtain ⟨x21, ex21, hs19⟩ := bs hs19
      obtain rfl := Option.some.inj hs19
      refine op_ ?_
      refine var_ rfl ?_
      refine cst_ ?_
      refine Tr.ix0 W12 r13 ex21 ?_
      exact k15 _ _ _ _ rfl (Le.refl _) W12 (show Rp.R B6 (V.str x21) (x21 : Str) from rfl)
    | false =>
      refine ifF rfl ?_
      obtain ⟨c20, rfl⟩ := hw
      have c20 := c20.symm
      have hs19 := opF c20 hs4
      obtain rfl := Option.some.inj hs19
      exact k16 _ _ rfl (Le.refl _) W12
  intro v25 B26 H27 l28 W29 r30
  refine gset_ (σ' := [some v_order, some v_trees, some v25, none, none]) rfl ?_
  refine nx_ ?_
  obtain ⟨fin50, hx52, h⟩ := bs h
  refine seq_ ?_
  refine for_ ?_
  refine ilist_ ?_
  refine var_ rfl ?_
  refine itL W29 (Rp.mono l28 r_order) fun a31 tw32 => ?_
  refine for_t W29 tw32 (fun (s33 : Unit) (x35 : Str) => if decide (x35 ∈ x23) = true then (some (.rt (some x35))) else (some (.nx ()))) hx52 (fun s σ O B => ∃ (u0' : Option V), σ = [some v_order, some v_trees, some v25, u0', none] ∧ O = []) (by rintro _ _ _ _ _ m' ⟨e0', a', b'⟩; exact ⟨e0', a', b'⟩) ⟨none, rfl, rfl⟩ (fun s33 x35 c55 v36 σ' O39 B37 H38 l41 W40 i' r42 hs43 hb44 hr45 => ?_) ?_
  · obtain ⟨u34, rfl, rfl⟩ := i'
    have W40 : Ws [] B H B37 H38 [] := W40
    obtain rfl : v36 = V.str x35 := r42
    refine gset_ (σ' := [some v_order, some v_trees, some v25, some (V.str x35), none]) rfl ?_
    refine if_ (fun v' H' => v' = (decide (x35 ∈ x23)) ∧ H38 = H') (fun Q46 kk47 => ?_) (fun H38q hw => ?_) (fun H38q hw => ?_)
    · refine tst_ ?_
      refine op_ ?_
      refine var_ rfl ?_
      refine var_ rfl ?_
      refine inS_ W40 (Rp.mono l41 r30) ?_
      refine ⟨_, rfl, ?_⟩
      exact kk47 _ _ ⟨rfl, rfl⟩
    · obtain ⟨c48, rfl⟩ := hw
      have c48 := c48.symm
      have hs43 := opT c48 hs43
      refine ret_ ?_
      refine var_ rfl ?_
      obtain rfl := Option.some.inj hs43
      have hf49 := hr45 _ rfl
      subst hf49
      have h := ct_rt h
      rw [← Option.some.inj h] at k
      exact k (V.str x35) B37 H38  W40 rfl 
    · obtain ⟨c48, rfl⟩ := hw
      have c48 := c48.symm
      have hs43 := opF c48 hs43
      refine next_ ?_
      refine nx_ ?_
      rw [← Option.some.inj hs43]
      exact ⟨_, _, B37, rfl, l41, W40, ⟨(some (V.str x35)), rfl, rfl⟩⟩
  rintro s61 σ' O60 B56 H57 ef l59 W58 ⟨u62, rfl, rfl⟩
  subst ef
  have h := ct_nx h
  refine nx_ ?_
  refine ret_ ?_
  refine cst_ ?_
  rw [← Option.some.inj h] at k
  exact k V.non B56 H57  W58 rfl 

def m_p_half_of (x_tree : Tr) (x_name : Str) (x_bit : Int) : Option Tr :=
  bd (if (!x_tree.isLit) = true then bd (x_tree.n?) fun x5 => some (decide (x5 = x_name)) else some false) fun j6 => if j6 = true then (bd (x_tree.k? ((1 : Int) + x_bit)) fun x8 => some x8) else (some x_tree)
def sp_p_half_of (K : PySem.W.Frag) : Sp := fun vs H Q _ => ∃ (B : Hp) (v_tree : V) (x_tree : Tr) (x_name : Str) (x_bit : Int) (r : Tr), vs = [v_tree, V.str x_name, V.int x_bit] ∧ Ws [] B H B H [] ∧ Rp.R B v_tree x_tree ∧ m_p_half_of x_tree x_name x_bit = some r ∧ ∀ w B' H', Ws [] B H B' H' [] → Rp.R B' w r → Q w H'
abbrev s_p_half_of : Stmt := top 3
theorem sc_p_half_of : FnScope ["tree", "name", "bit"] ["tree", "name", "bit"] (C8.fnScope s_p_half_of) := C8.fnScope_by (by decide +kernel)
theorem ok_p_half_of (T : Tx mg) {f : Addr} {fd : FuncData} (F : C8.Def K mg "half_of" s_p_half_of f fd) (b : Binds K fd ["tree", "name", "bit"] []) : C8.Cal P w K mg base 1 "half_of" (sp_p_half_of K) [] := by
  refine C8.cal0 F b .nil sc_p_half_of (fun vs H Q E h => ?_) (fun cdv A outer s H vs Q E hr h => ?_)
  · obtain ⟨B, v_tree, x_tree, x_name, x_bit, r, rfl, _⟩ := h
    rfl
  obtain ⟨B, v_tree, x_tree, x_name, x_bit, r, rfl, W, r_tree, h, k⟩ := h
  refine ⟨_, (pss_cons (ps_if (PW.pt (pw_and (pt_val (pe_callB (k_isi (K := K)) (by rfl) T.b_isinstance (by decide +kernel) (pa_cons (pv 0) (pa_cons (k_tyn "tuple" (by rfl) T.b_tuple (by decide +kernel)) pa_nil)))) (pw_and1 (pt_cmpR op_eq (pe_ix (k_ixT (K := K)) (pv 0) pe_int (fun _ _ => rfl)) (pv 1) (nomark _))))) (pss_one (ps_ret (pe_ix (k_ixT (K := K)) (pv 0) (pe_op op_add pe_int (pv 2)) (fun _ _ => rfl)))) pss_nil) (pss_one (ps_ret (pv 0)))), ?_⟩
  refine st_ (σ' := [some v_tree, some (V.str x_name), some (V.int x_bit)]) rfl ?_
  unfold m_p_half_of at h
  obtain ⟨j6, hj4_, h⟩ := bs h
  refine seq_ ?_
  refine if_ (fun v' H' => v' = (j6) ∧ H = H') (fun Q1 kk2 => ?_) (fun Hq hw => ?_) (fun Hq hw => ?_)
  · refine tand_ ?_
    refine tB_ ?_
    refine cb_ ?_
    refine tcons_ ?_
    refine var_ rfl ?_
    refine tcons_ ?_
    refine cst_ ?_
    refine tnil_ ?_
    refine Tr.isT W r_tree ?_
    refine ⟨_, rfl, ?_⟩
    refine br_ (fun c3 => ?_) (fun c3 => ?_)
    · have hj4 := opT c3 hj4_
      obtain ⟨x5, ex5, hj4⟩ := bs hj4
      refine tst_ ?_
      refine op_ ?_
      refine op_ ?_
      refine var_ rfl ?_
      refine cst_ ?_
      refine Tr.ix0 W r_tree ex5 ?_
      refine var_ rfl ?_
      refine eqS_ ?_
      refine ⟨_, rfl, ?_⟩
      exact kk2 _ _ ⟨(Option.some.inj hj4), rfl⟩
    · exact kk2 _ _ ⟨(Option.some.inj (opF c3 hj4_)), rfl⟩
  · obtain ⟨c7, rfl⟩ := hw
    have c7 := c7.symm
    have h := opT c7 h
    obtain ⟨x8, ex8, h⟩ := bs h
    refine ret_ ?_
    refine op_ ?_
    refine var_ rfl ?_
    refine op_ ?_
    refine cst_ ?_
    refine var_ rfl ?_
    refine i0_ ?_
    refine Tr.ixk W r_tree ex8 fun v9 r10 => ?_
    rw [← Option.some.inj h] at k
    exact k v9 B H  W r10 
  · obtain ⟨c7, rfl⟩ := hw
    have c7 := c7.symm
    have h := opF c7 h
    refine next_ ?_
    refine nx_ ?_
    refine ret_ ?_
    refine var_ rfl ?_
    rw [← Option.some.inj h] at k
    exact k v_tree B H  W r_tree 

def m_p_opposite : Nat → Tr → Option Tr
  | 0, _ => none
  | d + 1, x_tree => if x_tree.isLit = true then (bd (x_tree.b?) fun x4 => some (Tr.lit (!x4))) else (bd (x_tree.n?) fun x5 => bd (x_tree.k? (1 : Int)) fun x6 => bd (m_p_opposite d x6) fun r10 => bd (x_tree.k? (2 : Int)) fun x18 => bd (m_p_opposite d x18) fun r22 => some (Tr.nd x5 r10 r22))
def sp_p_opposite (K : PySem.W.Frag) (d : Nat) : Sp := fun vs H Q _ => ∃ (B : Hp) (v_tree : V) (x_tree : Tr) (r : Tr), vs = [v_tree] ∧ Ws [] B H B H [] ∧ Rp.R B v_tree x_tree ∧ m_p_opposite d x_tree = some r ∧ ∀ w B' H', Ws [] B H B' H' [] → Rp.R B' w r → Q w H'
abbrev s_p_opposite : Stmt := top 4
theorem sc_p_opposite : FnScope ["tree"] ["tree"] (C8.fnScope s_p_opposite) := C8.fnScope_by (by decide +kernel)
theorem ok_p_opposite (T : Tx mg) {f : Addr} {fd : FuncData} (F : C8.Def K mg "opposite" s_p_opposite f fd) (b : Binds K fd ["tree"] []) : ∀ d : Nat, C8.Cal P w K mg base (d + 1) "opposite" (sp_p_opposite K d) []
  | 0 => by
    refine C8.cal0 F b .nil sc_p_opposite (fun vs H Q E h => ?_) (fun cdv A outer s H vs Q E hr h => ?_)
    · obtain ⟨B, v_tree, x_tree, r, rfl, _⟩ := h
      rfl
    · obtain ⟨B, v_tree, x_tree, r, rfl, W, r_tree, h, k⟩ := h
      cases h
  | d + 1 => by
    have c_p_opposite := ok_p_opposite T F b d
    refine C8.cal0 F b .nil sc_p_opposite (fun vs H Q E h => ?_) (fun cdv A outer s H vs Q E hr h => ?_)
    · obtain ⟨B, v_tree, x_tree, r, rfl, _⟩ := h
      rfl
    obtain ⟨B, v_tree, x_tree, r, rfl, W, r_tree, h, k⟩ := h
    refine ⟨_, (pss_cons (ps_if (pt_val (pe_callB (k_isi (K := K)) (by rfl) T.b_isinstance (by decide +kernel) (pa_cons (pv 0) (pa_cons (k_tyn "bool" (by rfl) T.b_bool (by decide +kernel)) pa_nil)))) (pss_one (ps_ret (pe_not (pv 0)))) pss_nil) (pss_one (ps_ret (pe_tup (pa_cons (pe_ix (k_ixT (K := K)) (pv 0) pe_int (fun _ _ => rfl)) (pa_cons (C8.pe_c c_p_opposite hr (by omega) (by rfl) (pa_cons (pe_ix (k_ixT (K := K)) (pv 0) pe_int (fun _ _ => rfl)) pa_nil)) (pa_cons (C8.pe_c c_p_opposite hr (by omega) (by rfl) (pa_cons (pe_ix (k_ixT (K := K)) (pv 0) pe_int (fun _ _ => rfl)) pa_nil)) pa_nil))))))), ?_⟩
    refine st_ (σ' := [some v_tree]) rfl ?_
    unfold m_p_opposite at h
    refine seq_ ?_
    refine if_ (fun v' H' => v' = (x_tree.isLit) ∧ H = H') (fun Q1 kk2 => ?_) (fun Hq hw => ?_) (fun Hq hw => ?_)
    · refine tB_ ?_
      refine cb_ ?_
      refine tcons_ ?_
      refine var_ rfl ?_
      refine tcons_ ?_
      refine cst_ ?_
      refine tnil_ ?_
      refine Tr.isB W r_tree ?_
      refine ⟨_, rfl, ?_⟩
      exact kk2 _ _ ⟨rfl, rfl⟩
    · obtain ⟨c3, rfl⟩ := hw
      have c3 := c3.symm
      have h := opT c3 h
      obtain ⟨x4, ex4, h⟩ := bs h
      refine ret_ ?_
      refine tnotV_ ?_
      refine var_ rfl ?_
      refine ⟨x4, Tr.b_v r_tree ex4, ?_⟩
      rw [← Option.some.inj h] at k
      exact k (V.bl (!x4)) B H  W Tr.lit_r 
    · obtain ⟨c3, rfl⟩ := hw
      have c3 := c3.symm
      have h := opF c3 h
      refine next_ ?_
      refine nx_ ?_
      obtain ⟨x5, ex5, h⟩ := bs h
      obtain ⟨x6, ex6, h⟩ := bs h
      obtain ⟨r10, er10, h⟩ := bs h
      obtain ⟨x18, ex18, h⟩ := bs h
      obtain ⟨r22, er22, h⟩ := bs h
      refine ret_ ?_
      refine tup_ ?_
      refine tcons_ ?_
      refine op_ ?_
      refine var_ rfl ?_
      refine cst_ ?_
      refine Tr.ix0 W r_tree ex5 ?_
      refine tcons_ ?_
      refine call_ ?_
      refine tcons_ ?_
      refine op_ ?_
      refine var_ rfl ?_
      refine cst_ ?_
      refine Tr.ixk W r_tree ex6 fun v7 r8 => ?_
      refine tnil_ ?_
      have L9 := Ws.ln (O1 := []) (O := []) (O2 := []) W
      refine ⟨B, v7, x6, r10, rfl, Ln.call (O1 := []) (O := []) (O2 := []) L9 W, r8, er10, fun v11 B12 H13 V14 q15 => ?_⟩
      have W16 := Ws.back (O1 := []) (O := []) (O2 := []) W (O' := []) V14
      have l17 := (Ws.bb V14)
      have W16 : Ws [] B H B12 H13 [] := W16
      refine tcons_ ?_
      refine call_ ?_
      refine tcons_ ?_
      refine op_ ?_
      refine var_ rfl ?_
      refine cst_ ?_
      refine Tr.ixk W16 (Rp.mono l17 r_tree) ex18 fun v19 r20 => ?_
      refine tnil_ ?_
      have L21 := Ws.ln (O1 := []) (O := []) (O2 := []) W16
      refine ⟨B12, v19, x18, r22, rfl, Ln.call (O1 := []) (O := []) (O2 := []) L21 W16, r20, er22, fun v23 B24 H25 V26 q27 => ?_⟩
      have W28 := Ws.back (O1 := []) (O := []) (O2 := []) W16 (O' := []) V26
      have l29 := (Ws.bb V26)
      have W28 : Ws [] B H B24 H25 [] := W28
      refine tnil_ ?_
      refine Tr.mk W28 (Rp.mono l29 q15) q27 fun v30 B31 H32 W33 l34 r35 => ?_
      rw [← Option.some.inj h] at k
      exact k v30 B31 H32  W33 r35 

def m_p_both : Nat → (List Str) → Tr → Tr → Option Tr
  | 0, _, _, _ => none
  | d + 1, x_order, x_one, x_other => if x_one.isLit = true then (bd (x_one.b?) fun x8 => some (if x8 = true then x_other else (Tr.lit false))) else (if x_other.isLit = true then (bd (x_other.b?) fun x25 => some (if x25 = true then x_one else (Tr.lit false))) else (bd (m_p_top_name x_order ([x_one, x_other] : List Tr)) fun r42 => bd (r42) fun x50 => bd (m_p_half_of x_one x50 (0 : Int)) fun r53 => bd (m_p_half_of x_other x50 (0 : Int)) fun r62 => bd (m_p_both d x_order r53 r62) fun r71 => bd (m_p_half_of x_one x50 (1 : Int)) fun r80 => bd (m_p_half_of x_other x50 (1 : Int)) fun r89 => bd (m_p_both d x_order r80 r89) fun r98 => bd (m_p_two_halves x50 r71 r98) fun r107 => some r107))
def sp_p_both (K : PySem.W.Frag) (d : Nat) : Sp := fun vs H Q _ => ∃ (B : Hp) (v_order : V) (x_order : List Str) (v_one : V) (x_one : Tr) (v_other : V) (x_other : Tr) (r : Tr), vs = [v_order, v_one, v_other] ∧ Ws [] B H B H [] ∧ Rp.R B v_order x_order ∧ Rp.R B v_one x_one ∧ Rp.R B v_other x_other ∧ m_p_both d x_order x_one x_other = some r ∧ ∀ w B' H', Ws [] B H B' H' [] → Rp.R B' w r → Q w H'
abbrev s_p_both : Stmt := top 5
theorem sc_p_both : FnScope ["order", "one", "other", "name", "low", "high"] ["order", "one", "other"] (C8.fnScope s_p_both) := C8.fnScope_by (by decide +kernel)
theorem ok_p_both (T : Tx mg) (c_p_top_name : C8.Cal P w K mg base 1 "top_name" (sp_p_top_name K) []) (c_p_half_of : C8.Cal P w K mg base 1 "half_of" (sp_p_half_of K) []) (c_p_two_halves : C8.Cal P w K mg base 1 "two_halves" (sp_p_two_halves K) []) {f : Addr} {fd : FuncData} (F : C8.Def K mg "both" s_p_both f fd) (b : Binds K fd ["order", "one", "other"] []) : ∀ d : Nat, C8.Cal P w K mg base (d + 2) "both" (sp_p_both K d) []
  | 0 => by
    refine C8.cal0 F b .nil sc_p_both (fun vs H Q E h => ?_) (fun cdv A outer s H vs Q E hr h => ?_)
    · obtain ⟨B, v_order, x_order, v_one, x_one, v_other, x_other, r, rfl, _⟩ := h
      rfl
    · obtain ⟨B, v_order, x_order, v_one, x_one, v_other, x_other, r, rfl, W, r_order, r_one, r_other, h, k⟩ := h
      cases h
  | d + 1 => by
    have c_p_both := ok_p_both T c_p_top_name c_p_half_of c_p_two_halves F b d
    refine C8.cal0 F b .nil sc_p_both (fun vs H Q E h => ?_) (fun cdv A outer s H vs Q E hr h => ?_)
    · obtain ⟨B, v_order, x_order, v_one, x_one, v_other, x_other, r, rfl, _⟩ := h
      rfl
    obtain ⟨B, v_order, x_order, v_one, x_one, v_other, x_other, r, rfl, W, r_order, r_one, r_other, h, k⟩ := h
    refine ⟨_, (pss_cons (ps_if (pt_val (pe_callB (k_isi (K := K)) (by rfl) T.b_isinstance (by decide +kernel) (pa_cons (pv 1) (pa_cons (k_tyn "bool" (by rfl) T.b_bool (by decide +kernel)) pa_nil)))) (pss_one (ps_ret (pe_ifExp (pt_val (pv 1)) (pv 2) pe_bl))) pss_nil) (pss_cons (ps_if (pt_val (pe_callB (k_isi (K := K)) (by rfl) T.b_isinstance (by decide +kernel) (pa_cons (pv 2) (pa_cons (k_tyn "bool" (by rfl) T.b_bool (by decide +kernel)) pa_nil)))) (pss_one (ps_ret (pe_ifExp (pt_val (pv 2)) (pv 1) pe_bl))) pss_nil) (pss_cons (ps_set (i := 3) sc_p_both.nd rfl (Or.inl rfl) (C8.pe_c c_p_top_name hr (by omega) (by rfl) (pa_cons (pv 0) (pa_cons (pe_lst (pa_cons (pv 1) (pa_cons (pv 2) pa_nil))) pa_nil)))) (pss_cons (ps_set (i := 4) sc_p_both.nd rfl (Or.inl rfl) (C8.pe_c c_p_both hr (by omega) (by rfl) (pa_cons (pv 0) (pa_cons (C8.pe_c c_p_half_of hr (by omega) (by rfl) (pa_cons (pv 1) (pa_cons (pv 3) (pa_cons pe_int pa_nil)))) (pa_cons (C8.pe_c c_p_half_of hr (by omega) (by rfl) (pa_cons (pv 2) (pa_cons (pv 3) (pa_cons pe_int pa_nil)))) pa_nil))))) (pss_cons (ps_set (i := 5) sc_p_both.nd rfl (Or.inl rfl) (C8.pe_c c_p_both hr (by omega) (by rfl) (pa_cons (pv 0) (pa_cons (C8.pe_c c_p_half_of hr (by omega) (by rfl) (pa_cons (pv 1) (pa_cons (pv 3) (pa_cons pe_int pa_nil)))) (pa_cons (C8.pe_c c_p_half_of hr (by omega) (by rfl) (pa_cons (pv 2) (pa_cons (pv 3) (pa_cons pe_int pa_nil)))) pa_nil))))) (pss_one (ps_ret (C8.pe_c c_p_two_halves hr (by omega) (by rfl) (pa_cons (pv 3) (pa_cons (pv 4) (pa_cons (pv 5) pa_nil))))))))))), ?_⟩
    refine st_ (σ' := [some v_order, some v_one, some v_other, none, none, none]) rfl ?_
    unfold m_p_both at h
    refine seq_ ?_
    refine if_ (fun v' H' => v' = (x_one.isLit) ∧ H = H') (fun Q1 kk2 => ?_) (fun Hq hw => ?_) (fun Hq hw => ?_)
    · refine tB_ ?_
      refine cb_ ?_
      refine tcons_ ?_
      refine var_ rfl ?_
      refine tcons_ ?_
      refine cst_ ?_
      refine tnil_ ?_
      refine Tr.isB W r_one ?_
      refine ⟨_, rfl, ?_⟩
      exact kk2 _ _ ⟨rfl, rfl⟩
    · obtain ⟨c3, rfl⟩ := hw
      have c3 := c3.symm
      have h := opT c3 h
      obtain ⟨x8, ex8, h⟩ := bs h
      refine ret_ ?_
      refine ex_ (fun v' H' => ∃ B', Le B B' ∧ Ws [] B H B' H' [] ∧ Rp.R B' v' ((if x8 = true then x_other else (Tr.lit false)) : Tr)) (fun Q4 kk5 => ?_) ?_
      · refine ife_ (fun v' H' => v' = (x8) ∧ H = H') ?_ (fun Hq hw => ?_) (fun Hq hw => ?_)
        · intro Q6 kk7
          refine tB_ ?_
          refine var_ rfl ?_
          refine ⟨x8, Tr.b_v r_one ex8, ?_⟩
          exact kk7 _ _ ⟨rfl, rfl⟩
        · obtain ⟨c17, rfl⟩ := hw
          have c17 := c17.symm
          refine var_ rfl ?_
          exact kk5 _ _ ⟨B, (Le.refl _), W, (if_pos c17).symm ▸ r_other⟩
        · obtain ⟨c17, rfl⟩ := hw
          have c17 := c17.symm
          refine cst_ ?_
          exact kk5 _ _ ⟨B, (Le.refl _), W, (if_neg' c17).symm ▸ Tr.lit_r⟩
      rintro v15 H12 ⟨B11, l14, W13, r16⟩
      rw [← Option.some.inj h] at k
      exact k v15 B11 H12  W13 r16 
    · obtain ⟨c3, rfl⟩ := hw
      have c3 := c3.symm
      have h := opF c3 h
      refine next_ ?_
      refine nx_ ?_
      refine seq_ ?_
      refine if_ (fun v' H' => v' = (x_other.isLit) ∧ H = H') (fun Q18 kk19 => ?_) (fun Hq hw => ?_) (fun Hq hw => ?_)
      · refine tB_ ?_
        refine cb_ ?_
        refine tcons_ ?_
        refine var_ rfl ?_
        refine tcons_ ?_
        refine cst_ ?_
        refine tnil_ ?_
        refine Tr.isB W r_other ?_
        refine ⟨_, rfl, ?_⟩
        exact kk19 _ _ ⟨rfl, rfl⟩
      · obtain ⟨c20, rfl⟩ := hw
        have c20 := c20.symm
        have h := opT c20 h
        obtain ⟨x25, ex25, h⟩ := bs h
        refine ret_ ?_
        refine ex_ (fun v' H' => ∃ B', Le B B' ∧ Ws [] B H B' H' [] ∧ Rp.R B' v' ((if x25 = true then x_one else (Tr.lit false)) : Tr)) (fun Q21 kk22 => ?_) ?_
        · refine ife_ (fun v' H' => v' = (x25) ∧ H = H') ?_ (fun Hq hw => ?_) (fun Hq hw => ?_)
          · intro Q23 kk24
            refine tB_ ?_
            refine var_ rfl ?_
            refine ⟨x25, Tr.b_v r_other ex25, ?_⟩
            exact kk24 _ _ ⟨rfl, rfl⟩
          · obtain ⟨c34, rfl⟩ := hw
            have c34 := c34.symm
            refine var_ rfl ?_
            exact kk22 _ _ ⟨B, (Le.refl _), W, (if_pos c34).symm ▸ r_one⟩
          · obtain ⟨c34, rfl⟩ := hw
            have c34 := c34.symm
            refine cst_ ?_
            exact kk22 _ _ ⟨B, (Le.refl _), W, (if_neg' c34).symm ▸ Tr.lit_r⟩
        rintro v32 H29 ⟨B28, l31, W30, r33⟩
        rw [← Option.some.inj h] at k
        exact k v32 B28 H29  W30 r33 
      · obtain ⟨c20, rfl⟩ := hw
        have c20 := c20.symm
        have h := opF c20 h
        refine next_ ?_
        refine nx_ ?_
        obtain ⟨r42, er42, h⟩ := bs h
        refine seq_ ?_
        refine asg_ ?_
        refine call_ ?_
        refine tcons_ ?_
        refine var_ rfl ?_
        refine tcons_ ?_
        refine lst_ ?_
        refine tcons_ ?_
        refine var_ rfl ?_
        refine tcons_ ?_
        refine var_ rfl ?_
        refine tnil_ ?_
        refine mkL (xs := ([x_one, x_other] : List Tr)) W (.cons r_one (.cons r_other .nil)) (by show 2 ≤ sizeLine; decide) fun v35 B36 H37 W38 l39 r40 => ?_
        refine tnil_ ?_
        have L41 := Ws.ln (O1 := []) (O := []) (O2 := []) W38
        refine ⟨B36, v_order, x_order, v35, ([x_one, x_other] : List Tr), r42, rfl, Ln.call (O1 := []) (O := []) (O2 := []) L41 W38, (Rp.mono l39 r_order), r40, er42, fun v43 B44 H45 V46 q47 => ?_⟩
        have W48 := Ws.back (O1 := []) (O := []) (O2 := []) W38 (O' := []) V46
        have l49 := (Ws.bb V46)
        have W48 : Ws [] B H B44 H45 [] := W48
        refine gset_ (σ' := [some v_order, some v_one, some v_other, some v43, none, none]) rfl ?_
        refine nx_ ?_
        obtain ⟨x50, ex50, h⟩ := bs h
        obtain ⟨r53, er53, h⟩ := bs h
        obtain ⟨r62, er62, h⟩ := bs h
        obtain ⟨r71, er71, h⟩ := bs h
        refine seq_ ?_
        refine asg_ ?_
        refine call_ ?_
        refine tcons_ ?_
        refine var_ rfl ?_
        refine tcons_ ?_
        refine call_ ?_
        refine tcons_ ?_
        refine var_ rfl ?_
        refine tcons_ ?_
        refine var_ rfl ?_
        refine tcons_ ?_
        refine cst_ ?_
        refine tnil_ ?_
        have r51 : Rp.R B44 v43 (x50 : Str) := opt_v q47 ex50
        obtain rfl : v43 = V.str x50 := r51
        have L52 := Ws.ln (O1 := []) (O := []) (O2 := []) W48
        refine ⟨B44, v_one, x_one, x50, (0 : Int), r53, rfl, Ln.call (O1 := []) (O := []) (O2 := []) L52 W48, (Rp.mono (l39.tr l49) r_one), er53, fun v54 B55 H56 V57 q58 => ?_⟩
        have W59 := Ws.back (O1 := []) (O := []) (O2 := []) W48 (O' := []) V57
        have l60 := (Ws.bb V57)
        have W59 : Ws [] B H B55 H56 [] := W59
        refine tcons_ ?_
        refine call_ ?_
        refine tcons_ ?_
        refine var_ rfl ?_
        refine tcons_ ?_
        refine var_ rfl ?_
        refine tcons_ ?_
        refine cst_ ?_
        refine tnil_ ?_
        have L61 := Ws.ln (O1 := []) (O := []) (O2 := []) W59
        refine ⟨B55, v_other, x_other, x50, (0 : Int), r62, rfl, Ln.call (O1 := []) (O := []) (O2 := []) L61 W59, (Rp.mono (l39.tr (l49.tr l60)) r_other), er62, fun v63 B64 H65 V66 q67 => ?_⟩
        have W68 := Ws.back (O1 := []) (O := []) (O2 := []) W59 (O' := []) V66
        have l69 := (Ws.bb V66)
        have W68 : Ws [] B H B64 H65 [] := W68
        refine tnil_ ?_
        have L70 := Ws.ln (O1 := []) (O := []) (O2 := []) W68
        refine ⟨B64, v_order, x_order, v54, r53, v63, r62, r71, rfl, Ln.call (O1 := []) (O := []) (O2 := []) L70 W68, (Rp.mono (l39.tr (l49.tr (l60.tr l69))) r_order), (Rp.mono l69 q58), q67, er71, fun v72 B73 H74 V75 q76 => ?_⟩
        have W77 := Ws.back (O1 := []) (O := []) (O2 := []) W68 (O' := []) V75
        have l78 := (Ws.bb V75)
        have W77 : Ws [] B H B73 H74 [] := W77
        refine gset_ (σ' := [some v_order, some v_one, some v_other, some (V.str x50), some v72, none]) rfl ?_
        refine nx_ ?_
        obtain ⟨r80, er80, h⟩ := bs h
        obtain ⟨r89, er89, h⟩ := bs h
        obtain ⟨r98, er98, h⟩ := bs h
        refine seq_ ?_
        refine asg_ ?_
        refine call_ ?_
        refine tcons_ ?_
        refine var_ rfl ?_
        refine tcons_ ?_
        refine call_ ?_
        refine tcons_ ?_
        refine var_ rfl ?_
        refine tcons_ ?_
        refine var_ rfl ?_
        refine tcons_ ?_
        refine cst_ ?_
        refine tnil_ ?_
        have L79 := Ws.ln (O1 := []) (O := []) (O2 := []) W77
        refine ⟨B73, v_one, x_one, x50, (1 : Int), r80, rfl, Ln.call (O1 := []) (O := []) (O2 := []) L79 W77, (Rp.mono (l39.tr (l49.tr (l60.tr (l69.tr l78)))) r_one), er80, fun v81 B82 H83 V84 q85 => ?_⟩
        have W86 := Ws.back (O1 := []) (O := []) (O2 := []) W77 (O' := []) V84
        have l87 := (Ws.bb V84)
        have W86 : Ws [] B H B82 H83 [] := W86
        refine tcons_ ?_
        refine call_ ?_
        refine tcons_ ?_
        refine var_ rfl ?_
        refine tcons_ ?_
        refine var_ rfl ?_
        refine tcons_ ?_
        refine cst_ ?_
        refine tnil_ ?_
        have L88 := Ws.ln (O1 := []) (O := []) (O2 := []) W86
        refine ⟨B82, v_other, x_other, x50, (1 : Int), r89, rfl, Ln.call (O1 := []) (O := []) (O2 := []) L88 W86, (Rp.mono (l39.tr (l49.tr (l60.tr (l69.tr (l78.tr l87))))) r_other), er89, fun v90 B91 H92 V93 q94 => ?_⟩
        have W95 := Ws.back (O1 := []) (O := []) (O2 := []) W86 (O' := []) V93
        have l96 := (Ws.bb V93)
        have W95 : Ws [] B H B91 H92 [] := W95
        refine tnil_ ?_
        have L97 := Ws.ln (O1 := []) (O := []) (O2 := []) W95
        refine ⟨B91, v_order, x_order, v81, r80, v90, r89, r98, rfl, Ln.call (O1 := []) (O := []) (O2 := []) L97 W95, (Rp.mono (l39.tr (l49.tr (l60.tr (l69.tr (l78.tr (l87.tr l96)))))) r_order), (Rp.mono l96 q85), q94, er98, fun v99 B100 H101 V102 q103 => ?_⟩
        have W104 := Ws.back (O1 := []) (O := []) (O2 := []) W95 (O' := []) V102
        have l105 := (Ws.bb V102)
        have W104 : Ws [] B H B100 H101 [] := W104
        refine gset_ (σ' := [some v_order, some v_one, some v_other, some (V.str x50), some v72, some v99]) rfl ?_
        refine nx_ ?_
        obtain ⟨r107, er107, h⟩ := bs h
        refine ret_ ?_
        refine call_ ?_
        refine tcons_ ?_
        refine var_ rfl ?_
        refine tcons_ ?_
        refine var_ rfl ?_
        refine tcons_ ?_
        refine var_ rfl ?_
        refine tnil_ ?_
        have L106 := Ws.ln (O1 := []) (O := []) (O2 := []) W104
        refine ⟨B100, x50, v72, r71, v99, r98, r107, rfl, Ln.call (O1 := []) (O := []) (O2 := []) L106 W104, (Rp.mono (l87.tr (l96.tr l105)) q76), q103, er107, fun v108 B109 H110 V111 q112 => ?_⟩
        have W113 := Ws.back (O1 := []) (O := []) (O2 := []) W104 (O' := []) V111
        have l114 := (Ws.bb V111)
        have W113 : Ws [] B H B109 H110 [] := W113
        rw [← Option.some.inj h] at k
        exact k v108 B109 H110  W113 q112 

def m_p_either (x_order : List Str) (x_one : Tr) (x_other : Tr) : Option Tr :=
  bd (m_p_opposite 12 x_one) fun r2 => bd (m_p_opposite 12 x_other) fun r11 => bd (m_p_both 12 x_order r2 r11) fun r20 => bd (m_p_opposite 12 r20) fun r29 => some r29
def sp_p_either (K : PySem.W.Frag) : Sp := fun vs H Q _ => ∃ (B : Hp) (v_order : V) (x_order : List Str) (v_one : V) (x_one : Tr) (v_other : V) (x_other : Tr) (r : Tr), vs = [v_order, v_one, v_other] ∧ Ws [] B H B H [] ∧ Rp.R B v_order x_order ∧ Rp.R B v_one x_one ∧ Rp.R B v_other x_other ∧ m_p_either x_order x_one x_other = some r ∧ ∀ w B' H', Ws [] B H B' H' [] → Rp.R B' w r → Q w H'
abbrev s_p_either : Stmt := top 6
theorem sc_p_either : FnScope ["order", "one", "other"] ["order", "one", "other"] (C8.fnScope s_p_either) := C8.fnScope_by (by decide +kernel)
theorem ok_p_either (T : Tx mg) (c_p_opposite : C8.Cal P w K mg base 13 "opposite" (sp_p_opposite K 12) []) (c_p_both : C8.Cal P w K mg base 14 "both" (sp_p_both K 12) []) {f : Addr} {fd : FuncData} (F : C8.Def K mg "either" s_p_either f fd) (b : Binds K fd ["order", "one", "other"] []) : C8.Cal P w K mg base 15 "either" (sp_p_either K) [] := by
  refine C8.cal0 F b .nil sc_p_either (fun vs H Q E h => ?_) (fun cdv A outer s H vs Q E hr h => ?_)
  · obtain ⟨B, v_order, x_order, v_one, x_one, v_other, x_other, r, rfl, _⟩ := h
    rfl
  obtain ⟨B, v_order, x_order, v_one, x_one, v_other, x_other, r, rfl, W, r_order, r_one, r_other, h, k⟩ := h
  refine ⟨_, (pss_one (ps_ret (C8.pe_c c_p_opposite hr (by omega) (by rfl) (pa_cons (C8.pe_c c_p_both hr (by omega) (by rfl) (pa_cons (pv 0) (pa_cons (C8.pe_c c_p_opposite hr (by omega) (by rfl) (pa_cons (pv 1) pa_nil)) (pa_cons (C8.pe_c c_p_opposite hr (by omega) (by rfl) (pa_cons (pv 2) pa_nil)) pa_nil)))) pa_nil)))), ?_⟩
  refine st_ (σ' := [some v_order, some v_one, some v_other]) rfl ?_
  unfold m_p_either at h
  obtain ⟨r2, er2, h⟩ := bs h
  obtain ⟨r11, er11, h⟩ := bs h
  obtain ⟨r20, er20, h⟩ := bs h
  obtain ⟨r29, er29, h⟩ := bs h
  refine ret_ ?_
  refine call_ ?_
  refine tcons_ ?_
  refine call_ ?_
  refine tcons_ ?_
  refine var_ rfl ?_
  refine tcons_ ?_
  refine call_ ?_
  refine tcons_ ?_
  refine var_ rfl ?_
  refine tnil_ ?_
  have L1 := Ws.ln (O1 := []) (O := []) (O2 := []) W
  refine ⟨B, v_one, x_one, r2, rfl, Ln.call (O1 := []) (O := []) (O2 := []) L1 W, r_one, er2, fun v3 B4 H5 V6 q7 => ?_⟩
  have W8 := Ws.back (O1 := []) (O := []) (O2 := []) W (O' := []) V6
  have l9 := (Ws.bb V6)
  have W8 : Ws [] B H B4 H5 [] := W8
  refine tcons_ ?_
  refine call_ ?_
  refine tcons_ ?_
  refine var_ rfl ?_
  refine tnil_ ?_
  have L10 := Ws.ln (O1 := []) (O := []) (O2 := []) W8
  refine ⟨B4, v_other, x_other, r11, rfl, Ln.call (O1 := []) (O := []) (O2 := []) L10 W8, (Rp.mono l9 r_other), er11, fun v12 B13 H14 V15 q16 => ?_⟩
  have W17 := Ws.back (O1 := []) (O := []) (O2 := []) W8 (O' := []) V15
  have l18 := (Ws.bb V15)
  have W17 : Ws [] B H B13 H14 [] := W17
  refine tnil_ ?_
  have L19 := Ws.ln (O1 := []) (O := []) (O2 := []) W17
  refine ⟨B13, v_order, x_order, v3, r2, v12, r11, r20, rfl, Ln.call (O1 := []) (O := []) (O2 := []) L19 W17, (Rp.mono (l9.tr l18) r_order), (Rp.mono l18 q7), q16, er20, fun v21 B22 H23 V24 q25 => ?_⟩
  have W26 := Ws.back (O1 := []) (O := []) (O2 := []) W17 (O' := []) V24
  have l27 := (Ws.bb V24)
  have W26 : Ws [] B H B22 H23 [] := W26
  refine tnil_ ?_
  have L28 := Ws.ln (O1 := []) (O := []) (O2 := []) W26
  refine ⟨B22, v21, r20, r29, rfl, Ln.call (O1 := []) (O := []) (O2 := []) L28 W26, q25, er29, fun v30 B31 H32 V33 q34 => ?_⟩
  have W35 := Ws.back (O1 := []) (O := []) (O2 := []) W26 (O' := []) V33
  have l36 := (Ws.bb V33)
  have W35 : Ws [] B H B31 H32 [] := W35
  rw [← Option.some.inj h] at k
  exact k v30 B31 H32  W35 q34 

def m_same_tree : Nat → Tr → Tr → Option Bool
  | 0, _, _ => none
  | d + 1, x_found, x_due => if (x_due.isLit || x_found.isLit) = true then (bd (if x_due.isLit = true then bd (if x_found.isLit = true then bd (ck (shp (x_found : Tr) = true ∧ shp (x_due : Tr) = true)) fun _ => some (decide (x_found = x_due)) else some false) fun j13 => some (j13) else some false) fun j14 => some j14) else (bd (if (!(!x_found.isLit)) = true then some true else bd (ck (x_found.isLit = false)) fun _ => bd (if (!decide ((3 : Int) = (3 : Int))) = true then some true else bd (x_found.n?) fun x22 => bd (if (!true) = true then some true else bd (x_found.n?) fun x25 => bd (x_due.n?) fun x26 => some ((!decide (x25 = x26)))) fun j27 => some (j27)) fun j28 => some (j28)) fun j29 => if j29 = true then (some false) else (bd (x_found.k? (1 : Int)) fun x33 => bd (x_due.k? (1 : Int)) fun x36 => bd (m_same_tree d x33 x36) fun r40 => bd (if r40 = true then bd (x_found.k? (2 : Int)) fun x50 => bd (x_due.k? (2 : Int)) fun x53 => bd (m_same_tree d x50 x53) fun r57 => some (r57) else some false) fun j65 => some j65))
def sp_same_tree (K : PySem.W.Frag) (d : Nat) : Sp := fun vs H Q _ => ∃ (B : Hp) (v_found : V) (x_found : Tr) (v_due : V) (x_due : Tr) (r : Bool), vs = [v_found, v_due] ∧ Ws [] B H B H [] ∧ Rp.R B v_found x_found ∧ Rp.R B v_due x_due ∧ m_same_tree d x_found x_due = some r ∧ ∀ w B' H', Ws [] B H B' H' [] → Rp.R B' w r → Q w H'
abbrev s_same_tree : Stmt := top 14
theorem sc_same_tree : FnScope ["_law_found", "_law_due"] ["_law_found", "_law_due"] (C8.fnScope s_same_tree) := C8.fnScope_by (by decide +kernel)
theorem ok_same_tree (T : Tx mg) {f : Addr} {fd : FuncData} (F : C8.Def K mg "_law_same_tree" s_same_tree f fd) (b : Binds K fd ["_law_found", "_law_due"] []) : ∀ d : Nat, C8.Cal P w K mg base (d + 1) "_law_same_tree" (sp_same_tree K d) []
  | 0 => by
    refine C8.cal0 F b .nil sc_same_tree (fun vs H Q E h => ?_) (fun cdv A outer s H vs Q E hr h => ?_)
    · obtain ⟨B, v_found, x_found, v_due, x_due, r, rfl, _⟩ := h
      rfl
    · obtain ⟨B, v_found, x_found, v_due, x_due, r, rfl, W, r_found, r_due, h, k⟩ := h
      cases h
  | d + 1 => by
    have c_same_tree := ok_same_tree T F b d
    refine C8.cal0 F b .nil sc_same_tree (fun vs H Q E h => ?_) (fun cdv A outer s H vs Q E hr h => ?_)
    · obtain ⟨B, v_found, x_found, v_due, x_due, r, rfl, _⟩ := h
      rfl
    obtain ⟨B, v_found, x_found, v_due, x_due, r, rfl, W, r_found, r_due, h, k⟩ := h
    refine ⟨_, (pss_cons (ps_if (PW.pt (pw_or (pt_val (pe_callB (k_isi (K := K)) (by rfl) T.b_isinstance (by decide +kernel) (pa_cons (pv 1) (pa_cons (k_tyn "bool" (by rfl) T.b_bool (by decide +kernel)) pa_nil)))) (pw_or1 (pt_val (pe_callB (k_isi (K := K)) (by rfl) T.b_isinstance (by decide +kernel) (pa_cons (pv 0) (pa_cons (k_tyn "bool" (by rfl) T.b_bool (by decide +kernel)) pa_nil))))))) (pss_one (ps_ret (pe_and (pe_callB (k_isi (K := K)) (by rfl) T.b_isinstance (by decide +kernel) (pa_cons (pv 1) (pa_cons (k_tyn "bool" (by rfl) T.b_bool (by decide +kernel)) pa_nil))) (pe_and (pe_callB (k_isi (K := K)) (by rfl) T.b_isinstance (by decide +kernel) (pa_cons (pv 0) (pa_cons (k_tyn "bool" (by rfl) T.b_bool (by decide +kernel)) pa_nil))) (pe_one (pe_cmpR (k_eqD (K := K) hr.units) (pv 0) (pv 1) (nomark _))))))) pss_nil) (pss_cons (ps_if (PW.pt (pw_or (pt_not (pt_val (pe_callB (k_isi (K := K)) (by rfl) T.b_isinstance (by decide +kernel) (pa_cons (pv 0) (pa_cons (k_tyn "tuple" (by rfl) T.b_tuple (by decide +kernel)) pa_nil))))) (pw_or (pt_cmpR op_ne (pe_callB (k_len (K := K)) (by rfl) T.b_len (by decide +kernel) (pa_cons (pv 0) pa_nil)) pe_int (nomark _)) (pw_or (pt_not (pt_val (pe_callB (k_isi (K := K)) (by rfl) T.b_isinstance (by decide +kernel) (pa_cons (pe_ix (k_ixT (K := K)) (pv 0) pe_int (fun _ _ => rfl)) (pa_cons (k_tyn "str" (by rfl) T.b_str (by decide +kernel)) pa_nil))))) (pw_or1 (pt_cmpR op_ne (pe_ix (k_ixT (K := K)) (pv 0) pe_int (fun _ _ => rfl)) (pe_ix (k_ixT (K := K)) (pv 1) pe_int (fun _ _ => rfl)) (nomark _))))))) (pss_one (ps_ret pe_bl)) pss_nil) (pss_one (ps_ret (pe_and (C8.pe_c c_same_tree hr (by omega) (by rfl) (pa_cons (pe_ix (k_ixT (K := K)) (pv 0) pe_int (fun _ _ => rfl)) (pa_cons (pe_ix (k_ixT (K := K)) (pv 1) pe_int (fun _ _ => rfl)) pa_nil))) (pe_one (C8.pe_c c_same_tree hr (by omega) (by rfl) (pa_cons (pe_ix (k_ixT (K := K)) (pv 0) pe_int (fun _ _ => rfl)) (pa_cons (pe_ix (k_ixT (K := K)) (pv 1) pe_int (fun _ _ => rfl)) pa_nil))))))))), ?_⟩
    refine st_ (σ' := [some v_found, some v_due]) rfl ?_
    unfold m_same_tree at h
    refine seq_ ?_
    refine if_ (fun v' H' => v' = ((x_due.isLit || x_found.isLit)) ∧ H = H') (fun Q1 kk2 => ?_) (fun Hq hw => ?_) (fun Hq hw => ?_)
    · refine tor_ ?_
      refine tB_ ?_
      refine cb_ ?_
      refine tcons_ ?_
      refine var_ rfl ?_
      refine tcons_ ?_
      refine cst_ ?_
      refine tnil_ ?_
      refine Tr.isB W r_due ?_
      refine ⟨_, rfl, ?_⟩
      refine br_ (fun c3 => ?_) (fun c3 => ?_)
      · exact kk2 _ _ ⟨(orT c3), rfl⟩
      · refine tB_ ?_
        refine cb_ ?_
        refine tcons_ ?_
        refine var_ rfl ?_
        refine tcons_ ?_
        refine cst_ ?_
        refine tnil_ ?_
        refine Tr.isB W r_found ?_
        refine ⟨_, rfl, ?_⟩
        exact kk2 _ _ ⟨(orF c3), rfl⟩
    · obtain ⟨c5, rfl⟩ := hw
      have c5 := c5.symm
      have h := opT c5 h
      obtain ⟨j14, hj9_, h⟩ := bs h
      refine ret_ ?_
      refine ex_ (fun v' H' => v' = V.bl (j14) ∧ H = H') (fun Q6 kk7 => ?_) ?_
      · refine tandV_ ?_
        refine cb_ ?_
        refine tcons_ ?_
        refine var_ rfl ?_
        refine tcons_ ?_
        refine cst_ ?_
        refine tnil_ ?_
        refine Tr.isB W r_due ?_
        refine ⟨_, rfl, ?_⟩
        refine br_ (fun c8 => ?_) (fun c8 => ?_)
        · have hj9 := opT c8 hj9_
          obtain ⟨j13, hj11_, hj9⟩ := bs hj9
          refine tandV_ ?_
          refine cb_ ?_
          refine tcons_ ?_
          refine var_ rfl ?_
          refine tcons_ ?_
          refine cst_ ?_
          refine tnil_ ?_
          refine Tr.isB W r_found ?_
          refine ⟨_, rfl, ?_⟩
          refine br_ (fun c10 => ?_) (fun c10 => ?_)
          · have hj11 := opT c10 hj11_
            obtain ⟨q12, hj11⟩ := cks hj11
            refine op_ ?_
            refine var_ rfl ?_
            refine var_ rfl ?_
            refine eqD_ (dat W r_found q12.1) (dat W r_due q12.2) ?_
            exact kk7 _ _ ⟨(congrArg V.bl (Eq.trans (Option.some.inj hj11) (Option.some.inj hj9))), rfl⟩
          · exact kk7 _ _ ⟨(congrArg V.bl (Eq.trans (Option.some.inj (opF c10 hj11_)) (Option.some.inj hj9))), rfl⟩
        · exact kk7 _ _ ⟨(congrArg V.bl (Option.some.inj (opF c8 hj9_))), rfl⟩
      rintro _ _ ⟨rfl, rfl⟩
      rw [← Option.some.inj h] at k
      exact k (V.bl j14) B H  W rfl 
    · obtain ⟨c5, rfl⟩ := hw
      have c5 := c5.symm
      have h := opF c5 h
      refine next_ ?_
      refine nx_ ?_
      obtain ⟨j29, hj18_, h⟩ := bs h
      refine seq_ ?_
      refine if_ (fun v' H' => v' = (j29) ∧ H = H') (fun Q15 kk16 => ?_) (fun Hq hw => ?_) (fun Hq hw => ?_)
      · refine tor_ ?_
        refine tnot_ ?_
        refine tB_ ?_
        refine cb_ ?_
        refine tcons_ ?_
        refine var_ rfl ?_
        refine tcons_ ?_
        refine cst_ ?_
        refine tnil_ ?_
        refine Tr.isT W r_found ?_
        refine ⟨_, rfl, ?_⟩
        refine br_ (fun c17 => ?_) (fun c17 => ?_)
        · exact kk16 _ _ ⟨(Option.some.inj (opT c17 hj18_)), rfl⟩
        · have hj18 := opF c17 hj18_
          obtain ⟨q19, hj18⟩ := cks hj18
          obtain ⟨j28, hj21_, hj18⟩ := bs hj18
          refine tor_ ?_
          refine tst_ ?_
          refine op_ ?_
          refine cb_ ?_
          refine tcons_ ?_
          refine var_ rfl ?_
          refine tnil_ ?_
          refine Tr.len3 W r_found q19 ?_
          refine cst_ ?_
          refine neI_ ?_
          refine ⟨_, rfl, ?_⟩
          refine br_ (fun c20 => ?_) (fun c20 => ?_)
          · exact kk16 _ _ ⟨(Eq.trans (Option.some.inj (opT c20 hj21_)) (Option.some.inj hj18)), rfl⟩
          · have hj21 := opF c20 hj21_
            obtain ⟨x22, ex22, hj21⟩ := bs hj21
            obtain ⟨j27, hj24_, hj21⟩ := bs hj21
            refine tor_ ?_
            refine tnot_ ?_
            refine tB_ ?_
            refine cb_ ?_
            refine tcons_ ?_
            refine op_ ?_
            refine var_ rfl ?_
            refine cst_ ?_
            refine Tr.ix0 W r_found ex22 ?_
            refine tcons_ ?_
            refine cst_ ?_
            refine tnil_ ?_
            refine isi_ (b := true) ty_str (by decide +kernel) ?_
            refine ⟨_, rfl, ?_⟩
            refine br_ (fun c23 => ?_) (fun c23 => ?_)
            · exact kk16 _ _ ⟨(Eq.trans (Eq.trans (Option.some.inj (opT c23 hj24_)) (Option.some.inj hj21)) (Option.some.inj hj18)), rfl⟩
            · have hj24 := opF c23 hj24_
              obtain ⟨x25, ex25, hj24⟩ := bs hj24
              obtain ⟨x26, ex26, hj24⟩ := bs hj24
              refine tst_ ?_
              refine op_ ?_
              refine op_ ?_
              refine var_ rfl ?_
              refine cst_ ?_
              refine Tr.ix0 W r_found ex25 ?_
              refine op_ ?_
              refine var_ rfl ?_
              refine cst_ ?_
              refine Tr.ix0 W r_due ex26 ?_
              refine neS_ ?_
              refine ⟨_, rfl, ?_⟩
              exact kk16 _ _ ⟨(Eq.trans (Eq.trans (Option.some.inj hj24) (Option.some.inj hj21)) (Option.some.inj hj18)), rfl⟩
      · obtain ⟨c30, rfl⟩ := hw
        have c30 := c30.symm
        have h := opT c30 h
        refine ret_ ?_
        refine cst_ ?_
        rw [← Option.some.inj h] at k
        exact k (V.bl false) B H  W rfl 
      · obtain ⟨c30, rfl⟩ := hw
        have c30 := c30.symm
        have h := opF c30 h
        refine next_ ?_
        refine nx_ ?_
        obtain ⟨x33, ex33, h⟩ := bs h
        obtain ⟨x36, ex36, h⟩ := bs h
        obtain ⟨r40, er40, h⟩ := bs h
        obtain ⟨j65, hj49_, h⟩ := bs h
        refine ret_ ?_
        refine ex_ (fun v' H' => ∃ B', v' = V.bl (j65) ∧ Le B B' ∧ Ws [] B H B' H' []) (fun Q31 kk32 => ?_) ?_
        · refine tandV_ ?_
          refine call_ ?_
          refine tcons_ ?_
          refine op_ ?_
          refine var_ rfl ?_
          refine cst_ ?_
          refine Tr.ixk W r_found ex33 fun v34 r35 => ?_
          refine tcons_ ?_
          refine op_ ?_
          refine var_ rfl ?_
          refine cst_ ?_
          refine Tr.ixk W r_due ex36 fun v37 r38 => ?_
          refine tnil_ ?_
          have L39 := Ws.ln (O1 := []) (O := []) (O2 := []) W
          refine ⟨B, v34, x33, v37, x36, r40, rfl, Ln.call (O1 := []) (O := []) (O2 := []) L39 W, r35, r38, er40, fun v41 B42 H43 V44 q45 => ?_⟩
          have W46 := Ws.back (O1 := []) (O := []) (O2 := []) W (O' := []) V44
          have l47 := (Ws.bb V44)
          have W46 : Ws [] B H B42 H43 [] := W46
          obtain rfl : v41 = V.bl r40 := q45
          refine ⟨_, rfl, ?_⟩
          refine br_ (fun c48 => ?_) (fun c48 => ?_)
          · have hj49 := opT c48 hj49_
            obtain ⟨x50, ex50, hj49⟩ := bs hj49
            obtain ⟨x53, ex53, hj49⟩ := bs hj49
            obtain ⟨r57, er57, hj49⟩ := bs hj49
            refine call_ ?_
            refine tcons_ ?_
            refine op_ ?_
            refine var_ rfl ?_
            refine cst_ ?_
            refine Tr.ixk W46 (Rp.mono l47 r_found) ex50 fun v51 r52 => ?_
            refine tcons_ ?_
            refine op_ ?_
            refine var_ rfl ?_
            refine cst_ ?_
            refine Tr.ixk W46 (Rp.mono l47 r_due) ex53 fun v54 r55 => ?_
            refine tnil_ ?_
            have L56 := Ws.ln (O1 := []) (O := []) (O2 := []) W46
            refine ⟨B42, v51, x50, v54, x53, r57, rfl, Ln.call (O1 := []) (O := []) (O2 := []) L56 W46, r52, r55, er57, fun v58 B59 H60 V61 q62 => ?_⟩
            have W63 := Ws.back (O1 := []) (O := []) (O2 := []) W46 (O' := []) V61
            have l64 := (Ws.bb V61)
            have W63 : Ws [] B H B59 H60 [] := W63
            obtain rfl : v58 = V.bl r57 := q62
            exact kk32 _ _ ⟨B59, (congrArg V.bl (Option.some.inj hj49)), (l47.tr l64), W63⟩
          · exact kk32 _ _ ⟨B42, (congrArg V.bl (Option.some.inj (opF c48 hj49_))), l47, W46⟩
        rintro _ H67 ⟨B66, rfl, l69, W68⟩
        rw [← Option.some.inj h] at k
        exact k (V.bl j65) B66 H67  W68 rfl 

def m_canon : Nat → (List Str) → (List Int) → Option Tr
  | 0, _, _ => none
  | d + 1, x_names, x_bits_here => bd (ck (shp (x_names : List Str) = true ∧ shp (([] : List Str) : List Str) = true)) fun _ => if decide (x_names = ([] : List Str)) = true then (bd (atI x_bits_here (0 : Int)) fun x15 => some (Tr.lit (decide (x15 = (1 : Int))))) else (bd (some ((x_bits_here.length : Int) / (2 : Int))) fun x18 => bd (m_canon d (cutL x_names (some (1 : Int)) none) (cutL x_bits_here none (some x18))) fun r32 => bd (m_canon d (cutL x_names (some (1 : Int)) none) (cutL x_bits_here (some x18) none)) fun r53 => bd (m_same_tree 12 r32 r53) fun r64 => if r64 = true then (some r32) else (bd (atI x_names (0 : Int)) fun x77 => some (Tr.nd x77 r32 r53)))
def sp_canon (K : PySem.W.Frag) (d : Nat) : Sp := fun vs H Q _ => ∃ (B : Hp) (v_names : V) (x_names : List Str) (v_bits_here : V) (x_bits_here : List Int) (r : Tr), vs = [v_names, v_bits_here] ∧ Ws [] B H B H [] ∧ Rp.R B v_names x_names ∧ Rp.R B v_bits_here x_bits_here ∧ m_canon d x_names x_bits_here = some r ∧ ∀ w B' H', Ws [] B H B' H' [] → Rp.R B' w r → Q w H'
abbrev s_canon : Stmt := top 13
theorem sc_canon : FnScope ["_law_names", "_law_bits_here", "_law_half", "_law_low", "_law_high"] ["_law_names", "_law_bits_here"] (C8.fnScope s_canon) := C8.fnScope_by (by decide +kernel)
theorem ok_canon (T : Tx mg) (c_same_tree : C8.Cal P w K mg base 13 "_law_same_tree" (sp_same_tree K 12) []) {f : Addr} {fd : FuncData} (F : C8.Def K mg "_law_canon" s_canon f fd) (b : Binds K fd ["_law_names", "_law_bits_here"] []) : ∀ d : Nat, C8.Cal P w K mg base (d + 14) "_law_canon" (sp_canon K d) []
  | 0 => by
    refine C8.cal0 F b .nil sc_canon (fun vs H Q E h => ?_) (fun cdv A outer s H vs Q E hr h => ?_)
    · obtain ⟨B, v_names, x_names, v_bits_here, x_bits_here, r, rfl, _⟩ := h
      rfl
    · obtain ⟨B, v_names, x_names, v_bits_here, x_bits_here, r, rfl, W, r_names, r_bits_here, h, k⟩ := h
      cases h
  | d + 1 => by
    have c_canon := ok_canon T c_same_tree F b d
    refine C8.cal0 F b .nil sc_canon (fun vs H Q E h => ?_) (fun cdv A outer s H vs Q E hr h => ?_)
    · obtain ⟨B, v_names, x_names, v_bits_here, x_bits_here, r, rfl, _⟩ := h
      rfl
    obtain ⟨B, v_names, x_names, v_bits_here, x_bits_here, r, rfl, W, r_names, r_bits_here, h, k⟩ := h
    refine ⟨_, (pss_cons (ps_if (pt_cmpR (k_eqD (K := K) hr.units) (pv 0) (pe_lst pa_nil) (nomark _)) (pss_one (ps_ret (pe_cmpR op_eq (pe_ix (k_ixL (K := K)) (pv 1) pe_int (fun _ _ => rfl)) pe_int (nomark _)))) pss_nil) (pss_cons (ps_set (i := 2) sc_canon.nd rfl (Or.inl rfl) (pe_op op_fdiv (pe_callB (k_len (K := K)) (by rfl) T.b_len (by decide +kernel) (pa_cons (pv 1) pa_nil)) pe_int)) (pss_cons (ps_set (i := 3) sc_canon.nd rfl (Or.inl rfl) (C8.pe_c c_canon hr (by omega) (by rfl) (pa_cons (pe_slice (k_slL (K := K)) (pv 0) (po_some pe_int) po_none) (pa_cons (pe_slice (k_slL (K := K)) (pv 1) po_none (po_some (pv 2))) pa_nil)))) (pss_cons (ps_set (i := 4) sc_canon.nd rfl (Or.inl rfl) (C8.pe_c c_canon hr (by omega) (by rfl) (pa_cons (pe_slice (k_slL (K := K)) (pv 0) (po_some pe_int) po_none) (pa_cons (pe_slice (k_slL (K := K)) (pv 1) (po_some (pv 2)) po_none) pa_nil)))) (pss_cons (ps_if (pt_val (C8.pe_c c_same_tree hr (by omega) (by rfl) (pa_cons (pv 3) (pa_cons (pv 4) pa_nil)))) (pss_one (ps_ret (pv 3))) pss_nil) (pss_one (ps_ret (pe_tup (pa_cons (pe_ix (k_ixL (K := K)) (pv 0) pe_int (fun _ _ => rfl)) (pa_cons (pv 3) (pa_cons (pv 4) pa_nil))))))))))), ?_⟩
    refine st_ (σ' := [some v_names, some v_bits_here, none, none, none]) rfl ?_
    unfold m_canon at h
    obtain ⟨q9, h⟩ := cks h
    refine seq_ ?_
    refine if_ (fun v' H' => ∃ B', v' = (decide (x_names = ([] : List Str))) ∧ Le B B' ∧ Ws [] B H B' H' []) (fun Q1 kk2 => ?_) (fun H11 hw => ?_) (fun H11 hw => ?_)
    · refine tst_ ?_
      refine op_ ?_
      refine var_ rfl ?_
      refine lst_ ?_
      refine tnil_ ?_
      refine mkL (xs := ([] : List Str)) W .nil (by show 0 ≤ sizeLine; decide) fun v3 B4 H5 W6 l7 r8 => ?_
      refine eqD_ (dat W6 (Rp.mono l7 r_names) q9.1) (dat W6 r8 q9.2) ?_
      refine ⟨_, rfl, ?_⟩
      exact kk2 _ _ ⟨B4, rfl, l7, W6⟩
    · obtain ⟨B10, c14, l13, W12⟩ := hw
      have c14 := c14.symm
      have h := opT c14 h
      obtain ⟨x15, ex15, h⟩ := bs h
      refine ret_ ?_
      refine op_ ?_
      refine op_ ?_
      refine var_ rfl ?_
      refine cst_ ?_
      refine ixL_ W12 (Rp.mono l13 r_bits_here) ex15 fun v16 r17 => ?_
      obtain rfl : v16 = V.int x15 := r17
      refine cst_ ?_
      refine eqI_ ?_
      rw [← Option.some.inj h] at k
      exact k (V.bl (decide (x15 = (1 : Int)))) B10 H11  W12 Tr.lit_r 
    · obtain ⟨B10, c14, l13, W12⟩ := hw
      have c14 := c14.symm
      have h := opF c14 h
      refine next_ ?_
      refine nx_ ?_
      obtain ⟨x18, ex18, h⟩ := bs h
      refine seq_ ?_
      refine asg_ ?_
      refine op_ ?_
      refine cb_ ?_
      refine tcons_ ?_
      refine var_ rfl ?_
      refine tnil_ ?_
      refine lenL_ W12 (Rp.mono l13 r_bits_here) ?_
      refine cst_ ?_
      refine iC_ ⟨by decide, by decide⟩ ?_
      refine gas_ (V.int x18) (congrArg V.int (Option.some.inj ex18)) (σ' := [some v_names, some v_bits_here, some (V.int x18), none, none]) rfl ?_
      refine nx_ ?_
      obtain ⟨r32, er32, h⟩ := bs h
      refine seq_ ?_
      refine asg_ ?_
      refine call_ ?_
      refine tcons_ ?_
      refine sl_ ?_
      refine var_ rfl ?_
      refine part_ ?_
      refine cst_ ?_
      refine ⟨_, rfl, ?_⟩
      refine nopart_ ?_
      refine slL_ W12 (Rp.mono l13 r_names) fun v19 B20 H21 W22 l23 r24 => ?_
      refine tcons_ ?_
      refine sl_ ?_
      refine var_ rfl ?_
      refine nopart_ ?_
      refine part_ ?_
      refine var_ rfl ?_
      refine ⟨_, rfl, ?_⟩
      refine slL_ W22 (Rp.mono (l13.tr l23) r_bits_here) fun v25 B26 H27 W28 l29 r30 => ?_
      refine tnil_ ?_
      have L31 := Ws.ln (O1 := []) (O := []) (O2 := []) W28
      refine ⟨B26, v19, (cutL x_names (some (1 : Int)) none), v25, (cutL x_bits_here none (some x18)), r32, rfl, Ln.call (O1 := []) (O := []) (O2 := []) L31 W28, (Rp.mono l29 r24), r30, er32, fun v33 B34 H35 V36 q37 => ?_⟩
      have W38 := Ws.back (O1 := []) (O := []) (O2 := []) W28 (O' := []) V36
      have l39 := (Ws.bb V36)
      have W38 : Ws [] B H B34 H35 [] := W38
      refine gset_ (σ' := [some v_names, some v_bits_here, some (V.int x18), some v33, none]) rfl ?_
      refine nx_ ?_
      obtain ⟨r53, er53, h⟩ := bs h
      refine seq_ ?_
      refine asg_ ?_
      refine call_ ?_
      refine tcons_ ?_
      refine sl_ ?_
      refine var_ rfl ?_
      refine part_ ?_
      refine cst_ ?_
      refine ⟨_, rfl, ?_⟩
      refine nopart_ ?_
      refine slL_ W38 (Rp.mono (l13.tr (l23.tr (l29.tr l39))) r_names) fun v40 B41 H42 W43 l44 r45 => ?_
      refine tcons_ ?_
      refine sl_ ?_
      refine var_ rfl ?_
      refine part_ ?_
      refine var_ rfl ?_
      refine ⟨_, rfl, ?_⟩
      refine nopart_ ?_
      refine slL_ W43 (Rp.mono (l13.tr (l23.tr (l29.tr (l39.tr l44)))) r_bits_here) fun v46 B47 H48 W49 l50 r51 => ?_
      refine tnil_ ?_
      have L52 := Ws.ln (O1 := []) (O := []) (O2 := []) W49
      refine ⟨B47, v40, (cutL x_names (some (1 : Int)) none), v46, (cutL x_bits_here (some x18) none), r53, rfl, Ln.call (O1 := []) (O := []) (O2 := []) L52 W49, (Rp.mono l50 r45), r51, er53, fun v54 B55 H56 V57 q58 => ?_⟩
      have W59 := Ws.back (O1 := []) (O := []) (O2 := []) W49 (O' := []) V57
      have l60 := (Ws.bb V57)
      have W59 : Ws [] B H B55 H56 [] := W59
      refine gset_ (σ' := [some v_names, some v_bits_here, some (V.int x18), some v33, some v54]) rfl ?_
      refine nx_ ?_
      obtain ⟨r64, er64, h⟩ := bs h
      refine seq_ ?_
      refine if_ (fun v' H' => ∃ B', v' = (r64) ∧ Le B55 B' ∧ Ws [] B H B' H' []) (fun Q61 kk62 => ?_) (fun H73 hw => ?_) (fun H73 hw => ?_)
      · refine tB_ ?_
        refine call_ ?_
        refine tcons_ ?_
        refine var_ rfl ?_
        refine tcons_ ?_
        refine var_ rfl ?_
        refine tnil_ ?_
        have L63 := Ws.ln (O1 := []) (O := []) (O2 := []) W59
        refine ⟨B55, v33, r32, v54, r53, r64, rfl, Ln.call (O1 := []) (O := []) (O2 := []) L63 W59, (Rp.mono (l44.tr (l50.tr l60)) q37), q58, er64, fun v65 B66 H67 V68 q69 => ?_⟩
        have W70 := Ws.back (O1 := []) (O := []) (O2 := []) W59 (O' := []) V68
        have l71 := (Ws.bb V68)
        have W70 : Ws [] B H B66 H67 [] := W70
        obtain rfl : v65 = V.bl r64 := q69
        refine ⟨_, rfl, ?_⟩
        exact kk62 _ _ ⟨B66, rfl, l71, W70⟩
      · obtain ⟨B72, c76, l75, W74⟩ := hw
        have c76 := c76.symm
        have h := opT c76 h
        refine ret_ ?_
        refine var_ rfl ?_
        rw [← Option.some.inj h] at k
        exact k v33 B72 H73  W74 (Rp.mono (l44.tr (l50.tr (l60.tr l75))) q37) 
      · obtain ⟨B72, c76, l75, W74⟩ := hw
        have c76 := c76.symm
        have h := opF c76 h
        refine next_ ?_
        refine nx_ ?_
        obtain ⟨x77, ex77, h⟩ := bs h
        refine ret_ ?_
        refine tup_ ?_
        refine tcons_ ?_
        refine op_ ?_
        refine var_ rfl ?_
        refine cst_ ?_
        refine ixL_ W74 (Rp.mono (l13.tr (l23.tr (l29.tr (l39.tr (l44.tr (l50.tr (l60.tr l75))))))) r_names) ex77 fun v78 r79 => ?_
        obtain rfl : v78 = V.str x77 := r79
        refine tcons_ ?_
        refine var_ rfl ?_
        refine tcons_ ?_
        refine var_ rfl ?_
        refine tnil_ ?_
        refine Tr.mk W74 (Rp.mono (l44.tr (l50.tr (l60.tr l75))) q37) (Rp.mono l75 q58) fun v80 B81 H82 W83 l84 r85 => ?_
        rw [← Option.some.inj h] at k
        exact k v80 B81 H82  W83 r85 


def m_order (x_script : Scr) : Option (List Str) :=
  bd (m_cell_at x_script (0 : Int)) fun r2 => bd (some (r2 / (2 : Int))) fun x10 => bd (m_cell_at x_script (0 : Int)) fun r14 => bd (if decide ((r14 % (2 : Int)) = (1 : Int)) = true then (bd (m_rich x10 (0 : Int)) fun r30 => some r30) else (some x10)) fun j26 => bd (some ([j26] : List Int)) fun x48 => bd (some ([] : List Str)) fun x55 => bd (m_pick x48 (8 : Int)) fun r57 => bd (if decide (r57.1 = (7 : Int)) = true then (bd (m_pick r57.2 (2 : Int)) fun r73 => bd (some ((7 : Int) + r73.1)) fun x83 => some (x83, r73.2)) else (some (r57.1, r57.2))) fun j69 => bd (ck (-(2 ^ 62) ≤ j69.1 ∧ j69.1 < 2 ^ 62)) fun _ => bd (lpn (fun (s92 : (List Int) × (List Str)) (x94 : Int) => bd (m_spelt s92.1 s92.2) fun r114 => bd (ck ((s92.2).length < sizeLine)) fun _ => some (r114.2, (s92.2 ++ [r114.1]))) (j69.2, x55) (rng 0 (j69.1 : Int).toNat)) fun fin131 => some fin131.2
def sp_order (K : PySem.W.Frag) : Sp := fun vs H Q _ => ∃ (B : Hp) (v_script : V) (x_script : Scr) (r : List Str), vs = [v_script] ∧ Ws [] B H B H [] ∧ RC K B v_script x_script ∧ m_order x_script = some r ∧ ∀ w B' H', Ws [] B H B' H' [] → Rp.R B' w r → Q w H'
abbrev s_order : Stmt := top 15
theorem sc_order : FnScope ["_law_script", "_law_number_here", "_law_left", "_law_names", "_law_many", "_law_k"] ["_law_script"] (C8.fnScope s_order) := C8.fnScope_by (by decide +kernel)
theorem ok_order (T : Tx mg) (c_cell_at : C8.Cal P w K mg base 1 "_law_cell_at" (sp_cell_at K) []) (c_rich : C8.Cal P w K mg base 2 "_law_rich" (sp_rich K) []) (c_pick : C8.Cal P w K mg base 1 "_law_pick" (sp_pick K) []) (c_spelt : C8.Cal P w K mg base 2 "_law_spelt" (sp_spelt K) []) {f : Addr} {fd : FuncData} (F : C8.Def K mg "_law_order" s_order f fd) (b : Binds K fd ["_law_script"] []) : C8.Cal P w K mg base 3 "_law_order" (sp_order K) [] := by
  refine C8.cal0 F b .nil sc_order (fun vs H Q E h => ?_) (fun cdv A outer s H vs Q E hr h => ?_)
  · obtain ⟨B, v_script, x_script, r, rfl, _⟩ := h
    rfl
  obtain ⟨B, v_script, x_script, r, rfl, W, r_script, h, k⟩ := h
  refine ⟨_, (pss_cons (ps_set (i := 1) sc_order.nd rfl (Or.inl rfl) (pe_op op_fdiv (C8.pe_c c_cell_at hr (by omega) (by rfl) (pa_cons (pv 0) (pa_cons pe_int pa_nil))) pe_int)) (C8.pss_cut (ps_if (pt_cmpR op_eq (pe_op op_mod (C8.pe_c c_cell_at hr (by omega) (by rfl) (pa_cons (pv 0) (pa_cons pe_int pa_nil))) pe_int) pe_int (nomark _)) (pss_one (ps_set (i := 1) sc_order.nd rfl (Or.inl rfl) (C8.pe_c c_rich hr (by omega) (by rfl) (pa_cons (pv 1) (pa_cons pe_int pa_nil))))) pss_nil) (pss_cons (ps_set (i := 2) sc_order.nd rfl (Or.inl rfl) (pe_lst (pa_cons (pv 1) pa_nil))) (pss_cons (ps_set (i := 3) sc_order.nd rfl (Or.inl rfl) (pe_lst pa_nil)) (pss_cons (ps_set (i := 4) sc_order.nd rfl (Or.inl rfl) (C8.pe_c c_pick hr (by omega) (by rfl) (pa_cons (pv 2) (pa_cons pe_int pa_nil)))) (C8.pss_cut (ps_if (pt_cmpR op_eq (pv 4) pe_int (nomark _)) (pss_one (ps_set (i := 4) sc_order.nd rfl (Or.inl rfl) (pe_op op_add pe_int (C8.pe_c c_pick hr (by omega) (by rfl) (pa_cons (pv 2) (pa_cons pe_int pa_nil)))))) pss_nil) (pss_cons (ps_for PassesOwn.never rfl (pi_range1 (by rfl) T.b_range (pa_cons (pv 4) pa_nil)) (pg_name (i := 5) sc_order.nd rfl (Or.inl rfl)) (pss_one (ps_expr (k_bm (K := K) PySem.F.plainAttrs_list PySem.F.slot_list_append PySem.F.type_list_append mt_append (pv 3) (pa_cons (C8.pe_c c_spelt hr (by omega) (by rfl) (pa_cons (pv 2) (pa_cons (pv 3) pa_nil))) pa_nil))))) (pss_one (ps_ret (pv 3)))))))))), ?_⟩
  refine st_ (σ' := [some v_script, none, none, none, none, none]) rfl ?_
  unfold m_order at h
  obtain ⟨r2, er2, h⟩ := bs h
  obtain ⟨x10, ex10, h⟩ := bs h
  refine seq_ ?_
  refine asg_ ?_
  refine op_ ?_
  refine call_ ?_
  refine tcons_ ?_
  refine var_ rfl ?_
  refine tcons_ ?_
  refine cst_ ?_
  refine tnil_ ?_
  have L1 := Ws.ln (O1 := []) (O := []) (O2 := []) W
  refine ⟨B, v_script, x_script, (0 : Int), r2, rfl, Ln.call (O1 := []) (O := []) (O2 := []) L1 W, r_script, er2, fun v3 B4 H5 V6 q7 => ?_⟩
  have W8 := Ws.back (O1 := []) (O := []) (O2 := []) W (O' := []) V6
  have l9 := (Ws.bb V6)
  have W8 : Ws [] B H B4 H5 [] := W8
  obtain rfl : v3 = V.int r2 := q7
  refine cst_ ?_
  refine iC_ ⟨by decide, by decide⟩ ?_
  refine gas_ (V.int x10) (congrArg V.int (Option.some.inj ex10)) (σ' := [some v_script, some (V.int x10), none, none, none, none]) rfl ?_
  refine nx_ ?_
  obtain ⟨r14, er14, h⟩ := bs h
  obtain ⟨j26, hj27, h⟩ := bs h
  refine cut_ (fun σ' H' => ∃ (B' : Hp), σ' = [some v_script, some (V.int j26), none, none, none, none] ∧ Le B4 B' ∧ Ws [] B H B' H' []) ?_ ?_
  · refine if_ (fun v' H' => ∃ B', v' = (decide ((r14 % (2 : Int)) = (1 : Int))) ∧ Le B4 B' ∧ Ws [] B H B' H' []) (fun Q11 kk12 => ?_) (fun H23 hw => ?_) (fun H23 hw => ?_)
    · refine tst_ ?_
      refine op_ ?_
      refine op_ ?_
      refine call_ ?_
      refine tcons_ ?_
      refine var_ rfl ?_
      refine tcons_ ?_
      refine cst_ ?_
      refine tnil_ ?_
      have L13 := Ws.ln (O1 := []) (O := []) (O2 := []) W8
      refine ⟨B4, v_script, x_script, (0 : Int), r14, rfl, Ln.call (O1 := []) (O := []) (O2 := []) L13 W8, (RC.mono l9 r_script), er14, fun v15 B16 H17 V18 q19 => ?_⟩
      have W20 := Ws.back (O1 := []) (O := []) (O2 := []) W8 (O' := []) V18
      have l21 := (Ws.bb V18)
      have W20 : Ws [] B H B16 H17 [] := W20
      obtain rfl : v15 = V.int r14 := q19
      refine cst_ ?_
      refine iC_ (by show (0 : Int) < 2; decide) ?_
      refine cst_ ?_
      refine eqI_ ?_
      refine ⟨_, rfl, ?_⟩
      exact kk12 _ _ ⟨B16, rfl, l21, W20⟩
    · obtain ⟨B22, c28, l25, W24⟩ := hw
      have c28 := c28.symm
      have hj27 := opT c28 hj27
      obtain ⟨r30, er30, hj27⟩ := bs hj27
      refine asg_ ?_
      refine call_ ?_
      refine tcons_ ?_
      refine var_ rfl ?_
      refine tcons_ ?_
      refine cst_ ?_
      refine tnil_ ?_
      have L29 := Ws.ln (O1 := []) (O := []) (O2 := []) W24
      refine ⟨B22, x10, (0 : Int), r30, rfl, Ln.call (O1 := []) (O := []) (O2 := []) L29 W24, er30, fun v31 B32 H33 V34 q35 => ?_⟩
      have W36 := Ws.back (O1 := []) (O := []) (O2 := []) W24 (O' := []) V34
      have l37 := (Ws.bb V34)
      have W36 : Ws [] B H B32 H33 [] := W36
      obtain rfl : v31 = V.int r30 := q35
      refine gset_ (σ' := [some v_script, some (V.int r30), none, none, none, none]) rfl ?_
      refine nx_ ?_
      rw [← Option.some.inj hj27]; exact ⟨B32, rfl, (l25.tr l37), W36⟩
    · obtain ⟨B22, c28, l25, W24⟩ := hw
      have c28 := c28.symm
      have hj27 := opF c28 hj27
      refine next_ ?_
      refine nx_ ?_
      rw [← Option.some.inj hj27]; exact ⟨B22, rfl, l25, W24⟩
  rintro _ H39 ⟨B38, rfl, l41, W40⟩
  obtain ⟨x48, ex48, h⟩ := bs h
  refine seq_ ?_
  refine asg_ ?_
  refine lst_ ?_
  refine tcons_ ?_
  refine var_ rfl ?_
  refine tnil_ ?_
  refine oMk (xs := ([j26] : List Int)) W40 (.cons (show Rp.R B38 (V.int j26) (j26 : Int) from rfl) .nil) (by show 1 ≤ sizeLine; decide) fun a42 H43 l44 n45 W46 o47 => ?_
  have W46 : Ws [] B H B38 H43 [(a42, .lst l44)] := W46
  have o47' : Ow B38 l44 x48 := Option.some.inj ex48 ▸ o47
  refine gset_ (σ' := [some v_script, some (V.int j26), some (V.ref a42), none, none, none]) rfl ?_
  refine nx_ ?_
  obtain ⟨x55, ex55, h⟩ := bs h
  refine seq_ ?_
  refine asg_ ?_
  refine lst_ ?_
  refine tnil_ ?_
  refine oMk (xs := ([] : List Str)) W46 .nil (by show 0 ≤ sizeLine; decide) fun a49 H50 l51 n52 W53 o54 => ?_
  have W53 : Ws [] B H B38 H50 [(a42, .lst l44), (a49, .lst l51)] := W53
  have o54' : Ow B38 l51 x55 := Option.some.inj ex55 ▸ o54
  refine gset_ (σ' := [some v_script, some (V.int j26), some (V.ref a42), some (V.ref a49), none, none]) rfl ?_
  refine nx_ ?_
  obtain ⟨r57, er57, h⟩ := bs h
  refine seq_ ?_
  refine asg_ ?_
  refine call_ ?_
  refine tcons_ ?_
  refine var_ rfl ?_
  refine tcons_ ?_
  refine cst_ ?_
  refine tnil_ ?_
  have L56 := Ws.ln (O1 := []) (O := [(a42, .lst l44)]) (O2 := [(a49, .lst l51)]) W53
  refine ⟨B38, a42, l44, x48, (8 : Int), r57, rfl, Ln.call (O1 := []) (O := [(a42, .lst l44)]) (O2 := [(a49, .lst l51)]) L56 W53, o47', er57, fun v58 B59 H60 l63 V61 q62 o64 => ?_⟩
  have W65 := Ws.back (O1 := []) (O := [(a42, .lst l44)]) (O2 := [(a49, .lst l51)]) W53 (O' := [(a42, .lst l63)]) V61
  have l66 := (Ws.bb V61)
  have W65 : Ws [] B H B59 H60 [(a42, .lst l63), (a49, .lst l51)] := W65
  obtain rfl : v58 = V.int r57.1 := q62
  refine gset_ (σ' := [some v_script, some (V.int j26), some (V.ref a42), some (V.ref a49), some (V.int r57.1), none]) rfl ?_
  refine nx_ ?_
  obtain ⟨j69, hj70, h⟩ := bs h
  refine cut_ (fun σ' H' => ∃ (B' : Hp) (l0' : List V), σ' = [some v_script, some (V.int j26), some (V.ref a42), some (V.ref a49), some (V.int j69.1), none] ∧ Le B59 B' ∧ Ws [] B H B' H' [(a42, .lst l0'), (a49, .lst l51)] ∧ Ow B' l0' j69.2) ?_ ?_
  · refine if_ (fun v' H' => v' = (decide (r57.1 = (7 : Int))) ∧ H60 = H') (fun Q67 kk68 => ?_) (fun H60q hw => ?_) (fun H60q hw => ?_)
    · refine tst_ ?_
      refine op_ ?_
      refine var_ rfl ?_
      refine cst_ ?_
      refine eqI_ ?_
      refine ⟨_, rfl, ?_⟩
      exact kk68 _ _ ⟨rfl, rfl⟩
    · obtain ⟨c71, rfl⟩ := hw
      have c71 := c71.symm
      have hj70 := opT c71 hj70
      obtain ⟨r73, er73, hj70⟩ := bs hj70
      obtain ⟨x83, ex83, hj70⟩ := bs hj70
      refine asg_ ?_
      refine op_ ?_
      refine cst_ ?_
      refine call_ ?_
      refine tcons_ ?_
      refine var_ rfl ?_
      refine tcons_ ?_
      refine cst_ ?_
      refine tnil_ ?_
      have L72 := Ws.ln (O1 := []) (O := [(a42, .lst l63)]) (O2 := [(a49, .lst l51)]) W65
      refine ⟨B59, a42, l63, r57.2, (2 : Int), r73, rfl, Ln.call (O1 := []) (O := [(a42, .lst l63)]) (O2 := [(a49, .lst l51)]) L72 W65, o64, er73, fun v74 B75 H76 l79 V77 q78 o80 => ?_⟩
      have W81 := Ws.back (O1 := []) (O := [(a42, .lst l63)]) (O2 := [(a49, .lst l51)]) W65 (O' := [(a42, .lst l79)]) V77
      have l82 := (Ws.bb V77)
      have W81 : Ws [] B H B75 H76 [(a42, .lst l79), (a49, .lst l51)] := W81
      obtain rfl : v74 = V.int r73.1 := q78
      refine i0_ ?_
      refine gas_ (V.int x83) (congrArg V.int (Option.some.inj ex83)) (σ' := [some v_script, some (V.int j26), some (V.ref a42), some (V.ref a49), some (V.int x83), none]) rfl ?_
      refine nx_ ?_
      rw [← Option.some.inj hj70]; exact ⟨B75, l79, rfl, l82, W81, o80⟩
    · obtain ⟨c71, rfl⟩ := hw
      have c71 := c71.symm
      have hj70 := opF c71 hj70
      refine next_ ?_
      refine nx_ ?_
      rw [← Option.some.inj hj70]; exact ⟨B59, l63, rfl, (Le.refl _), W65, o64⟩
  rintro _ H85 ⟨B84, l88, rfl, l87, W86, o89⟩
  obtain ⟨q91, h⟩ := cks h
  obtain ⟨fin131, hx133, h⟩ := bs h
  refine seq_ ?_
  refine for_ ?_
  refine irng1_ ?_
  refine tcons_ ?_
  refine var_ rfl ?_
  refine tnil_ ?_
  refine itR1 (B := B84) q91 fun tw90 => ?_
  refine for_n W86 tw90 (fun (s92 : (List Int) × (List Str)) (x94 : Int) => bd (m_spelt s92.1 s92.2) fun r114 => bd (ck ((s92.2).length < sizeLine)) fun _ => some (r114.2, (s92.2 ++ [r114.1]))) hx133 (fun s σ O B => ∃ (u0' : Option V) (l0' : List V) (l1' : List V), σ = [some v_script, some (V.int j26), some (V.ref a42), some (V.ref a49), some (V.int j69.1), u0'] ∧ O = [(a42, .lst l0'), (a49, .lst l1')] ∧ Ow B l0' s.1 ∧ Ow B l1' s.2) (by rintro _ _ _ _ _ m' ⟨e0', e1', e2', a', b', f0', f1'⟩; exact ⟨e0', e1', e2', a', b', Ow.mono m' f0', Ow.mono m' f1'⟩) ⟨none, l88, l51, rfl, rfl, o89, (Ow.mono (l66.tr l87) o54')⟩ (fun s92 x94 c136 v95 σ' O98 B96 H97 l100 W99 i' r101 hs102 => ?_) ?_
  · obtain ⟨u93, l105, l107, rfl, rfl, o106, o108⟩ := i'
    have W99 : Ws [] B H B96 H97 [(a42, .lst l105), (a49, .lst l107)] := W99
    obtain rfl : v95 = V.int x94 := r101
    refine gset_ (σ' := [some v_script, some (V.int j26), some (V.ref a42), some (V.ref a49), some (V.int j69.1), some (V.int x94)]) rfl ?_
    obtain ⟨r114, er114, hs102⟩ := bs hs102
    obtain ⟨q126, hs102⟩ := cks hs102
    refine drop_ ?_
    refine bm_ ?_
    refine var_ rfl ?_
    refine tyL_ W99 1 rfl ?_
    refine tcons_ ?_
    refine call_ ?_
    refine tcons_ ?_
    refine var_ rfl ?_
    refine tcons_ ?_
    refine var_ rfl ?_
    refine tnil_ ?_
    have L109 := Ws.ln (O1 := []) (O := [(a42, .lst l105)]) (O2 := [(a49, .lst l107)]) W99
    obtain ⟨B110, L111, l112, r113⟩ := Ln.add (O1 := []) (O := [(a42, .lst l105)]) (O2 := [(a49, .lst l107)]) L109 W99 0 rfl o108
    refine ⟨B110, a42, l105, s92.1, (V.ref a49), s92.2, r114, rfl, Ln.call (O1 := []) (O := [(a42, .lst l105)]) (O2 := [(a49, .lst l107)]) L111 W99, (Ow.mono L111.le o106), r113, er114, fun v115 B116 H117 l120 V118 q119 o121 => ?_⟩
    obtain ⟨B124, W122, l123⟩ := Ln.back (O1 := []) (O := [(a42, .lst l105)]) (O2 := [(a49, .lst l107)]) L111 W99 (O' := [(a42, .lst l120)]) V118
    have o125 : Ow B124 l120 r114.2 := o121.any
    have W122 : Ws [] B H B124 H117 [(a42, .lst l120), (a49, .lst l107)] := W122
    obtain rfl : v115 = V.str r114.1 := q119
    refine tnil_ ?_
    refine oApp W122 1 rfl (Ow.mono l123 o108) (show Rp.R B124 (V.str r114.1) (r114.1 : Str) from rfl) q126 fun H127 l128 W129 o130 => ?_
    have W129 : Ws [] B H B124 H127 [(a42, .lst l120), (a49, .lst l128)] := W129
    refine nx_ ?_
    rw [← Option.some.inj hs102]
    exact ⟨_, B124, (l100.tr l123), W129, ⟨(some (V.int x94)), l120, l128, rfl, rfl, o125, o130⟩⟩
  rintro σ' O141 B137 H138 l140 W139 ⟨u142, l143, l145, rfl, rfl, o144, o146⟩
  refine nx_ ?_
  refine ret_ ?_
  refine var_ rfl ?_
  refine oFz W139 1 rfl n52 o146 fun B147 W148 l149 r150 => ?_
  have W148 : Ws [] B H B147 H138 [(a42, .lst l143)] := W148
  rw [← Option.some.inj h] at k
  exact k (V.ref a49) B147 H138  (Ws.drop W148 0) r150 

def m_number (x_script : Scr) (x_k : Int) : Option Int :=
  bd (m_cell_at x_script x_k) fun r2 => bd (m_cell_at x_script (0 : Int)) fun r13 => bd (if decide ((r13 % (2 : Int)) = (1 : Int)) = true then (bd (m_rich r2 x_k) fun r29 => some r29) else (some r2)) fun j25 => some j25
def sp_number (K : PySem.W.Frag) : Sp := fun vs H Q _ => ∃ (B : Hp) (v_script : V) (x_script : Scr) (x_k : Int) (r : Int), vs = [v_script, V.int x_k] ∧ Ws [] B H B H [] ∧ RC K B v_script x_script ∧ m_number x_script x_k = some r ∧ ∀ w B' H', Ws [] B H B' H' [] → Rp.R B' w r → Q w H'
abbrev s_number : Stmt := top 16
theorem sc_number : FnScope ["_law_script", "_law_k", "_law_number_here"] ["_law_script", "_law_k"] (C8.fnScope s_number) := C8.fnScope_by (by decide +kernel)
theorem ok_number (T : Tx mg) (c_cell_at : C8.Cal P w K mg base 1 "_law_cell_at" (sp_cell_at K) []) (c_rich : C8.Cal P w K mg base 2 "_law_rich" (sp_rich K) []) {f : Addr} {fd : FuncData} (F : C8.Def K mg "_law_number" s_number f fd) (b : Binds K fd ["_law_script", "_law_k"] []) : C8.Cal P w K mg base 3 "_law_number" (sp_number K) [] := by
  refine C8.cal0 F b .nil sc_number (fun vs H Q E h => ?_) (fun cdv A outer s H vs Q E hr h => ?_)
  · obtain ⟨B, v_script, x_script, x_k, r, rfl, _⟩ := h
    rfl
  obtain ⟨B, v_script, x_script, x_k, r, rfl, W, r_script, h, k⟩ := h
  refine ⟨_, (pss_cons (ps_set (i := 2) sc_number.nd rfl (Or.inl rfl) (C8.pe_c c_cell_at hr (by omega) (by rfl) (pa_cons (pv 0) (pa_cons (pv 1) pa_nil)))) (C8.pss_cut (ps_if (pt_cmpR op_eq (pe_op op_mod (C8.pe_c c_cell_at hr (by omega) (by rfl) (pa_cons (pv 0) (pa_cons pe_int pa_nil))) pe_int) pe_int (nomark _)) (pss_one (ps_set (i := 2) sc_number.nd rfl (Or.inl rfl) (C8.pe_c c_rich hr (by omega) (by rfl) (pa_cons (pv 2) (pa_cons (pv 1) pa_nil))))) pss_nil) (pss_one (ps_ret (pv 2))))), ?_⟩
  refine st_ (σ' := [some v_script, some (V.int x_k), none]) rfl ?_
  unfold m_number at h
  obtain ⟨r2, er2, h⟩ := bs h
  refine seq_ ?_
  refine asg_ ?_
  refine call_ ?_
  refine tcons_ ?_
  refine var_ rfl ?_
  refine tcons_ ?_
  refine var_ rfl ?_
  refine tnil_ ?_
  have L1 := Ws.ln (O1 := []) (O := []) (O2 := []) W
  refine ⟨B, v_script, x_script, x_k, r2, rfl, Ln.call (O1 := []) (O := []) (O2 := []) L1 W, r_script, er2, fun v3 B4 H5 V6 q7 => ?_⟩
  have W8 := Ws.back (O1 := []) (O := []) (O2 := []) W (O' := []) V6
  have l9 := (Ws.bb V6)
  have W8 : Ws [] B H B4 H5 [] := W8
  obtain rfl : v3 = V.int r2 := q7
  refine gset_ (σ' := [some v_script, some (V.int x_k), some (V.int r2)]) rfl ?_
  refine nx_ ?_
  obtain ⟨r13, er13, h⟩ := bs h
  obtain ⟨j25, hj26, h⟩ := bs h
  refine cut_ (fun σ' H' => ∃ (B' : Hp), σ' = [some v_script, some (V.int x_k), some (V.int j25)] ∧ Le B4 B' ∧ Ws [] B H B' H' []) ?_ ?_
  · refine if_ (fun v' H' => ∃ B', v' = (decide ((r13 % (2 : Int)) = (1 : Int))) ∧ Le B4 B' ∧ Ws [] B H B' H' []) (fun Q10 kk11 => ?_) (fun H22 hw => ?_) (fun H22 hw => ?_)
    · refine tst_ ?_
      refine op_ ?_
      refine op_ ?_
      refine call_ ?_
      refine tcons_ ?_
      refine var_ rfl ?_
      refine tcons_ ?_
      refine cst_ ?_
      refine tnil_ ?_
      have L12 := Ws.ln (O1 := []) (O := []) (O2 := []) W8
      refine ⟨B4, v_script, x_script, (0 : Int), r13, rfl, Ln.call (O1 := []) (O := []) (O2 := []) L12 W8, (RC.mono l9 r_script), er13, fun v14 B15 H16 V17 q18 => ?_⟩
      have W19 := Ws.back (O1 := []) (O := []) (O2 := []) W8 (O' := []) V17
      have l20 := (Ws.bb V17)
      have W19 : Ws [] B H B15 H16 [] := W19
      obtain rfl : v14 = V.int r13 := q18
      refine cst_ ?_
      refine iC_ (by show (0 : Int) < 2; decide) ?_
      refine cst_ ?_
      refine eqI_ ?_
      refine ⟨_, rfl, ?_⟩
      exact kk11 _ _ ⟨B15, rfl, l20, W19⟩
    · obtain ⟨B21, c27, l24, W23⟩ := hw
      have c27 := c27.symm
      have hj26 := opT c27 hj26
      obtain ⟨r29, er29, hj26⟩ := bs hj26
      refine asg_ ?_
      refine call_ ?_
      refine tcons_ ?_
      refine var_ rfl ?_
      refine tcons_ ?_
      refine var_ rfl ?_
      refine tnil_ ?_
      have L28 := Ws.ln (O1 := []) (O := []) (O2 := []) W23
      refine ⟨B21, r2, x_k, r29, rfl, Ln.call (O1 := []) (O := []) (O2 := []) L28 W23, er29, fun v30 B31 H32 V33 q34 => ?_⟩
      have W35 := Ws.back (O1 := []) (O := []) (O2 := []) W23 (O' := []) V33
      have l36 := (Ws.bb V33)
      have W35 : Ws [] B H B31 H32 [] := W35
      obtain rfl : v30 = V.int r29 := q34
      refine gset_ (σ' := [some v_script, some (V.int x_k), some (V.int r29)]) rfl ?_
      refine nx_ ?_
      rw [← Option.some.inj hj26]; exact ⟨B31, rfl, (l24.tr l36), W35⟩
    · obtain ⟨B21, c27, l24, W23⟩ := hw
      have c27 := c27.symm
      have hj26 := opF c27 hj26
      refine next_ ?_
      refine nx_ ?_
      rw [← Option.some.inj hj26]; exact ⟨B21, rfl, l24, W23⟩
  rintro _ H38 ⟨B37, rfl, l40, W39⟩
  refine ret_ ?_
  refine var_ rfl ?_
  rw [← Option.some.inj h] at k
  exact k (V.int j25) B37 H38  W39 rfl 


def m_bits (x_number_here : Int) (x_many : Int) : Option (List Int) :=
  if decide (x_many < (7 : Int)) = true then (bd (ck (0 ≤ x_many ∧ x_many ≤ 1000000 ∧ ((1 : Int) : Int).natAbs < 2 ^ 64)) fun _ => bd (ck (-(2 ^ 62) ≤ ((1 : Int) * 2 ^ (x_many).toNat) ∧ ((1 : Int) * 2 ^ (x_many).toNat) < 2 ^ 62)) fun _ => bd (ck ((rng 0 (((1 : Int) * 2 ^ (x_many).toNat) : Int).toNat).length ≤ sizeLine)) fun _ => bd (mapO (fun (x7 : Int) => bd (ck (0 ≤ x7)) fun _ => some (Builtin.bitAnd (x_number_here / 2 ^ (x7).toNat) (1 : Int))) (rng 0 (((1 : Int) * 2 ^ (x_many).toNat) : Int).toNat)) fun x23 => some x23) else (bd (ck (0 ≤ x_many ∧ x_many ≤ 1000000 ∧ ((1 : Int) : Int).natAbs < 2 ^ 64)) fun _ => bd (ck (-(2 ^ 62) ≤ ((1 : Int) * 2 ^ (x_many).toNat) ∧ ((1 : Int) * 2 ^ (x_many).toNat) < 2 ^ 62)) fun _ => bd (ck ((rng 0 (((1 : Int) * 2 ^ (x_many).toNat) : Int).toNat).length ≤ sizeLine)) fun _ => bd (some (List.map (fun (x34 : Int) => (0 : Int)) (rng 0 (((1 : Int) * 2 ^ (x_many).toNat) : Int).toNat))) fun x57 => bd (lpn (fun (s59 : Int × (List Int)) (x61 : Int) => bd (ck (0 < (s59.2.length : Int))) fun _ => bd (ixN (s59.2).length (s59.1 % (s59.2.length : Int))) fun x75 => bd (ck (0 < ((s59.2.set x75 (1 : Int)).length : Int) ∧ ((s59.2.set x75 (1 : Int)).length : Int) < 1073741824)) fun _ => bd (some (s59.1 / ((s59.2.set x75 (1 : Int)).length : Int))) fun x81 => some (x81, (s59.2.set x75 (1 : Int)))) (x_number_here, x57) (rng 0 ((6 : Int) : Int).toNat)) fun fin82 => some fin82.2)
def sp_bits (K : PySem.W.Frag) : Sp := fun vs H Q _ => ∃ (B : Hp) (x_number_here : Int) (x_many : Int) (r : List Int), vs = [V.int x_number_here, V.int x_many] ∧ Ws [] B H B H [] ∧ m_bits x_number_here x_many = some r ∧ ∀ w B' H', Ws [] B H B' H' [] → Rp.R B' w r → Q w H'
abbrev s_bits : Stmt := top 17
theorem sc_bits : FnScope ["_law_number_here", "_law_many", "_law_bits_here", "_law_k", "_law_place"] ["_law_number_here", "_law_many"] (C8.fnScope s_bits) := C8.fnScope_by (by decide +kernel)
theorem ok_bits (T : Tx mg) {f : Addr} {fd : FuncData} (F : C8.Def K mg "_law_bits" s_bits f fd) (b : Binds K fd ["_law_number_here", "_law_many"] []) : C8.Cal P w K mg base 1 "_law_bits" (sp_bits K) [] := by
  refine C8.cal0 F b .nil sc_bits (fun vs H Q E h => ?_) (fun cdv A outer s H vs Q E hr h => ?_)
  · obtain ⟨B, x_number_here, x_many, r, rfl, _⟩ := h
    rfl
  obtain ⟨B, x_number_here, x_many, r, rfl, W, h, k⟩ := h
  refine ⟨_, (pss_cons (ps_if (pt_cmpR op_lt (pv 1) pe_int (nomark _)) (pss_one (ps_ret (pe_lc (own := [("_law_place", 4)]) (g := (gName 4)) (tt := tYes) (by rfl) sc_bits.nd (pi_range1 (by rfl) T.b_range (pa_cons (pe_op op_shl pe_int (pv 1)) pa_nil)) (blkOk_by (own := [("_law_place", 4)]) (N := ["_law_number_here", "_law_many", "_law_bits_here", "_law_k", "_law_place"]) (sc := C8.fnScope s_bits) (by decide +kernel)) (fun _ _ _ _ _ => (pg_name (i := 4) sc_bits.nd rfl (Or.inl rfl))) (fun _ _ _ _ _ => pts_nil) (fun _ _ _ _ _ => (pe_op op_and (pe_op op_shr (pv 0) (pv 4)) pe_int))))) pss_nil) (pss_cons (ps_setLc (i := 2) (own := [("_law_place", 4)]) (g := (gName 4)) (tt := tYes) (by rfl) sc_bits.nd rfl rfl (sw_true rfl rfl rfl (by decide +kernel)) (pi_range1 (by rfl) T.b_range (pa_cons (pe_op op_shl pe_int (pv 1)) pa_nil)) (blkOk_by (own := [("_law_place", 4)]) (N := ["_law_number_here", "_law_many", "_law_bits_here", "_law_k", "_law_place"]) (sc := C8.fnScope s_bits) (by decide +kernel)) (fun _ _ _ _ _ => (pg_name (i := 4) sc_bits.nd rfl (Or.inl rfl))) (fun _ _ _ _ _ => pts_nil) (fun _ _ _ _ _ => pe_int)) (pss_cons (ps_for PassesOwn.never rfl (pi_range1 (by rfl) T.b_range (pa_cons pe_int pa_nil)) (pg_name (i := 3) sc_bits.nd rfl (Or.inl rfl)) (pss_cons (ps_asg pe_int (pg_sub (pv 2) (pe_op op_mod (pv 0) (pe_callB (k_len (K := K)) (by rfl) T.b_len (by decide +kernel) (pa_cons (pv 2) pa_nil))) set_list)) (pss_one (ps_set (i := 0) sc_bits.nd rfl (Or.inr rfl) (pe_op op_fdiv (pv 0) (pe_callB (k_len (K := K)) (by rfl) T.b_len (by decide +kernel) (pa_cons (pv 2) pa_nil))))))) (pss_one (ps_ret (pv 2)))))), ?_⟩
  refine st_ (σ' := [some (V.int x_number_here), some (V.int x_many), none, none, none]) rfl ?_
  unfold m_bits at h
  refine seq_ ?_
  refine if_ (fun v' H' => v' = (decide (x_many < (7 : Int))) ∧ H = H') (fun Q1 kk2 => ?_) (fun Hq hw => ?_) (fun Hq hw => ?_)
  · refine tst_ ?_
    refine op_ ?_
    refine var_ rfl ?_
    refine cst_ ?_
    refine i0_ ?_
    refine ⟨_, rfl, ?_⟩
    exact kk2 _ _ ⟨rfl, rfl⟩
  · obtain ⟨c3, rfl⟩ := hw
    have c3 := c3.symm
    have h := opT c3 h
    obtain ⟨q4, h⟩ := cks h
    obtain ⟨q6, h⟩ := cks h
    obtain ⟨q22, h⟩ := cks h
    obtain ⟨x23, ex23, h⟩ := bs h
    refine ret_ ?_
    refine lc_ ?_
    refine irng1_ ?_
    refine tcons_ ?_
    refine op_ ?_
    refine cst_ ?_
    refine var_ rfl ?_
    refine iC_ q4 ?_
    refine tnil_ ?_
    refine itR1 (B := B) q6 fun tw5 => ?_
    refine lc_o W tw5 q22 (fun (x7 : Int) => bd (ck (0 ≤ x7)) fun _ => some (Builtin.bitAnd (x_number_here / 2 ^ (x7).toNat) (1 : Int))) ex23 (fun x7 z24 v9 B10 H11 D12 acc13 Nx14 l15 W16 r17 hs8 k19 => ?_) ?_
    · obtain ⟨q21, hs8⟩ := cks hs8
      obtain rfl := Option.some.inj hs8
      obtain rfl : v9 = V.int x7 := r17
      refine gset_ (σ' := [some (V.int x_number_here), some (V.int x_many), none, none, some (V.int x7)]) rfl ?_
      refine ⟨rfl, ?_⟩
      refine op_ ?_
      refine op_ ?_
      refine var_ rfl ?_
      refine var_ rfl ?_
      refine iC_ q21 ?_
      refine cst_ ?_
      refine i0_ ?_
      exact k19 _ _ _ (Le.refl _) W16 (show Rp.R B10 (V.int (Builtin.bitAnd (x_number_here / 2 ^ (x7).toNat) (1 : Int))) ((Builtin.bitAnd (x_number_here / 2 ^ (x7).toNat) (1 : Int)) : Int) from rfl)
    intro v25 B26 H27 l28 W29 r30
    rw [← Option.some.inj h] at k
    exact k v25 B26 H27  W29 r30 
  · obtain ⟨c3, rfl⟩ := hw
    have c3 := c3.symm
    have h := opF c3 h
    refine next_ ?_
    refine nx_ ?_
    obtain ⟨q31, h⟩ := cks h
    obtain ⟨q33, h⟩ := cks h
    obtain ⟨q48, h⟩ := cks h
    obtain ⟨x57, ex57, h⟩ := bs h
    refine seq_ ?_
    refine asg_ ?_
    refine lc_ ?_
    refine irng1_ ?_
    refine tcons_ ?_
    refine op_ ?_
    refine cst_ ?_
    refine var_ rfl ?_
    refine iC_ q31 ?_
    refine tnil_ ?_
    refine itR1 (B := B) q33 fun tw32 => ?_
    refine lc_mw W tw32 q48 (fun (x34 : Int) => (0 : Int)) (fun x34 v36 B37 H38 D39 acc40 Nx41 l42 W43 r44 k46 => ?_) ?_
    · obtain rfl : v36 = V.int x34 := r44
      refine gset_ (σ' := [some (V.int x_number_here), some (V.int x_many), none, none, some (V.int x34)]) rfl ?_
      refine ⟨rfl, ?_⟩
      refine cst_ ?_
      exact k46 _ _ _ (Le.refl _) W43 (show Rp.R B37 (V.int (0 : Int)) ((0 : Int) : Int) from rfl)
    intro a49 l50 B51 H52 n53 l54 W55 o56
    have W55 : Ws [] B H B51 H52 [(a49, .lst l50)] := W55
    have o56' : Ow B51 l50 x57 := Option.some.inj ex57 ▸ o56
    refine gset_ (σ' := [some (V.int x_number_here), some (V.int x_many), some (V.ref a49), none, none]) rfl ?_
    refine nx_ ?_
    obtain ⟨fin82, hx84, h⟩ := bs h
    refine seq_ ?_
    refine for_ ?_
    refine irng1_ ?_
    refine tcons_ ?_
    refine cst_ ?_
    refine tnil_ ?_
    refine itR1 (B := B51) (by decide) fun tw58 => ?_
    refine for_n W55 tw58 (fun (s59 : Int × (List Int)) (x61 : Int) => bd (ck (0 < (s59.2.length : Int))) fun _ => bd (ixN (s59.2).length (s59.1 % (s59.2.length : Int))) fun x75 => bd (ck (0 < ((s59.2.set x75 (1 : Int)).length : Int) ∧ ((s59.2.set x75 (1 : Int)).length : Int) < 1073741824)) fun _ => bd (some (s59.1 / ((s59.2.set x75 (1 : Int)).length : Int))) fun x81 => some (x81, (s59.2.set x75 (1 : Int)))) hx84 (fun s σ O B => ∃ (u0' : Option V) (l0' : List V), σ = [some (V.int s.1), some (V.int x_many), some (V.ref a49), u0', none] ∧ O = [(a49, .lst l0')] ∧ Ow B l0' s.2) (by rintro _ _ _ _ _ m' ⟨e0', e1', a', b', f0'⟩; exact ⟨e0', e1', a', b', Ow.mono m' f0'⟩) ⟨none, l50, rfl, rfl, o56'⟩ (fun s59 x61 c87 v62 σ' O65 B63 H64 l67 W66 i' r68 hs69 => ?_) ?_
    · obtain ⟨u60, l72, rfl, rfl, o73⟩ := i'
      have W66 : Ws [] B H B63 H64 [(a49, .lst l72)] := W66
      obtain rfl : v62 = V.int x61 := r68
      refine gset_ (σ' := [some (V.int s59.1), some (V.int x_many), some (V.ref a49), some (V.int x61), none]) rfl ?_
      obtain ⟨q74, hs69⟩ := cks hs69
      obtain ⟨x75, ex75, hs69⟩ := bs hs69
      refine seq_ ?_
      refine asg_ ?_
      refine cst_ ?_
      refine gsub_ ?_
      refine var_ rfl ?_
      refine op_ ?_
      refine var_ rfl ?_
      refine cb_ ?_
      refine tcons_ ?_
      refine var_ rfl ?_
      refine tnil_ ?_
      refine oLen W66 0 rfl o73 ?_
      refine iC_ q74 ?_
      refine oSet W66 0 rfl o73 (show Rp.R B63 (V.int (1 : Int)) ((1 : Int) : Int) from rfl) ex75 fun H76 l77 W78 o79 => ?_
      have W78 : Ws [] B H B63 H76 [(a49, .lst l77)] := W78
      refine nx_ ?_
      obtain ⟨q80, hs69⟩ := cks hs69
      obtain ⟨x81, ex81, hs69⟩ := bs hs69
      refine asg_ ?_
      refine op_ ?_
      refine var_ rfl ?_
      refine cb_ ?_
      refine tcons_ ?_
      refine var_ rfl ?_
      refine tnil_ ?_
      refine oLen W78 0 rfl o79 ?_
      refine iC_ q80 ?_
      refine gas_ (V.int x81) (congrArg V.int (Option.some.inj ex81)) (σ' := [some (V.int x81), some (V.int x_many), some (V.ref a49), some (V.int x61), none]) rfl ?_
      refine nx_ ?_
      rw [← Option.some.inj hs69]
      exact ⟨_, B63, l67, W78, ⟨(some (V.int x61)), l77, rfl, rfl, o79⟩⟩
    rintro σ' O92 B88 H89 l91 W90 ⟨u93, l94, rfl, rfl, o95⟩
    refine nx_ ?_
    refine ret_ ?_
    refine var_ rfl ?_
    refine oFz W90 0 rfl n53 o95 fun B96 W97 l98 r99 => ?_
    have W97 : Ws [] B H B96 H89 [] := W97
    rw [← Option.some.inj h] at k
    exact k (V.ref a49) B96 H89  W97 r99 



def m_turned (x_bits_here : List Int) (x_many : Int) : Option (List Int) :=
  bd (some ([] : List Int)) fun x7 => bd (ck (-(2 ^ 62) ≤ (x_bits_here.length : Int) ∧ (x_bits_here.length : Int) < 2 ^ 62)) fun _ => bd (lpn (fun (s10 : (List Int)) (x14 : Int) => bd (ck (-(2 ^ 62) ≤ x_many ∧ x_many < 2 ^ 62)) fun _ => bd (lpn (fun (s29 : Int) (x31 : Int) => bd (ck (0 ≤ x31)) fun _ => bd (some (((2 : Int) * s29) + (Builtin.bitAnd (x14 / 2 ^ (x31).toNat) (1 : Int)))) fun x43 => some x43) (0 : Int) (rng 0 (x_many : Int).toNat)) fun fin44 => bd (atI x_bits_here fin44) fun x56 => bd (ck ((s10).length < sizeLine)) fun _ => some (s10 ++ [x56])) x7 (rng 0 ((x_bits_here.length : Int) : Int).toNat)) fun fin64 => some fin64
def sp_turned (K : PySem.W.Frag) : Sp := fun vs H Q _ => ∃ (B : Hp) (v_bits_here : V) (x_bits_here : List Int) (x_many : Int) (r : List Int), vs = [v_bits_here, V.int x_many] ∧ Ws [] B H B H [] ∧ Rp.R B v_bits_here x_bits_here ∧ m_turned x_bits_here x_many = some r ∧ ∀ w B' H', Ws [] B H B' H' [] → Rp.R B' w r → Q w H'
abbrev s_turned : Stmt := top 18
theorem sc_turned : FnScope ["_law_bits_here", "_law_many", "_law_found", "_law_place", "_law_spot", "_law_k"] ["_law_bits_here", "_law_many"] (C8.fnScope s_turned) := C8.fnScope_by (by decide +kernel)
theorem ok_turned (T : Tx mg) {f : Addr} {fd : FuncData} (F : C8.Def K mg "_law_turned" s_turned f fd) (b : Binds K fd ["_law_bits_here", "_law_many"] []) : C8.Cal P w K mg base 1 "_law_turned" (sp_turned K) [] := by
  refine C8.cal0 F b .nil sc_turned (fun vs H Q E h => ?_) (fun cdv A outer s H vs Q E hr h => ?_)
  · obtain ⟨B, v_bits_here, x_bits_here, x_many, r, rfl, _⟩ := h
    rfl
  obtain ⟨B, v_bits_here, x_bits_here, x_many, r, rfl, W, r_bits_here, h, k⟩ := h
  refine ⟨_, (pss_cons (ps_set (i := 2) sc_turned.nd rfl (Or.inl rfl) (pe_lst pa_nil)) (pss_cons (ps_for PassesOwn.never rfl (pi_range1 (by rfl) T.b_range (pa_cons (pe_callB (k_len (K := K)) (by rfl) T.b_len (by decide +kernel) (pa_cons (pv 0) pa_nil)) pa_nil)) (pg_name (i := 3) sc_turned.nd rfl (Or.inl rfl)) (pss_cons (ps_set (i := 4) sc_turned.nd rfl (Or.inl rfl) pe_int) (pss_cons (ps_for PassesOwn.never rfl (pi_range1 (by rfl) T.b_range (pa_cons (pv 1) pa_nil)) (pg_name (i := 5) sc_turned.nd rfl (Or.inl rfl)) (pss_one (ps_set (i := 4) sc_turned.nd rfl (Or.inl rfl) (pe_op op_add (pe_op op_mul pe_int (pv 4)) (pe_op op_and (pe_op op_shr (pv 3) (pv 5)) pe_int))))) (pss_one (ps_expr (k_bm (K := K) PySem.F.plainAttrs_list PySem.F.slot_list_append PySem.F.type_list_append mt_append (pv 2) (pa_cons (pe_ix (k_ixL (K := K)) (pv 0) (pv 4) (fun _ _ => rfl)) pa_nil))))))) (pss_one (ps_ret (pv 2))))), ?_⟩
  refine st_ (σ' := [some v_bits_here, some (V.int x_many), none, none, none, none]) rfl ?_
  unfold m_turned at h
  obtain ⟨x7, ex7, h⟩ := bs h
  refine seq_ ?_
  refine asg_ ?_
  refine lst_ ?_
  refine tnil_ ?_
  refine oMk (xs := ([] : List Int)) W .nil (by show 0 ≤ sizeLine; decide) fun a1 H2 l3 n4 W5 o6 => ?_
  have W5 : Ws [] B H B H2 [(a1, .lst l3)] := W5
  have o6' : Ow B l3 x7 := Option.some.inj ex7 ▸ o6
  refine gset_ (σ' := [some v_bits_here, some (V.int x_many), some (V.ref a1), none, none, none]) rfl ?_
  refine nx_ ?_
  obtain ⟨q9, h⟩ := cks h
  obtain ⟨fin64, hx66, h⟩ := bs h
  refine seq_ ?_
  refine for_ ?_
  refine irng1_ ?_
  refine tcons_ ?_
  refine cb_ ?_
  refine tcons_ ?_
  refine var_ rfl ?_
  refine tnil_ ?_
  refine lenL_ W5 r_bits_here ?_
  refine tnil_ ?_
  refine itR1 (B := B) q9 fun tw8 => ?_
  refine for_n W5 tw8 (fun (s10 : (List Int)) (x14 : Int) => bd (ck (-(2 ^ 62) ≤ x_many ∧ x_many < 2 ^ 62)) fun _ => bd (lpn (fun (s29 : Int) (x31 : Int) => bd (ck (0 ≤ x31)) fun _ => bd (some (((2 : Int) * s29) + (Builtin.bitAnd (x14 / 2 ^ (x31).toNat) (1 : Int)))) fun x43 => some x43) (0 : Int) (rng 0 (x_many : Int).toNat)) fun fin44 => bd (atI x_bits_here fin44) fun x56 => bd (ck ((s10).length < sizeLine)) fun _ => some (s10 ++ [x56])) hx66 (fun s σ O B => ∃ (u0' : Option V) (u1' : Option V) (u2' : Option V) (l0' : List V), σ = [some v_bits_here, some (V.int x_many), some (V.ref a1), u0', u1', u2'] ∧ O = [(a1, .lst l0')] ∧ Ow B l0' s) (by rintro _ _ _ _ _ m' ⟨e0', e1', e2', e3', a', b', f0'⟩; exact ⟨e0', e1', e2', e3', a', b', Ow.mono m' f0'⟩) ⟨none, none, none, l3, rfl, rfl, o6'⟩ (fun s10 x14 c69 v15 σ' O18 B16 H17 l20 W19 i' r21 hs22 => ?_) ?_
  · obtain ⟨u11, u12, u13, l25, rfl, rfl, o26⟩ := i'
    have W19 : Ws [] B H B16 H17 [(a1, .lst l25)] := W19
    obtain rfl : v15 = V.int x14 := r21
    refine gset_ (σ' := [some v_bits_here, some (V.int x_many), some (V.ref a1), some (V.int x14), u12, u13]) rfl ?_
    refine seq_ ?_
    refine asg_ ?_
    refine cst_ ?_
    refine gset_ (σ' := [some v_bits_here, some (V.int x_many), some (V.ref a1), some (V.int x14), some (V.int (0 : Int)), u13]) rfl ?_
    refine nx_ ?_
    obtain ⟨q28, hs22⟩ := cks hs22
    obtain ⟨fin44, hx46, hs22⟩ := bs hs22
    refine seq_ ?_
    refine for_ ?_
    refine irng1_ ?_
    refine tcons_ ?_
    refine var_ rfl ?_
    refine tnil_ ?_
    refine itR1 (B := B16) q28 fun tw27 => ?_
    refine for_n W19 tw27 (fun (s29 : Int) (x31 : Int) => bd (ck (0 ≤ x31)) fun _ => bd (some (((2 : Int) * s29) + (Builtin.bitAnd (x14 / 2 ^ (x31).toNat) (1 : Int)))) fun x43 => some x43) hx46 (fun s σ O B => ∃ (u0' : Option V), σ = [some v_bits_here, some (V.int x_many), some (V.ref a1), some (V.int x14), some (V.int s), u0'] ∧ O = [(a1, .lst l25)]) (by rintro _ _ _ _ _ m' ⟨e0', a', b'⟩; exact ⟨e0', a', b'⟩) ⟨u13, rfl, rfl⟩ (fun s29 x31 c49 v32 σ' O35 B33 H34 l37 W36 i' r38 hs39 => ?_) ?_
    · obtain ⟨u30, rfl, rfl⟩ := i'
      have W36 : Ws [] B H B33 H34 [(a1, .lst l25)] := W36
      obtain rfl : v32 = V.int x31 := r38
      refine gset_ (σ' := [some v_bits_here, some (V.int x_many), some (V.ref a1), some (V.int x14), some (V.int s29), some (V.int x31)]) rfl ?_
      obtain ⟨q42, hs39⟩ := cks hs39
      obtain ⟨x43, ex43, hs39⟩ := bs hs39
      refine asg_ ?_
      refine op_ ?_
      refine op_ ?_
      refine cst_ ?_
      refine var_ rfl ?_
      refine iC_ (.inl ⟨by decide, by decide⟩) ?_
      refine op_ ?_
      refine op_ ?_
      refine var_ rfl ?_
      refine var_ rfl ?_
      refine iC_ q42 ?_
      refine cst_ ?_
      refine i0_ ?_
      refine i0_ ?_
      refine gas_ (V.int x43) (congrArg V.int (Option.some.inj ex43)) (σ' := [some v_bits_here, some (V.int x_many), some (V.ref a1), some (V.int x14), some (V.int x43), some (V.int x31)]) rfl ?_
      refine nx_ ?_
      rw [← Option.some.inj hs39]
      exact ⟨_, B33, l37, W36, ⟨(some (V.int x31)), rfl, rfl⟩⟩
    rintro σ' O54 B50 H51 l53 W52 ⟨u55, rfl, rfl⟩
    refine nx_ ?_
    obtain ⟨x56, ex56, hs22⟩ := bs hs22
    obtain ⟨q59, hs22⟩ := cks hs22
    refine drop_ ?_
    refine bm_ ?_
    refine var_ rfl ?_
    refine tyL_ W52 0 rfl ?_
    refine tcons_ ?_
    refine op_ ?_
    refine var_ rfl ?_
    refine var_ rfl ?_
    refine ixL_ W52 (Rp.mono (l20.tr l53) r_bits_here) ex56 fun v57 r58 => ?_
    obtain rfl : v57 = V.int x56 := r58
    refine tnil_ ?_
    refine oApp W52 0 rfl (Ow.mono l53 o26) (show Rp.R B50 (V.int x56) (x56 : Int) from rfl) q59 fun H60 l61 W62 o63 => ?_
    have W62 : Ws [] B H B50 H60 [(a1, .lst l61)] := W62
    refine nx_ ?_
    rw [← Option.some.inj hs22]
    exact ⟨_, B50, (l20.tr l53), W62, ⟨(some (V.int x14)), (some (V.int fin44)), u55, l61, rfl, rfl, o63⟩⟩
  rintro σ' O74 B70 H71 l73 W72 ⟨u75, u76, u77, l78, rfl, rfl, o79⟩
  refine nx_ ?_
  refine ret_ ?_
  refine var_ rfl ?_
  refine oFz W72 0 rfl n4 o79 fun B80 W81 l82 r83 => ?_
  have W81 : Ws [] B H B80 H71 [] := W81
  rw [← Option.some.inj h] at k
  exact k (V.ref a1) B80 H71  W81 r83 

def m_right (x_names : List Str) (x_one : List Int) (x_other : List Int) : Option Bool :=
  bd (m_canon 12 x_names x_one) fun r8 => bd (m_canon 12 x_names x_other) fun r17 => bd (ck ((x_one.zip x_other).length ≤ sizeLine)) fun _ => bd (m_canon 12 x_names (List.map (fun (x28 : Int × Int) => (Builtin.bitAnd x28.1 x28.2)) (x_one.zip x_other))) fun r54 => bd (m_p_both 12 x_names r8 r17) fun r65 => bd (m_same_tree 12 r65 r54) fun r74 => if (!r74) = true then (some false) else (bd (ck ((x_one.zip x_other).length ≤ sizeLine)) fun _ => bd (m_canon 12 x_names (List.map (fun (x90 : Int × Int) => (Builtin.bitOr x90.1 x90.2)) (x_one.zip x_other))) fun r116 => bd (m_p_either x_names r8 r17) fun r127 => bd (m_same_tree 12 r127 r116) fun r136 => if (!r136) = true then (some false) else (bd (ck (x_one.length ≤ sizeLine)) fun _ => bd (m_canon 12 x_names (List.map (fun (x151 : Int) => ((1 : Int) - x151)) x_one)) fun r173 => bd (m_p_opposite 12 r8) fun r184 => bd (m_same_tree 12 r184 r173) fun r193 => bd (if r193 = true then bd (ck (shp (x_names : List Str) = true ∧ shp (x_names : List Str) = true)) fun _ => some (decide (x_names = x_names)) else some false) fun j204 => some j204))
def sp_right (K : PySem.W.Frag) : Sp := fun vs H Q _ => ∃ (B : Hp) (v_names : V) (x_names : List Str) (v_one : V) (x_one : List Int) (v_other : V) (x_other : List Int) (r : Bool), vs = [v_names, v_one, v_other] ∧ Ws [] B H B H [] ∧ Rp.R B v_names x_names ∧ Rp.R B v_one x_one ∧ Rp.R B v_other x_other ∧ m_right x_names x_one x_other = some r ∧ ∀ w B' H', Ws [] B H B' H' [] → Rp.R B' w r → Q w H'
abbrev s_right : Stmt := top 19
theorem sc_right : FnScope ["_law_names", "_law_one", "_law_other", "_law_order_here", "_law_first", "_law_second", "_law_due", "_law_a", "_law_b"] ["_law_names", "_law_one", "_law_other"] (C8.fnScope s_right) := C8.fnScope_by (by decide +kernel)
theorem ok_right (T : Tx mg) (c_canon : C8.Cal P w K mg base 26 "_law_canon" (sp_canon K 12) []) (c_p_both : C8.Cal P w K mg base 14 "both" (sp_p_both K 12) []) (c_same_tree : C8.Cal P w K mg base 13 "_law_same_tree" (sp_same_tree K 12) []) (c_p_either : C8.Cal P w K mg base 15 "either" (sp_p_either K) []) (c_p_opposite : C8.Cal P w K mg base 13 "opposite" (sp_p_opposite K 12) []) {f : Addr} {fd : FuncData} (F : C8.Def K mg "_law_right" s_right f fd) (b : Binds K fd ["_law_names", "_law_one", "_law_other"] []) : C8.Cal P w K mg base 27 "_law_right" (sp_right K) [] := by
  refine C8.cal0 F b .nil sc_right (fun vs H Q E h => ?_) (fun cdv A outer s H vs Q E hr h => ?_)
  · obtain ⟨B, v_names, x_names, v_one, x_one, v_other, x_other, r, rfl, _⟩ := h
    rfl
  obtain ⟨B, v_names, x_names, v_one, x_one, v_other, x_other, r, rfl, W, r_names, r_one, r_other, h, k⟩ := h
  refine ⟨_, (pss_cons (ps_set (i := 3) sc_right.nd rfl (Or.inl rfl) (pe_callTy (k_list (K := K)) (by rfl) T.b_list (by decide +kernel) (pa_cons (pv 0) pa_nil))) (pss_cons (ps_set (i := 4) sc_right.nd rfl (Or.inl rfl) (C8.pe_c c_canon hr (by omega) (by rfl) (pa_cons (pv 0) (pa_cons (pv 1) pa_nil)))) (pss_cons (ps_set (i := 5) sc_right.nd rfl (Or.inl rfl) (C8.pe_c c_canon hr (by omega) (by rfl) (pa_cons (pv 0) (pa_cons (pv 2) pa_nil)))) (pss_cons (ps_set (i := 6) sc_right.nd rfl (Or.inl rfl) (C8.pe_c c_canon hr (by omega) (by rfl) (pa_cons (pv 0) (pa_cons (pe_lc (own := [("_law_a", 7), ("_law_b", 8)]) (g := (gTup K 2 (gCons (gName 7) (gCons (gName 8) gNil)))) (tt := tYes) (by rfl) sc_right.nd (k_piz (K := K) (by rfl) T.b_zip (pa_cons (pv 1) (pa_cons (pv 2) pa_nil))) (blkOk_by (own := [("_law_a", 7), ("_law_b", 8)]) (N := ["_law_names", "_law_one", "_law_other", "_law_order_here", "_law_first", "_law_second", "_law_due", "_law_a", "_law_b"]) (sc := C8.fnScope s_right) (by decide +kernel)) (fun _ _ _ _ _ => (k_gtup (K := K) rfl (pgs_cons (pg_name (i := 7) sc_right.nd rfl (Or.inl rfl)) (pgs_cons (pg_name (i := 8) sc_right.nd rfl (Or.inl rfl)) pgs_nil)))) (fun _ _ _ _ _ => pts_nil) (fun _ _ _ _ _ => (pe_op op_and (pv 7) (pv 8)))) pa_nil)))) (pss_cons (ps_if (pt_not (pt_val (C8.pe_c c_same_tree hr (by omega) (by rfl) (pa_cons (C8.pe_c c_p_both hr (by omega) (by rfl) (pa_cons (pv 3) (pa_cons (pv 4) (pa_cons (pv 5) pa_nil)))) (pa_cons (pv 6) pa_nil))))) (pss_one (ps_ret pe_bl)) pss_nil) (pss_cons (ps_set (i := 6) sc_right.nd rfl (Or.inl rfl) (C8.pe_c c_canon hr (by omega) (by rfl) (pa_cons (pv 0) (pa_cons (pe_lc (own := [("_law_a", 7), ("_law_b", 8)]) (g := (gTup K 2 (gCons (gName 7) (gCons (gName 8) gNil)))) (tt := tYes) (by rfl) sc_right.nd (k_piz (K := K) (by rfl) T.b_zip (pa_cons (pv 1) (pa_cons (pv 2) pa_nil))) (blkOk_by (own := [("_law_a", 7), ("_law_b", 8)]) (N := ["_law_names", "_law_one", "_law_other", "_law_order_here", "_law_first", "_law_second", "_law_due", "_law_a", "_law_b"]) (sc := C8.fnScope s_right) (by decide +kernel)) (fun _ _ _ _ _ => (k_gtup (K := K) rfl (pgs_cons (pg_name (i := 7) sc_right.nd rfl (Or.inl rfl)) (pgs_cons (pg_name (i := 8) sc_right.nd rfl (Or.inl rfl)) pgs_nil)))) (fun _ _ _ _ _ => pts_nil) (fun _ _ _ _ _ => (pe_op op_or (pv 7) (pv 8)))) pa_nil)))) (pss_cons (ps_if (pt_not (pt_val (C8.pe_c c_same_tree hr (by omega) (by rfl) (pa_cons (C8.pe_c c_p_either hr (by omega) (by rfl) (pa_cons (pv 3) (pa_cons (pv 4) (pa_cons (pv 5) pa_nil)))) (pa_cons (pv 6) pa_nil))))) (pss_one (ps_ret pe_bl)) pss_nil) (pss_cons (ps_set (i := 6) sc_right.nd rfl (Or.inl rfl) (C8.pe_c c_canon hr (by omega) (by rfl) (pa_cons (pv 0) (pa_cons (pe_lc (own := [("_law_a", 7)]) (g := (gName 7)) (tt := tYes) (by rfl) sc_right.nd (k_pil (K := K) (pv 1)) (blkOk_by (own := [("_law_a", 7)]) (N := ["_law_names", "_law_one", "_law_other", "_law_order_here", "_law_first", "_law_second", "_law_due", "_law_a", "_law_b"]) (sc := C8.fnScope s_right) (by decide +kernel)) (fun _ _ _ _ _ => (pg_name (i := 7) sc_right.nd rfl (Or.inl rfl))) (fun _ _ _ _ _ => pts_nil) (fun _ _ _ _ _ => (pe_op op_sub pe_int (pv 7)))) pa_nil)))) (pss_one (ps_ret (pe_and (C8.pe_c c_same_tree hr (by omega) (by rfl) (pa_cons (C8.pe_c c_p_opposite hr (by omega) (by rfl) (pa_cons (pv 4) pa_nil)) (pa_cons (pv 6) pa_nil))) (pe_one (pe_cmpR (k_eqD (K := K) hr.units) (pv 3) (pv 0) (nomark _)))))))))))))), ?_⟩
  refine st_ (σ' := [some v_names, some v_one, some v_other, none, none, none, none, none, none]) rfl ?_
  unfold m_right at h
  refine seq_ ?_
  refine asg_ ?_
  refine cb_ ?_
  refine tcons_ ?_
  refine var_ rfl ?_
  refine tnil_ ?_
  refine listL_ W r_names fun v1 B2 H3 W4 l5 r6 => ?_
  refine gset_ (σ' := [some v_names, some v_one, some v_other, some v1, none, none, none, none, none]) rfl ?_
  refine nx_ ?_
  obtain ⟨r8, er8, h⟩ := bs h
  refine seq_ ?_
  refine asg_ ?_
  refine call_ ?_
  refine tcons_ ?_
  refine var_ rfl ?_
  refine tcons_ ?_
  refine var_ rfl ?_
  refine tnil_ ?_
  have L7 := Ws.ln (O1 := []) (O := []) (O2 := []) W4
  refine ⟨B2, v_names, x_names, v_one, x_one, r8, rfl, Ln.call (O1 := []) (O := []) (O2 := []) L7 W4, (Rp.mono l5 r_names), (Rp.mono l5 r_one), er8, fun v9 B10 H11 V12 q13 => ?_⟩
  have W14 := Ws.back (O1 := []) (O := []) (O2 := []) W4 (O' := []) V12
  have l15 := (Ws.bb V12)
  have W14 : Ws [] B H B10 H11 [] := W14
  refine gset_ (σ' := [some v_names, some v_one, some v_other, some v1, some v9, none, none, none, none]) rfl ?_
  refine nx_ ?_
  obtain ⟨r17, er17, h⟩ := bs h
  refine seq_ ?_
  refine asg_ ?_
  refine call_ ?_
  refine tcons_ ?_
  refine var_ rfl ?_
  refine tcons_ ?_
  refine var_ rfl ?_
  refine tnil_ ?_
  have L16 := Ws.ln (O1 := []) (O := []) (O2 := []) W14
  refine ⟨B10, v_names, x_names, v_other, x_other, r17, rfl, Ln.call (O1 := []) (O := []) (O2 := []) L16 W14, (Rp.mono (l5.tr l15) r_names), (Rp.mono (l5.tr l15) r_other), er17, fun v18 B19 H20 V21 q22 => ?_⟩
  have W23 := Ws.back (O1 := []) (O := []) (O2 := []) W14 (O' := []) V21
  have l24 := (Ws.bb V21)
  have W23 : Ws [] B H B19 H20 [] := W23
  refine gset_ (σ' := [some v_names, some v_one, some v_other, some v1, some v9, some v18, none, none, none]) rfl ?_
  refine nx_ ?_
  obtain ⟨q46, h⟩ := cks h
  obtain ⟨r54, er54, h⟩ := bs h
  refine seq_ ?_
  refine asg_ ?_
  refine call_ ?_
  refine tcons_ ?_
  refine var_ rfl ?_
  refine tcons_ ?_
  refine lc_ ?_
  refine izip_ ?_
  refine tcons_ ?_
  refine var_ rfl ?_
  refine tcons_ ?_
  refine var_ rfl ?_
  refine tnil_ ?_
  refine itZ W23 (Rp.mono (l5.tr (l15.tr l24)) r_one) (Rp.mono (l5.tr (l15.tr l24)) r_other) fun a25 b26 tw27 => ?_
  refine lc_m W23 tw27 q46 (fun (x28 : Int × Int) => (Builtin.bitAnd x28.1 x28.2)) (fun x28 v30 B31 H32 D33 acc34 Nx35 l36 W37 r38 k44 => ?_) ?_
  · refine gP_ W37 r38 fun v40 v41 r42 r43 => ?_
    obtain rfl : v40 = V.int x28.1 := r42
    refine gcons_ ?_
    refine gset_ (σ' := [some v_names, some v_one, some v_other, some v1, some v9, some v18, none, some (V.int x28.1), none]) rfl ?_
    obtain rfl : v41 = V.int x28.2 := r43
    refine gcons_ ?_
    refine gset_ (σ' := [some v_names, some v_one, some v_other, some v1, some v9, some v18, none, some (V.int x28.1), some (V.int x28.2)]) rfl ?_
    refine gnil_ ?_
    refine ⟨rfl, ?_⟩
    refine op_ ?_
    refine var_ rfl ?_
    refine var_ rfl ?_
    refine i0_ ?_
    exact k44 _ _ _ (Le.refl _) W37 (show Rp.R B31 (V.int (Builtin.bitAnd x28.1 x28.2)) ((Builtin.bitAnd x28.1 x28.2) : Int) from rfl)
  intro v47 B48 H49 l50 W51 r52
  refine tnil_ ?_
  have L53 := Ws.ln (O1 := []) (O := []) (O2 := []) W51
  refine ⟨B48, v_names, x_names, v47, (List.map (fun (x28 : Int × Int) => (Builtin.bitAnd x28.1 x28.2)) (x_one.zip x_other)), r54, rfl, Ln.call (O1 := []) (O := []) (O2 := []) L53 W51, (Rp.mono (l5.tr (l15.tr (l24.tr l50))) r_names), r52, er54, fun v55 B56 H57 V58 q59 => ?_⟩
  have W60 := Ws.back (O1 := []) (O := []) (O2 := []) W51 (O' := []) V58
  have l61 := (Ws.bb V58)
  have W60 : Ws [] B H B56 H57 [] := W60
  refine gset_ (σ' := [some v_names, some v_one, some v_other, some v1, some v9, some v18, some v55, none, none]) rfl ?_
  refine nx_ ?_
  obtain ⟨r65, er65, h⟩ := bs h
  obtain ⟨r74, er74, h⟩ := bs h
  refine seq_ ?_
  refine if_ (fun v' H' => ∃ B', v' = ((!r74)) ∧ Le B56 B' ∧ Ws [] B H B' H' []) (fun Q62 kk63 => ?_) (fun H83 hw => ?_) (fun H83 hw => ?_)
  · refine tnot_ ?_
    refine tB_ ?_
    refine call_ ?_
    refine tcons_ ?_
    refine call_ ?_
    refine tcons_ ?_
    refine var_ rfl ?_
    refine tcons_ ?_
    refine var_ rfl ?_
    refine tcons_ ?_
    refine var_ rfl ?_
    refine tnil_ ?_
    have L64 := Ws.ln (O1 := []) (O := []) (O2 := []) W60
    refine ⟨B56, v1, x_names, v9, r8, v18, r17, r65, rfl, Ln.call (O1 := []) (O := []) (O2 := []) L64 W60, (Rp.mono (l15.tr (l24.tr (l50.tr l61))) r6), (Rp.mono (l24.tr (l50.tr l61)) q13), (Rp.mono (l50.tr l61) q22), er65, fun v66 B67 H68 V69 q70 => ?_⟩
    have W71 := Ws.back (O1 := []) (O := []) (O2 := []) W60 (O' := []) V69
    have l72 := (Ws.bb V69)
    have W71 : Ws [] B H B67 H68 [] := W71
    refine tcons_ ?_
    refine var_ rfl ?_
    refine tnil_ ?_
    have L73 := Ws.ln (O1 := []) (O := []) (O2 := []) W71
    refine ⟨B67, v66, r65, v55, r54, r74, rfl, Ln.call (O1 := []) (O := []) (O2 := []) L73 W71, q70, (Rp.mono l72 q59), er74, fun v75 B76 H77 V78 q79 => ?_⟩
    have W80 := Ws.back (O1 := []) (O := []) (O2 := []) W71 (O' := []) V78
    have l81 := (Ws.bb V78)
    have W80 : Ws [] B H B76 H77 [] := W80
    obtain rfl : v75 = V.bl r74 := q79
    refine ⟨_, rfl, ?_⟩
    exact kk63 _ _ ⟨B76, rfl, (l72.tr l81), W80⟩
  · obtain ⟨B82, c86, l85, W84⟩ := hw
    have c86 := c86.symm
    have h := opT c86 h
    refine ret_ ?_
    refine cst_ ?_
    rw [← Option.some.inj h] at k
    exact k (V.bl false) B82 H83  W84 rfl 
  · obtain ⟨B82, c86, l85, W84⟩ := hw
    have c86 := c86.symm
    have h := opF c86 h
    refine next_ ?_
    refine nx_ ?_
    obtain ⟨q108, h⟩ := cks h
    obtain ⟨r116, er116, h⟩ := bs h
    refine seq_ ?_
    refine asg_ ?_
    refine call_ ?_
    refine tcons_ ?_
    refine var_ rfl ?_
    refine tcons_ ?_
    refine lc_ ?_
    refine izip_ ?_
    refine tcons_ ?_
    refine var_ rfl ?_
    refine tcons_ ?_
    refine var_ rfl ?_
    refine tnil_ ?_
    refine itZ W84 (Rp.mono (l5.tr (l15.tr (l24.tr (l50.tr (l61.tr l85))))) r_one) (Rp.mono (l5.tr (l15.tr (l24.tr (l50.tr (l61.tr l85))))) r_other) fun a87 b88 tw89 => ?_
    refine lc_m W84 tw89 q108 (fun (x90 : Int × Int) => (Builtin.bitOr x90.1 x90.2)) (fun x90 v92 B93 H94 D95 acc96 Nx97 l98 W99 r100 k106 => ?_) ?_
    · refine gP_ W99 r100 fun v102 v103 r104 r105 => ?_
      obtain rfl : v102 = V.int x90.1 := r104
      refine gcons_ ?_
      refine gset_ (σ' := [some v_names, some v_one, some v_other, some v1, some v9, some v18, some v55, some (V.int x90.1), none]) rfl ?_
      obtain rfl : v103 = V.int x90.2 := r105
      refine gcons_ ?_
      refine gset_ (σ' := [some v_names, some v_one, some v_other, some v1, some v9, some v18, some v55, some (V.int x90.1), some (V.int x90.2)]) rfl ?_
      refine gnil_ ?_
      refine ⟨rfl, ?_⟩
      refine op_ ?_
      refine var_ rfl ?_
      refine var_ rfl ?_
      refine i0_ ?_
      exact k106 _ _ _ (Le.refl _) W99 (show Rp.R B93 (V.int (Builtin.bitOr x90.1 x90.2)) ((Builtin.bitOr x90.1 x90.2) : Int) from rfl)
    intro v109 B110 H111 l112 W113 r114
    refine tnil_ ?_
    have L115 := Ws.ln (O1 := []) (O := []) (O2 := []) W113
    refine ⟨B110, v_names, x_names, v109, (List.map (fun (x90 : Int × Int) => (Builtin.bitOr x90.1 x90.2)) (x_one.zip x_other)), r116, rfl, Ln.call (O1 := []) (O := []) (O2 := []) L115 W113, (Rp.mono (l5.tr (l15.tr (l24.tr (l50.tr (l61.tr (l85.tr l112)))))) r_names), r114, er116, fun v117 B118 H119 V120 q121 => ?_⟩
    have W122 := Ws.back (O1 := []) (O := []) (O2 := []) W113 (O' := []) V120
    have l123 := (Ws.bb V120)
    have W122 : Ws [] B H B118 H119 [] := W122
    refine gset_ (σ' := [some v_names, some v_one, some v_other, some v1, some v9, some v18, some v117, none, none]) rfl ?_
    refine nx_ ?_
    obtain ⟨r127, er127, h⟩ := bs h
    obtain ⟨r136, er136, h⟩ := bs h
    refine seq_ ?_
    refine if_ (fun v' H' => ∃ B', v' = ((!r136)) ∧ Le B118 B' ∧ Ws [] B H B' H' []) (fun Q124 kk125 => ?_) (fun H145 hw => ?_) (fun H145 hw => ?_)
    · refine tnot_ ?_
      refine tB_ ?_
      refine call_ ?_
      refine tcons_ ?_
      refine call_ ?_
      refine tcons_ ?_
      refine var_ rfl ?_
      refine tcons_ ?_
      refine var_ rfl ?_
      refine tcons_ ?_
      refine var_ rfl ?_
      refine tnil_ ?_
      have L126 := Ws.ln (O1 := []) (O := []) (O2 := []) W122
      refine ⟨B118, v1, x_names, v9, r8, v18, r17, r127, rfl, Ln.call (O1 := []) (O := []) (O2 := []) L126 W122, (Rp.mono (l15.tr (l24.tr (l50.tr (l61.tr (l85.tr (l112.tr l123)))))) r6), (Rp.mono (l24.tr (l50.tr (l61.tr (l85.tr (l112.tr l123))))) q13), (Rp.mono (l50.tr (l61.tr (l85.tr (l112.tr l123)))) q22), er127, fun v128 B129 H130 V131 q132 => ?_⟩
      have W133 := Ws.back (O1 := []) (O := []) (O2 := []) W122 (O' := []) V131
      have l134 := (Ws.bb V131)
      have W133 : Ws [] B H B129 H130 [] := W133
      refine tcons_ ?_
      refine var_ rfl ?_
      refine tnil_ ?_
      have L135 := Ws.ln (O1 := []) (O := []) (O2 := []) W133
      refine ⟨B129, v128, r127, v117, r116, r136, rfl, Ln.call (O1 := []) (O := []) (O2 := []) L135 W133, q132, (Rp.mono l134 q121), er136, fun v137 B138 H139 V140 q141 => ?_⟩
      have W142 := Ws.back (O1 := []) (O := []) (O2 := []) W133 (O' := []) V140
      have l143 := (Ws.bb V140)
      have W142 : Ws [] B H B138 H139 [] := W142
      obtain rfl : v137 = V.bl r136 := q141
      refine ⟨_, rfl, ?_⟩
      exact kk125 _ _ ⟨B138, rfl, (l134.tr l143), W142⟩
    · obtain ⟨B144, c148, l147, W146⟩ := hw
      have c148 := c148.symm
      have h := opT c148 h
      refine ret_ ?_
      refine cst_ ?_
      rw [← Option.some.inj h] at k
      exact k (V.bl false) B144 H145  W146 rfl 
    · obtain ⟨B144, c148, l147, W146⟩ := hw
      have c148 := c148.symm
      have h := opF c148 h
      refine next_ ?_
      refine nx_ ?_
      obtain ⟨q165, h⟩ := cks h
      obtain ⟨r173, er173, h⟩ := bs h
      refine seq_ ?_
      refine asg_ ?_
      refine call_ ?_
      refine tcons_ ?_
      refine var_ rfl ?_
      refine tcons_ ?_
      refine lc_ ?_
      refine ilist_ ?_
      refine var_ rfl ?_
      refine itL W146 (Rp.mono (l5.tr (l15.tr (l24.tr (l50.tr (l61.tr (l85.tr (l112.tr (l123.tr l147)))))))) r_one) fun a149 tw150 => ?_
      refine lc_m W146 tw150 q165 (fun (x151 : Int) => ((1 : Int) - x151)) (fun x151 v153 B154 H155 D156 acc157 Nx158 l159 W160 r161 k163 => ?_) ?_
      · obtain rfl : v153 = V.int x151 := r161
        refine gset_ (σ' := [some v_names, some v_one, some v_other, some v1, some v9, some v18, some v117, some (V.int x151), none]) rfl ?_
        refine ⟨rfl, ?_⟩
        refine op_ ?_
        refine cst_ ?_
        refine var_ rfl ?_
        refine i0_ ?_
        exact k163 _ _ _ (Le.refl _) W160 (show Rp.R B154 (V.int ((1 : Int) - x151)) (((1 : Int) - x151) : Int) from rfl)
      intro v166 B167 H168 l169 W170 r171
      refine tnil_ ?_
      have L172 := Ws.ln (O1 := []) (O := []) (O2 := []) W170
      refine ⟨B167, v_names, x_names, v166, (List.map (fun (x151 : Int) => ((1 : Int) - x151)) x_one), r173, rfl, Ln.call (O1 := []) (O := []) (O2 := []) L172 W170, (Rp.mono (l5.tr (l15.tr (l24.tr (l50.tr (l61.tr (l85.tr (l112.tr (l123.tr (l147.tr l169))))))))) r_names), r171, er173, fun v174 B175 H176 V177 q178 => ?_⟩
      have W179 := Ws.back (O1 := []) (O := []) (O2 := []) W170 (O' := []) V177
      have l180 := (Ws.bb V177)
      have W179 : Ws [] B H B175 H176 [] := W179
      refine gset_ (σ' := [some v_names, some v_one, some v_other, some v1, some v9, some v18, some v174, none, none]) rfl ?_
      refine nx_ ?_
      obtain ⟨r184, er184, h⟩ := bs h
      obtain ⟨r193, er193, h⟩ := bs h
      obtain ⟨j204, hj202_, h⟩ := bs h
      refine ret_ ?_
      refine ex_ (fun v' H' => ∃ B', v' = V.bl (j204) ∧ Le B175 B' ∧ Ws [] B H B' H' []) (fun Q181 kk182 => ?_) ?_
      · refine tandV_ ?_
        refine call_ ?_
        refine tcons_ ?_
        refine call_ ?_
        refine tcons_ ?_
        refine var_ rfl ?_
        refine tnil_ ?_
        have L183 := Ws.ln (O1 := []) (O := []) (O2 := []) W179
        refine ⟨B175, v9, r8, r184, rfl, Ln.call (O1 := []) (O := []) (O2 := []) L183 W179, (Rp.mono (l24.tr (l50.tr (l61.tr (l85.tr (l112.tr (l123.tr (l147.tr (l169.tr l180)))))))) q13), er184, fun v185 B186 H187 V188 q189 => ?_⟩
        have W190 := Ws.back (O1 := []) (O := []) (O2 := []) W179 (O' := []) V188
        have l191 := (Ws.bb V188)
        have W190 : Ws [] B H B186 H187 [] := W190
        refine tcons_ ?_
        refine var_ rfl ?_
        refine tnil_ ?_
        have L192 := Ws.ln (O1 := []) (O := []) (O2 := []) W190
        refine ⟨B186, v185, r184, v174, r173, r193, rfl, Ln.call (O1 := []) (O := []) (O2 := []) L192 W190, q189, (Rp.mono l191 q178), er193, fun v194 B195 H196 V197 q198 => ?_⟩
        have W199 := Ws.back (O1 := []) (O := []) (O2 := []) W190 (O' := []) V197
        have l200 := (Ws.bb V197)
        have W199 : Ws [] B H B195 H196 [] := W199
        obtain rfl : v194 = V.bl r193 := q198
        refine ⟨_, rfl, ?_⟩
        refine br_ (fun c201 => ?_) (fun c201 => ?_)
        · have hj202 := opT c201 hj202_
          obtain ⟨q203, hj202⟩ := cks hj202
          refine op_ ?_
          refine var_ rfl ?_
          refine var_ rfl ?_
          refine eqD_ (dat W199 (Rp.mono (l15.tr (l24.tr (l50.tr (l61.tr (l85.tr (l112.tr (l123.tr (l147.tr (l169.tr (l180.tr (l191.tr l200))))))))))) r6) q203.1) (dat W199 (Rp.mono (l5.tr (l15.tr (l24.tr (l50.tr (l61.tr (l85.tr (l112.tr (l123.tr (l147.tr (l169.tr (l180.tr (l191.tr l200)))))))))))) r_names) q203.2) ?_
          exact kk182 _ _ ⟨B195, (congrArg V.bl (Option.some.inj hj202)), (l191.tr l200), W199⟩
        · exact kk182 _ _ ⟨B195, (congrArg V.bl (Option.some.inj (opF c201 hj202_))), (l191.tr l200), W199⟩
      rintro _ H206 ⟨B205, rfl, l208, W207⟩
      rw [← Option.some.inj h] at k
      exact k (V.bl j204) B205 H206  W207 rfl 



def m_law (x_script : Scr) : Option Bool :=
  bd (m_order x_script) fun r2 => bd (atI ([(10 : Int), (2 : Int)] : List Int) (if decide ((6 : Int) < (r2.length : Int)) = true then 1 else 0 : Int)) fun x16 => bd (ck (-(2 ^ 62) ≤ ((1 : Int) + (if (((cutL x_script.l (some (1 : Int)) (some (63 : Int))).length : Int) / (2 : Int)) < x16 then (((cutL x_script.l (some (1 : Int)) (some (63 : Int))).length : Int) / (2 : Int)) else x16)) ∧ ((1 : Int) + (if (((cutL x_script.l (some (1 : Int)) (some (63 : Int))).length : Int) / (2 : Int)) < x16 then (((cutL x_script.l (some (1 : Int)) (some (63 : Int))).length : Int) / (2 : Int)) else x16)) < 2 ^ 62)) fun _ => bd (lp (fun (s27 : Unit) (x35 : Int) => bd (m_number x_script ((1 : Int) + ((2 : Int) * x35))) fun r47 => bd (m_bits r47 (r2.length : Int)) fun r56 => bd (m_number x_script ((2 : Int) + ((2 : Int) * x35))) fun r65 => bd (m_bits r65 (r2.length : Int)) fun r74 => bd (ck (r56.length ≤ sizeLine)) fun _ => bd (some (List.map (fun (x84 : Int) => (1 : Int)) r56)) fun x105 => bd (ck (r56.length ≤ sizeLine)) fun _ => bd (some (List.map (fun (x109 : Int) => (0 : Int)) r56)) fun x130 => bd (ck (r56.length ≤ sizeLine)) fun _ => bd (lp (fun (s163 : Unit) (x166 : List Int) => bd (m_right r2 r56 x166) fun r180 => bd (if (!r180) = true then some true else bd (m_right r2 x166 r56) fun r191 => some ((!r191))) fun j199 => if j199 = true then (some (.rt false)) else (bd (m_turned r56 (r2.length : Int)) fun r208 => bd (m_turned x166 (r2.length : Int)) fun r217 => bd (some ([r208, r217] : List (List Int))) fun x231 => bd (if decide (x35 = (0 : Int)) = true then bd (atI x231 (0 : Int)) fun x243 => bd (atI x231 (1 : Int)) fun x246 => bd (m_right (r2.reverse) x243 x246) fun r250 => some ((!r250)) else some false) fun j258 => if j258 = true then (some (.rt false)) else (bd (if decide (x35 = (0 : Int)) = true then bd (m_right r2 r56 x166) fun r271 => some ((!r271)) else some false) fun j279 => if j279 = true then (some (.rt false)) else (some (.nx ()))))) () ([r74, x105, x130, r56, (List.map (fun (x134 : Int) => ((1 : Int) - x134)) r56)] : List (List Int))) fun fin287 => ctk fin287 (fun s298 => some (.nx ())) (fun r' => some (.rt r'))) () (rng 0 (((1 : Int) + (if (((cutL x_script.l (some (1 : Int)) (some (63 : Int))).length : Int) / (2 : Int)) < x16 then (((cutL x_script.l (some (1 : Int)) (some (63 : Int))).length : Int) / (2 : Int)) else x16)) : Int).toNat)) fun fin301 => ctk fin301 (fun s312 => some true) (fun r' => some r')
def sp_law (K : PySem.W.Frag) : Sp := fun vs H Q _ => ∃ (B : Hp) (v_script : V) (x_script : Scr) (r : Bool), vs = [v_script] ∧ Ws [] B H B H [] ∧ RC K B v_script x_script ∧ m_law x_script = some r ∧ ∀ w B' H', Ws [] B H B' H' [] → Rp.R B' w r → Q w H'
abbrev s_law : Stmt := top 20
theorem sc_law : FnScope ["_law_script", "_law_names", "_law_k", "_law_one", "_law_other", "_law_full", "_law_none", "_law_some", "_law_back", "_law_bit"] ["_law_script"] (C8.fnScope s_law) := C8.fnScope_by (by decide +kernel)
theorem ok_law (T : Tx mg) (c_order : C8.Cal P w K mg base 3 "_law_order" (sp_order K) []) (c_number : C8.Cal P w K mg base 3 "_law_number" (sp_number K) []) (c_bits : C8.Cal P w K mg base 1 "_law_bits" (sp_bits K) []) (c_right : C8.Cal P w K mg base 27 "_law_right" (sp_right K) []) (c_turned : C8.Cal P w K mg base 1 "_law_turned" (sp_turned K) []) {f : Addr} {fd : FuncData} (F : C8.Fun K "law" "law" s_law f fd) : FnOk P w K mg base C8.CX0 28 f fd ["_law_script"] (sp_law K) := by
  refine C8.fn0 F sc_law (fun vs H Q E h => ?_) (fun cdv A outer s H vs Q E hr h => ?_)
  · obtain ⟨B, v_script, x_script, r, rfl, _⟩ := h
    rfl
  obtain ⟨B, v_script, x_script, r, rfl, W, r_script, h, k⟩ := h
  refine ⟨_, (pss_cons (ps_set (i := 1) sc_law.nd rfl (Or.inl rfl) (C8.pe_c c_order hr (by omega) (by rfl) (pa_cons (pv 0) pa_nil))) (pss_cons (ps_for PassesOwn.never rfl (pi_range1 (by rfl) T.b_range (pa_cons (pe_op op_add pe_int (pe_callB (k_min rfl) (by rfl) T.b_min (by decide +kernel) (pa_cons (pe_ix (k_ixL (K := K)) (pe_lst (pa_cons pe_int (pa_cons pe_int pa_nil))) (pe_callTy k_int (by rfl) T.b_int (by decide +kernel) (pa_cons (pe_cmpR op_gt (pe_callB (k_len (K := K)) (by rfl) T.b_len (by decide +kernel) (pa_cons (pv 1) pa_nil)) pe_int (nomark _)) pa_nil)) (fun _ _ => rfl)) (pa_cons (pe_op op_fdiv (pe_callB (k_len (K := K)) (by rfl) T.b_len (by decide +kernel) (pa_cons (pe_slice (k_slL (K := K)) (pv 0) (po_some pe_int) (po_some pe_int)) pa_nil)) pe_int) pa_nil)))) pa_nil)) (pg_name (i := 2) sc_law.nd rfl (Or.inl rfl)) (pss_cons (ps_set (i := 3) sc_law.nd rfl (Or.inl rfl) (C8.pe_c c_bits hr (by omega) (by rfl) (pa_cons (C8.pe_c c_number hr (by omega) (by rfl) (pa_cons (pv 0) (pa_cons (pe_op op_add pe_int (pe_op op_mul pe_int (pv 2))) pa_nil))) (pa_cons (pe_callB (k_len (K := K)) (by rfl) T.b_len (by decide +kernel) (pa_cons (pv 1) pa_nil)) pa_nil)))) (pss_cons (ps_set (i := 4) sc_law.nd rfl (Or.inl rfl) (C8.pe_c c_bits hr (by omega) (by rfl) (pa_cons (C8.pe_c c_number hr (by omega) (by rfl) (pa_cons (pv 0) (pa_cons (pe_op op_add pe_int (pe_op op_mul pe_int (pv 2))) pa_nil))) (pa_cons (pe_callB (k_len (K := K)) (by rfl) T.b_len (by decide +kernel) (pa_cons (pv 1) pa_nil)) pa_nil)))) (pss_cons (ps_setLc (i := 5) (own := [("_law_bit", 9)]) (g := (gName 9)) (tt := tYes) (by rfl) sc_law.nd rfl rfl (sw_true rfl rfl rfl (by decide +kernel)) (k_pil (K := K) (pv 3)) (blkOk_by (own := [("_law_bit", 9)]) (N := ["_law_script", "_law_names", "_law_k", "_law_one", "_law_other", "_law_full", "_law_none", "_law_some", "_law_back", "_law_bit"]) (sc := C8.fnScope s_law) (by decide +kernel)) (fun _ _ _ _ _ => (pg_name (i := 9) sc_law.nd rfl (Or.inl rfl))) (fun _ _ _ _ _ => pts_nil) (fun _ _ _ _ _ => pe_int)) (pss_cons (ps_setLc (i := 6) (own := [("_law_bit", 9)]) (g := (gName 9)) (tt := tYes) (by rfl) sc_law.nd rfl rfl (sw_true rfl rfl rfl (by decide +kernel)) (k_pil (K := K) (pv 3)) (blkOk_by (own := [("_law_bit", 9)]) (N := ["_law_script", "_law_names", "_law_k", "_law_one", "_law_other", "_law_full", "_law_none", "_law_some", "_law_back", "_law_bit"]) (sc := C8.fnScope s_law) (by decide +kernel)) (fun _ _ _ _ _ => (pg_name (i := 9) sc_law.nd rfl (Or.inl rfl))) (fun _ _ _ _ _ => pts_nil) (fun _ _ _ _ _ => pe_int)) (pss_one (ps_for PassesOwn.never rfl (k_pil (K := K) (pe_lst (pa_cons (pv 4) (pa_cons (pv 5) (pa_cons (pv 6) (pa_cons (pv 3) (pa_cons (pe_lc (own := [("_law_bit", 9)]) (g := (gName 9)) (tt := tYes) (by rfl) sc_law.nd (k_pil (K := K) (pv 3)) (blkOk_by (own := [("_law_bit", 9)]) (N := ["_law_script", "_law_names", "_law_k", "_law_one", "_law_other", "_law_full", "_law_none", "_law_some", "_law_back", "_law_bit"]) (sc := C8.fnScope s_law) (by decide +kernel)) (fun _ _ _ _ _ => (pg_name (i := 9) sc_law.nd rfl (Or.inl rfl))) (fun _ _ _ _ _ => pts_nil) (fun _ _ _ _ _ => (pe_op op_sub pe_int (pv 9)))) pa_nil))))))) (pg_name (i := 7) sc_law.nd rfl (Or.inl rfl)) (pss_cons (ps_if (PW.pt (pw_or (pt_not (pt_val (C8.pe_c c_right hr (by omega) (by rfl) (pa_cons (pv 1) (pa_cons (pv 3) (pa_cons (pv 7) pa_nil)))))) (pw_or1 (pt_not (pt_val (C8.pe_c c_right hr (by omega) (by rfl) (pa_cons (pv 1) (pa_cons (pv 7) (pa_cons (pv 3) pa_nil))))))))) (pss_one (ps_ret pe_bl)) pss_nil) (pss_cons (ps_set (i := 8) sc_law.nd rfl (Or.inl rfl) (pe_lst (pa_cons (C8.pe_c c_turned hr (by omega) (by rfl) (pa_cons (pv 3) (pa_cons (pe_callB (k_len (K := K)) (by rfl) T.b_len (by decide +kernel) (pa_cons (pv 1) pa_nil)) pa_nil))) (pa_cons (C8.pe_c c_turned hr (by omega) (by rfl) (pa_cons (pv 7) (pa_cons (pe_callB (k_len (K := K)) (by rfl) T.b_len (by decide +kernel) (pa_cons (pv 1) pa_nil)) pa_nil))) pa_nil)))) (pss_cons (ps_if (PW.pt (pw_and (pt_cmpR op_eq (pv 2) pe_int (nomark _)) (pw_and1 (pt_not (pt_val (C8.pe_c c_right hr (by omega) (by rfl) (pa_cons (PvRev.pe_listRev (K := K) rfl (by rfl) T.b_list (by rfl) T.b_reversed (pv 1)) (pa_cons (pe_ix (k_ixL (K := K)) (pv 8) pe_int (fun _ _ => rfl)) (pa_cons (pe_ix (k_ixL (K := K)) (pv 8) pe_int (fun _ _ => rfl)) pa_nil))))))))) (pss_one (ps_ret pe_bl)) pss_nil) (pss_one (ps_if (PW.pt (pw_and (pt_cmpR op_eq (pv 2) pe_int (nomark _)) (pw_and1 (pt_not (pt_val (C8.pe_c c_right hr (by omega) (by rfl) (pa_cons (pv 1) (pa_cons (pv 3) (pa_cons (pv 7) pa_nil))))))))) (pss_one (ps_ret pe_bl)) pss_nil)))))))))))) (pss_one (ps_ret pe_bl)))), ?_⟩
  refine st_ (σ' := [some v_script, none, none, none, none, none, none, none, none, none]) rfl ?_
  unfold m_law at h
  obtain ⟨r2, er2, h⟩ := bs h
  refine seq_ ?_
  refine asg_ ?_
  refine call_ ?_
  refine tcons_ ?_
  refine var_ rfl ?_
  refine tnil_ ?_
  have L1 := Ws.ln (O1 := []) (O := []) (O2 := []) W
  refine ⟨B, v_script, x_script, r2, rfl, Ln.call (O1 := []) (O := []) (O2 := []) L1 W, r_script, er2, fun v3 B4 H5 V6 q7 => ?_⟩
  have W8 := Ws.back (O1 := []) (O := []) (O2 := []) W (O' := []) V6
  have l9 := (Ws.bb V6)
  have W8 : Ws [] B H B4 H5 [] := W8
  refine gset_ (σ' := [some v_script, some v3, none, none, none, none, none, none, none, none]) rfl ?_
  refine nx_ ?_
  obtain ⟨x16, ex16, h⟩ := bs h
  obtain ⟨q26, h⟩ := cks h
  obtain ⟨fin301, hx303, h⟩ := bs h
  refine seq_ ?_
  refine for_ ?_
  refine irng1_ ?_
  refine tcons_ ?_
  refine op_ ?_
  refine cst_ ?_
  refine cb_ ?_
  refine tcons_ ?_
  refine op_ ?_
  refine lst_ ?_
  refine tcons_ ?_
  refine cst_ ?_
  refine tcons_ ?_
  refine cst_ ?_
  refine tnil_ ?_
  refine mkL (xs := ([(10 : Int), (2 : Int)] : List Int)) W8 (.cons (show Rp.R B4 (V.int (10 : Int)) ((10 : Int) : Int) from rfl) (.cons (show Rp.R B4 (V.int (2 : Int)) ((2 : Int) : Int) from rfl) .nil)) (by show 2 ≤ sizeLine; decide) fun v10 B11 H12 W13 l14 r15 => ?_
  refine cb_ ?_
  refine tcons_ ?_
  refine op_ ?_
  refine cb_ ?_
  refine tcons_ ?_
  refine var_ rfl ?_
  refine tnil_ ?_
  refine lenL_ W13 (Rp.mono l14 q7) ?_
  refine cst_ ?_
  refine i0_ ?_
  refine tnil_ ?_
  refine int_bl ?_
  refine ixL_ W13 r15 ex16 fun v17 r18 => ?_
  obtain rfl : v17 = V.int x16 := r18
  refine tcons_ ?_
  refine op_ ?_
  refine cb_ ?_
  refine tcons_ ?_
  refine sl_ ?_
  refine var_ rfl ?_
  refine part_ ?_
  refine cst_ ?_
  refine ⟨_, rfl, ?_⟩
  refine part_ ?_
  refine cst_ ?_
  refine ⟨_, rfl, ?_⟩
  refine slC_ W13 (RC.mono (l9.tr l14) r_script) fun v19 B20 H21 W22 l23 r24 => ?_
  refine tnil_ ?_
  refine lenL_ W22 r24 ?_
  refine cst_ ?_
  refine iC_ ⟨by decide, by decide⟩ ?_
  refine tnil_ ?_
  refine min2_ ?_
  refine i0_ ?_
  refine tnil_ ?_
  refine itR1 (B := B20) q26 fun tw25 => ?_
  refine for_t W22 tw25 (fun (s27 : Unit) (x35 : Int) => bd (m_number x_script ((1 : Int) + ((2 : Int) * x35))) fun r47 => bd (m_bits r47 (r2.length : Int)) fun r56 => bd (m_number x_script ((2 : Int) + ((2 : Int) * x35))) fun r65 => bd (m_bits r65 (r2.length : Int)) fun r74 => bd (ck (r56.length ≤ sizeLine)) fun _ => bd (some (List.map (fun (x84 : Int) => (1 : Int)) r56)) fun x105 => bd (ck (r56.length ≤ sizeLine)) fun _ => bd (some (List.map (fun (x109 : Int) => (0 : Int)) r56)) fun x130 => bd (ck (r56.length ≤ sizeLine)) fun _ => bd (lp (fun (s163 : Unit) (x166 : List Int) => bd (m_right r2 r56 x166) fun r180 => bd (if (!r180) = true then some true else bd (m_right r2 x166 r56) fun r191 => some ((!r191))) fun j199 => if j199 = true then (some (.rt false)) else (bd (m_turned r56 (r2.length : Int)) fun r208 => bd (m_turned x166 (r2.length : Int)) fun r217 => bd (some ([r208, r217] : List (List Int))) fun x231 => bd (if decide (x35 = (0 : Int)) = true then bd (atI x231 (0 : Int)) fun x243 => bd (atI x231 (1 : Int)) fun x246 => bd (m_right (r2.reverse) x243 x246) fun r250 => some ((!r250)) else some false) fun j258 => if j258 = true then (some (.rt false)) else (bd (if decide (x35 = (0 : Int)) = true then bd (m_right r2 r56 x166) fun r271 => some ((!r271)) else some false) fun j279 => if j279 = true then (some (.rt false)) else (some (.nx ()))))) () ([r74, x105, x130, r56, (List.map (fun (x134 : Int) => ((1 : Int) - x134)) r56)] : List (List Int))) fun fin287 => ctk fin287 (fun s298 => some (.nx ())) (fun r' => some (.rt r'))) hx303 (fun s σ O B => ∃ (u0' : Option V) (u1' : Option V) (u2' : Option V) (u3' : Option V) (u4' : Option V) (u5' : Option V) (u6' : Option V), σ = [some v_script, some v3, u0', u1', u2', u3', u4', u5', u6', none] ∧ O = []) (by rintro _ _ _ _ _ m' ⟨e0', e1', e2', e3', e4', e5', e6', a', b'⟩; exact ⟨e0', e1', e2', e3', e4', e5', e6', a', b'⟩) ⟨none, none, none, none, none, none, none, rfl, rfl⟩ (fun s27 x35 c306 v36 σ' O39 B37 H38 l41 W40 i' r42 hs43 hb44 hr45 => ?_) ?_
  · obtain ⟨u28, u29, u30, u31, u32, u33, u34, rfl, rfl⟩ := i'
    have W40 : Ws [] B H B37 H38 [] := W40
    obtain rfl : v36 = V.int x35 := r42
    refine gset_ (σ' := [some v_script, some v3, some (V.int x35), u29, u30, u31, u32, u33, u34, none]) rfl ?_
    obtain ⟨r47, er47, hs43⟩ := bs hs43
    obtain ⟨r56, er56, hs43⟩ := bs hs43
    refine seq_ ?_
    refine asg_ ?_
    refine call_ ?_
    refine tcons_ ?_
    refine call_ ?_
    refine tcons_ ?_
    refine var_ rfl ?_
    refine tcons_ ?_
    refine op_ ?_
    refine cst_ ?_
    refine op_ ?_
    refine cst_ ?_
    refine var_ rfl ?_
    refine iC_ (.inl ⟨by decide, by decide⟩) ?_
    refine i0_ ?_
    refine tnil_ ?_
    have L46 := Ws.ln (O1 := []) (O := []) (O2 := []) W40
    refine ⟨B37, v_script, x_script, ((1 : Int) + ((2 : Int) * x35)), r47, rfl, Ln.call (O1 := []) (O := []) (O2 := []) L46 W40, (RC.mono (l9.tr (l14.tr (l23.tr l41))) r_script), er47, fun v48 B49 H50 V51 q52 => ?_⟩
    have W53 := Ws.back (O1 := []) (O := []) (O2 := []) W40 (O' := []) V51
    have l54 := (Ws.bb V51)
    have W53 : Ws [] B H B49 H50 [] := W53
    obtain rfl : v48 = V.int r47 := q52
    refine tcons_ ?_
    refine cb_ ?_
    refine tcons_ ?_
    refine var_ rfl ?_
    refine tnil_ ?_
    refine lenL_ W53 (Rp.mono (l14.tr (l23.tr (l41.tr l54))) q7) ?_
    refine tnil_ ?_
    have L55 := Ws.ln (O1 := []) (O := []) (O2 := []) W53
    refine ⟨B49, r47, (r2.length : Int), r56, rfl, Ln.call (O1 := []) (O := []) (O2 := []) L55 W53, er56, fun v57 B58 H59 V60 q61 => ?_⟩
    have W62 := Ws.back (O1 := []) (O := []) (O2 := []) W53 (O' := []) V60
    have l63 := (Ws.bb V60)
    have W62 : Ws [] B H B58 H59 [] := W62
    refine gset_ (σ' := [some v_script, some v3, some (V.int x35), some v57, u30, u31, u32, u33, u34, none]) rfl ?_
    refine nx_ ?_
    obtain ⟨r65, er65, hs43⟩ := bs hs43
    obtain ⟨r74, er74, hs43⟩ := bs hs43
    refine seq_ ?_
    refine asg_ ?_
    refine call_ ?_
    refine tcons_ ?_
    refine call_ ?_
    refine tcons_ ?_
    refine var_ rfl ?_
    refine tcons_ ?_
    refine op_ ?_
    refine cst_ ?_
    refine op_ ?_
    refine cst_ ?_
    refine var_ rfl ?_
    refine iC_ (.inl ⟨by decide, by decide⟩) ?_
    refine i0_ ?_
    refine tnil_ ?_
    have L64 := Ws.ln (O1 := []) (O := []) (O2 := []) W62
    refine ⟨B58, v_script, x_script, ((2 : Int) + ((2 : Int) * x35)), r65, rfl, Ln.call (O1 := []) (O := []) (O2 := []) L64 W62, (RC.mono (l9.tr (l14.tr (l23.tr (l41.tr (l54.tr l63))))) r_script), er65, fun v66 B67 H68 V69 q70 => ?_⟩
    have W71 := Ws.back (O1 := []) (O := []) (O2 := []) W62 (O' := []) V69
    have l72 := (Ws.bb V69)
    have W71 : Ws [] B H B67 H68 [] := W71
    obtain rfl : v66 = V.int r65 := q70
    refine tcons_ ?_
    refine cb_ ?_
    refine tcons_ ?_
    refine var_ rfl ?_
    refine tnil_ ?_
    refine lenL_ W71 (Rp.mono (l14.tr (l23.tr (l41.tr (l54.tr (l63.tr l72))))) q7) ?_
    refine tnil_ ?_
    have L73 := Ws.ln (O1 := []) (O := []) (O2 := []) W71
    refine ⟨B67, r65, (r2.length : Int), r74, rfl, Ln.call (O1 := []) (O := []) (O2 := []) L73 W71, er74, fun v75 B76 H77 V78 q79 => ?_⟩
    have W80 := Ws.back (O1 := []) (O := []) (O2 := []) W71 (O' := []) V78
    have l81 := (Ws.bb V78)
    have W80 : Ws [] B H B76 H77 [] := W80
    refine gset_ (σ' := [some v_script, some v3, some (V.int x35), some v57, some v75, u31, u32, u33, u34, none]) rfl ?_
    refine nx_ ?_
    obtain ⟨q98, hs43⟩ := cks hs43
    obtain ⟨x105, ex105, hs43⟩ := bs hs43
    refine seq_ ?_
    refine asg_ ?_
    refine lc_ ?_
    refine ilist_ ?_
    refine var_ rfl ?_
    refine itL W80 (Rp.mono (l72.tr l81) q61) fun a82 tw83 => ?_
    refine lc_m W80 tw83 q98 (fun (x84 : Int) => (1 : Int)) (fun x84 v86 B87 H88 D89 acc90 Nx91 l92 W93 r94 k96 => ?_) ?_
    · obtain rfl : v86 = V.int x84 := r94
      refine gset_ (σ' := [some v_script, some v3, some (V.int x35), some v57, some v75, u31, u32, u33, u34, some (V.int x84)]) rfl ?_
      refine ⟨rfl, ?_⟩
      refine cst_ ?_
      exact k96 _ _ _ (Le.refl _) W93 (show Rp.R B87 (V.int (1 : Int)) ((1 : Int) : Int) from rfl)
    intro v99 B100 H101 l102 W103 r104
    have r106 : Rp.R B100 v99 (x105 : List Int) := Option.some.inj ex105 ▸ r104
    refine gset_ (σ' := [some v_script, some v3, some (V.int x35), some v57, some v75, some v99, u32, u33, u34, none]) rfl ?_
    refine nx_ ?_
    obtain ⟨q123, hs43⟩ := cks hs43
    obtain ⟨x130, ex130, hs43⟩ := bs hs43
    refine seq_ ?_
    refine asg_ ?_
    refine lc_ ?_
    refine ilist_ ?_
    refine var_ rfl ?_
    refine itL W103 (Rp.mono (l72.tr (l81.tr l102)) q61) fun a107 tw108 => ?_
    refine lc_m W103 tw108 q123 (fun (x109 : Int) => (0 : Int)) (fun x109 v111 B112 H113 D114 acc115 Nx116 l117 W118 r119 k121 => ?_) ?_
    · obtain rfl : v111 = V.int x109 := r119
      refine gset_ (σ' := [some v_script, some v3, some (V.int x35), some v57, some v75, some v99, u32, u33, u34, some (V.int x109)]) rfl ?_
      refine ⟨rfl, ?_⟩
      refine cst_ ?_
      exact k121 _ _ _ (Le.refl _) W118 (show Rp.R B112 (V.int (0 : Int)) ((0 : Int) : Int) from rfl)
    intro v124 B125 H126 l127 W128 r129
    have r131 : Rp.R B125 v124 (x130 : List Int) := Option.some.inj ex130 ▸ r129
    refine gset_ (σ' := [some v_script, some v3, some (V.int x35), some v57, some v75, some v99, some v124, u33, u34, none]) rfl ?_
    refine nx_ ?_
    obtain ⟨q148, hs43⟩ := cks hs43
    obtain ⟨fin287, hx289, hs43⟩ := bs hs43
    refine for_ ?_
    refine ilist_ ?_
    refine lst_ ?_
    refine tcons_ ?_
    refine var_ rfl ?_
    refine tcons_ ?_
    refine var_ rfl ?_
    refine tcons_ ?_
    refine var_ rfl ?_
    refine tcons_ ?_
    refine var_ rfl ?_
    refine tcons_ ?_
    refine lc_ ?_
    refine ilist_ ?_
    refine var_ rfl ?_
    refine itL W128 (Rp.mono (l72.tr (l81.tr (l102.tr l127))) q61) fun a132 tw133 => ?_
    refine lc_m W128 tw133 q148 (fun (x134 : Int) => ((1 : Int) - x134)) (fun x134 v136 B137 H138 D139 acc140 Nx141 l142 W143 r144 k146 => ?_) ?_
    · obtain rfl : v136 = V.int x134 := r144
      refine gset_ (σ' := [some v_script, some v3, some (V.int x35), some v57, some v75, some v99, some v124, u33, u34, some (V.int x134)]) rfl ?_
      refine ⟨rfl, ?_⟩
      refine op_ ?_
      refine cst_ ?_
      refine var_ rfl ?_
      refine i0_ ?_
      exact k146 _ _ _ (Le.refl _) W143 (show Rp.R B137 (V.int ((1 : Int) - x134)) (((1 : Int) - x134) : Int) from rfl)
    intro v149 B150 H151 l152 W153 r154
    refine tnil_ ?_
    refine mkL (xs := ([r74, x105, x130, r56, (List.map (fun (x134 : Int) => ((1 : Int) - x134)) r56)] : List (List Int))) W153 (.cons (Rp.mono (l102.tr (l127.tr l152)) q79) (.cons (Rp.mono (l127.tr l152) r106) (.cons (Rp.mono l152 r131) (.cons (Rp.mono (l72.tr (l81.tr (l102.tr (l127.tr l152)))) q61) (.cons r154 .nil))))) (by show 5 ≤ sizeLine; decide) fun v155 B156 H157 W158 l159 r160 => ?_
    refine itL W158 r160 fun a161 tw162 => ?_
    refine for_t W158 tw162 (fun (s163 : Unit) (x166 : List Int) => bd (m_right r2 r56 x166) fun r180 => bd (if (!r180) = true then some true else bd (m_right r2 x166 r56) fun r191 => some ((!r191))) fun j199 => if j199 = true then (some (.rt false)) else (bd (m_turned r56 (r2.length : Int)) fun r208 => bd (m_turned x166 (r2.length : Int)) fun r217 => bd (some ([r208, r217] : List (List Int))) fun x231 => bd (if decide (x35 = (0 : Int)) = true then bd (atI x231 (0 : Int)) fun x243 => bd (atI x231 (1 : Int)) fun x246 => bd (m_right (r2.reverse) x243 x246) fun r250 => some ((!r250)) else some false) fun j258 => if j258 = true then (some (.rt false)) else (bd (if decide (x35 = (0 : Int)) = true then bd (m_right r2 r56 x166) fun r271 => some ((!r271)) else some false) fun j279 => if j279 = true then (some (.rt false)) else (some (.nx ()))))) hx289 (fun s σ O B => ∃ (u0' : Option V) (u1' : Option V), σ = [some v_script, some v3, some (V.int x35), some v57, some v75, some v99, some v124, u0', u1', none] ∧ O = []) (by rintro _ _ _ _ _ m' ⟨e0', e1', a', b'⟩; exact ⟨e0', e1', a', b'⟩) ⟨u33, u34, rfl, rfl⟩ (fun s163 x166 c292 v167 σ' O170 B168 H169 l172 W171 i' r173 hs174 hb175 hr176 => ?_) ?_
    · obtain ⟨u164, u165, rfl, rfl⟩ := i'
      have W171 : Ws [] B H B168 H169 [] := W171
      refine gset_ (σ' := [some v_script, some v3, some (V.int x35), some v57, some v75, some v99, some v124, some v167, u165, none]) rfl ?_
      obtain ⟨r180, er180, hs174⟩ := bs hs174
      obtain ⟨j199, hj189_, hs174⟩ := bs hs174
      refine seq_ ?_
      refine if_ (fun v' H' => ∃ B', v' = (j199) ∧ Le B168 B' ∧ Ws [] B H B' H' []) (fun Q177 kk178 => ?_) (fun H201 hw => ?_) (fun H201 hw => ?_)
      · refine tor_ ?_
        refine tnot_ ?_
        refine tB_ ?_
        refine call_ ?_
        refine tcons_ ?_
        refine var_ rfl ?_
        refine tcons_ ?_
        refine var_ rfl ?_
        refine tcons_ ?_
        refine var_ rfl ?_
        refine tnil_ ?_
        have L179 := Ws.ln (O1 := []) (O := []) (O2 := []) W171
        refine ⟨B168, v3, r2, v57, r56, v167, x166, r180, rfl, Ln.call (O1 := []) (O := []) (O2 := []) L179 W171, (Rp.mono (l14.tr (l23.tr (l41.tr (l54.tr (l63.tr (l72.tr (l81.tr (l102.tr (l127.tr (l152.tr (l159.tr l172))))))))))) q7), (Rp.mono (l72.tr (l81.tr (l102.tr (l127.tr (l152.tr (l159.tr l172)))))) q61), r173, er180, fun v181 B182 H183 V184 q185 => ?_⟩
        have W186 := Ws.back (O1 := []) (O := []) (O2 := []) W171 (O' := []) V184
        have l187 := (Ws.bb V184)
        have W186 : Ws [] B H B182 H183 [] := W186
        obtain rfl : v181 = V.bl r180 := q185
        refine ⟨_, rfl, ?_⟩
        refine br_ (fun c188 => ?_) (fun c188 => ?_)
        · exact kk178 _ _ ⟨B182, (Option.some.inj (opT c188 hj189_)), l187, W186⟩
        · have hj189 := opF c188 hj189_
          obtain ⟨r191, er191, hj189⟩ := bs hj189
          refine tnot_ ?_
          refine tB_ ?_
          refine call_ ?_
          refine tcons_ ?_
          refine var_ rfl ?_
          refine tcons_ ?_
          refine var_ rfl ?_
          refine tcons_ ?_
          refine var_ rfl ?_
          refine tnil_ ?_
          have L190 := Ws.ln (O1 := []) (O := []) (O2 := []) W186
          refine ⟨B182, v3, r2, v167, x166, v57, r56, r191, rfl, Ln.call (O1 := []) (O := []) (O2 := []) L190 W186, (Rp.mono (l14.tr (l23.tr (l41.tr (l54.tr (l63.tr (l72.tr (l81.tr (l102.tr (l127.tr (l152.tr (l159.tr (l172.tr l187)))))))))))) q7), (Rp.mono l187 r173), (Rp.mono (l72.tr (l81.tr (l102.tr (l127.tr (l152.tr (l159.tr (l172.tr l187))))))) q61), er191, fun v192 B193 H194 V195 q196 => ?_⟩
          have W197 := Ws.back (O1 := []) (O := []) (O2 := []) W186 (O' := []) V195
          have l198 := (Ws.bb V195)
          have W197 : Ws [] B H B193 H194 [] := W197
          obtain rfl : v192 = V.bl r191 := q196
          refine ⟨_, rfl, ?_⟩
          exact kk178 _ _ ⟨B193, (Option.some.inj hj189), (l187.tr l198), W197⟩
      · obtain ⟨B200, c204, l203, W202⟩ := hw
        have c204 := c204.symm
        have hs174 := opT c204 hs174
        refine ret_ ?_
        refine cst_ ?_
        obtain rfl := Option.some.inj hs174
        have hf205 := hr176 _ rfl
        subst hf205
        have hs43 := ct_rt hs43
        obtain rfl := Option.some.inj hs43
        have hf206 := hr45 _ rfl
        subst hf206
        have h := ct_rt h
        rw [← Option.some.inj h] at k
        exact k (V.bl false) B200 H201  W202 rfl 
      · obtain ⟨B200, c204, l203, W202⟩ := hw
        have c204 := c204.symm
        have hs174 := opF c204 hs174
        refine next_ ?_
        refine nx_ ?_
        obtain ⟨r208, er208, hs174⟩ := bs hs174
        obtain ⟨r217, er217, hs174⟩ := bs hs174
        obtain ⟨x231, ex231, hs174⟩ := bs hs174
        refine seq_ ?_
        refine asg_ ?_
        refine lst_ ?_
        refine tcons_ ?_
        refine call_ ?_
        refine tcons_ ?_
        refine var_ rfl ?_
        refine tcons_ ?_
        refine cb_ ?_
        refine tcons_ ?_
        refine var_ rfl ?_
        refine tnil_ ?_
        refine lenL_ W202 (Rp.mono (l14.tr (l23.tr (l41.tr (l54.tr (l63.tr (l72.tr (l81.tr (l102.tr (l127.tr (l152.tr (l159.tr (l172.tr l203)))))))))))) q7) ?_
        refine tnil_ ?_
        have L207 := Ws.ln (O1 := []) (O := []) (O2 := []) W202
        refine ⟨B200, v57, r56, (r2.length : Int), r208, rfl, Ln.call (O1 := []) (O := []) (O2 := []) L207 W202, (Rp.mono (l72.tr (l81.tr (l102.tr (l127.tr (l152.tr (l159.tr (l172.tr l203))))))) q61), er208, fun v209 B210 H211 V212 q213 => ?_⟩
        have W214 := Ws.back (O1 := []) (O := []) (O2 := []) W202 (O' := []) V212
        have l215 := (Ws.bb V212)
        have W214 : Ws [] B H B210 H211 [] := W214
        refine tcons_ ?_
        refine call_ ?_
        refine tcons_ ?_
        refine var_ rfl ?_
        refine tcons_ ?_
        refine cb_ ?_
        refine tcons_ ?_
        refine var_ rfl ?_
        refine tnil_ ?_
        refine lenL_ W214 (Rp.mono (l14.tr (l23.tr (l41.tr (l54.tr (l63.tr (l72.tr (l81.tr (l102.tr (l127.tr (l152.tr (l159.tr (l172.tr (l203.tr l215))))))))))))) q7) ?_
        refine tnil_ ?_
        have L216 := Ws.ln (O1 := []) (O := []) (O2 := []) W214
        refine ⟨B210, v167, x166, (r2.length : Int), r217, rfl, Ln.call (O1 := []) (O := []) (O2 := []) L216 W214, (Rp.mono (l203.tr l215) r173), er217, fun v218 B219 H220 V221 q222 => ?_⟩
        have W223 := Ws.back (O1 := []) (O := []) (O2 := []) W214 (O' := []) V221
        have l224 := (Ws.bb V221)
        have W223 : Ws [] B H B219 H220 [] := W223
        refine tnil_ ?_
        refine mkL (xs := ([r208, r217] : List (List Int))) W223 (.cons (Rp.mono l224 q213) (.cons q222 .nil)) (by show 2 ≤ sizeLine; decide) fun v225 B226 H227 W228 l229 r230 => ?_
        have r232 : Rp.R B226 v225 (x231 : List (List Int)) := Option.some.inj ex231 ▸ r230
        refine gset_ (σ' := [some v_script, some v3, some (V.int x35), some v57, some v75, some v99, some v124, some v167, some v225, none]) rfl ?_
        refine nx_ ?_
        obtain ⟨j258, hj236_, hs174⟩ := bs hs174
        refine seq_ ?_
        refine if_ (fun v' H' => ∃ B', v' = (j258) ∧ Le B226 B' ∧ Ws [] B H B' H' []) (fun Q233 kk234 => ?_) (fun H260 hw => ?_) (fun H260 hw => ?_)
        · refine tand_ ?_
          refine tst_ ?_
          refine op_ ?_
          refine var_ rfl ?_
          refine cst_ ?_
          refine eqI_ ?_
          refine ⟨_, rfl, ?_⟩
          refine br_ (fun c235 => ?_) (fun c235 => ?_)
          · have hj236 := opT c235 hj236_
            obtain ⟨x243, ex243, hj236⟩ := bs hj236
            obtain ⟨x246, ex246, hj236⟩ := bs hj236
            obtain ⟨r250, er250, hj236⟩ := bs hj236
            refine tnot_ ?_
            refine tB_ ?_
            refine call_ ?_
            refine tcons_ ?_
            refine PvRev.lrev_ ?_
            refine var_ rfl ?_
            refine PvRev.lrevL_ W228 (Rp.mono (l14.tr (l23.tr (l41.tr (l54.tr (l63.tr (l72.tr (l81.tr (l102.tr (l127.tr (l152.tr (l159.tr (l172.tr (l203.tr (l215.tr (l224.tr l229))))))))))))))) q7) fun v237 B238 H239 W240 l241 r242 => ?_
            refine tcons_ ?_
            refine op_ ?_
            refine var_ rfl ?_
            refine cst_ ?_
            refine ixL_ W240 (Rp.mono l241 r232) ex243 fun v244 r245 => ?_
            refine tcons_ ?_
            refine op_ ?_
            refine var_ rfl ?_
            refine cst_ ?_
            refine ixL_ W240 (Rp.mono l241 r232) ex246 fun v247 r248 => ?_
            refine tnil_ ?_
            have L249 := Ws.ln (O1 := []) (O := []) (O2 := []) W240
            refine ⟨B238, v237, (r2.reverse), v244, x243, v247, x246, r250, rfl, Ln.call (O1 := []) (O := []) (O2 := []) L249 W240, r242, r245, r248, er250, fun v251 B252 H253 V254 q255 => ?_⟩
            have W256 := Ws.back (O1 := []) (O := []) (O2 := []) W240 (O' := []) V254
            have l257 := (Ws.bb V254)
            have W256 : Ws [] B H B252 H253 [] := W256
            obtain rfl : v251 = V.bl r250 := q255
            refine ⟨_, rfl, ?_⟩
            exact kk234 _ _ ⟨B252, (Option.some.inj hj236), (l241.tr l257), W256⟩
          · exact kk234 _ _ ⟨B226, (Option.some.inj (opF c235 hj236_)), (Le.refl _), W228⟩
        · obtain ⟨B259, c263, l262, W261⟩ := hw
          have c263 := c263.symm
          have hs174 := opT c263 hs174
          refine ret_ ?_
          refine cst_ ?_
          obtain rfl := Option.some.inj hs174
          have hf264 := hr176 _ rfl
          subst hf264
          have hs43 := ct_rt hs43
          obtain rfl := Option.some.inj hs43
          have hf265 := hr45 _ rfl
          subst hf265
          have h := ct_rt h
          rw [← Option.some.inj h] at k
          exact k (V.bl false) B259 H260  W261 rfl 
        · obtain ⟨B259, c263, l262, W261⟩ := hw
          have c263 := c263.symm
          have hs174 := opF c263 hs174
          refine next_ ?_
          refine nx_ ?_
          obtain ⟨j279, hj269_, hs174⟩ := bs hs174
          refine if_ (fun v' H' => ∃ B', v' = (j279) ∧ Le B259 B' ∧ Ws [] B H B' H' []) (fun Q266 kk267 => ?_) (fun H281 hw => ?_) (fun H281 hw => ?_)
          · refine tand_ ?_
            refine tst_ ?_
            refine op_ ?_
            refine var_ rfl ?_
            refine cst_ ?_
            refine eqI_ ?_
            refine ⟨_, rfl, ?_⟩
            refine br_ (fun c268 => ?_) (fun c268 => ?_)
            · have hj269 := opT c268 hj269_
              obtain ⟨r271, er271, hj269⟩ := bs hj269
              refine tnot_ ?_
              refine tB_ ?_
              refine call_ ?_
              refine tcons_ ?_
              refine var_ rfl ?_
              refine tcons_ ?_
              refine var_ rfl ?_
              refine tcons_ ?_
              refine var_ rfl ?_
              refine tnil_ ?_
              have L270 := Ws.ln (O1 := []) (O := []) (O2 := []) W261
              refine ⟨B259, v3, r2, v57, r56, v167, x166, r271, rfl, Ln.call (O1 := []) (O := []) (O2 := []) L270 W261, (Rp.mono (l14.tr (l23.tr (l41.tr (l54.tr (l63.tr (l72.tr (l81.tr (l102.tr (l127.tr (l152.tr (l159.tr (l172.tr (l203.tr (l215.tr (l224.tr (l229.tr l262)))))))))))))))) q7), (Rp.mono (l72.tr (l81.tr (l102.tr (l127.tr (l152.tr (l159.tr (l172.tr (l203.tr (l215.tr (l224.tr (l229.tr l262))))))))))) q61), (Rp.mono (l203.tr (l215.tr (l224.tr (l229.tr l262)))) r173), er271, fun v272 B273 H274 V275 q276 => ?_⟩
              have W277 := Ws.back (O1 := []) (O := []) (O2 := []) W261 (O' := []) V275
              have l278 := (Ws.bb V275)
              have W277 : Ws [] B H B273 H274 [] := W277
              obtain rfl : v272 = V.bl r271 := q276
              refine ⟨_, rfl, ?_⟩
              exact kk267 _ _ ⟨B273, (Option.some.inj hj269), l278, W277⟩
            · exact kk267 _ _ ⟨B259, (Option.some.inj (opF c268 hj269_)), (Le.refl _), W261⟩
          · obtain ⟨B280, c284, l283, W282⟩ := hw
            have c284 := c284.symm
            have hs174 := opT c284 hs174
            refine ret_ ?_
            refine cst_ ?_
            obtain rfl := Option.some.inj hs174
            have hf285 := hr176 _ rfl
            subst hf285
            have hs43 := ct_rt hs43
            obtain rfl := Option.some.inj hs43
            have hf286 := hr45 _ rfl
            subst hf286
            have h := ct_rt h
            rw [← Option.some.inj h] at k
            exact k (V.bl false) B280 H281  W282 rfl 
          · obtain ⟨B280, c284, l283, W282⟩ := hw
            have c284 := c284.symm
            have hs174 := opF c284 hs174
            refine next_ ?_
            refine nx_ ?_
            rw [← Option.some.inj hs174]
            exact ⟨_, _, B280, rfl, (l172.tr (l203.tr (l215.tr (l224.tr (l229.tr (l262.tr l283)))))), W282, ⟨(some v167), (some v225), rfl, rfl⟩⟩
    rintro s298 σ' O297 B293 H294 ef l296 W295 ⟨u299, u300, rfl, rfl⟩
    subst ef
    have hs43 := ct_nx hs43
    refine nx_ ?_
    rw [← Option.some.inj hs43]
    exact ⟨_, _, B293, rfl, (l41.tr (l54.tr (l63.tr (l72.tr (l81.tr (l102.tr (l127.tr (l152.tr (l159.tr l296))))))))), W295, ⟨(some (V.int x35)), (some v57), (some v75), (some v99), (some v124), u299, u300, rfl, rfl⟩⟩
  rintro s312 σ' O311 B307 H308 ef l310 W309 ⟨u313, u314, u315, u316, u317, u318, u319, rfl, rfl⟩
  subst ef
  have h := ct_nx h
  refine nx_ ?_
  refine ret_ ?_
  refine cst_ ?_
  rw [← Option.some.inj h] at k
  exact k (V.bl true) B307 H308  W309 rfl 

end
end G

namespace G
open PySem L2 Pv

/-! ### the script's numbers -/
theorem cell_ok (s : Scr) {k : Int} (h : 0 ≤ k) : Ok (m_cell_at s k) fun _ => True := by
  unfold m_cell_at
  refine Ok.ite (fun c => ?_) (fun _ => Ok.ret trivial)
  exact Ok.bd (atI_ok h (of_decide_eq_true c)) fun x _ => Ok.ret trivial
theorem mix_ok (c : Int) {k : Int} (h : 0 ≤ k) (h2 : k < 2 ^ 63) : Ok (m_mix c k) fun _ => True := by
  unfold m_mix
  refine Ok.ck (.inl ⟨by omega, by omega⟩) ?_
  refine Ok.lt (Ok.ck (.inl ⟨by omega, by omega⟩) (Ok.ret trivial))
theorem rich_ok (c : Int) {k : Int} (h : 0 ≤ k) (h2 : k < 2 ^ 50) : Ok (m_rich c k) fun _ => True := by
  unfold m_rich
  refine Ok.bd (lpn_inv (fun _ => True) trivial fun s x hx _ => ?_) fun _ _ => Ok.ret trivial
  have := rng_mem hx
  refine Ok.bd (mix_ok c (by omega) (by omega)) fun _ _ => Ok.lt (Ok.ret trivial)
theorem pick_ok {l : List Int} (hl : l.length = 1) {m : Int} (h : 0 < m) (h2 : m < 1073741824) : Ok (m_pick l m) fun r => 0 ≤ r.1 ∧ r.1 < m ∧ r.2.length = 1 := by
  match l, hl with
  | [z], _ =>
    unfold m_pick
    refine Ok.is atI_cons0 (Ok.ck h (Ok.lt (Ok.is atI_cons0 (Ok.ck ⟨h, h2⟩ ?_))))
    refine Ok.is (show ixN 1 0 = some 0 from rfl) (Ok.ret ⟨Int.emod_nonneg _ (by omega), Int.emod_lt_of_pos _ h, rfl⟩)

/-! ### a name that was not told -/
abbrev alph : Str := "abcdefghijklmnopqrstuvwxyz"
theorem signs_alph : signs alph = ([97, 98, 99, 100, 101, 102, 103, 104, 105, 106, 107, 108, 109, 110, 111, 112, 113, 114, 115, 116, 117, 118, 119, 120, 121, 122] : List Nat).map fun c => (⟨#[c]⟩ : Str) := by decide +kernel
theorem signs_26 : (signs alph).length = 26 := by rw [signs_alph]; rfl
theorem signs_asc : ∀ x ∈ signs alph, Asc x ∧ x.length = 1 := by
  intro x hx
  rw [signs_alph] at hx
  obtain ⟨c, hc, rfl⟩ := List.mem_map.mp hx
  refine ⟨fun d hd => ?_, rfl⟩
  have e : d = c := by simpa using hd
  subst e
  simp at hc
  omega
theorem signs_nd : (signs alph).Nodup := by rw [signs_alph]; decide +kernel
theorem sAt_alph {i : Int} (h : 0 ≤ i) (h2 : i < 26) : Ok (sAt alph i) fun x => Asc x ∧ x.length = 1 := by
  have hl : alph.length = 26 := by decide +kernel
  unfold sAt
  rw [if_pos (by rw [hl, size64]; omega)]
  have hl2 : alph.cps.toList.length = 26 := by decide +kernel
  obtain ⟨c, e, _, hm⟩ := atI_ok (xs := alph.cps.toList) h (by rw [hl2]; exact h2)
  rw [e]
  refine ⟨⟨#[c]⟩, rfl, fun d hd => ?_, rfl⟩
  have e : d = c := by simpa using hd
  subst e
  have ha : ∀ c ∈ alph.cps.toList, c < 128 := by decide +kernel
  exact ha d hm
theorem app_inj {p a b : Str} (h : p ++ a = p ++ b) : a = b := by
  have e : (p ++ a).cps.toList = (p ++ b).cps.toList := by rw [h]
  rw [Str.toL_app, Str.toL_app] at e
  have e2 := List.append_cancel_left e
  cases a
  cases b
  congr
  exact Array.toList_inj.mp e2
theorem nodup_map_app {p : Str} : ∀ {xs : List Str}, xs.Nodup → (xs.map fun x => p ++ x).Nodup
  | [], _ => List.Pairwise.nil
  | x :: r, h => by
    rw [List.map_cons]
    obtain ⟨h1, h2⟩ := List.nodup_cons.mp h
    refine List.nodup_cons.mpr ⟨fun hm => ?_, nodup_map_app h2⟩
    obtain ⟨y, hy, e⟩ := List.mem_map.mp hm
    rw [app_inj e] at hy
    exact h1 hy
/-- of more than were told, one was not -/
theorem pigeon {α : Type} [DecidableEq α] : ∀ {xs told : List α}, xs.Nodup → told.length < xs.length → ∃ x ∈ xs, x ∉ told
  | [], told, _, h => absurd h (Nat.not_lt_zero _)
  | x :: r, told, nd, h => by
    obtain ⟨h1, h2⟩ := List.nodup_cons.mp nd
    by_cases hx : x ∈ told
    · have hl : (told.erase x).length = told.length - 1 := List.length_erase_of_mem hx
      have hp : 0 < told.length := List.length_pos_of_mem hx
      obtain ⟨y, hy, hn⟩ := pigeon (xs := r) (told := told.erase x) h2 (by rw [hl]; rw [List.length_cons] at h; omega)
      refine ⟨y, List.mem_cons_of_mem _ hy, fun hm => hn ?_⟩
      have ne : y ≠ x := fun e => h1 (e ▸ hy)
      exact (List.mem_erase_of_ne ne).mpr hm
    · exact ⟨x, List.mem_cons_self .., hx⟩
theorem words_asc : ∀ x ∈ Txt.split ("switch keep gate next never some wall row step piece lasso" : Str) (" " : Str), Asc x ∧ x.length ≤ 9 := by decide +kernel
theorem words_len : (Txt.split ("switch keep gate next never some wall row step piece lasso" : Str) (" " : Str)).length = 11 := by decide +kernel
end G

namespace G
open PySem L2 Pv
theorem lit_len : (("" : Str)).length = 0 ∧ (("q" : Str)).length = 1 ∧ (("z" : Str)).length = 1 ∧ (("qz" : Str)).length = 2 := by decide +kernel
theorem lit_asc : Asc ("" : Str) ∧ Asc ("q" : Str) ∧ Asc ("z" : Str) ∧ Asc ("qz" : Str) := by decide +kernel
theorem cand {n : Str} (hn : Asc n) (hl : n.length ≤ 9) {u : Option Int} {f : Str → Option Str} {g : Str → Str} (hf : ∀ x, Asc x → x.length = 1 → f x = some (g x)) (hg : ∀ x, Asc x → x.length = 1 → Asc (g x) ∧ (g x).length ≤ 12) :
    mapO f (signs alph) = some ((signs alph).map g) ∧ ((signs alph).map g).length = 26 ∧ ∀ y ∈ (signs alph).map g, Asc y ∧ y.length ≤ 12 := by
  refine ⟨mapO_eq fun x hx => hf x (signs_asc x hx).1 (signs_asc x hx).2, by rw [List.length_map, signs_26], fun y hy => ?_⟩
  obtain ⟨x, hx, rfl⟩ := List.mem_map.mp hy
  exact hg x (signs_asc x hx).1 (signs_asc x hx).2
theorem spelt_ok {l : List Int} (hl : l.length = 1) {told : List Str} (ht : told.length < 26) : Ok (m_spelt l told) fun r => r.1 ∉ told ∧ Asc r.1 ∧ r.1.length ≤ 12 ∧ r.2.length = 1 := by
  unfold m_spelt
  refine Ok.lt ?_
  refine Ok.bd (pick_ok hl (by decide) (by decide)) fun a ha => ?_
  refine Ok.lt ?_
  refine Ok.bd (pick_ok ha.2.2 (by decide) (by decide)) fun b hb => ?_
  refine Ok.bd (atI_ok hb.1 (by rw [words_len]; exact hb.2.1)) fun w hw => ?_
  obtain ⟨w1, w2⟩ := words_asc w hw.2
  refine Ok.bd (p := fun j => Asc j.1 ∧ j.1.length ≤ 9 ∧ j.2.length = 1) (Ok.ite (fun c => ?_) (fun _ => Ok.ret ⟨w1, w2, hb.2.2⟩)) fun j hj => ?_
  · have c9 : 1 + a.1 < 9 := of_decide_eq_true c
    refine Ok.ck ⟨by omega, by omega⟩ (Ok.ck (by rw [rng_len, size64]; omega) ?_)
    refine Ok.bd (lcs_ok (fun s => s.length = 1) (fun y => Asc y ∧ y.length = 1) hb.2.2 fun s x hx hs => ?_) fun r hr => ?_
    · refine Ok.bd (pick_ok hs (by decide) (by decide)) fun d hd => ?_
      exact Ok.bd (sAt_alph hd.1 hd.2.1) fun y hy => Ok.ret ⟨hd.2.2, y, rfl, hy⟩
    · have hs := sum_le (ts := r.2) (k := 1) fun t h => by have := (hr.2.2 t h).2; omega
      have hlen : r.2.length ≤ 9 := by rw [hr.2.1, rng_len]; omega
      refine Ok.ck (by rw [lit_len.1]; omega) (Ok.lt (Ok.ret ⟨Asc.join lit_asc.1 fun t h => (hr.2.2 t h).1, ?_, hr.1⟩))
      refine Nat.le_trans (join_len _ _) ?_
      rw [lit_len.1]
      omega
  · obtain ⟨j1, j2, j3⟩ := hj
    obtain ⟨q0, q1, q2, q3⟩ := lit_len
    obtain ⟨z0, z1, z2, z3⟩ := lit_asc
    have sl : ∀ u : Option Int, Asc (Txt.slice j.1 none u) ∧ (Txt.slice j.1 none u).length ≤ 9 := fun u => ⟨j1.slice, Nat.le_trans (Txt.slice_le _ _ _) j2⟩
    have s26 := signs_26
    have sz := size64
    refine Ok.ck (by rw [s26, sz]; omega) ?_
    obtain ⟨e1, l1, a1⟩ := cand j1 j2 (u := none) (f := fun (x100 : Str) => bd (ck ((j.1).length ≤ sizeLine)) fun _ => bd (ck (((Txt.slice j.1 none (some (7 : Int)))).length + (x100).length ≤ sizeLine)) fun _ => some ((Txt.slice j.1 none (some (7 : Int))) ++ x100)) (g := fun x => Txt.slice j.1 none (some (7 : Int)) ++ x)
      (fun x hx h1 => by have := (sl (some 7)).2; rw [ck_pos (by omega), bd_some, ck_pos (by omega), bd_some]) (fun x hx h1 => ⟨(sl _).1.app hx, by have := (sl (some 7)).2; rw [Str.len_app]; omega⟩)
    refine Ok.is e1 (Ok.ck (by rw [l1]; simp only [List.length_singleton]; omega) (Ok.ck (by rw [s26, sz]; omega) ?_))
    obtain ⟨e2, l2, a2⟩ := cand j1 j2 (u := none) (f := fun (x133 : Str) => bd (ck ((j.1).length ≤ sizeLine)) fun _ => bd (ck (((Txt.slice j.1 none (some (6 : Int)))).length + (x133).length ≤ sizeLine)) fun _ => bd (ck ((((Txt.slice j.1 none (some (6 : Int))) ++ x133)).length + (("q" : Str)).length ≤ sizeLine)) fun _ => some (((Txt.slice j.1 none (some (6 : Int))) ++ x133) ++ ("q" : Str)))
      (g := fun x => Txt.slice j.1 none (some (6 : Int)) ++ x ++ ("q" : Str))
      (fun x hx h1 => by have := (sl (some 6)).2; rw [ck_pos (by omega), bd_some, ck_pos (by omega), bd_some, ck_pos (by rw [Str.len_app]; omega), bd_some]) (fun x hx h1 => ⟨((sl _).1.app hx).app z1, by have := (sl (some 6)).2; rw [Str.len_app, Str.len_app]; omega⟩)
    refine Ok.is e2 (Ok.ck (by rw [List.length_append, l1, l2]; simp only [List.length_singleton]; omega) (Ok.lt (Ok.ck (by rw [s26, sz]; omega) ?_)))
    obtain ⟨e3, l3, a3⟩ := cand j1 j2 (u := none) (f := fun (x133 : Str) => bd (ck ((j.1).length ≤ sizeLine)) fun _ => bd (ck (((Txt.slice j.1 none (some (6 : Int)))).length + (x133).length ≤ sizeLine)) fun _ => bd (ck ((((Txt.slice j.1 none (some (6 : Int))) ++ x133)).length + (("z" : Str)).length ≤ sizeLine)) fun _ => some (((Txt.slice j.1 none (some (6 : Int))) ++ x133) ++ ("z" : Str)))
      (g := fun x => Txt.slice j.1 none (some (6 : Int)) ++ x ++ ("z" : Str))
      (fun x hx h1 => by have := (sl (some 6)).2; rw [ck_pos (by omega), bd_some, ck_pos (by omega), bd_some, ck_pos (by rw [Str.len_app]; omega), bd_some]) (fun x hx h1 => ⟨((sl _).1.app hx).app z2, by have := (sl (some 6)).2; rw [Str.len_app, Str.len_app]; omega⟩)
    refine Ok.is e3 (Ok.ck (by rw [List.length_append, List.length_append, l1, l2, l3]; simp only [List.length_singleton]; omega) (Ok.ck (by rw [s26, sz]; omega) ?_))
    obtain ⟨e4, l4, a4⟩ := cand j1 j2 (u := none) (f := fun (x203 : Str) => bd (ck ((j.1).length ≤ sizeLine)) fun _ => bd (ck (((Txt.slice j.1 none (some (5 : Int)))).length + (x203).length ≤ sizeLine)) fun _ => bd (ck ((((Txt.slice j.1 none (some (5 : Int))) ++ x203)).length + (("qz" : Str)).length ≤ sizeLine)) fun _ => some (((Txt.slice j.1 none (some (5 : Int))) ++ x203) ++ ("qz" : Str)))
      (g := fun x => Txt.slice j.1 none (some (5 : Int)) ++ x ++ ("qz" : Str))
      (fun x hx h1 => by have := (sl (some 5)).2; rw [ck_pos (by omega), bd_some, ck_pos (by omega), bd_some, ck_pos (by rw [Str.len_app]; omega), bd_some]) (fun x hx h1 => ⟨((sl _).1.app hx).app z3, by have := (sl (some 5)).2; rw [Str.len_app, Str.len_app]; omega⟩)
    refine Ok.is e4 (Ok.ck (by simp only [List.length_append, l1, l2, l3, l4, List.length_singleton]; omega) (Ok.lt (Ok.ck (by simp only [List.length_append, l1, l2, l3, l4, List.length_singleton]; omega) ?_)))
    rw [List.map_id']
    obtain ⟨y, hy, hn⟩ := pigeon (xs := (signs alph).map fun x => Txt.slice j.1 none (some (7 : Int)) ++ x) (told := told) (nodup_map_app signs_nd) (by rw [l1]; exact ht)
    have hA : ∀ x ∈ [j.1] ++ ((signs alph).map fun x => Txt.slice j.1 none (some (7 : Int)) ++ x) ++ ((signs alph).map fun x => Txt.slice j.1 none (some (6 : Int)) ++ x ++ ("q" : Str)) ++ ((signs alph).map fun x => Txt.slice j.1 none (some (6 : Int)) ++ x ++ ("z" : Str)) ++ ((signs alph).map fun x => Txt.slice j.1 none (some (5 : Int)) ++ x ++ ("qz" : Str)), Asc x ∧ x.length ≤ 12 := by
      intro x hx
      simp only [List.mem_append, List.mem_singleton] at hx
      rcases hx with (((rfl | hx) | hx) | hx) | hx
      · exact ⟨j1, by omega⟩
      · exact a1 x hx
      · exact a2 x hx
      · exact a3 x hx
      · exact a4 x hx
    have hmem : y ∈ [j.1] ++ ((signs alph).map fun x => Txt.slice j.1 none (some (7 : Int)) ++ x) ++ ((signs alph).map fun x => Txt.slice j.1 none (some (6 : Int)) ++ x ++ ("q" : Str)) ++ ((signs alph).map fun x => Txt.slice j.1 none (some (6 : Int)) ++ x ++ ("z" : Str)) ++ ((signs alph).map fun x => Txt.slice j.1 none (some (5 : Int)) ++ x ++ ("qz" : Str)) := by
      simp only [List.mem_append]
      exact .inl (.inl (.inl (.inr hy)))
    generalize [j.1] ++ ((signs alph).map fun x => Txt.slice j.1 none (some (7 : Int)) ++ x) ++ ((signs alph).map fun x => Txt.slice j.1 none (some (6 : Int)) ++ x ++ ("q" : Str)) ++ ((signs alph).map fun x => Txt.slice j.1 none (some (6 : Int)) ++ x ++ ("z" : Str)) ++ ((signs alph).map fun x => Txt.slice j.1 none (some (5 : Int)) ++ x ++ ("qz" : Str)) = L at hA hmem ⊢
    cases e : L.filter (fun (x240 : Str) => (!decide (x240 ∈ told))) with
    | nil =>
      have := List.filter_eq_nil_iff.mp e y hmem
      simp at this
      exact absurd this hn
    | cons z r =>
      have hz : z ∈ L.filter (fun (x240 : Str) => (!decide (x240 ∈ told))) := by rw [e]; exact List.mem_cons_self ..
      obtain ⟨m1, m2⟩ := List.mem_filter.mp hz
      refine Ok.is atI_cons0 (Ok.ret ⟨?_, (hA z m1).1, (hA z m1).2, j3⟩)
      simpa using m2
end G

namespace G
open PySem L2 Pv
/-! ### the names, the bits -/
structure Names (ns : List Str) : Prop where
  nd : ns.Nodup
  asc : ∀ x ∈ ns, Asc x
  len : ns.length ≤ 8
theorem order_ok (s : Scr) : Ok (m_order s) Names := by
  unfold m_order
  refine Ok.bd (cell_ok s (by decide)) fun a _ => Ok.lt (Ok.bd (cell_ok s (by decide)) fun b _ => ?_)
  refine Ok.bd (p := fun _ => True) (Ok.ite (fun _ => Ok.bd (rich_ok _ (by decide) (by decide)) fun _ _ => Ok.ret trivial) (fun _ => Ok.ret trivial)) fun j _ => ?_
  refine Ok.lt (Ok.lt (Ok.bd (pick_ok rfl (by decide) (by decide)) fun c hc => ?_))
  refine Ok.bd (p := fun j => 0 ≤ j.1 ∧ j.1 ≤ 8 ∧ j.2.length = 1) (Ok.ite (fun _ => Ok.bd (pick_ok hc.2.2 (by decide) (by decide)) fun d hd => Ok.lt (Ok.ret ⟨by omega, by omega, hd.2.2⟩)) (fun _ => Ok.ret ⟨hc.1, by omega, hc.2.2⟩)) fun j hj => ?_
  refine Ok.ck ⟨by omega, by omega⟩ ?_
  refine Ok.bd (lpn_at (fun i s => s.1.length = 1 ∧ s.2.length = i ∧ s.2.Nodup ∧ ∀ x ∈ s.2, Asc x) ⟨hj.2.2, rfl, List.Pairwise.nil, fun x h => absurd h List.not_mem_nil⟩ fun i s x hx hs => ?_) fun s hs => ?_
  · have hi : i < 8 := by
      have := (List.getElem?_eq_some_iff.mp hx).1
      rw [rng_len] at this
      omega
    refine Ok.bd (spelt_ok hs.1 (by omega)) fun r hr => Ok.ck (by rw [size64]; omega) (Ok.ret ⟨hr.2.2.2, by rw [List.length_append, hs.2.1]; rfl, ?_, fun x hx => ?_⟩)
    · exact List.nodup_append.mpr ⟨hs.2.2.1, List.pairwise_singleton .., fun a ha b hb e => by
        have e2 : b = r.1 := by simpa using hb
        rw [e, e2] at ha
        exact hr.1 ha⟩
    · rcases List.mem_append.mp hx with h | h
      · exact hs.2.2.2 x h
      · have e2 : x = r.1 := by simpa using h
        rw [e2]; exact hr.2.1
  · refine Ok.ret ⟨hs.2.2.1, hs.2.2.2, ?_⟩
    rw [hs.2.1, rng_len]
    omega
theorem number_ok (s : Scr) {k : Int} (h : 0 ≤ k) (h2 : k < 2 ^ 50) : Ok (m_number s k) fun _ => True := by
  unfold m_number
  refine Ok.bd (cell_ok s h) fun a _ => Ok.bd (cell_ok s (by decide)) fun b _ => ?_
  exact Ok.bd (p := fun _ => True) (Ok.ite (fun _ => Ok.bd (rich_ok _ h h2) fun _ _ => Ok.ret trivial) (fun _ => Ok.ret trivial)) fun _ _ => Ok.ret trivial
/-- bits, so many -/
structure Bits (n : Nat) (bs : List Int) : Prop where
  len : bs.length = 2 ^ n
  bit : ∀ b ∈ bs, b = 0 ∨ b = 1
theorem pow8 {n : Nat} (h : n ≤ 8) : 2 ^ n ≤ 256 := Nat.pow_le_pow_right (by decide) h
theorem ipow (n : Nat) : (1 : Int) * 2 ^ n = ((2 ^ n : Nat) : Int) := by rw [Int.one_mul]; norm_cast
theorem bits_ok (z : Int) {n : Nat} (h : n ≤ 8) : Ok (m_bits z (n : Int)) (Bits n) := by
  have hp := pow8 h
  have hp0 : (0 : Int) ≤ ((2 ^ n : Nat) : Int) := Int.natCast_nonneg _
  unfold m_bits
  rw [Int.toNat_natCast, ipow]
  refine Ok.ite (fun c => ?_) (fun c => ?_)
  · refine Ok.ck ⟨by omega, by omega, by decide⟩ (Ok.ck ⟨by omega, by omega⟩ (Ok.ck (by rw [rng_len, size64]; omega) ?_))
    refine Ok.bd (mapO_ok (P := fun b => b = 0 ∨ b = 1) fun x hx => Ok.ck (rng_mem hx).1 (Ok.ret ?_)) fun r hr => Ok.ret ⟨?_, hr.2⟩
    · rw [and1]; omega
    · rw [hr.1, rng_len, Int.toNat_natCast]
  · refine Ok.ck ⟨by omega, by omega, by decide⟩ (Ok.ck ⟨by omega, by omega⟩ (Ok.ck (by rw [rng_len, size64]; omega) (Ok.lt ?_)))
    have hpos : 0 < 2 ^ n := Nat.two_pow_pos n
    refine Ok.bd (lpn_inv (fun s => Bits n s.2) ⟨by rw [List.length_map, rng_len, Int.toNat_natCast], fun b hb => by obtain ⟨_, _, rfl⟩ := List.mem_map.mp hb; exact .inl rfl⟩ fun s x hx hs => ?_) fun s hs => Ok.ret hs
    have hl := hs.len
    refine Ok.ck (by omega) ?_
    have h1 : 0 ≤ s.1 % (s.2.length : Int) := Int.emod_nonneg _ (by omega)
    have h2 : s.1 % (s.2.length : Int) < s.2.length := Int.emod_lt_of_pos _ (by omega)
    refine Ok.is (ixN_pos h1 h2) (Ok.ck ⟨by rw [List.length_set]; omega, by rw [List.length_set]; omega⟩ (Ok.lt (Ok.ret ⟨by rw [List.length_set]; exact hl, fun b hb => ?_⟩)))
    rcases List.mem_or_eq_of_mem_set hb with h | h
    · exact hs.bit b h
    · exact .inr h
theorem turned_ok {n : Nat} (h : n ≤ 8) {bs : List Int} (hb : Bits n bs) : Ok (m_turned bs (n : Int)) (Bits n) := by
  have hp := pow8 h
  have hp0 : (0 : Int) ≤ ((2 ^ n : Nat) : Int) := Int.natCast_nonneg _
  have hl := hb.len
  unfold m_turned
  refine Ok.lt (Ok.ck ⟨by omega, by omega⟩ ?_)
  rw [hl]
  refine Ok.bd (lpn_at (fun i s => s.length = i ∧ ∀ b ∈ s, b = 0 ∨ b = 1) ⟨rfl, fun x h => absurd h List.not_mem_nil⟩ fun i s x hx hs => ?_) fun s hs => Ok.ret ⟨?_, hs.2⟩
  · have hi : i < 256 := by
      have := (List.getElem?_eq_some_iff.mp hx).1
      rw [rng_len] at this
      omega
    refine Ok.ck ⟨by omega, by omega⟩ ?_
    rw [Int.toNat_natCast]
    refine Ok.bd (lpn_at (fun i z => 0 ≤ z ∧ z < ((2 ^ i : Nat) : Int)) ⟨by decide, by decide⟩ fun j z y hy hz => ?_) fun z hz => ?_
    · refine Ok.ck (rng_mem (List.mem_of_getElem? hy)).1 (Ok.lt (Ok.ret ?_))
      rw [and1, Nat.pow_succ]
      omega
    · rw [rng_len] at hz
      refine Ok.bd (atI_ok hz.1 (by rw [hl]; exact hz.2)) fun b hbb => Ok.ck (by rw [hs.1, size64]; omega) (Ok.ret ⟨by rw [List.length_append, hs.1]; rfl, fun c hc => ?_⟩)
      rcases List.mem_append.mp hc with h1 | h1
      · exact hs.2 c h1
      · have e : c = b := by simpa using h1
        rw [e]; exact hb.bit b hbb.2
  · rw [hs.1, rng_len, Int.toNat_natCast]

/-! ### trees -/
/-- (name, low, high), halves that are alike put together -/
def mkT (n : Str) (l h : Tr) : Tr := if l = h then l else .nd n l h
theorem mkT_same (n : Str) (l : Tr) : mkT n l l = l := if_pos rfl
/-- the tree of a row of bits -/
def can : List Str → List Int → Tr
  | [], bs => .lit (decide (bs[0]? = some 1))
  | n :: r, bs => mkT n (can r (bs.take (bs.length / 2))) (can r (bs.drop (bs.length / 2)))
def deep : Tr → Nat
  | .lit _ => 0
  | .nd _ l h => max (deep l) (deep h) + 1
theorem can_deep : ∀ (ns : List Str) (bs : List Int), deep (can ns bs) ≤ ns.length
  | [], _ => Nat.zero_le _
  | n :: r, bs => by
    have h1 := can_deep r (bs.take (bs.length / 2))
    have h2 := can_deep r (bs.drop (bs.length / 2))
    unfold can mkT
    rw [List.length_cons]
    split
    · omega
    · unfold deep
      omega
/-- the names that stand in a tree -/
def nms : Tr → List Str
  | .lit _ => []
  | .nd n l h => n :: (nms l ++ nms h)
theorem can_nms : ∀ (ns : List Str) (bs : List Int) (x : Str), x ∈ nms (can ns bs) → x ∈ ns
  | [], _, x, h => absurd h List.not_mem_nil
  | n :: r, bs, x, h => by
    unfold can mkT at h
    split at h
    · exact List.mem_cons_of_mem _ (can_nms r _ x h)
    · unfold nms at h
      rcases List.mem_cons.mp h with rfl | h
      · exact List.mem_cons_self ..
      · rcases List.mem_append.mp h with h | h
        · exact List.mem_cons_of_mem _ (can_nms r _ x h)
        · exact List.mem_cons_of_mem _ (can_nms r _ x h)
theorem shp_tree {t : Tr} (h : ∀ x ∈ nms t, Asc x) (hd : deep t ≤ 60) : shp t = true := by
  have h1 : ∀ t : Tr, (∀ x ∈ nms t, Asc x) → PyData.canLay0 (Tr.dat t) = true := by
    intro t
    induction t with
    | lit b => intro _; rw [Tr.dat, PyData.canLay0]
    | nd n l r il ir =>
      intro h
      rw [Tr.dat, PyData.canLay0, PyData.canLayAll0, PyData.canLayAll0, PyData.canLayAll0, PyData.canLayAll0, il fun x hx => h x (by unfold nms; exact List.mem_cons_of_mem _ (List.mem_append_left _ hx)), ir fun x hx => h x (by unfold nms; exact List.mem_cons_of_mem _ (List.mem_append_right _ hx)), PyData.canLay0, (h n (by unfold nms; exact List.mem_cons_self ..)).ok]
      rfl
  have h2 : ∀ t : Tr, PyData.depth (Tr.dat t) ≤ deep t + 1 := by
    intro t
    induction t with
    | lit b => rw [Tr.dat, PyData.depth]; omega
    | nd n l r il ir =>
      rw [Tr.dat, PyData.depth, PyData.depthAll, PyData.depthAll, PyData.depthAll, PyData.depthAll]
      unfold deep
      have : PyData.depth (.str n) ≤ 1 := by rw [PyData.depth]; omega
      omega
  show (PyData.canLay0 (Tr.dat t) && decide (PyData.depth (Tr.dat t) ≤ 64)) = true
  rw [Bool.and_eq_true]
  have := h2 t
  exact ⟨h1 t h, decide_eq_true (by omega)⟩
end G

namespace G
open PySem L2 Pv
theorem shp_lit (b : Bool) : shp (Tr.lit b) = true := shp_tree (fun x h => absurd h List.not_mem_nil) (Nat.zero_le _)
theorem same_ok : ∀ (d : Nat) (a b : Tr), deep a < d → m_same_tree d a b = some (decide (a = b))
  | 0, _, _, h => absurd h (Nat.not_lt_zero _)
  | d + 1, .lit a, .lit b, h => by
    unfold m_same_tree
    simp only [Tr.isLit, Bool.or_self, if_true, bd_some, shp_lit, and_self, ck_pos]
  | d + 1, .lit a, .nd n l h', h => by
    unfold m_same_tree
    simp [Tr.isLit, bd_some]
  | d + 1, .nd n l h', .lit b, h => by
    unfold m_same_tree
    simp [Tr.isLit, bd_some]
  | d + 1, .nd n l h', .nd n2 l2 h2, h => by
    unfold deep at h
    have i1 := same_ok d l l2 (by omega)
    have i2 := same_ok d h' h2 (by omega)
    unfold m_same_tree
    simp only [Tr.isLit, Tr.n?, Tr.k?, Bool.or_self, Bool.not_false, Bool.not_true, if_true, if_false, Bool.false_eq_true, bd_some, ck_pos, decide_true, if_neg (show ¬ ((2 : Int) = 1) by decide), i1, i2]
    by_cases e1 : n = n2
    · subst e1
      by_cases e2 : l = l2
      · subst e2
        simp [bd_some]
      · simp [bd_some, e2]
    · simp [bd_some, e1]
theorem canon_ok : ∀ (ns : List Str) (d : Nat) (bs : List Int), ns.length < d → ns.length ≤ 8 → (∀ x ∈ ns, Asc x) → bs.length = 2 ^ ns.length → m_canon d ns bs = some (can ns bs)
  | _, 0, _, h, _, _, _ => absurd h (Nat.not_lt_zero _)
  | [], d + 1, bs, h, h8, ha, hl => by
    unfold m_canon
    rw [ck_pos ⟨shp_strs ha, shp_strs ha⟩, bd_some, if_pos (by decide)]
    match bs, hl with
    | [b], _ =>
      rw [atI_cons0, bd_some]
      unfold can
      simp
  | n :: r, d + 1, bs, h, h8, ha, hl => by
    have hp : 2 ^ (n :: r).length = 2 * 2 ^ r.length := by rw [List.length_cons, Nat.pow_succ]; omega
    have hk : bs.length / 2 = 2 ^ r.length := by omega
    rw [List.length_cons] at h h8
    have i1 := canon_ok r d (bs.take (bs.length / 2)) (by omega) (by omega) (fun x hx => ha x (List.mem_cons_of_mem _ hx)) (by rw [List.length_take]; omega)
    have i2 := canon_ok r d (bs.drop (bs.length / 2)) (by omega) (by omega) (fun x hx => ha x (List.mem_cons_of_mem _ hx)) (by rw [List.length_drop]; omega)
    have e1 : ((bs.length : Int) / (2 : Int)) = ((bs.length / 2 : Nat) : Int) := by omega
    have e2 : cutL (n :: r) (some (1 : Int)) none = r := by
      rw [show (1 : Int) = ((1 : Nat) : Int) from rfl, cut_from]
      rfl
    unfold m_canon
    rw [ck_pos ⟨shp_strs ha, shp_strs (fun x h => absurd h List.not_mem_nil)⟩, bd_some, if_neg (by simp), bd_some, e1, e2, cut_to, cut_from, i1, bd_some, i2, bd_some]
    have hd := can_deep r (bs.take (bs.length / 2))
    rw [same_ok 12 _ _ (by omega), bd_some, atI_cons0, bd_some]
    show _ = some (mkT n _ _)
    unfold mkT
    by_cases e : can r (bs.take (bs.length / 2)) = can r (bs.drop (bs.length / 2))
    · rw [if_pos (by rw [decide_eq_true e]), if_pos e]
    · rw [if_neg (by rw [decide_eq_false e]; decide), if_neg e]
def opp : Tr → Tr
  | .lit b => .lit (!b)
  | .nd n l h => .nd n (opp l) (opp h)
theorem opp_deep : ∀ t : Tr, deep (opp t) = deep t
  | .lit _ => rfl
  | .nd n l h => by unfold opp deep; rw [opp_deep l, opp_deep h]
theorem opp_inj : ∀ a b : Tr, opp a = opp b → a = b
  | .lit a, .lit b, h => by
    unfold opp at h
    have := Tr.lit.inj h
    cases a <;> cases b <;> simp_all
  | .lit a, .nd n l r, h => by unfold opp at h; cases h
  | .nd n l r, .lit b, h => by unfold opp at h; cases h
  | .nd n l r, .nd n2 l2 r2, h => by
    unfold opp at h
    obtain ⟨e1, e2, e3⟩ := Tr.nd.inj h
    rw [e1, opp_inj _ _ e2, opp_inj _ _ e3]
theorem opp_opp : ∀ t : Tr, opp (opp t) = t
  | .lit b => by show Tr.lit (!!b) = _; rw [Bool.not_not]
  | .nd n l h => by show Tr.nd n (opp (opp l)) (opp (opp h)) = _; rw [opp_opp l, opp_opp h]
theorem opposite_ok : ∀ (d : Nat) (t : Tr), deep t < d → m_p_opposite d t = some (opp t)
  | 0, _, h => absurd h (Nat.not_lt_zero _)
  | d + 1, .lit b, h => by
    unfold m_p_opposite
    simp [Tr.isLit, Tr.b?, bd_some, opp]
  | d + 1, .nd n l r, h => by
    unfold deep at h
    unfold m_p_opposite
    simp only [Tr.isLit, Tr.n?, Tr.k?, Bool.false_eq_true, if_false, bd_some, if_true, opposite_ok d l (by omega), opposite_ok d r (by omega), if_neg (show ¬ ((2 : Int) = 1) by decide)]
    rfl
theorem opp_mk (n : Str) (l h : Tr) : opp (mkT n l h) = mkT n (opp l) (opp h) := by
  unfold mkT
  by_cases e : l = h
  · rw [if_pos e, if_pos (by rw [e])]
  · rw [if_neg e, if_neg fun z => e (opp_inj _ _ z)]
    rfl
theorem opp_can : ∀ (ns : List Str) (bs : List Int), bs.length = 2 ^ ns.length → (∀ b ∈ bs, b = 0 ∨ b = 1) → opp (can ns bs) = can ns (bs.map fun b => (1 : Int) - b)
  | [], bs, hl, hb => by
    match bs, hl with
    | [b], _ =>
      unfold can opp
      rcases hb b (List.mem_cons_self ..) with rfl | rfl <;> decide
  | n :: r, bs, hl, hb => by
    have hp : 2 ^ (n :: r).length = 2 * 2 ^ r.length := by rw [List.length_cons, Nat.pow_succ]; omega
    unfold can
    rw [opp_mk, opp_can r _ (by rw [List.length_take]; omega) (fun b h => hb b (List.mem_of_mem_take h)), opp_can r _ (by rw [List.length_drop]; omega) (fun b h => hb b (List.mem_of_mem_drop h)), List.length_map, List.map_take, List.map_drop]
/-! ### both -/
theorem n_mem {t : Tr} {x : Str} (h : t.n? = some x) : x ∈ nms t := by
  cases t with
  | lit b => cases h
  | nd n l r => cases h; unfold nms; exact List.mem_cons_self ..
theorem half_other {t : Tr} {n : Str} (h : n ∉ nms t) {i : Int} : m_p_half_of t n i = some t := by
  unfold m_p_half_of
  cases t with
  | lit b => simp [Tr.isLit, bd_some]
  | nd m l r =>
    have ne : m ≠ n := fun e => h (by rw [← e]; unfold nms; exact List.mem_cons_self ..)
    simp [Tr.isLit, Tr.n?, bd_some, ne]
theorem half0 {n : Str} {l h : Tr} (hl : n ∉ nms l) : m_p_half_of (mkT n l h) n 0 = some l := by
  unfold mkT
  split
  · exact half_other hl
  · unfold m_p_half_of
    simp [Tr.isLit, Tr.n?, Tr.k?, bd_some]
theorem half1 {n : Str} {l h : Tr} (hh : n ∉ nms h) : m_p_half_of (mkT n l h) n 1 = some h := by
  unfold mkT
  split
  · rename_i e
    rw [e]
    exact half_other hh
  · unfold m_p_half_of
    simp [Tr.isLit, Tr.n?, Tr.k?, bd_some]
theorem top_ok {pre r : List Str} {n na nb : Str} {a b : Tr} (ha : a.n? = some na) (hb : b.n? = some nb) (ho : (pre ++ n :: r).Nodup) (ma : na ∈ n :: r) (mb : nb ∈ n :: r) (hn : na = n ∨ nb = n) : m_p_top_name (pre ++ n :: r) [a, b] = some (some n) := by
  have la : a.isLit = false := by cases a with | lit _ => cases ha | nd _ _ _ => rfl
  have lb : b.isLit = false := by cases b with | lit _ => cases hb | nd _ _ _ => rfl
  have hx : ∀ x, x ∈ pre → x ∉ [na, nb] := by
    intro x hx hm
    obtain ⟨_, _, h3⟩ := List.nodup_append.mp ho
    rcases List.mem_cons.mp hm with rfl | hm
    · exact h3 _ hx _ ma rfl
    · have e : x = nb := by simpa using hm
      exact h3 _ hx _ mb e
  have hin : n ∈ [na, nb] := by
    rcases hn with h | h
    · rw [h]; exact List.mem_cons_self ..
    · rw [h]; exact List.mem_cons_of_mem _ (List.mem_cons_self ..)
  unfold m_p_top_name
  rw [ck_pos (by show 2 ≤ sizeLine; decide), bd_some]
  have ef : fmapO (fun (x3 : Tr) => if (!x3.isLit) = true then bd (x3.n?) fun x21 => some (some x21) else some none) [a, b] = some [na, nb] := by
    unfold fmapO fmapO fmapO
    rw [la, lb, ha, hb]
    rfl
  rw [ef, bd_some]
  have el : ∀ pre : List Str, (∀ x, x ∈ pre → x ∉ [na, nb]) → lp (ρ := Option Str) (fun (s33 : Unit) (x35 : Str) => if decide (x35 ∈ [na, nb]) = true then (some (.rt (some x35))) else (some (.nx ()))) () (pre ++ n :: r) = some (.rt (some n)) := by
    intro pre
    induction pre with
    | nil =>
      intro _
      show lp _ () (n :: r) = _
      unfold lp
      rw [if_pos (decide_eq_true hin)]
      rfl
    | cons p q ih =>
      intro h
      show lp _ () (p :: (q ++ n :: r)) = _
      unfold lp
      rw [if_neg (by rw [decide_eq_false (h p (List.mem_cons_self ..))]; decide)]
      exact ih fun x hx => h x (List.mem_cons_of_mem _ hx)
  rw [el pre hx, bd_some]
  rfl
theorem both_litL (d : Nat) (o : List Str) (c : Bool) (b : Tr) : m_p_both (d + 1) o (.lit c) b = some (if c = true then b else .lit false) := by
  unfold m_p_both
  simp only [Tr.isLit, Tr.b?, if_true, bd_some]
theorem both_litR (d : Nat) (o : List Str) (c : Bool) (a : Tr) : m_p_both (d + 1) o a (.lit c) = some (if c = true then a else .lit false) := by
  cases a with
  | lit a =>
    rw [both_litL]
    cases a <;> cases c <;> rfl
  | nd n l h =>
    unfold m_p_both
    simp only [Tr.isLit, Tr.b?, if_true, if_false, bd_some, Bool.false_eq_true]
theorem mk_lit {n : Str} {l h : Tr} {c : Bool} (e : mkT n l h = .lit c) : l = .lit c ∧ h = .lit c := by
  unfold mkT at e
  split at e
  · rename_i z
    exact ⟨e, z ▸ e⟩
  · cases e
abbrev andB (xs ys : List Int) : List Int := List.zipWith Builtin.bitAnd xs ys
theorem both_ok : ∀ (ns pre : List Str) (d : Nat) (xs ys : List Int), ns.length < d → (pre ++ ns).Nodup → (∀ x ∈ ns, Asc x) → ns.length ≤ 8 → Bits ns.length xs → Bits ns.length ys →
    m_p_both d (pre ++ ns) (can ns xs) (can ns ys) = some (can ns (andB xs ys))
  | _, _, 0, _, _, h, _, _, _, _, _ => absurd h (Nat.not_lt_zero _)
  | [], pre, d + 1, xs, ys, h, nd, ha, h8, hx, hy => by
    obtain ⟨lx, bx⟩ := hx
    obtain ⟨ly, by_⟩ := hy
    match xs, lx, ys, ly with
    | [x], _, [y], _ =>
      unfold can
      rw [both_litL]
      rcases bx x (List.mem_cons_self ..) with rfl | rfl <;> rcases by_ y (List.mem_cons_self ..) with rfl | rfl <;> decide
  | n :: r, pre, d + 1, xs, ys, h, nd, ha, h8, hx, hy => by
    have hp : 2 ^ (n :: r).length = 2 * 2 ^ r.length := by rw [List.length_cons, Nat.pow_succ]; omega
    have kx : xs.length / 2 = 2 ^ r.length := by have := hx.len; omega
    have ky : ys.length / 2 = 2 ^ r.length := by have := hy.len; omega
    have xl := hx.len
    have yl := hy.len
    rw [List.length_cons] at h h8
    have X1 : Bits r.length (xs.take (2 ^ r.length)) := ⟨by rw [List.length_take]; omega, fun b hb => hx.bit b (List.mem_of_mem_take hb)⟩
    have X2 : Bits r.length (xs.drop (2 ^ r.length)) := ⟨by rw [List.length_drop]; omega, fun b hb => hx.bit b (List.mem_of_mem_drop hb)⟩
    have Y1 : Bits r.length (ys.take (2 ^ r.length)) := ⟨by rw [List.length_take]; omega, fun b hb => hy.bit b (List.mem_of_mem_take hb)⟩
    have Y2 : Bits r.length (ys.drop (2 ^ r.length)) := ⟨by rw [List.length_drop]; omega, fun b hb => hy.bit b (List.mem_of_mem_drop hb)⟩
    have eo : pre ++ n :: r = (pre ++ [n]) ++ r := by simp
    have har : ∀ x ∈ r, Asc x := fun x hx => ha x (List.mem_cons_of_mem _ hx)
    have L : ∀ e, r.length < e → m_p_both e (pre ++ n :: r) (can r (xs.take (2 ^ r.length))) (can r (ys.take (2 ^ r.length))) = some (can r (andB (xs.take (2 ^ r.length)) (ys.take (2 ^ r.length)))) := fun e he => by
      rw [eo]; exact both_ok r (pre ++ [n]) e _ _ he (by rw [← eo]; exact nd) har (by omega) X1 Y1
    have R : ∀ e, r.length < e → m_p_both e (pre ++ n :: r) (can r (xs.drop (2 ^ r.length))) (can r (ys.drop (2 ^ r.length))) = some (can r (andB (xs.drop (2 ^ r.length)) (ys.drop (2 ^ r.length)))) := fun e he => by
      rw [eo]; exact both_ok r (pre ++ [n]) e _ _ he (by rw [← eo]; exact nd) har (by omega) X2 Y2
    have hnr : n ∉ r := by
      obtain ⟨_, h2, _⟩ := List.nodup_append.mp nd
      exact (List.nodup_cons.mp h2).1
    have zl : (andB xs ys).length / 2 = 2 ^ r.length := by
      show (List.zipWith _ _ _).length / 2 = _
      rw [List.length_zipWith]
      omega
    have ez : can (n :: r) (andB xs ys) = mkT n (can r (andB (xs.take (2 ^ r.length)) (ys.take (2 ^ r.length)))) (can r (andB (xs.drop (2 ^ r.length)) (ys.drop (2 ^ r.length)))) := by
      show mkT n (can r ((andB xs ys).take ((andB xs ys).length / 2))) (can r ((andB xs ys).drop ((andB xs ys).length / 2))) = _
      rw [zl]
      show mkT n (can r ((List.zipWith _ xs ys).take _)) (can r ((List.zipWith _ xs ys).drop _)) = _
      rw [List.take_zipWith, List.drop_zipWith]
    have ex : can (n :: r) xs = mkT n (can r (xs.take (2 ^ r.length))) (can r (xs.drop (2 ^ r.length))) := by
      show mkT n (can r (xs.take (xs.length / 2))) (can r (xs.drop (xs.length / 2))) = _
      rw [kx]
    have ey : can (n :: r) ys = mkT n (can r (ys.take (2 ^ r.length))) (can r (ys.drop (2 ^ r.length))) := by
      show mkT n (can r (ys.take (ys.length / 2))) (can r (ys.drop (ys.length / 2))) = _
      rw [ky]
    have N : ∀ (bs : List Int), n ∉ nms (can r bs) := fun bs hm => hnr (can_nms r bs n hm)
    rw [ez, ex, ey]
    have cd1 := can_deep r (andB (xs.take (2 ^ r.length)) (ys.take (2 ^ r.length)))
    have cd2 := can_deep r (andB (xs.drop (2 ^ r.length)) (ys.drop (2 ^ r.length)))
    have sh1 : shp (can r (andB (xs.take (2 ^ r.length)) (ys.take (2 ^ r.length)))) = true := shp_tree (fun x hx => har x (can_nms r _ x hx)) (by omega)
    have sh2 : shp (can r (andB (xs.drop (2 ^ r.length)) (ys.drop (2 ^ r.length)))) = true := shp_tree (fun x hx => har x (can_nms r _ x hx)) (by omega)
    have L0 := L (d + 1) (by omega)
    have R0 := R (d + 1) (by omega)
    have L1 := fun h : r.length < d => L d h
    have R1 := fun h : r.length < d => R d h
    have NA1 := N (xs.take (2 ^ r.length))
    have NA2 := N (xs.drop (2 ^ r.length))
    have NB1 := N (ys.take (2 ^ r.length))
    have NB2 := N (ys.drop (2 ^ r.length))
    have cA1 := fun x (h : x ∈ nms (can r (xs.take (2 ^ r.length)))) => can_nms r _ x h
    have cB1 := fun x (h : x ∈ nms (can r (ys.take (2 ^ r.length)))) => can_nms r _ x h
    clear L R ez ex ey
    generalize can r (xs.take (2 ^ r.length)) = A1 at *
    generalize can r (xs.drop (2 ^ r.length)) = A2 at *
    generalize can r (ys.take (2 ^ r.length)) = B1 at *
    generalize can r (ys.drop (2 ^ r.length)) = B2 at *
    generalize can r (andB (xs.take (2 ^ r.length)) (ys.take (2 ^ r.length))) = C1 at *
    generalize can r (andB (xs.drop (2 ^ r.length)) (ys.drop (2 ^ r.length))) = C2 at *
    cases ea : mkT n A1 A2 with
    | lit c =>
      obtain ⟨rfl, rfl⟩ := mk_lit ea
      rw [both_litL] at L0 R0 ⊢
      cases c with
      | true => rw [if_pos rfl] at L0 R0 ⊢; rw [Option.some.inj L0, Option.some.inj R0]
      | false =>
        have l0 : Tr.lit false = C1 := Option.some.inj L0
        have r0 : Tr.lit false = C2 := Option.some.inj R0
        rw [← l0, ← r0, mkT_same]
        rfl
    | nd na la ha' =>
      cases eb : mkT n B1 B2 with
      | lit c =>
        obtain ⟨rfl, rfl⟩ := mk_lit eb
        rw [both_litR] at L0 R0 ⊢
        cases c with
        | true =>
          rw [if_pos rfl] at L0 R0 ⊢
          rw [← ea, Option.some.inj L0, Option.some.inj R0]
        | false =>
          have l0 : Tr.lit false = C1 := Option.some.inj L0
          have r0 : Tr.lit false = C2 := Option.some.inj R0
          rw [← l0, ← r0, mkT_same]
          rfl
      | nd nb lb hb =>
        by_cases same : A1 = A2 ∧ B1 = B2
        · obtain ⟨rfl, rfl⟩ := same
          rw [mkT_same] at ea eb
          rw [← ea, ← eb, L0]
          rw [L0] at R0
          rw [← Option.some.inj R0, mkT_same]
        · have da : na ∈ n :: r ∧ (A1 ≠ A2 → na = n) := by
            unfold mkT at ea
            split at ea
            · rename_i e
              exact ⟨List.mem_cons_of_mem _ (cA1 na (by rw [ea]; unfold nms; exact List.mem_cons_self ..)), fun z => absurd e z⟩
            · obtain ⟨e1, _, _⟩ := Tr.nd.inj ea
              exact ⟨by rw [e1]; exact List.mem_cons_self .., fun _ => e1.symm⟩
          have db : nb ∈ n :: r ∧ (B1 ≠ B2 → nb = n) := by
            unfold mkT at eb
            split at eb
            · rename_i e
              exact ⟨List.mem_cons_of_mem _ (cB1 nb (by rw [eb]; unfold nms; exact List.mem_cons_self ..)), fun z => absurd e z⟩
            · obtain ⟨e1, _, _⟩ := Tr.nd.inj eb
              exact ⟨by rw [e1]; exact List.mem_cons_self .., fun _ => e1.symm⟩
          have hn : na = n ∨ nb = n := by
            by_cases e1 : A1 = A2
            · exact .inr (db.2 fun e2 => same ⟨e1, e2⟩)
            · exact .inl (da.2 e1)
          have tp := top_ok (a := .nd na la ha') (b := .nd nb lb hb) rfl rfl nd da.1 db.1 hn
          have p0 : m_p_half_of (.nd na la ha') n 0 = some A1 := by rw [← ea]; exact half0 NA1
          have p1 : m_p_half_of (.nd na la ha') n 1 = some A2 := by rw [← ea]; exact half1 NA2
          have q0 : m_p_half_of (.nd nb lb hb) n 0 = some B1 := by rw [← eb]; exact half0 NB1
          have q1 : m_p_half_of (.nd nb lb hb) n 1 = some B2 := by rw [← eb]; exact half1 NB2
          have l1 := L1 (by omega)
          have r1 := R1 (by omega)
          unfold m_p_both
          simp only [Tr.isLit, Bool.false_eq_true, if_false]
          rw [tp, bd_some, bd_some, p0, bd_some, q0, bd_some, l1, bd_some, p1, bd_some, q1, bd_some, r1, bd_some]
          unfold m_p_two_halves mkT
          rw [ck_pos ⟨sh1, sh2⟩, bd_some]
          by_cases e : C1 = C2
          · rw [if_pos (decide_eq_true e), if_pos e]; rfl
          · rw [if_neg (by rw [decide_eq_false e]; decide), if_neg e]; rfl
end G

namespace G
open PySem L2 Pv
theorem zip_map {f : Int → Int → Int} : ∀ xs ys : List Int, List.map (fun (p : Int × Int) => f p.1 p.2) (xs.zip ys) = List.zipWith f xs ys
  | [], ys => by simp
  | x :: xs, [] => by simp
  | x :: xs, y :: ys => by simp [zip_map xs ys]
theorem bit_cases {xs ys : List Int} {f : Int → Int → Int} (hf : ∀ a b, (a = 0 ∨ a = 1) → (b = 0 ∨ b = 1) → f a b = 0 ∨ f a b = 1) (hx : ∀ b ∈ xs, b = 0 ∨ b = 1) (hy : ∀ b ∈ ys, b = 0 ∨ b = 1) : ∀ b ∈ List.zipWith f xs ys, b = 0 ∨ b = 1 := by
  induction xs generalizing ys with
  | nil => intro b h; simp at h
  | cons x xs ih =>
    cases ys with
    | nil => intro b h; simp at h
    | cons y ys =>
      intro b h
      rw [List.zipWith_cons_cons] at h
      rcases List.mem_cons.mp h with rfl | h
      · exact hf _ _ (hx x (List.mem_cons_self ..)) (hy y (List.mem_cons_self ..))
      · exact ih (fun b h => hx b (List.mem_cons_of_mem _ h)) (fun b h => hy b (List.mem_cons_of_mem _ h)) b h
theorem and_bit (a b : Int) (ha : a = 0 ∨ a = 1) (hb : b = 0 ∨ b = 1) : Builtin.bitAnd a b = 0 ∨ Builtin.bitAnd a b = 1 := by
  rcases ha with rfl | rfl <;> rcases hb with rfl | rfl <;> decide
theorem or_bit (a b : Int) (ha : a = 0 ∨ a = 1) (hb : b = 0 ∨ b = 1) : Builtin.bitOr a b = 0 ∨ Builtin.bitOr a b = 1 := by
  rcases ha with rfl | rfl <;> rcases hb with rfl | rfl <;> decide
theorem or_and {xs ys : List Int} (hx : ∀ b ∈ xs, b = 0 ∨ b = 1) (hy : ∀ b ∈ ys, b = 0 ∨ b = 1) :
    (List.zipWith Builtin.bitAnd (xs.map fun b => (1 : Int) - b) (ys.map fun b => (1 : Int) - b)).map (fun b => (1 : Int) - b) = List.zipWith Builtin.bitOr xs ys := by
  induction xs generalizing ys with
  | nil => simp
  | cons x xs ih =>
    cases ys with
    | nil => simp
    | cons y ys =>
      simp only [List.map_cons, List.zipWith_cons_cons]
      rw [ih (fun b h => hx b (List.mem_cons_of_mem _ h)) (fun b h => hy b (List.mem_cons_of_mem _ h))]
      congr 1
      rcases hx x (List.mem_cons_self ..) with rfl | rfl <;> rcases hy y (List.mem_cons_self ..) with rfl | rfl <;> decide
theorem Bits.neg {n : Nat} {xs : List Int} (h : Bits n xs) : Bits n (xs.map fun b => (1 : Int) - b) := ⟨by rw [List.length_map, h.len], fun b hb => by
  obtain ⟨x, hx, rfl⟩ := List.mem_map.mp hb
  rcases h.bit x hx with rfl | rfl
  · exact .inr rfl
  · exact .inl rfl⟩
theorem right_ok {ns : List Str} (hn : Names ns) {xs ys : List Int} (hx : Bits ns.length xs) (hy : Bits ns.length ys) : m_right ns xs ys = some true := by
  have h8 := hn.len
  have hp := pow8 h8
  have lx := hx.len
  have ly := hy.len
  have sz := size64
  have lz : (xs.zip ys).length ≤ sizeLine := by rw [List.length_zip, sz]; omega
  have BA : Bits ns.length (List.zipWith Builtin.bitAnd xs ys) := ⟨by rw [List.length_zipWith]; omega, bit_cases and_bit hx.bit hy.bit⟩
  have BO : Bits ns.length (List.zipWith Builtin.bitOr xs ys) := ⟨by rw [List.length_zipWith]; omega, bit_cases or_bit hx.bit hy.bit⟩
  have C : ∀ bs, Bits ns.length bs → m_canon 12 ns bs = some (can ns bs) := fun bs h => canon_ok ns 12 bs (by omega) h8 hn.asc h.len
  have S : ∀ bs t, m_same_tree 12 (can ns bs) t = some (decide (can ns bs = t)) := fun bs t => same_ok 12 _ _ (by have := can_deep ns bs; omega)
  have D : ∀ bs, deep (can ns bs) < 12 := fun bs => by have := can_deep ns bs; omega
  have B : ∀ xs ys, Bits ns.length xs → Bits ns.length ys → m_p_both 12 ns (can ns xs) (can ns ys) = some (can ns (List.zipWith Builtin.bitAnd xs ys)) := fun xs ys h1 h2 => both_ok ns [] 12 xs ys (by omega) hn.nd hn.asc h8 h1 h2
  have OP : ∀ bs, Bits ns.length bs → m_p_opposite 12 (can ns bs) = some (can ns (bs.map fun b => (1 : Int) - b)) := fun bs h => by rw [opposite_ok 12 _ (D bs), opp_can ns bs h.len h.bit]
  have E : m_p_either ns (can ns xs) (can ns ys) = some (can ns (List.zipWith Builtin.bitOr xs ys)) := by
    unfold m_p_either
    have BN : Bits ns.length (List.zipWith Builtin.bitAnd (xs.map fun b => (1 : Int) - b) (ys.map fun b => (1 : Int) - b)) := ⟨by rw [List.length_zipWith, List.length_map, List.length_map]; omega, bit_cases and_bit hx.neg.bit hy.neg.bit⟩
    rw [OP xs hx, bd_some, OP ys hy, bd_some, B _ _ hx.neg hy.neg, bd_some, OP _ BN, bd_some, or_and hx.bit hy.bit]
  unfold m_right
  rw [C xs hx, bd_some, C ys hy, bd_some, ck_pos lz, bd_some, zip_map, C _ BA, bd_some, B xs ys hx hy, bd_some, S, bd_some, decide_eq_true rfl]
  rw [if_neg (by decide), bd_some, zip_map, C _ BO, bd_some, E, bd_some, S, bd_some, decide_eq_true rfl]
  rw [if_neg (by decide), ck_pos (by rw [lx, sz]; omega), bd_some, C _ hx.neg, bd_some, OP xs hx, bd_some, S, bd_some, decide_eq_true rfl, if_pos rfl, ck_pos ⟨shp_strs hn.asc, shp_strs hn.asc⟩, bd_some, bd_some, decide_eq_true rfl]
theorem law_true (ns : List Int) (h : ns.length ≤ 63) : m_law ⟨ns⟩ = some true := by
  refine Ok.eq ?_
  unfold m_law
  refine Ok.bd (order_ok _) fun o ho => ?_
  have h8 := ho.len
  refine Ok.bd (p := fun m => 0 ≤ m ∧ m ≤ 10) ?_ fun m hm => ?_
  · by_cases c : (6 : Int) < (o.length : Int)
    · rw [if_pos (decide_eq_true c)]; exact Ok.imp (Ok.of (show _ = some (2 : Int) from rfl)) fun a e => by subst e; decide
    · rw [if_neg (by rw [decide_eq_false c]; decide)]; exact Ok.imp (Ok.of (show _ = some (10 : Int) from rfl)) fun a e => by subst e; decide
  · have hc : (cutL (⟨ns⟩ : Scr).l (some (1 : Int)) (some (63 : Int))).length ≤ 63 := Nat.le_trans (by
      unfold cutL
      rw [List.length_take, List.length_drop]
      have := HT.sIx_le ns.length ns.length (Nat.le_refl _) (some 63)
      show min (HT.sIx ns.length ns.length (some 63) - _) _ ≤ ns.length
      omega) h
    generalize (cutL (⟨ns⟩ : Scr).l (some (1 : Int)) (some (63 : Int))).length = c at hc ⊢
    have hr : 0 ≤ (if ((c : Int) / (2 : Int)) < m then ((c : Int) / (2 : Int)) else m) ∧ (if ((c : Int) / (2 : Int)) < m then ((c : Int) / (2 : Int)) else m) ≤ 63 := by
      split <;> omega
    generalize (if ((c : Int) / (2 : Int)) < m then ((c : Int) / (2 : Int)) else m) = t at hr ⊢
    refine Ok.ck ⟨by omega, by omega⟩ ?_
    refine Ok.bd (lp_thru (fun _ => True) trivial fun s k hk _ => ?_) fun c hc => ?_
    · have hk' := rng_mem hk
      refine Ok.bd (number_ok _ (by omega) (by omega)) fun z1 _ => Ok.bd (bits_ok z1 h8) fun b1 hb1 => ?_
      refine Ok.bd (number_ok _ (by omega) (by omega)) fun z2 _ => Ok.bd (bits_ok z2 h8) fun b2 hb2 => ?_
      have hl : b1.length ≤ sizeLine := by rw [hb1.len, size64]; have := pow8 h8; omega
      refine Ok.ck hl (Ok.lt (Ok.ck hl (Ok.lt (Ok.ck hl ?_))))
      refine Ok.bd (lp_thru (fun _ => True) trivial fun s x hx _ => ?_) fun c hc => ?_
      · have hxb : Bits o.length x := by
          simp only [List.mem_cons, List.not_mem_nil, or_false] at hx
          rcases hx with rfl | rfl | rfl | rfl | rfl
          · exact hb2
          · exact ⟨by rw [List.length_map, hb1.len], fun b hb => by obtain ⟨_, _, rfl⟩ := List.mem_map.mp hb; exact .inr rfl⟩
          · exact ⟨by rw [List.length_map, hb1.len], fun b hb => by obtain ⟨_, _, rfl⟩ := List.mem_map.mp hb; exact .inl rfl⟩
          · exact hb1
          · exact hb1.neg
        refine Ok.is (right_ok ho hb1 hxb) ?_
        refine Ok.is (a := false) (by rw [right_ok ho hxb hb1]; rfl) ?_
        rw [if_neg (by decide)]
        refine Ok.bd (turned_ok h8 hb1) fun t1 ht1 => Ok.bd (turned_ok h8 hxb) fun t2 ht2 => Ok.lt ?_
        have hrev : Names o.reverse := ⟨(List.pairwise_reverse.mpr (ho.nd.imp fun h e => h e.symm)), fun x hx => ho.asc x (List.mem_reverse.mp hx), by rw [List.length_reverse]; exact h8⟩
        have hlr : o.reverse.length = o.length := List.length_reverse
        refine Ok.is (a := false) ?_ ?_
        · split
          · rw [atI_cons0, bd_some, show atI [t1, t2] (1 : Int) = some t2 from rfl, bd_some, right_ok hrev (by rw [hlr]; exact ht1) (by rw [hlr]; exact ht2)]
            rfl
          · rfl
        · rw [if_neg (by decide)]
          refine Ok.is (a := false) ?_ ?_
          · split
            · rw [right_ok ho hb1 hxb]
              rfl
            · rfl
          · rw [if_neg (by decide)]
            exact Ok.ret ⟨(), rfl, trivial⟩
      · obtain ⟨s', rfl, _⟩ := hc
        exact Ok.ret ⟨(), rfl, trivial⟩
    · obtain ⟨s', rfl, _⟩ := hc
      exact Ok.ret rfl
end G

namespace G
open PySem L2 Pv
section
/-- a def that the top wrote -/
def DefOk {K : PySem.W.Frag} {h : Heap} (_ : K.In h) (mg : Str → Option Value) (name : Str) (st : Stmt) (ps : List Str) : Prop := ∃ f fd, C8.Def K mg name st f fd ∧ Binds K fd ps []
theorem def_mk {K : PySem.W.Frag} {h : Heap} {mg : Str → Option Value} {name : Str} {st : Stmt} {ps : List Str} {f : Addr} {od an : Option Addr} {sl : Array (Option Value)} {oc kV dc pm cd ct : Value} (X : K.In h) (G : h.Ns mainGlobals mg)
    (hb : ∀ (kV dc pm : Value) (an : Option Addr) (cdv ct : Value) (us : List Value), us.length = ps.length → bindArgs (PySem.W.fnOf name name (C8.fnArgs st) (C8.fnBody st) (C8.fnScope st) .none kV dc pm an cdv ct) ⟨us, []⟩ = pure (ps.zip us))
    (a : PySem.W.nsIn K mainGlobals name = some (some (.ref f))) (l : K.lookup f = some ⟨oc, od, .func (PySem.W.fnOf name name (C8.fnArgs st) (C8.fnBody st) (C8.fnScope st) .none kV dc pm an cd ct), sl⟩) (c : PySem.W.codeIn K cd name = true) (k : PySem.W.keepIn K (.ref f) = true) : DefOk X mg name st ps := by
  have F : C8.Fun K name name st f _ := ⟨⟨oc, od, .none, kV, dc, pm, an, cd, ct, sl, rfl, l, c⟩⟩
  exact ⟨f, _, ⟨F, PySem.W.mg_of X G a, k⟩, F.binds rfl hb⟩
theorem law_mk {P : Program} {w : World} {K : PySem.W.Frag} {h : Heap} {mg : Str → Option Value} {fa f : Addr} {od an : Option Addr} {sl : Array (Option Value)} {oc kV dc pm cd ct : Value} (X : K.In h) (G : h.Ns mainGlobals mg) (hfa : mg "law" = some (.ref fa))
    (d_cell_at : DefOk X mg "_law_cell_at" s_cell_at ["_law_script", "_law_k"])
    (d_mix : DefOk X mg "_law_mix" s_mix ["_law_cell", "_law_k"])
    (d_rich : DefOk X mg "_law_rich" s_rich ["_law_cell", "_law_k"])
    (d_pick : DefOk X mg "_law_pick" s_pick ["_law_left", "_law_many"])
    (d_spelt : DefOk X mg "_law_spelt" s_spelt ["_law_left", "_law_told"])
    (d_p_two_halves : DefOk X mg "two_halves" s_p_two_halves ["name", "low", "high"])
    (d_p_top_name : DefOk X mg "top_name" s_p_top_name ["order", "trees"])
    (d_p_half_of : DefOk X mg "half_of" s_p_half_of ["tree", "name", "bit"])
    (d_p_opposite : DefOk X mg "opposite" s_p_opposite ["tree"])
    (d_p_both : DefOk X mg "both" s_p_both ["order", "one", "other"])
    (d_p_either : DefOk X mg "either" s_p_either ["order", "one", "other"])
    (d_same_tree : DefOk X mg "_law_same_tree" s_same_tree ["_law_found", "_law_due"])
    (d_canon : DefOk X mg "_law_canon" s_canon ["_law_names", "_law_bits_here"])
    (d_order : DefOk X mg "_law_order" s_order ["_law_script"])
    (d_number : DefOk X mg "_law_number" s_number ["_law_script", "_law_k"])
    (d_bits : DefOk X mg "_law_bits" s_bits ["_law_number_here", "_law_many"])
    (d_turned : DefOk X mg "_law_turned" s_turned ["_law_bits_here", "_law_many"])
    (d_right : DefOk X mg "_law_right" s_right ["_law_names", "_law_one", "_law_other"])
    (z_bool : PySem.W.nsIn K mainGlobals "bool" = some none)
    (z_int : PySem.W.nsIn K mainGlobals "int" = some none)
    (z_isinstance : PySem.W.nsIn K mainGlobals "isinstance" = some none)
    (z_len : PySem.W.nsIn K mainGlobals "len" = some none)
    (z_list : PySem.W.nsIn K mainGlobals "list" = some none)
    (z_min : PySem.W.nsIn K mainGlobals "min" = some none)
    (z_range : PySem.W.nsIn K mainGlobals "range" = some none)
    (z_reversed : PySem.W.nsIn K mainGlobals "reversed" = some none)
    (z_str : PySem.W.nsIn K mainGlobals "str" = some none)
    (z_tuple : PySem.W.nsIn K mainGlobals "tuple" = some none)
    (z_zip : PySem.W.nsIn K mainGlobals "zip" = some none)
    (a : PySem.W.nsIn K mainGlobals "law" = some (some (.ref f))) (l : K.lookup f = some ⟨oc, od, .func (PySem.W.fnOf "law" "law" (C8.fnArgs s_law) (C8.fnBody s_law) (C8.fnScope s_law) .none kV dc pm an cd ct), sl⟩) (c : PySem.W.codeIn K cd "law" = true) :
    ∃ fd : FuncData, (∀ (s : Shared) (v : Value), BindsTo s fd ⟨[v], []⟩ [("_law_script", v)]) ∧ ∀ base : Heap, K.In base → base.Ns mainGlobals mg → FnOk P w K mg base C8.CX0 28 fa fd ["_law_script"] (sp_law K) := by
  have e := hfa.symm.trans (PySem.W.mg_of X G a)
  cases e
  have T : Tx mg := ⟨PySem.W.mg_none_of X G z_bool, PySem.W.mg_none_of X G z_int, PySem.W.mg_none_of X G z_isinstance, PySem.W.mg_none_of X G z_len, PySem.W.mg_none_of X G z_list, PySem.W.mg_none_of X G z_min, PySem.W.mg_none_of X G z_range, PySem.W.mg_none_of X G z_reversed, PySem.W.mg_none_of X G z_str, PySem.W.mg_none_of X G z_tuple, PySem.W.mg_none_of X G z_zip⟩
  obtain ⟨f_cell_at, fd_cell_at, D_cell_at, B_cell_at⟩ := d_cell_at
  obtain ⟨f_mix, fd_mix, D_mix, B_mix⟩ := d_mix
  obtain ⟨f_rich, fd_rich, D_rich, B_rich⟩ := d_rich
  obtain ⟨f_pick, fd_pick, D_pick, B_pick⟩ := d_pick
  obtain ⟨f_spelt, fd_spelt, D_spelt, B_spelt⟩ := d_spelt
  obtain ⟨f_p_two_halves, fd_p_two_halves, D_p_two_halves, B_p_two_halves⟩ := d_p_two_halves
  obtain ⟨f_p_top_name, fd_p_top_name, D_p_top_name, B_p_top_name⟩ := d_p_top_name
  obtain ⟨f_p_half_of, fd_p_half_of, D_p_half_of, B_p_half_of⟩ := d_p_half_of
  obtain ⟨f_p_opposite, fd_p_opposite, D_p_opposite, B_p_opposite⟩ := d_p_opposite
  obtain ⟨f_p_both, fd_p_both, D_p_both, B_p_both⟩ := d_p_both
  obtain ⟨f_p_either, fd_p_either, D_p_either, B_p_either⟩ := d_p_either
  obtain ⟨f_same_tree, fd_same_tree, D_same_tree, B_same_tree⟩ := d_same_tree
  obtain ⟨f_canon, fd_canon, D_canon, B_canon⟩ := d_canon
  obtain ⟨f_order, fd_order, D_order, B_order⟩ := d_order
  obtain ⟨f_number, fd_number, D_number, B_number⟩ := d_number
  obtain ⟨f_bits, fd_bits, D_bits, B_bits⟩ := d_bits
  obtain ⟨f_turned, fd_turned, D_turned, B_turned⟩ := d_turned
  obtain ⟨f_right, fd_right, D_right, B_right⟩ := d_right
  refine ⟨PySem.W.fnOf "law" "law" (C8.fnArgs s_law) (C8.fnBody s_law) (C8.fnScope s_law) .none kV dc pm an cd ct, fun s v => .of_eq rfl, fun base _ _ => ?_⟩
  have c_cell_at := ok_cell_at (P := P) (w := w) (base := base) T D_cell_at B_cell_at
  have c_mix := ok_mix (P := P) (w := w) (base := base) T D_mix B_mix
  have c_rich := ok_rich (P := P) (w := w) (base := base) T c_mix D_rich B_rich
  have c_pick := ok_pick (P := P) (w := w) (base := base) T D_pick B_pick
  have c_spelt := ok_spelt (P := P) (w := w) (base := base) T c_pick D_spelt B_spelt
  have c_p_two_halves := ok_p_two_halves (P := P) (w := w) (base := base) T D_p_two_halves B_p_two_halves
  have c_p_top_name := ok_p_top_name (P := P) (w := w) (base := base) T D_p_top_name B_p_top_name
  have c_p_half_of := ok_p_half_of (P := P) (w := w) (base := base) T D_p_half_of B_p_half_of
  have c_p_opposite := ok_p_opposite (P := P) (w := w) (base := base) T D_p_opposite B_p_opposite 12
  have c_p_both := ok_p_both (P := P) (w := w) (base := base) T c_p_top_name c_p_half_of c_p_two_halves D_p_both B_p_both 12
  have c_p_either := ok_p_either (P := P) (w := w) (base := base) T c_p_opposite c_p_both D_p_either B_p_either
  have c_same_tree := ok_same_tree (P := P) (w := w) (base := base) T D_same_tree B_same_tree 12
  have c_canon := ok_canon (P := P) (w := w) (base := base) T c_same_tree D_canon B_canon 12
  have c_order := ok_order (P := P) (w := w) (base := base) T c_cell_at c_rich c_pick c_spelt D_order B_order
  have c_number := ok_number (P := P) (w := w) (base := base) T c_cell_at c_rich D_number B_number
  have c_bits := ok_bits (P := P) (w := w) (base := base) T D_bits B_bits
  have c_turned := ok_turned (P := P) (w := w) (base := base) T D_turned B_turned
  have c_right := ok_right (P := P) (w := w) (base := base) T c_canon c_p_both c_same_tree c_p_either c_p_opposite D_right B_right
  exact ok_law T c_order c_number c_bits c_right c_turned ⟨⟨oc, od, .none, kV, dc, pm, an, cd, ct, sl, rfl, l, c⟩⟩
theorem walk {l : PySem.W.OpenLaw} {q : Program} {loose : List Str} {XP : (Str → Option Value) → Heap → Prop} {YP : World → Heap → Prop} {d : DefRec} {K : Params → PySem.W.Frag} (hn : l.most = some 63) (hdf : d.params.defaults = [])
    (hY : ∀ (w : World) (h : Heap), YP w h → (K w.params).In h)
    (F : ∀ (w : World) (mg : Str → Option Value) (fa : Addr) (h : Heap), (K w.params).In h → h.Ns mainGlobals mg → mg d.name = some (.ref fa) →
      ∃ fd : FuncData, (∀ (s : Shared) (u : Value), BindsTo s fd ⟨[u], []⟩ [("_law_script", u)]) ∧ ∀ base : Heap, (K w.params).In base → base.Ns mainGlobals mg → FnOk l.prog w (K w.params) mg base C8.CX0 28 fa fd ["_law_script"] (sp_law (K w.params))) :
    PySem.W.WalkO q loose XP YP l.row.toRowW d [] (fun f vs => PySem.call f vs) :=
  L2.walk_of (n := 63) (k := 28) (x := "_law_script") (CX := fun _ => C8.CX0) (sp := fun w => sp_law (K w.params)) hn (by decide) hdf ⟨rfl, by decide, by decide⟩ hY F
    (fun _ H a ns hl _ hS => ⟨H, .ref a, ⟨ns⟩, true, rfl, Ws.start H, ⟨a, rfl, hS, hl⟩, law_true ns hl, fun w B' H' _ r => r⟩) fun _ _ _ _ _ z => z
end
end G
set_option maxRecDepth 100000 in
set_option maxHeartbeats 0 in
theorem PySem.Challenge.cw_everguard_k41_both_either_opposite_holds : PySem.Challenge.rw_everguard_k41_both_either_opposite.Holds := by
  w_on; o_law; k_head; (case hw => w_witness2)
  k_fill
  refine G.walk (l := PySem.Challenge.rw_everguard_k41_both_either_opposite) rfl rfl (fun w h Y => PySem.W.kIn_of Y) ?F
  case F =>
    intro w mg fa h KX GN hmg
    have d_cell_at : G.DefOk KX mg "_law_cell_at" G.s_cell_at ["_law_script", "_law_k"] := by
      refine' G.def_mk KX GN (fun _ _ _ _ _ _ us hl => match us, hl with | [_, _], _ => rfl) ?a ?l ?c ?k
      (case a => k_is); (case l => k_is); (case c => k_is); (case k => k_is)
    have d_mix : G.DefOk KX mg "_law_mix" G.s_mix ["_law_cell", "_law_k"] := by
      refine' G.def_mk KX GN (fun _ _ _ _ _ _ us hl => match us, hl with | [_, _], _ => rfl) ?a ?l ?c ?k
      (case a => k_is); (case l => k_is); (case c => k_is); (case k => k_is)
    have d_rich : G.DefOk KX mg "_law_rich" G.s_rich ["_law_cell", "_law_k"] := by
      refine' G.def_mk KX GN (fun _ _ _ _ _ _ us hl => match us, hl with | [_, _], _ => rfl) ?a ?l ?c ?k
      (case a => k_is); (case l => k_is); (case c => k_is); (case k => k_is)
    have d_pick : G.DefOk KX mg "_law_pick" G.s_pick ["_law_left", "_law_many"] := by
      refine' G.def_mk KX GN (fun _ _ _ _ _ _ us hl => match us, hl with | [_, _], _ => rfl) ?a ?l ?c ?k
      (case a => k_is); (case l => k_is); (case c => k_is); (case k => k_is)
    have d_spelt : G.DefOk KX mg "_law_spelt" G.s_spelt ["_law_left", "_law_told"] := by
      refine' G.def_mk KX GN (fun _ _ _ _ _ _ us hl => match us, hl with | [_, _], _ => rfl) ?a ?l ?c ?k
      (case a => k_is); (case l => k_is); (case c => k_is); (case k => k_is)
    have d_p_two_halves : G.DefOk KX mg "two_halves" G.s_p_two_halves ["name", "low", "high"] := by
      refine' G.def_mk KX GN (fun _ _ _ _ _ _ us hl => match us, hl with | [_, _, _], _ => rfl) ?a ?l ?c ?k
      (case a => k_is); (case l => k_is); (case c => k_is); (case k => k_is)
    have d_p_top_name : G.DefOk KX mg "top_name" G.s_p_top_name ["order", "trees"] := by
      refine' G.def_mk KX GN (fun _ _ _ _ _ _ us hl => match us, hl with | [_, _], _ => rfl) ?a ?l ?c ?k
      (case a => k_is); (case l => k_is); (case c => k_is); (case k => k_is)
    have d_p_half_of : G.DefOk KX mg "half_of" G.s_p_half_of ["tree", "name", "bit"] := by
      refine' G.def_mk KX GN (fun _ _ _ _ _ _ us hl => match us, hl with | [_, _, _], _ => rfl) ?a ?l ?c ?k
      (case a => k_is); (case l => k_is); (case c => k_is); (case k => k_is)
    have d_p_opposite : G.DefOk KX mg "opposite" G.s_p_opposite ["tree"] := by
      refine' G.def_mk KX GN (fun _ _ _ _ _ _ us hl => match us, hl with | [_], _ => rfl) ?a ?l ?c ?k
      (case a => k_is); (case l => k_is); (case c => k_is); (case k => k_is)
    have d_p_both : G.DefOk KX mg "both" G.s_p_both ["order", "one", "other"] := by
      refine' G.def_mk KX GN (fun _ _ _ _ _ _ us hl => match us, hl with | [_, _, _], _ => rfl) ?a ?l ?c ?k
      (case a => k_is); (case l => k_is); (case c => k_is); (case k => k_is)
    have d_p_either : G.DefOk KX mg "either" G.s_p_either ["order", "one", "other"] := by
      refine' G.def_mk KX GN (fun _ _ _ _ _ _ us hl => match us, hl with | [_, _, _], _ => rfl) ?a ?l ?c ?k
      (case a => k_is); (case l => k_is); (case c => k_is); (case k => k_is)
    have d_same_tree : G.DefOk KX mg "_law_same_tree" G.s_same_tree ["_law_found", "_law_due"] := by
      refine' G.def_mk KX GN (fun _ _ _ _ _ _ us hl => match us, hl with | [_, _], _ => rfl) ?a ?l ?c ?k
      (case a => k_is); (case l => k_is); (case c => k_is); (case k => k_is)
    have d_canon : G.DefOk KX mg "_law_canon" G.s_canon ["_law_names", "_law_bits_here"] := by
      refine' G.def_mk KX GN (fun _ _ _ _ _ _ us hl => match us, hl with | [_, _], _ => rfl) ?a ?l ?c ?k
      (case a => k_is); (case l => k_is); (case c => k_is); (case k => k_is)
    have d_order : G.DefOk KX mg "_law_order" G.s_order ["_law_script"] := by
      refine' G.def_mk KX GN (fun _ _ _ _ _ _ us hl => match us, hl with | [_], _ => rfl) ?a ?l ?c ?k
      (case a => k_is); (case l => k_is); (case c => k_is); (case k => k_is)
    have d_number : G.DefOk KX mg "_law_number" G.s_number ["_law_script", "_law_k"] := by
      refine' G.def_mk KX GN (fun _ _ _ _ _ _ us hl => match us, hl with | [_, _], _ => rfl) ?a ?l ?c ?k
      (case a => k_is); (case l => k_is); (case c => k_is); (case k => k_is)
    have d_bits : G.DefOk KX mg "_law_bits" G.s_bits ["_law_number_here", "_law_many"] := by
      refine' G.def_mk KX GN (fun _ _ _ _ _ _ us hl => match us, hl with | [_, _], _ => rfl) ?a ?l ?c ?k
      (case a => k_is); (case l => k_is); (case c => k_is); (case k => k_is)
    have d_turned : G.DefOk KX mg "_law_turned" G.s_turned ["_law_bits_here", "_law_many"] := by
      refine' G.def_mk KX GN (fun _ _ _ _ _ _ us hl => match us, hl with | [_, _], _ => rfl) ?a ?l ?c ?k
      (case a => k_is); (case l => k_is); (case c => k_is); (case k => k_is)
    have d_right : G.DefOk KX mg "_law_right" G.s_right ["_law_names", "_law_one", "_law_other"] := by
      refine' G.def_mk KX GN (fun _ _ _ _ _ _ us hl => match us, hl with | [_, _, _], _ => rfl) ?a ?l ?c ?k
      (case a => k_is); (case l => k_is); (case c => k_is); (case k => k_is)
    refine' G.law_mk KX GN hmg d_cell_at d_mix d_rich d_pick d_spelt d_p_two_halves d_p_top_name d_p_half_of d_p_opposite d_p_both d_p_either d_same_tree d_canon d_order d_number d_bits d_turned d_right ?z_bool ?z_int ?z_isinstance ?z_len ?z_list ?z_min ?z_range ?z_reversed ?z_str ?z_tuple ?z_zip ?a ?l ?c
    (case z_bool => k_is); (case z_int => k_is); (case z_isinstance => k_is); (case z_len => k_is); (case z_list => k_is); (case z_min => k_is); (case z_range => k_is); (case z_reversed => k_is); (case z_str => k_is); (case z_tuple => k_is); (case z_zip => k_is); (case a => k_is); (case l => k_is); (case c => k_is)
#print axioms PySem.Challenge.cw_everguard_k41_both_either_opposite_holds

