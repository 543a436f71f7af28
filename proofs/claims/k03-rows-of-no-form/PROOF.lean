import PyProof.Rows.All
import Wide.All
import OpenK.AllK
import Wide.FinOn
import HandS.ForMost
import HandS.Codes
import HandS.Deep
import HandS.IsInst
import HandS.NoneIn
import HandS.More
import HandS.Rev
import KE.SortData
import HandS.Zip
import HandS.TupAny
import HandS.Style
import KE.KDictZip
import HandS.Finally
import HandS.DictSubView
import KE.KDictPairs
import HandS.Conv
import HandS.TupLen
import HandS.DictTup
import HandS.ListItems
import HandS.ReplaceLit
import PyProof.MeetsStr3
import PyProof.DictDisplay
import HandS.Flow
import HandS.ReplaceDef
import HandS.TupSets
import KE.SortUse
import HandS.Nested
import HandS.SortKw
import HandS.SortInts
import HandS.SetFor
import HandS.Strs
import HandS.ExcInit
import HandS.ExcOwn
import HandS.ExcIs
import PyProof.StrReplace2
import KE.OsScanText
import KE.KxText
import HandS.Text
import PySem.Challenge.RW_everguard_k03_rows_of_no_form
set_option Elab.async false
set_option linter.all false
set_option maxRecDepth 100000
set_option maxHeartbeats 4000000
namespace Pv
open PySem L2

def bd {α β : Type} (o : Option α) (f : α → Option β) : Option β := match o with
  | none => none
  | some a => f a
theorem bs {α β : Type} {o : Option α} {f : α → Option β} {r : β} (h : bd o f = some r) : ∃ a, o = some a ∧ f a = some r := by
  cases o with
  | none => cases h
  | some a => exact ⟨a, rfl, h⟩
theorem bd_some {α β : Type} (a : α) (f : α → Option β) : bd (some a) f = f a := rfl
def ck (p : Prop) [Decidable p] : Option Unit := if p then some () else none
theorem ck_ok {p : Prop} [Decidable p] {u : Unit} (h : ck p = some u) : p := by
  unfold ck at h
  split at h
  · assumption
  · cases h
theorem ck_pos {p : Prop} [Decidable p] (h : p) : ck p = some () := if_pos h
theorem cks {p : Prop} [Decidable p] {β : Type} {f : Unit → Option β} {r : β} (h : bd (ck p) f = some r) : p ∧ f () = some r := by
  obtain ⟨u, hu, h⟩ := bs h
  exact ⟨ck_ok hu, h⟩
theorem ifT {c : Bool} {A B : Prop} (h : c = true) (a : A) : if c = true then A else B := by rw [if_pos h]; exact a
theorem ifF {c : Bool} {A B : Prop} (h : c = false) (b : B) : if c = true then A else B := by rw [h]; exact b

def er : HO → HO
  | .frz _ (.dK k) => .dK k
  | .frz _ (.dT k) => .dT k
  | o => o
def Le (B B' : Hp) : Prop := ∀ a o, B a = some o → ∃ o', B' a = some o' ∧ er o' = er o
theorem Le.refl (B : Hp) : Le B B := fun _ o h => ⟨o, h, rfl⟩
theorem Le.tr {B B1 B2 : Hp} (a : Le B B1) (b : Le B1 B2) : Le B B2 := fun x o h => by
  obtain ⟨o1, h1, e1⟩ := a x o h
  obtain ⟨o2, h2, e2⟩ := b x o1 h1
  exact ⟨o2, h2, e2.trans e1⟩
theorem Le.free {B H : Hp} (l : Le B H) {p : Addr} (h : H p = none) : B p = none := by
  cases e : B p with
  | none => rfl
  | some o =>
    obtain ⟨o', h', _⟩ := l p o e
    rw [h] at h'
    cases h'
theorem Le.new {B : Hp} {p : Addr} {o : HO} (h : B p = none) : Le B (upd B p o) := fun a u e => ⟨u, by rw [upd_ne (ne_of_none e h)]; exact e, rfl⟩
theorem er_keep {o u : HO} (h : er o = er u) (n1 : ∀ k, er u ≠ .dK k) (n2 : ∀ k, er u ≠ .dT k) : o = u := by
  have p1 : ∀ o : HO, (∀ k, er o ≠ .dK k) → (∀ k, er o ≠ .dT k) → er o = o := by
    intro o n1 n2
    cases o with
    | frz ob w =>
      cases w with
      | dK k => exact absurd rfl (n1 k)
      | dT k => exact absurd rfl (n2 k)
      | _ => rfl
    | _ => rfl
  rw [← p1 u n1 n2, ← h]
  exact (p1 o (by rw [h]; exact n1) (by rw [h]; exact n2)).symm
theorem Le.lst {B B' : Hp} {a : Addr} {xs : List V} (l : Le B B') (h : B a = some (.lst xs)) : B' a = some (.lst xs) := by
  obtain ⟨o', h', e⟩ := l a _ h
  rw [h', er_keep e (fun k z => by cases z) (fun k z => by cases z)]
theorem Le.tup {B B' : Hp} {a : Addr} {xs : List V} (l : Le B B') (h : B a = some (.tup xs)) : B' a = some (.tup xs) := by
  obtain ⟨o', h', e⟩ := l a _ h
  rw [h', er_keep e (fun k z => by cases z) (fun k z => by cases z)]
theorem Le.ins {B B' : Hp} {a C dx : Addr} {fs : List (Str × V)} (l : Le B B') (h : B a = some (.ins C dx fs)) : B' a = some (.ins C dx fs) := by
  obtain ⟨o', h', e⟩ := l a _ h
  rw [h', er_keep e (fun k z => by cases z) (fun k z => by cases z)]
theorem Le.own {B B' : Hp} {a x : Addr} (l : Le B B') (h : B a = some (.own x)) : B' a = some (.own x) := by
  obtain ⟨o', h', e⟩ := l a _ h
  rw [h', er_keep e (fun k z => by cases z) (fun k z => by cases z)]
theorem Le.frzL {B B' : Hp} {a : Addr} {o : Obj} {xs : List V} (l : Le B B') (h : B a = some (.frz o (.lst xs))) : B' a = some (.frz o (.lst xs)) := by
  obtain ⟨o', h', e⟩ := l a _ h
  rw [h', er_keep e (fun k z => by cases z) (fun k z => by cases z)]
def LsA (B : Hp) (a : Addr) (xs : List V) : Prop := Rd B a (.lst xs)
theorem LsA.mono {B B' : Hp} {a : Addr} {xs : List V} (l : Le B B') (h : LsA B a xs) : LsA B' a xs := by
  rcases h with h | ⟨o, h⟩
  · exact .inl (l.lst h)
  · exact .inr ⟨o, l.frzL h⟩
def DkA (B : Hp) (a : Addr) (l : List (Key × V)) : Prop := ∃ o, B a = some o ∧ er o = .dK l
theorem DkA.mono {B B' : Hp} {a : Addr} {xs : List (Key × V)} (l : Le B B') (h : DkA B a xs) : DkA B' a xs := by
  obtain ⟨o, h, e⟩ := h
  obtain ⟨o', h', e'⟩ := l a o h
  exact ⟨o', h', e'.trans e⟩
theorem er_dK {o : HO} {k : List (Key × V)} (h : er o = .dK k) : o = .dK k ∨ ∃ ob, o = .frz ob (.dK k) := by
  cases o with
  | frz ob w =>
    cases w with
    | dK k' =>
      have e : HO.dK k' = .dK k := h
      cases e
      exact .inr ⟨ob, rfl⟩
    | dT k' =>
      have e : HO.dT k' = .dK k := h
      cases e
    | _ => cases h
  | dK k' =>
    have e : HO.dK k' = .dK k := h
    cases e
    exact .inl rfl
  | _ => cases h
theorem er_dT {o : HO} {k : List (List Key × V)} (h : er o = .dT k) : o = .dT k ∨ ∃ ob, o = .frz ob (.dT k) := by
  cases o with
  | frz ob w =>
    cases w with
    | dT k' =>
      have e : HO.dT k' = .dT k := h
      cases e
      exact .inr ⟨ob, rfl⟩
    | dK k' =>
      have e : HO.dK k' = .dT k := h
      cases e
    | _ => cases h
  | dT k' =>
    have e : HO.dT k' = .dT k := h
    cases e
    exact .inl rfl
  | _ => cases h
theorem DkA.rd {B : Hp} {a : Addr} {l : List (Key × V)} (h : DkA B a l) : Rd B a (.dK l) := by
  obtain ⟨o, h, e⟩ := h
  rcases er_dK e with rfl | ⟨ob, rfl⟩
  · exact .inl h
  · exact .inr ⟨ob, h⟩
def DtA (B : Hp) (a : Addr) (l : List (List Key × V)) : Prop := ∃ o, B a = some o ∧ er o = .dT l
theorem DtA.mono {B B' : Hp} {a : Addr} {xs : List (List Key × V)} (l : Le B B') (h : DtA B a xs) : DtA B' a xs := by
  obtain ⟨o, h, e⟩ := h
  obtain ⟨o', h', e'⟩ := l a o h
  exact ⟨o', h', e'.trans e⟩
theorem DtA.rd {B : Hp} {a : Addr} {l : List (List Key × V)} (h : DtA B a l) : Rd B a (.dT l) := by
  obtain ⟨o, h, e⟩ := h
  rcases er_dT e with rfl | ⟨ob, rfl⟩
  · exact .inl h
  · exact .inr ⟨ob, h⟩

class Rp (α : Type) where
  R : Hp → V → α → Prop
  mono : ∀ {B B' : Hp} {v : V} {x : α}, Le B B' → R B v x → R B' v x
class NN (α : Type) [Rp α] : Prop where
  ne : ∀ {B : Hp} {v : V} {x : α}, Rp.R B v x → v ≠ .non
instance : Rp Int := ⟨fun _ v x => v = .int x, fun _ h => h⟩
instance : Rp Bool := ⟨fun _ v x => v = .bl x, fun _ h => h⟩
instance : Rp Str := ⟨fun _ v x => v = .str x, fun _ h => h⟩
instance : Rp Unit := ⟨fun _ v _ => v = .non, fun _ h => h⟩
instance : NN Int := ⟨fun h => by cases h; exact fun z => by cases z⟩
instance : NN Bool := ⟨fun h => by cases h; exact fun z => by cases z⟩
instance : NN Str := ⟨fun h => by cases h; exact fun z => by cases z⟩
abbrev Rs {α : Type} [Rp α] (B : Hp) : List V → List α → Prop := Paired (Rp.R B)
section
variable {α β : Type} [Rp α] [Rp β] {B B' : Hp}
theorem Rs.mono (l : Le B B') : ∀ {vs : List V} {xs : List α}, Rs B vs xs → Rs B' vs xs
  | _, _, .nil => .nil
  | _, _, .cons h t => .cons (Rp.mono l h) (Rs.mono l t)
theorem Rs.len : ∀ {vs : List V} {xs : List α}, Rs B vs xs → vs.length = xs.length
  | _, _, .nil => rfl
  | _, _, .cons h t => congrArg (· + 1) (Rs.len t)
theorem Rs.get : ∀ {vs : List V} {xs : List α} {i : Nat} {x : α}, Rs B vs xs → xs[i]? = some x → ∃ v, vs[i]? = some v ∧ Rp.R B v x
  | _, _, i, x, .nil, e => by simp at e
  | _, _, 0, x, .cons h t, e => by simp at e; subst e; exact ⟨_, rfl, h⟩
  | _, _, i + 1, x, .cons h t, e => by
    obtain ⟨v, h1, h2⟩ := Rs.get (i := i) (x := x) t (by simpa using e)
    exact ⟨v, by simpa using h1, h2⟩
theorem Rs.app : ∀ {vs ws : List V} {xs ys : List α}, Rs B vs xs → Rs B ws ys → Rs B (vs ++ ws) (xs ++ ys)
  | _, _, _, _, .nil, s => s
  | _, _, _, _, .cons h t, s => .cons h (Rs.app t s)
theorem Rs.one {v : V} {x : α} (h : Rp.R B v x) : Rs B [v] [x] := .cons h .nil
theorem Rs.set {v : V} {x : α} (h : Rp.R B v x) : ∀ {vs : List V} {xs : List α} (i : Nat), Rs B vs xs → Rs B (vs.set i v) (xs.set i x)
  | _, _, _, .nil => .nil
  | _, _, 0, .cons _ t => .cons h t
  | _, _, i + 1, .cons q t => .cons q (Rs.set h i t)
theorem Rs.drop : ∀ {vs : List V} {xs : List α} (n : Nat), Rs B vs xs → Rs B (vs.drop n) (xs.drop n)
  | _, _, 0, r => r
  | _, _, n + 1, .nil => .nil
  | _, _, n + 1, .cons h t => Rs.drop n t
theorem Rs.take : ∀ {vs : List V} {xs : List α} (n : Nat), Rs B vs xs → Rs B (vs.take n) (xs.take n)
  | _, _, 0, r => .nil
  | _, _, n + 1, .nil => .nil
  | _, _, n + 1, .cons h t => .cons h (Rs.take n t)
theorem Rs.rev : ∀ {vs : List V} {xs : List α}, Rs B vs xs → Rs B vs.reverse xs.reverse
  | _, _, .nil => .nil
  | _, _, .cons h t => by rw [List.reverse_cons, List.reverse_cons]; exact Rs.app (Rs.rev t) (Rs.one h)
theorem Rs.ints {xs : List Int} {vs : List V} (h : Rs B vs xs) : vs = xs.map V.int := by
  induction h with
  | nil => rfl
  | cons h t ih => rw [List.map_cons, ih, show _ = V.int _ from h]
theorem Rs.strs {xs : List Str} {vs : List V} (h : Rs B vs xs) : vs = xs.map V.str := by
  induction h with
  | nil => rfl
  | cons h t ih => rw [List.map_cons, ih, show _ = V.str _ from h]
theorem Rs.bls {xs : List Bool} {vs : List V} (h : Rs B vs xs) : vs = xs.map V.bl := by
  induction h with
  | nil => rfl
  | cons h t ih => rw [List.map_cons, ih, show _ = V.bl _ from h]
theorem Rs.of_ints (B : Hp) : ∀ xs : List Int, Rs B (xs.map V.int) xs
  | [] => .nil
  | _ :: r => .cons rfl (Rs.of_ints B r)
theorem Rs.of_strs (B : Hp) : ∀ xs : List Str, Rs B (xs.map V.str) xs
  | [] => .nil
  | _ :: r => .cons rfl (Rs.of_strs B r)
end
instance {α : Type} [Rp α] : Rp (List α) := ⟨fun B v xs => ∃ a l, v = .ref a ∧ B a = some (.lst l) ∧ l.length ≤ sizeLine ∧ Rs B l xs,
  fun m h => by obtain ⟨a, l, e, h1, h2, h3⟩ := h; exact ⟨a, l, e, m.lst h1, h2, h3.mono m⟩⟩
structure Scr where
  l : List Int
theorem SqL.le {K : PySem.W.Frag} {B B' : Hp} {a : Addr} {xs : List V} (l : Le B B') (h : SqL K B a xs) : SqL K B' a xs := by
  rcases h with h | h
  · exact .inl (LsA.mono l h)
  · exact .inr h
def RC (K : PySem.W.Frag) (B : Hp) (v : V) (x : Scr) : Prop := ∃ a, v = .ref a ∧ SqL K B a (x.l.map V.int) ∧ x.l.length ≤ 63
theorem RC.mono {K : PySem.W.Frag} {B B' : Hp} {v : V} {x : Scr} (m : Le B B') (h : RC K B v x) : RC K B' v x := by
  obtain ⟨a, e, h1, h2⟩ := h
  exact ⟨a, e, SqL.le m h1, h2⟩
instance {α : Type} [Rp α] : NN (List α) := ⟨fun h => by obtain ⟨a, l, rfl, _⟩ := h; exact fun z => by cases z⟩
instance {α β : Type} [Rp α] [Rp β] : Rp (α × β) := ⟨fun B v x => ∃ a u w, v = .ref a ∧ B a = some (.tup [u, w]) ∧ Rp.R B u x.1 ∧ Rp.R B w x.2,
  fun m h => by obtain ⟨a, u, w, e, h1, h2, h3⟩ := h; exact ⟨a, u, w, e, m.tup h1, Rp.mono m h2, Rp.mono m h3⟩⟩
instance {α β : Type} [Rp α] [Rp β] : NN (α × β) := ⟨fun h => by obtain ⟨a, u, w, rfl, _⟩ := h; exact fun z => by cases z⟩
structure T3 (α β γ : Type) where
  a : α
  b : β
  c : γ
  deriving DecidableEq
instance {α β γ : Type} [Rp α] [Rp β] [Rp γ] : Rp (T3 α β γ) := ⟨fun B v x => ∃ p u w z, v = .ref p ∧ B p = some (.tup [u, w, z]) ∧ Rp.R B u x.a ∧ Rp.R B w x.b ∧ Rp.R B z x.c,
  fun m h => by obtain ⟨p, u, w, z, e, h1, h2, h3, h4⟩ := h; exact ⟨p, u, w, z, e, m.tup h1, Rp.mono m h2, Rp.mono m h3, Rp.mono m h4⟩⟩
instance {α β γ : Type} [Rp α] [Rp β] [Rp γ] : NN (T3 α β γ) := ⟨fun h => by obtain ⟨a, u, w, z, rfl, _⟩ := h; exact fun z => by cases z⟩
structure T4 (α β γ δ : Type) where
  a : α
  b : β
  c : γ
  d : δ
  deriving DecidableEq
instance {α β γ δ : Type} [Rp α] [Rp β] [Rp γ] [Rp δ] : Rp (T4 α β γ δ) := ⟨fun B v x => ∃ p u w z y, v = .ref p ∧ B p = some (.tup [u, w, z, y]) ∧ Rp.R B u x.a ∧ Rp.R B w x.b ∧ Rp.R B z x.c ∧ Rp.R B y x.d,
  fun m h => by obtain ⟨p, u, w, z, y, e, h1, h2, h3, h4, h5⟩ := h; exact ⟨p, u, w, z, y, e, m.tup h1, Rp.mono m h2, Rp.mono m h3, Rp.mono m h4, Rp.mono m h5⟩⟩
instance {α β γ δ : Type} [Rp α] [Rp β] [Rp γ] [Rp δ] : NN (T4 α β γ δ) := ⟨fun h => by obtain ⟨a, u, w, z, y, rfl, _⟩ := h; exact fun z => by cases z⟩
structure TV (α : Type) where
  l : List α
  deriving DecidableEq
instance {α : Type} [Rp α] : Rp (TV α) := ⟨fun B v x => ∃ a l, v = .ref a ∧ B a = some (.tup l) ∧ l.length ≤ sizeLine ∧ Rs B l x.l,
  fun m h => by obtain ⟨a, l, e, h1, h2, h3⟩ := h; exact ⟨a, l, e, m.tup h1, h2, h3.mono m⟩⟩
instance {α : Type} [Rp α] : NN (TV α) := ⟨fun h => by obtain ⟨a, l, rfl, _⟩ := h; exact fun z => by cases z⟩
instance {α : Type} [Rp α] : Rp (Option α) := ⟨fun B v o => match o with | none => v = .non | some x => Rp.R B v x,
  fun m h => by
    rename_i o
    cases o with
    | none => exact h
    | some x => exact Rp.mono (α := α) m h⟩
class Kp (κ : Type) where
  k : κ → Key
  inj : ∀ a b, k a = k b → a = b
instance : Kp Int := ⟨.inl, fun _ _ h => Sum.inl.inj h⟩
instance : Kp Str := ⟨.inr, fun _ _ h => Sum.inr.inj h⟩
structure Dc (κ α : Type) where
  l : List (κ × α)
  deriving DecidableEq
abbrev RK {κ α : Type} [Kp κ] [Rp α] (B : Hp) : List (Key × V) → List (κ × α) → Prop := Paired fun p q => p.1 = Kp.k q.1 ∧ Rp.R B p.2 q.2
theorem RK.mono {κ α : Type} [Kp κ] [Rp α] {B B' : Hp} (l : Le B B') : ∀ {ks : List (Key × V)} {xs : List (κ × α)}, RK B ks xs → RK B' ks xs
  | _, _, .nil => .nil
  | _, _, .cons h t => .cons ⟨h.1, Rp.mono l h.2⟩ (RK.mono l t)
instance {κ α : Type} [Kp κ] [Rp α] : Rp (Dc κ α) := ⟨fun B v x => ∃ a l, v = .ref a ∧ DkA B a l ∧ l.length ≤ sizeLine ∧ RK B l x.l,
  fun m h => by obtain ⟨a, l, e, h1, h2, h3⟩ := h; exact ⟨a, l, e, h1.mono m, h2, h3.mono m⟩⟩
instance {κ α : Type} [Kp κ] [Rp α] : NN (Dc κ α) := ⟨fun h => by obtain ⟨a, l, rfl, _⟩ := h; exact fun z => by cases z⟩

structure Ws (A : List Addr) (B0 H0 B H : Hp) (O : List (Addr × HO)) : Prop where
  le : Le B H
  own : ∀ p ∈ O, H p.1 = some p.2 ∧ B p.1 = none ∧ (p.1 ∈ A ∨ H0 p.1 = none)
  nd : (O.map (·.1)).Nodup
  bb : Le B0 B
  fr : ∀ a o, H0 a = some o → a ∉ A → H a = some o
  al : ∀ a o, H0 a = some o → ∃ o', H a = some o'
  no : ∀ a o u, H0 a = some o → B0 a = none → B a = some u → ∃ l, u = .tup l
  nt : ∀ p ∈ O, ∀ l, p.2 ≠ .tup l
theorem erase_map {α β : Type} {f : α → β} : ∀ (l : List α) (i : Nat), (l.eraseIdx i).map f = (l.map f).eraseIdx i
  | [], _ => rfl
  | _ :: _, 0 => rfl
  | a :: r, i + 1 => congrArg (fun z => f a :: z) (erase_map r i)
section
variable {A : List Addr} {B0 H0 B H : Hp} {O O1 O2 : List (Addr × HO)} {p : Addr} {o o' : HO}
theorem Ws.at_ (W : Ws A B0 H0 B H O) (i : Nat) (h : O[i]? = some (p, o)) : H p = some o := (W.own _ (List.mem_of_getElem? h)).1
theorem Ws.old (W : Ws A B0 H0 B H O) (h : H p = none) : H0 p = none := by
  cases e : H0 p with
  | none => rfl
  | some u =>
    obtain ⟨o', h'⟩ := W.al p u e
    rw [h] at h'
    cases h'
theorem Ws.np (W : Ws A B0 H0 B H O) (h : H p = none) (o : HO) : Ws A B0 H0 (upd B p o) (upd H p o) O := by
  have hb : B p = none := W.le.free h
  have h0 : ∀ a u, H0 a = some u → a ≠ p := fun a u e z => by rw [z, W.old h] at e; cases e
  refine ⟨fun a u e => ?_, fun q hq => ?_, W.nd, W.bb.tr (Le.new hb), fun a u e n => by rw [upd_ne (h0 a u e)]; exact W.fr a u e n, fun a u e => by rw [upd_ne (h0 a u e)]; exact W.al a u e, fun a u t e n => by rw [upd_ne (h0 a u e)]; exact W.no a u t e n, W.nt⟩
  · by_cases z : a = p
    · subst z; rw [upd_same] at e ⊢; exact ⟨u, e, rfl⟩
    · rw [upd_ne z] at e ⊢; exact W.le a u e
  · obtain ⟨h1, h2, h3⟩ := W.own q hq
    have z : q.1 ≠ p := ne_of_none h1 h
    rw [upd_ne z, upd_ne z]
    exact ⟨h1, h2, h3⟩
theorem Ws.nw (W : Ws A B0 H0 B H O) (h : H p = none) (o : HO) (ho : ∀ l, o ≠ .tup l := by intro _ z; cases z) : Ws A B0 H0 B (upd H p o) (O ++ [(p, o)]) := by
  have hb : B p = none := W.le.free h
  have h0 : ∀ a u, H0 a = some u → a ≠ p := fun a u e z => by rw [z, W.old h] at e; cases e
  refine ⟨fun a u e => by rw [upd_ne (ne_of_none e hb)]; exact W.le a u e, fun q hq => ?_, ?_, W.bb, fun a u e n => by rw [upd_ne (h0 a u e)]; exact W.fr a u e n, fun a u e => by rw [upd_ne (h0 a u e)]; exact W.al a u e, W.no, fun q hq => by
    rcases List.mem_append.mp hq with hq | hq
    · exact W.nt q hq
    · have e : q = (p, o) := by simpa using hq
      subst e
      exact ho⟩
  · rcases List.mem_append.mp hq with hq | hq
    · obtain ⟨h1, h2, h3⟩ := W.own q hq
      rw [upd_ne (ne_of_none h1 h)]
      exact ⟨h1, h2, h3⟩
    · have e : q = (p, o) := by simpa using hq
      subst e
      exact ⟨upd_same, hb, .inr (W.old h)⟩
  · rw [List.map_append, List.nodup_append]
    refine ⟨W.nd, by simp, fun a ha b hb' z => ?_⟩
    obtain ⟨q, hq, rfl⟩ := List.mem_map.mp ha
    have e : b = p := by simpa using hb'
    have := (W.own q hq).1
    rw [z, e, h] at this
    cases this
theorem Ws.set (W : Ws A B0 H0 B H O) (i : Nat) (h : O[i]? = some (p, o)) (o' : HO) (ho : ∀ l, o' ≠ .tup l := by intro _ z; cases z) : Ws A B0 H0 B (upd H p o') (O.set i (p, o')) := by
  obtain ⟨hi, hg⟩ := List.getElem?_eq_some_iff.mp h
  have hp := W.own _ (List.mem_of_getElem? h)
  have nd' : ((O.set i (p, o')).map (·.1)).Nodup := by
    have e : (O.set i (p, o')).map (·.1) = O.map (·.1) := by
      rw [List.map_set]
      refine List.ext_getElem? fun j => ?_
      by_cases z : i = j
      · subst z
        rw [List.getElem?_set_self (by simpa using hi), List.getElem?_map, h]
        rfl
      · rw [List.getElem?_set_ne z]
    rw [e]
    exact W.nd
  refine ⟨fun a u e => by rw [upd_ne (ne_of_none e hp.2.1)]; exact W.le a u e, fun q hq => ?_, nd', W.bb, fun a u e n => ?_, fun a u e => ?_, W.no, fun q hq => by
    rcases List.mem_or_eq_of_mem_set hq with m | m
    · exact W.nt q m
    · subst m; exact ho⟩
  · obtain ⟨j, hj, e⟩ := List.getElem_of_mem hq
    have hj' : j < O.length := by simpa using hj
    by_cases z : i = j
    · subst z
      rw [List.getElem_set_self] at e
      subst e
      exact ⟨upd_same, hp.2.1, hp.2.2⟩
    · rw [List.getElem_set_ne z] at e
      have hm : q ∈ O := by rw [← e]; exact List.getElem_mem hj'
      have ne : q.1 ≠ p := by
        intro y
        apply z
        have h1 : (O.map (·.1))[i]? = some p := by rw [List.getElem?_map, h]; rfl
        have h2 : (O.map (·.1))[j]? = some p := by rw [List.getElem?_map, List.getElem?_eq_getElem hj', e, ← y]; rfl
        exact nd_ix W.nd h1 h2
      obtain ⟨h1, h2, h3⟩ := W.own q hm
      rw [upd_ne ne]
      exact ⟨h1, h2, h3⟩
  · by_cases z : a = p
    · subst z
      rcases hp.2.2 with m | m
      · exact absurd m n
      · rw [m] at e; cases e
    · rw [upd_ne z]; exact W.fr a u e n
  · by_cases z : a = p
    · subst z; exact ⟨o', upd_same⟩
    · rw [upd_ne z]; exact W.al a u e
theorem Ws.fz (W : Ws A B0 H0 B H O) (i : Nat) (h : O[i]? = some (p, o)) (hn : H0 p = none) : Ws A B0 H0 (upd B p o) H (O.eraseIdx i) ∧ Le B (upd B p o) := by
  have hp := W.own _ (List.mem_of_getElem? h)
  refine ⟨⟨fun a u e => ?_, fun q hq => ?_, ?_, W.bb.tr (Le.new hp.2.1), W.fr, W.al, fun a u t e n => ?_, fun q hq => W.nt q (List.mem_of_mem_eraseIdx hq)⟩, Le.new hp.2.1⟩
  · by_cases z : a = p
    · subst z; rw [upd_same] at e; cases e; exact ⟨o, hp.1, rfl⟩
    · rw [upd_ne z] at e; exact W.le a u e
  · have hm : q ∈ O := List.mem_of_mem_eraseIdx hq
    have ne : q.1 ≠ p := by
      intro y
      obtain ⟨j, hj, e1, e2⟩ := List.mem_eraseIdx_iff_getElem.mp hq
      have h1 : (O.map (·.1))[i]? = some p := by rw [List.getElem?_map, h]; rfl
      have h2 : (O.map (·.1))[j]? = some p := by rw [List.getElem?_map, List.getElem?_eq_getElem hj, e2, ← y]; rfl
      exact e1 (nd_ix W.nd h2 h1)
    obtain ⟨h1, h2, h3⟩ := W.own q hm
    rw [upd_ne ne]
    exact ⟨h1, h2, h3⟩
  · have e2 : (O.eraseIdx i).map (·.1) = (O.map (·.1)).eraseIdx i := erase_map O i
    rw [e2]
    exact W.nd.sublist (List.eraseIdx_sublist _ _)
  · have z : a ≠ p := fun z => by rw [z, hn] at e; cases e
    rw [upd_ne z]
    exact W.no a u t e n
theorem Ws.drop (W : Ws A B0 H0 B H O) (i : Nat) : Ws A B0 H0 B H (O.eraseIdx i) :=
  ⟨W.le, fun q hq => W.own q (List.mem_of_mem_eraseIdx hq), by
    have e2 : (O.eraseIdx i).map (·.1) = (O.map (·.1)).eraseIdx i := erase_map O i
    rw [e2]
    exact W.nd.sublist (List.eraseIdx_sublist _ _), W.bb, W.fr, W.al, W.no, fun q hq => W.nt q (List.mem_of_mem_eraseIdx hq)⟩
theorem Ws.call (W : Ws A B0 H0 B H (O1 ++ O ++ O2)) : Ws (O.map (·.1)) B H B H O := by
  have hs : ∀ p ∈ O, p ∈ O1 ++ O ++ O2 := fun p hp => List.mem_append_left _ (List.mem_append_right _ hp)
  refine ⟨W.le, fun p hp => ⟨(W.own p (hs p hp)).1, (W.own p (hs p hp)).2.1, .inl (List.mem_map.mpr ⟨p, hp, rfl⟩)⟩, ?_, Le.refl _, fun _ _ e _ => e, fun a u e => ⟨u, e⟩, (fun _ _ _ _ n k => by rw [n] at k; cases k), fun p hp => W.nt p (hs p hp)⟩
  have := W.nd
  rw [List.map_append, List.map_append] at this
  exact (List.nodup_append.mp (List.nodup_append.mp this).1).2.1
theorem Ws.back {B' H' : Hp} {O' : List (Addr × HO)} (W : Ws A B0 H0 B H (O1 ++ O ++ O2)) (V : Ws (O.map (·.1)) B H B' H' O') : Ws A B0 H0 B' H' (O1 ++ O' ++ O2) := by
  have nd := W.nd
  rw [List.map_append, List.map_append] at nd
  obtain ⟨n12, n2, n3⟩ := List.nodup_append.mp nd
  obtain ⟨n1, nO, n4⟩ := List.nodup_append.mp n12
  have other : ∀ p ∈ O1 ++ O2, p ∈ O1 ++ O ++ O2 ∧ p.1 ∉ O.map (·.1) := fun p hp => by
    rcases List.mem_append.mp hp with m | m
    · exact ⟨List.mem_append_left _ (List.mem_append_left _ m), fun z => n4 p.1 (List.mem_map.mpr ⟨p, m, rfl⟩) _ z rfl⟩
    · exact ⟨List.mem_append_right _ m, fun z => n3 p.1 (List.mem_append_right _ z) p.1 (List.mem_map.mpr ⟨p, m, rfl⟩) rfl⟩
  have stay : ∀ p ∈ O1 ++ O2, H' p.1 = some p.2 ∧ B' p.1 = none ∧ (p.1 ∈ A ∨ H0 p.1 = none) := fun p hp => by
    obtain ⟨m, n⟩ := other p hp
    obtain ⟨h1, h2, h3⟩ := W.own p m
    refine ⟨V.fr _ _ h1 n, ?_, h3⟩
    cases e : B' p.1 with
    | none => rfl
    | some u =>
      obtain ⟨l, rfl⟩ := V.no _ _ _ h1 h2 e
      have h4 := V.le.tup e
      rw [V.fr _ _ h1 n] at h4
      exact absurd (Option.some.inj h4) (W.nt p m l)
  have inA : ∀ a, a ∈ O.map (·.1) → a ∈ A ∨ H0 a = none := fun a ha => by
    obtain ⟨p, hp, rfl⟩ := List.mem_map.mp ha
    exact (W.own p (List.mem_append_left _ (List.mem_append_right _ hp))).2.2
  have fresh : ∀ p ∈ O', p.1 ∈ O.map (·.1) ∨ H p.1 = none := fun p hp => (V.own p hp).2.2
  refine ⟨V.le, fun p hp => ?_, ?_, W.bb.tr V.bb, fun a u e n => ?_, fun a u e => ?_, fun a u t e n k => ?_, fun p hp => ?_⟩
  · rcases List.mem_append.mp hp with hp | hp
    · rcases List.mem_append.mp hp with hp | hp
      · exact stay p (List.mem_append_left _ hp)
      · obtain ⟨h1, h2, h3⟩ := V.own p hp
        refine ⟨h1, h2, ?_⟩
        rcases h3 with m | m
        · exact inA _ m
        · exact .inr (W.old m)
    · exact stay p (List.mem_append_right _ hp)
  · have apart : ∀ p ∈ O1 ++ O2, ∀ q ∈ O', p.1 ≠ q.1 := fun p hp q hq z => by
      obtain ⟨m, n⟩ := other p hp
      rcases fresh q hq with k | k
      · exact n (by rw [z]; exact k)
      · have := (W.own p m).1
        rw [z, k] at this
        cases this
    rw [List.map_append, List.map_append, List.nodup_append]
    refine ⟨List.nodup_append.mpr ⟨n1, V.nd, fun a ha b hb z => ?_⟩, n2, fun a ha b hb z => ?_⟩
    · obtain ⟨p, hp, rfl⟩ := List.mem_map.mp ha
      obtain ⟨q, hq, rfl⟩ := List.mem_map.mp hb
      exact apart p (List.mem_append_left _ hp) q hq z
    · obtain ⟨q, hq, rfl⟩ := List.mem_map.mp hb
      rcases List.mem_append.mp ha with ha | ha
      · exact n3 a (List.mem_append_left _ ha) q.1 (List.mem_map.mpr ⟨q, hq, rfl⟩) z
      · obtain ⟨p, hp, rfl⟩ := List.mem_map.mp ha
        exact apart q (List.mem_append_right _ hq) p hp z.symm
  · by_cases m : a ∈ O.map (·.1)
    · rcases inA a m with k | k
      · exact absurd k n
      · rw [k] at e; cases e
    · exact V.fr a u (W.fr a u e n) m
  · obtain ⟨o1, e1⟩ := W.al a u e
    exact V.al a o1 e1
  · obtain ⟨o1, e1⟩ := W.al a u e
    cases z : B a with
    | none => exact V.no a o1 t e1 z k
    | some q =>
      obtain ⟨l, rfl⟩ := W.no a u q e n z
      rw [V.bb.tup z] at k
      exact ⟨l, (Option.some.inj k).symm⟩
  · rcases List.mem_append.mp hp with hp | hp
    · rcases List.mem_append.mp hp with hp | hp
      · exact W.nt p (List.mem_append_left _ (List.mem_append_left _ hp))
      · exact V.nt p hp
    · exact W.nt p (List.mem_append_right _ hp)
theorem Ws.tell {l : List V} (W : Ws A B0 H0 B H O) (h : H p = some (.tup l)) : ∃ B', Ws A B0 H0 B' H O ∧ Le B B' ∧ B' p = some (.tup l) := by
  cases e : B p with
  | some o =>
    obtain ⟨o', e1, e2⟩ := W.le p o e
    rw [h] at e1
    cases e1
    have : o = .tup l := er_keep (u := .tup l) e2.symm (fun k z => nomatch z) (fun k z => nomatch z)
    exact ⟨B, W, Le.refl _, by rw [e, this]⟩
  | none =>
    have ne : ∀ q ∈ O, q.1 ≠ p := fun q hq z => by
      have h1 := (W.own q hq).1
      rw [z, h] at h1
      exact W.nt q hq l (Option.some.inj h1).symm
    refine ⟨upd B p (.tup l), ⟨fun a u k => ?_, fun q hq => ?_, W.nd, W.bb.tr (Le.new e), W.fr, W.al, fun a o u e0 n k => ?_, W.nt⟩, Le.new e, upd_same⟩
    · by_cases z : a = p
      · subst z; rw [upd_same] at k; cases k; exact ⟨_, h, rfl⟩
      · rw [upd_ne z] at k; exact W.le a u k
    · obtain ⟨h1, h2, h3⟩ := W.own q hq
      rw [upd_ne (ne q hq)]
      exact ⟨h1, h2, h3⟩
    · by_cases z : a = p
      · subst z; rw [upd_same] at k; cases k; exact ⟨l, rfl⟩
      · rw [upd_ne z] at k; exact W.no a o u e0 n k
theorem Ws.weak {B' : Hp} (W : Ws A B0 H0 B' H O) (l : Le B B') (l0 : Le B0 B) : Ws A B0 H0 B H O := by
  refine ⟨l.tr W.le, fun q hq => ⟨(W.own q hq).1, l.free (W.own q hq).2.1, (W.own q hq).2.2⟩, W.nd, l0, W.fr, W.al, fun a o u e n k => ?_, W.nt⟩
  obtain ⟨u', e1, e2⟩ := l a u k
  obtain ⟨q, rfl⟩ := W.no a o u' e n e1
  exact ⟨q, er_keep (u := .tup q) e2.symm (fun k z => nomatch z) (fun k z => nomatch z)⟩
end
end Pv

namespace Pv
open PySem L2

def rdLen (K : PySem.W.Frag) : List V → Hp → VK → Prop := fun xs H Q => ∃ p ys, xs = [.ref p] ∧ (SqL K H p ys ∨ SqT K H p ys) ∧ Q (.int ys.length) H
def rdLenS : List V → Hp → VK → Prop := fun xs H Q => ∃ z, xs = [.str z] ∧ z.length ≤ sizeLine ∧ Q (.int z.length) H
def rdList (K : PySem.W.Frag) : List V → Hp → VK → Prop := fun xs H Q => ∃ p ys, xs = [.ref p] ∧ (SqL K H p ys ∨ SqT K H p ys) ∧ ∀ l, H l = none → Q (.ref l) (upd H l (.lst ys))
def rdSplit : V → List V → Hp → VK → Prop := fun x xs H Q => ∃ a b, x = .str a ∧ xs = [.str b] ∧ (b.length == 0) = false ∧ a.length + 2 ≤ sizeLine ∧ rNewStrs (Txt.split a b) H Q
def rdJoin (K : PySem.W.Frag) : V → List V → Hp → VK → Prop := fun x xs H Q => ∃ a p, ∃ ys : List Str, x = .str a ∧ xs = [.ref p] ∧ (SqL K H p (ys.map V.str) ∨ SqT K H p (ys.map V.str)) ∧ (ys.map (·.length)).sum + ys.length * a.length ≤ 16777216 ∧ Q (.str (Txt.join a ys)) H
def rdStarts : V → List V → Hp → VK → Prop := fun x xs H Q => ∃ a b, x = .str a ∧ xs = [.str b] ∧ Q (.bl (Txt.startswith a b)) H
def rdIns : V → List V → Hp → VK → Prop := fun x vs H Q => ∃ (l : Addr) (xs : List V) (i : Int) (y : V), x = .ref l ∧ vs = [.int i, y] ∧ H l = some (.lst xs) ∧ xs.length < sizeLine ∧ 0 ≤ i ∧ i < 2 ^ 63 ∧
    Q .non (upd H l (.lst (xs.take i.toNat ++ [y] ++ xs.drop i.toNat)))
def rdAddS : R2 := fun x y H Q => ∃ i j, x = .str i ∧ y = .str j ∧ i.length + j.length ≤ sizeLine ∧ Q (.str (i ++ j)) H
section
variable {X : Cx} {K : PySem.W.Frag}
theorem k_len (hK : X.K = K := by rfl) : CallR X (.builtin "len") (rdLen K) := by subst hK; exact call_len_seq
theorem k_lenS : CallR X (.builtin "len") rdLenS := call_len_str
theorem k_list (hK : X.K = K := by rfl) : CallR X (.type "list") (rdList K) := by subst hK; exact call_list_of
theorem k_all (hc : X.calm = true) (hK : X.K = K := by rfl) : CallR X (.builtin "all") (rAll K) := by subst hK; exact cr_all hc
theorem k_ins : MtR X "list.insert" rdIns := mt_insert
theorem k_split : MtR X "str.split" rdSplit := mt_split
theorem k_join (hK : X.K = K := by rfl) : MtR X "str.join" (rdJoin K) := by subst hK; exact mt_join
theorem k_starts : MtR X "str.startswith" rdStarts := mt_startswith
theorem k_addS : OpR X (binaryOp .Add) rdAddS := op_add_str
theorem k_ixL (hK : X.K = K := by rfl) : IxR X (rIxL K) := by subst hK; exact ix_list
theorem k_ixT (hK : X.K = K := by rfl) : IxR X (rIxT K) := by subst hK; exact ix_tup
theorem k_slL (hK : X.K = K := by rfl) : SlR X (rSlL K) := by subst hK; exact sl_list
theorem k_in (hK : X.K = K := by rfl) : OpR X (compareOp .In) (rIn K false) := by subst hK; exact op_in_seq
theorem k_nin (hK : X.K = K := by rfl) : OpR X (compareOp .NotIn) (rIn K true) := by subst hK; exact op_notIn_seq
theorem k_neD (hu : X.A.units + 64 < cLine) (hK : X.K = K := by rfl) : OpR X (compareOp .NotEq) (rNeD K) := by subst hK; exact op_neD hu
theorem k_gtup {es : List Expr} {k : Nat} {t : TGs} {n : Nat} {pos : Pos} (hc : X.calm = true) (h : PGs X es t) (hn : (assignEach es X.env).length = n := by rfl) (hst : (assignEach es X.env).findIdx? (·.1) = none := by rfl) (hK : X.K = K := by rfl) : PG X (.Tuple es k pos) (gTup K n t) := by
  subst hK; exact pg_tup hc h hn hst
theorem k_pil {tg l : Expr} {tl : TE} (hl : PE X l tl) (hK : X.K = K := by rfl) : PI X tg l (iList K tl) := by subst hK; exact pi_list hl
theorem k_pie {e : Expr} {ta : TA} {p pos tpos : Pos} {elts : List Expr} {kk : Nat} (hg : Gl X "enumerate") (hm : X.mg "enumerate" = none) (ha : PA X [e] ta) (hs : starEach [e] X.env = [(false, eval e X.env)] := by rfl) (hK : X.K = K := by rfl) :
    PI X (.Tuple elts kk tpos) (.Call (.Name "enumerate" p) [e] [] pos) (iEnum K ta) := by subst hK; exact pi_enum hg hm ha hs
theorem k_bm0 {T id : String} {name : Str} {r : V → List V → Hp → VK → Prop} {o : Expr} {to : TE} {apos cpos : Pos} (pa : PlainAttrs T) (slot : Slot T name id) (hty : typeOf (.builtin id) = pure (.type "method_descriptor")) (hm : MtR X id r) (ho : PE X o to)
    (hbase : attributeBase o name X.env (eval o X.env) = eval o X.env := by rfl) (hline : (apos.endLine == cpos.line) = true := by rfl) (hK : X.K = K := by rfl) : PE X (.Call (.Attribute o name apos) [] [] cpos) (tBM0 K T r to) := by
  subst hK; exact pe_bm0 pa slot hty hm ho hbase hline
theorem k_bm {T id : String} {name : Str} {r : V → List V → Hp → VK → Prop} {o e : Expr} {es : List Expr} {to : TE} {t : TA} {apos cpos : Pos} (pa : PlainAttrs T) (slot : Slot T name id) (hty : typeOf (.builtin id) = pure (.type "method_descriptor")) (hm : MtR X id r) (ho : PE X o to) (ha : PA X (e :: es) t)
    (hbase : attributeBase o name X.env (eval o X.env) = eval o X.env := by rfl)
    (hfew : ((backTo cpos (starEach (e :: es) X.env)).all (fun x => !x.1) && (backToKw cpos (keywordEach [] X.env)).all (fun x => x.1.isSome)
      && decide ((e :: es).length + ([] : List Keyword).length + (if ([] : List Keyword).isEmpty then 0 else 1) < 30)) = true := by rfl)
    (hline : (apos.endLine == cpos.line) = true := by rfl) (hs : starEach (e :: es) X.env = (false, eval e X.env) :: starEach es X.env := by rfl) (hplain : (backTo cpos (starEach es X.env)).any (·.1) = false := by rfl) (hK : X.K = K := by rfl) :
    PE X (.Call (.Attribute o name apos) (e :: es) [] cpos) (tBM K T r to t) := by
  subst hK; exact pe_bm pa slot hty hm ho ha hbase hfew hline hs hplain
end

def MkLs (Q : VK) : List V → Hp → Prop := fun xs H1 => xs.length ≤ sizeLine ∧ ∀ p, H1 p = none → Q (.ref p) (upd H1 p (.lst xs))
def MkTs (Q : VK) : List V → Hp → Prop := fun xs H1 => xs.length ≤ sizeLine ∧ ∀ p, H1 p = none → Q (.ref p) (upd H1 p (.tup xs))

section
variable {σ : L2.St} {H : Hp} {Q : VK} {D : Ends} {ta tb te to : TE} {t u : TS} {tt : TT} {tA : TA} {K : PySem.W.Frag} {v w : V} {a b : Int}
theorem seq_ (h : t { D with nx := u D } σ H) : tSeq t u D σ H := h
theorem var_ {i : Nat} (e : σ[i]? = some (some v)) (k : Q v H) : tVar i σ H Q := ⟨v, e, k⟩
theorem cst_ (k : Q v H) : tC v σ H Q := k
theorem op_ {r : R2} (h : ta σ H fun x H1 => tb σ H1 fun y H2 => r x y H2 Q) : tOp r ta tb σ H Q := h
theorem un_ {r : V → Hp → VK → Prop} (h : ta σ H fun x H1 => r x H1 Q) : tUn r ta σ H Q := h
theorem tst_ {Q : Bool → Hp → Prop} (h : te σ H fun x H' => ∃ k, x = .bl k ∧ Q k H') : tTest te σ H Q := h
theorem tB_ {Q : Bool → Hp → Prop} (h : te σ H fun x H' => ∃ k, x = .bl k ∧ Q k H') : tB te σ H Q := h
theorem tnot_ {Q : Bool → Hp → Prop} (h : tt σ H fun c H1 => Q (!c) H1) : tNot tt σ H Q := h
theorem tnil_ {Q : List V → Hp → Prop} (h : Q [] H) : tNil σ H Q := h
theorem tcons_ {Q : List V → Hp → Prop} (h : ta σ H fun x H1 => tA σ H1 fun xs H2 => Q (x :: xs) H2) : tCons ta tA σ H Q := h
theorem cb_ {r : List V → Hp → VK → Prop} (h : tA σ H fun vs H1 => r vs H1 Q) : tCB r tA σ H Q := h
theorem call_ {sp : Sp} {E : XK} (h : tA σ H fun vs H1 => sp (vs ++ []) H1 Q E) : tCall sp [] E tA σ H Q := h
theorem lst_ (h : tA σ H (MkLs Q)) : tLst tA σ H Q := h
theorem tup_ (h : tA σ H (MkTs Q)) : tTup tA σ H Q := h
theorem bm0_ {T : String} {r : V → List V → Hp → VK → Prop} (h : to σ H fun x H1 => tyV K T x H1 ∧ r x [] H1 Q) : tBM0 K T r to σ H Q := h
theorem bm_ {T : String} {r : V → List V → Hp → VK → Prop} (h : to σ H fun x H1 => tyV K T x H1 ∧ tA σ H1 fun xs H2 => r x xs H2 Q) : tBM K T r to tA σ H Q := h
theorem m1_ {r : V → List V → Hp → VK → Prop} (h : to σ H fun x H1 => (∃ a, x = .str a) ∧ te σ H1 fun y H2 => r x [y] H2 Q) : tM1 r to te σ H Q := h
theorem isS_ {x : Str} {P : Prop} (h : P) : (∃ a, V.str x = .str a) ∧ P := ⟨⟨x, rfl⟩, h⟩
theorem sl_ {r : V → Option Int → Option Int → Hp → VK → Prop} {tl th : TO} (h : te σ H fun x H1 => tl σ H1 fun l H2 => th σ H2 fun u H3 => r x l u H3 Q) : tSl r te tl th σ H Q := h
theorem part_ {Q : Option Int → Hp → Prop} (h : te σ H fun x H1 => ∃ i, x = .int i ∧ Q (some i) H1) : tPart te σ H Q := h
theorem nopart_ {Q : Option Int → Hp → Prop} (h : Q none H) : tNoPart σ H Q := h
theorem asg_ {g : TG} (h : te σ H fun x H1 => g x σ H1 D.nx) : tAsg te g D σ H := h
theorem drop_ (h : te σ H fun _ H1 => D.nx σ H1) : tDrop te D σ H := h
theorem ret_ (h : te σ H D.rt) : tRet te D σ H := h
theorem nx_ {nx : L2.St → Hp → Prop} {rt : VK} {bk ct : L2.St → Hp → Prop} (h : nx σ H) : (Ends.mk nx rt bk ct).nx σ H := h
theorem next_ (h : D.nx σ H) : tNext D σ H := h
theorem cut_ (J : L2.St → Hp → Prop) (h : t { D with nx := J } σ H) (k : ∀ σ' H', J σ' H' → u D σ' H') : C8.tCut t u D σ H := ⟨J, h, k⟩
theorem gset_ {i : Nat} {σ' : L2.St} {Q : L2.St → Hp → Prop} (e : σ.set i (some v) = σ') (k : Q σ' H) : gName i v σ H Q := by
  subst e
  exact k
theorem st_ {σ' : L2.St} (e : σ = σ') (k : t D σ' H) : t D σ H := by
  subst e
  exact k
theorem gas_ {i : Nat} {σ' : L2.St} {Q : L2.St → Hp → Prop} (w : V) (e : v = w) (e' : σ.set i (some w) = σ') (k : Q σ' H) : gName i v σ H Q := by
  subst e
  subst e'
  exact k
theorem andT {x y : Bool} (h : x = true) : y = (x && y) := by rw [h]; rfl
theorem andF {x y : Bool} (h : x = false) : false = (x && y) := by rw [h]; rfl
theorem opT {α : Type} {c : Bool} {x y : Option α} {r : α} (e : c = true) (h : (if c = true then x else y) = some r) : x = some r := by rw [if_pos e] at h; exact h
theorem opF {α : Type} {c : Bool} {x y : Option α} {r : α} (e : c = false) (h : (if c = true then x else y) = some r) : y = some r := by rw [e] at h; exact h
theorem gnil_ {Q : L2.St → Hp → Prop} (k : Q σ H) : gNil [] σ H Q := ⟨rfl, k⟩
theorem gcons_ {g : TG} {gs : TGs} {vs : List V} {Q : L2.St → Hp → Prop} (k : g v σ H fun σ' H' => gs vs σ' H' Q) : gCons g gs (v :: vs) σ H Q := ⟨v, vs, rfl, k⟩
theorem if_ {tc : TT} (J : Bool → Hp → Prop) (h : ∀ Q', (∀ c H', J c H' → Q' c H') → tc σ H Q') (kt : ∀ H', J true H' → t D σ H') (kf : ∀ H', J false H' → u D σ H') : tIfS tc t u D σ H :=
  h _ fun c H' j => by
    cases c with
    | true => exact ifT rfl (kt H' j)
    | false => exact ifF rfl (kf H' j)
theorem ex_ (J : V → Hp → Prop) (h : ∀ Q', (∀ v H', J v H' → Q' v H') → te σ H Q') (k : ∀ v H', J v H' → Q v H') : te σ H Q := h Q k
theorem tx_ {tc : TT} {Q : Bool → Hp → Prop} (J : Bool → Hp → Prop) (h : ∀ Q', (∀ v H', J v H' → Q' v H') → tc σ H Q') (k : ∀ v H', J v H' → Q v H') : tc σ H Q := h Q k
theorem yes_ {Q : Bool → Hp → Prop} (h : Q true H) : tYes σ H Q := h
theorem tand_ {t u : TT} {Q : Bool → Hp → Prop} (h : t σ H fun c H1 => if c = true then u σ H1 Q else Q false H1) : tAnd t u σ H Q := h
theorem tor_ {t u : TT} {Q : Bool → Hp → Prop} (h : t σ H fun c H1 => if c = true then Q true H1 else u σ H1 Q) : tOr t u σ H Q := h
theorem tandV_ (h : ta σ H fun x H1 => ∃ c, x = .bl c ∧ if c = true then tb σ H1 Q else Q (.bl false) H1) : tAndV ta tb σ H Q := h
theorem torV_ (h : ta σ H fun x H1 => ∃ c, x = .bl c ∧ if c = true then Q (.bl true) H1 else tb σ H1 Q) : tOrV ta tb σ H Q := h
theorem br_ {c : Bool} {A B : Prop} (kt : c = true → A) (kf : c = false → B) : if c = true then A else B := by
  cases e : c with
  | true => exact ifT rfl (kt e)
  | false => exact ifF rfl (kf e)

theorem tchain_ {r r' : R2} {tc : TE} (h : ta σ H fun x H1 => tb σ H1 fun y H2 => r x y H2 fun z H3 => ∃ k, z = .bl k ∧ (if k = true then tc σ H3 fun w' H4 => r' y w' H4 Q else Q (.bl false) H3)) : tChain r r' ta tb tc σ H Q := h
theorem gsub_ {ti : TE} {ts : TSet} {Q : L2.St → Hp → Prop} (h : to σ H fun o H1 => ti σ H1 fun i H2 => ts o i v H2 fun H3 => Q σ H3) : gSub to ti ts v σ H Q := h
theorem i0_ {g : Int → Int → V} (k : Q (g a b) H) : rI0 g (.int a) (.int b) H Q := ⟨a, b, rfl, rfl, k⟩
theorem iC_ {C : Int → Int → Prop} {g : Int → Int → V} (hc : C a b) (k : Q (g a b) H) : rI C g (.int a) (.int b) H Q := ⟨a, b, rfl, rfl, hc, k⟩
theorem iU_ {g : Int → V} (k : Q (g a) H) : rU g (.int a) H Q := ⟨a, rfl, k⟩
theorem eqI_ (k : Q (.bl (decide (a = b))) H) : rEq (.int a) (.int b) H Q := ⟨rfl, by rw [show decide (V.int a = V.int b) = decide (a = b) from decide_eq_decide.mpr ⟨fun e => V.int.inj e, fun e => e ▸ rfl⟩]; exact k⟩
theorem neI_ (k : Q (.bl (!decide (a = b))) H) : rNe (.int a) (.int b) H Q := ⟨rfl, by rw [show decide (V.int a = V.int b) = decide (a = b) from decide_eq_decide.mpr ⟨fun e => V.int.inj e, fun e => e ▸ rfl⟩]; exact k⟩
theorem eqS_ {a b : Str} (k : Q (.bl (decide (a = b))) H) : rEq (.str a) (.str b) H Q := ⟨rfl, by rw [show decide (V.str a = V.str b) = decide (a = b) from decide_eq_decide.mpr ⟨fun e => V.str.inj e, fun e => e ▸ rfl⟩]; exact k⟩
theorem neS_ {a b : Str} (k : Q (.bl (!decide (a = b))) H) : rNe (.str a) (.str b) H Q := ⟨rfl, by rw [show decide (V.str a = V.str b) = decide (a = b) from decide_eq_decide.mpr ⟨fun e => V.str.inj e, fun e => e ▸ rfl⟩]; exact k⟩
theorem addS_ {a b : Str} (hl : a.length + b.length ≤ sizeLine) (k : Q (.str (a ++ b)) H) : rdAddS (.str a) (.str b) H Q := ⟨a, b, rfl, rfl, hl, k⟩
theorem none_ {α : Type} [Rp α] [NN α] {B : Hp} {x : Option α} (r : Rp.R B v x) : decide (v = .non) = x.isNone := by
  cases x with
  | none => exact decide_eq_true r
  | some y => exact decide_eq_false (NN.ne (α := α) r)
end

theorem Rs.atI {α : Type} [Rp α] {B : Hp} {l : List V} {xs : List α} {i : Int} {x : α} (r : Rs B l xs) (h : atI xs i = some x) : ∃ v, atI l i = some v ∧ Rp.R B v x := by
  unfold L2.atI at h ⊢
  rw [r.len]
  cases e : ixN xs.length i with
  | none => rw [e] at h; cases h
  | some j =>
    rw [e] at h
    exact r.get h
section
variable {α β γ δ : Type} [Rp α] [Rp β] [Rp γ] [Rp δ] {A : List Addr} {B0 H0 B H : Hp} {O : List (Addr × HO)} {Q : VK} {K : PySem.W.Frag} {v w z y : V} {vs l : List V} {xs : List α} {σ : L2.St} {D : Ends}
theorem mkL (W : Ws A B0 H0 B H O) (rs : Rs B vs xs) (hl : vs.length ≤ sizeLine) (k : ∀ v B' H', Ws A B0 H0 B' H' O → Le B B' → Rp.R B' v xs → Q v H') : MkLs Q vs H :=
  ⟨hl, fun p hp => k _ _ _ (W.np hp _) (Le.new (W.le.free hp)) ⟨p, vs, rfl, upd_same, hl, rs.mono (Le.new (W.le.free hp))⟩⟩
theorem mkO (W : Ws A B0 H0 B H O) (hl : vs.length ≤ sizeLine) (k : ∀ p H', H0 p = none → Ws A B0 H0 B H' (O ++ [(p, .lst vs)]) → Q (.ref p) H') : MkLs Q vs H :=
  ⟨hl, fun p hp => k p _ (W.old hp) (W.nw hp _)⟩
theorem newL (W : Ws A B0 H0 B H O) (rs : Rs B vs xs) (hl : vs.length ≤ sizeLine) (k : ∀ v B' H', Ws A B0 H0 B' H' O → Le B B' → Rp.R B' v xs → Q v H') : ∀ p, H p = none → Q (.ref p) (upd H p (.lst vs)) := (mkL W rs hl k).2
theorem newV (W : Ws A B0 H0 B H O) (rs : Rs B vs xs) (hl : vs.length ≤ sizeLine) (k : ∀ v B' H', Ws A B0 H0 B' H' O → Le B B' → Rp.R B' v (TV.mk xs) → Q v H') : ∀ p, H p = none → Q (.ref p) (upd H p (.tup vs)) :=
  fun p hp => k _ _ _ (W.np hp _) (Le.new (W.le.free hp)) ⟨p, vs, rfl, upd_same, hl, rs.mono (Le.new (W.le.free hp))⟩
theorem mkV (W : Ws A B0 H0 B H O) (rs : Rs B vs xs) (hl : vs.length ≤ sizeLine) (k : ∀ v B' H', Ws A B0 H0 B' H' O → Le B B' → Rp.R B' v (TV.mk xs) → Q v H') : MkTs Q vs H := ⟨hl, newV W rs hl k⟩
theorem mk2 {x : α} {x2 : β} (W : Ws A B0 H0 B H O) (r : Rp.R B v x) (r2 : Rp.R B w x2) (k : ∀ v B' H', Ws A B0 H0 B' H' O → Le B B' → Rp.R B' v (x, x2) → Q v H') : MkTs Q [v, w] H :=
  ⟨by show 2 ≤ sizeLine; decide, fun p hp => k _ _ _ (W.np hp _) (Le.new (W.le.free hp)) ⟨p, v, w, rfl, upd_same, Rp.mono (Le.new (W.le.free hp)) r, Rp.mono (Le.new (W.le.free hp)) r2⟩⟩
theorem mk3 {x : α} {x2 : β} {x3 : γ} (W : Ws A B0 H0 B H O) (r : Rp.R B v x) (r2 : Rp.R B w x2) (r3 : Rp.R B z x3) (k : ∀ v B' H', Ws A B0 H0 B' H' O → Le B B' → Rp.R B' v (T3.mk x x2 x3) → Q v H') : MkTs Q [v, w, z] H :=
  ⟨by show 3 ≤ sizeLine; decide, fun p hp => k _ _ _ (W.np hp _) (Le.new (W.le.free hp)) ⟨p, v, w, z, rfl, upd_same, Rp.mono (Le.new (W.le.free hp)) r, Rp.mono (Le.new (W.le.free hp)) r2, Rp.mono (Le.new (W.le.free hp)) r3⟩⟩
theorem ixL_ {x : α} {i : Int} (W : Ws A B0 H0 B H O) (r : Rp.R B v xs) (h : atI xs i = some x) (k : ∀ w, Rp.R B w x → Q w H) : rIxL K v (.int i) H Q := by
  obtain ⟨a, l, rfl, h1, h2, h3⟩ := r
  obtain ⟨w, h4, h5⟩ := h3.atI h
  exact ⟨a, l, i, w, rfl, rfl, SqL.of (W.le.lst h1), h4, k w h5⟩
theorem ixLo_ {x : α} {i : Int} {a : Addr} (W : Ws A B0 H0 B H O) (n : Nat) (hn : O[n]? = some (a, .lst l)) (rs : Rs B l xs) (h : atI xs i = some x) (k : ∀ w, Rp.R B w x → Q w H) : rIxL K (.ref a) (.int i) H Q := by
  obtain ⟨w, h4, h5⟩ := rs.atI h
  exact ⟨a, l, i, w, rfl, rfl, SqL.of (W.at_ n hn), h4, k w h5⟩
theorem ixV_ {x : α} {t : TV α} {i : Int} (W : Ws A B0 H0 B H O) (r : Rp.R B v t) (h : atI t.l i = some x) (k : ∀ w, Rp.R B w x → Q w H) : rIxT K v (.int i) H Q := by
  obtain ⟨a, l, rfl, h1, h2, h3⟩ := r
  obtain ⟨w, h4, h5⟩ := h3.atI h
  exact ⟨a, l, i, w, rfl, rfl, SqT.of (W.le.tup h1), h4, k w h5⟩
theorem ixP0_ {t : α × β} (W : Ws A B0 H0 B H O) (r : Rp.R B v t) (k : ∀ w, Rp.R B w t.1 → Q w H) : rIxT K v (.int 0) H Q := by
  obtain ⟨a, u, w, rfl, h1, h2, h3⟩ := r
  exact ⟨a, _, 0, u, rfl, rfl, SqT.of (W.le.tup h1), rfl, k u h2⟩
def sAt (s : Str) (i : Int) : Option Str := if s.length ≤ sizeLine then (atI s.cps.toList i).map fun c => ⟨#[c]⟩ else none
theorem ixS_ {s x : Str} {i : Int} (h : sAt s i = some x) (k : Q (.str x) H) : rIxS (.str s) (.int i) H Q := by
  unfold sAt at h
  split at h
  · rename_i hl
    cases e : atI s.cps.toList i with
    | none => rw [e] at h; cases h
    | some c =>
      rw [e] at h
      have e2 : (⟨#[c]⟩ : Str) = x := Option.some.inj h
      subst e2
      exact ⟨s, i, c, rfl, rfl, hl, e, k⟩
  · cases h
theorem ixC_ {s : Scr} {x : Int} {i : Int} (W : Ws A B0 H0 B H O) (r : RC K B v s) (h : atI s.l i = some x) (k : Q (.int x) H) : rIxL K v (.int i) H Q := by
  obtain ⟨a, rfl, h1, h2⟩ := r
  obtain ⟨w, h4, h5⟩ := (Rs.of_ints B s.l).atI h
  cases h5
  exact ⟨a, _, i, _, rfl, rfl, SqL.le W.le h1, h4, k⟩
theorem lenL_ (W : Ws A B0 H0 B H O) (r : Rp.R B v xs) (k : Q (.int (xs.length : Int)) H) : rdLen K [v] H Q := by
  obtain ⟨a, l, rfl, h1, h2, h3⟩ := r
  exact ⟨a, l, rfl, .inl (SqL.of (W.le.lst h1)), by rw [h3.len]; exact k⟩
theorem lenLo_ {a : Addr} (W : Ws A B0 H0 B H O) (n : Nat) (hn : O[n]? = some (a, .lst l)) (rs : Rs B l xs) (k : Q (.int (xs.length : Int)) H) : rdLen K [V.ref a] H Q :=
  ⟨a, l, rfl, .inl (SqL.of (W.at_ n hn)), by rw [rs.len]; exact k⟩
theorem lenC_ {s : Scr} (W : Ws A B0 H0 B H O) (r : RC K B v s) (k : Q (.int (s.l.length : Int)) H) : rdLen K [v] H Q := by
  obtain ⟨a, rfl, h1, h2⟩ := r
  exact ⟨a, _, rfl, .inl (SqL.le W.le h1), by rw [List.length_map]; exact k⟩
theorem lenS_ {s : Str} (h : s.length ≤ sizeLine) (k : Q (.int (s.length : Int)) H) : rdLenS [V.str s] H Q := ⟨s, rfl, h, k⟩
def cutL {α : Type} (xs : List α) (lo hi : Option Int) : List α := (xs.drop (HT.sIx xs.length 0 lo)).take (HT.sIx xs.length xs.length hi - HT.sIx xs.length 0 lo)
theorem Rs.cut {lo hi : Option Int} (r : Rs B l xs) : Rs B (cutV l lo hi) (cutL xs lo hi) := by
  unfold cutV cutL
  rw [r.len]
  exact (r.drop _).take _
theorem slL_ {lo hi : Option Int} (W : Ws A B0 H0 B H O) (r : Rp.R B v xs) (k : ∀ v B' H', Ws A B0 H0 B' H' O → Le B B' → Rp.R B' v (cutL xs lo hi) → Q v H') : rSlL K v lo hi H Q := by
  obtain ⟨a, l, rfl, h1, h2, h3⟩ := r
  exact ⟨a, l, rfl, SqL.of (W.le.lst h1), newL W h3.cut (Nat.le_trans (cutV_length _ _ _) h2) k⟩
theorem slC_ {s : Scr} {lo hi : Option Int} (W : Ws A B0 H0 B H O) (r : RC K B v s) (k : ∀ v B' H', Ws A B0 H0 B' H' O → Le B B' → Rp.R B' v (cutL s.l lo hi) → Q v H') : rSlL K v lo hi H Q := by
  obtain ⟨a, rfl, h1, h2⟩ := r
  refine ⟨a, _, rfl, SqL.le W.le h1, newL W (Rs.of_ints B s.l).cut ?_ k⟩
  refine Nat.le_trans (cutV_length _ _ _) ?_
  rw [List.length_map]
  exact Nat.le_trans h2 (by decide)
theorem slS_ {s : Str} {lo hi : Option Int} (h : s.length ≤ sizeLine) (k : Q (.str (Txt.slice s lo hi)) H) : C8.rSlX (.str s) lo hi H Q := ⟨s, rfl, h, k⟩
theorem cat_ {ys : List α} (W : Ws A B0 H0 B H O) (r : Rp.R B v xs) (r2 : Rp.R B w ys) (hl : xs.length + ys.length ≤ sizeLine) (k : ∀ v B' H', Ws A B0 H0 B' H' O → Le B B' → Rp.R B' v (xs ++ ys) → Q v H') : rCat v w H Q := by
  obtain ⟨a, l, rfl, h1, h2, h3⟩ := r
  obtain ⟨a', l', rfl, h1', h2', h3'⟩ := r2
  have e : l.length + l'.length ≤ sizeLine := by rw [h3.len, h3'.len]; exact hl
  exact ⟨a, a', l, l', rfl, rfl, W.le.lst h1, W.le.lst h1', e, newL W (h3.app h3') (by rw [List.length_append]; exact e) k⟩
theorem inV_int {x : Int} : ∀ {xs : List Int}, inV (.int x) (xs.map V.int) = decide (x ∈ xs)
  | [] => by simp [inV]
  | y :: r => by
    have ih := inV_int (x := x) (xs := r)
    unfold inV at ih ⊢
    rw [List.map_cons, List.any_cons, ih]
    show (y == x || _) = _
    by_cases e : x = y
    · subst e; simp
    · have e' : (y == x) = false := beq_eq_false_iff_ne.mpr (Ne.symm e)
      rw [e', Bool.false_or]
      exact decide_eq_decide.mpr (by simp [e])
theorem inV_str {x : Str} : ∀ {xs : List Str}, inV (.str x) (xs.map V.str) = decide (x ∈ xs)
  | [] => by simp [inV]
  | y :: r => by
    have ih := inV_str (x := x) (xs := r)
    unfold inV at ih ⊢
    rw [List.map_cons, List.any_cons, ih]
    show (y == x || _) = _
    by_cases e : x = y
    · subst e; simp
    · have e' : (y == x) = false := beq_eq_false_iff_ne.mpr (Ne.symm e)
      rw [e', Bool.false_or]
      exact decide_eq_decide.mpr (by simp [e])
theorem flatI : ∀ {xs : List Int}, (xs.map V.int).all flatV = true
  | [] => rfl
  | _ :: r => by rw [List.map_cons, List.all_cons, flatI (xs := r)]; rfl
theorem flatS : ∀ {xs : List Str}, (xs.map V.str).all flatV = true
  | [] => rfl
  | _ :: r => by rw [List.map_cons, List.all_cons, flatS (xs := r)]; rfl
theorem inS_ {x : Str} {xs : List Str} {neg : Bool} (W : Ws A B0 H0 B H O) (r : Rp.R B v xs) (k : Q (.bl (if neg then !decide (x ∈ xs) else decide (x ∈ xs))) H) : rIn K neg (.str x) v H Q := by
  obtain ⟨a, l, rfl, h1, h2, h3⟩ := r
  cases h3.strs
  exact ⟨a, _, rfl, .inl (SqL.of (W.le.lst h1)), rfl, flatS, by rw [inV_str]; exact k⟩
theorem inIV_ {x : Int} {t : TV Int} {neg : Bool} (W : Ws A B0 H0 B H O) (r : Rp.R B v t) (k : Q (.bl (if neg then !decide (x ∈ t.l) else decide (x ∈ t.l))) H) : rIn K neg (.int x) v H Q := by
  obtain ⟨a, l, rfl, h1, h2, h3⟩ := r
  cases h3.ints
  exact ⟨a, _, rfl, .inr (SqT.of (W.le.tup h1)), rfl, flatI, by rw [inV_int]; exact k⟩
theorem inSV_ {x : Str} {t : TV Str} {neg : Bool} (W : Ws A B0 H0 B H O) (r : Rp.R B v t) (k : Q (.bl (if neg then !decide (x ∈ t.l) else decide (x ∈ t.l))) H) : rIn K neg (.str x) v H Q := by
  obtain ⟨a, l, rfl, h1, h2, h3⟩ := r
  cases h3.strs
  exact ⟨a, _, rfl, .inr (SqT.of (W.le.tup h1)), rfl, flatS, by rw [inV_str]; exact k⟩
theorem tyL_ {a : Addr} {P : Prop} (W : Ws A B0 H0 B H O) (n : Nat) (hn : O[n]? = some (a, .lst l)) (k : P) : tyV K "list" (.ref a) H ∧ P := ⟨.inl ⟨rfl, _, SqL.of (W.at_ n hn)⟩, k⟩
theorem setL_ {i : Int} {j : Nat} {a : Addr} {Q : Hp → Prop} (W : Ws A B0 H0 B H O) (n : Nat) (hn : O[n]? = some (a, .lst l)) (hj : ixN l.length i = some j) (k : ∀ H', Ws A B0 H0 B H' (O.set n (a, .lst (l.set j v))) → Q H') : rSetL (.ref a) (.int i) v H Q :=
  ⟨a, l, i, j, rfl, rfl, W.at_ n hn, hj, k _ (W.set n hn _)⟩
theorem app_ {a : Addr} (W : Ws A B0 H0 B H O) (n : Nat) (hn : O[n]? = some (a, .lst l)) (hl : l.length < sizeLine) (k : ∀ H', Ws A B0 H0 B H' (O.set n (a, .lst (l ++ [v]))) → Q .non H') : rAppend (.ref a) [v] H Q :=
  ⟨a, l, v, rfl, rfl, W.at_ n hn, hl, k _ (W.set n hn _)⟩
theorem pop_ {a : Addr} (W : Ws A B0 H0 B H O) (n : Nat) (hn : O[n]? = some (a, .lst l)) (h : l[l.length - 1]? = some v) (k : ∀ H', Ws A B0 H0 B H' (O.set n (a, .lst l.dropLast)) → Q v H') : rPop (.ref a) [] H Q :=
  ⟨a, l, v, rfl, rfl, W.at_ n hn, h, k _ (W.set n hn _)⟩
theorem fzL {a : Addr} {P : Prop} (W : Ws A B0 H0 B H O) (n : Nat) (hn : O[n]? = some (a, .lst l)) (h0 : H0 a = none) (hl : l.length ≤ sizeLine) (rs : Rs B l xs) (k : ∀ B', Ws A B0 H0 B' H (O.eraseIdx n) → Le B B' → Rp.R B' (.ref a) xs → P) : P := by
  obtain ⟨W', le⟩ := W.fz n hn h0
  exact k _ W' le ⟨a, l, rfl, upd_same, hl, rs.mono le⟩
theorem gP_ {t : α × β} {g : TGs} {Q : L2.St → Hp → Prop} (W : Ws A B0 H0 B H O) (r : Rp.R B v t) (k : ∀ u w, Rp.R B u t.1 → Rp.R B w t.2 → g [u, w] σ H Q) : gTup K 2 g v σ H Q := by
  obtain ⟨a, u, w, rfl, h1, h2, h3⟩ := r
  exact ⟨a, _, rfl, SqT.of (W.le.tup h1), rfl, k u w h2 h3⟩
theorem listL_ (W : Ws A B0 H0 B H O) (r : Rp.R B v xs) (k : ∀ v B' H', Ws A B0 H0 B' H' O → Le B B' → Rp.R B' v xs → Q v H') : rdList K [v] H Q := by
  obtain ⟨a, l, rfl, h1, h2, h3⟩ := r
  exact ⟨a, l, rfl, .inl (SqL.of (W.le.lst h1)), newL W h3 h2 k⟩
theorem listLo_ {a : Addr} (W : Ws A B0 H0 B H O) (n : Nat) (hn : O[n]? = some (a, .lst l)) (hl : l.length ≤ sizeLine) (rs : Rs B l xs) (k : ∀ v B' H', Ws A B0 H0 B' H' O → Le B B' → Rp.R B' v xs → Q v H') : rdList K [V.ref a] H Q :=
  ⟨a, l, rfl, .inl (SqL.of (W.at_ n hn)), newL W rs hl k⟩
theorem all_ {bs : List Bool} (W : Ws A B0 H0 B H O) (r : Rp.R B v bs) (k : Q (.bl (bs.all id)) H) : rAll K [v] H Q := by
  obtain ⟨a, l, rfl, h1, h2, h3⟩ := r
  cases h3.bls
  exact ⟨a, bs, rfl, SqL.of (W.le.lst h1), k⟩
theorem split_ {a b : Str} (hb : (b.length == 0) = false) (ha : a.length + 2 ≤ sizeLine) (hn : (Txt.split a b).length ≤ sizeLine) (W : Ws A B0 H0 B H O) (k : ∀ v B' H', Ws A B0 H0 B' H' O → Le B B' → Rp.R B' v (Txt.split a b) → Q v H') :
    rdSplit (.str a) [.str b] H Q :=
  ⟨a, b, rfl, rfl, hb, ha, newL W (Rs.of_strs B _) (by rw [List.length_map]; exact hn) k⟩
theorem join_ {a : Str} {ys : List Str} (W : Ws A B0 H0 B H O) (r : Rp.R B v ys) (hl : (ys.map (·.length)).sum + ys.length * a.length ≤ 16777216) (k : Q (.str (Txt.join a ys)) H) :
    rdJoin K (.str a) [v] H Q := by
  obtain ⟨p, l, rfl, h1, h2, h3⟩ := r
  cases h3.strs
  exact ⟨a, p, ys, rfl, rfl, .inl (SqL.of (W.le.lst h1)), hl, k⟩
theorem starts_ {a b : Str} (k : Q (.bl (Txt.startswith a b)) H) : rdStarts (.str a) [.str b] H Q := ⟨a, b, rfl, rfl, k⟩
end
end Pv

namespace Pv
open PySem L2

inductive Ct (ρ S : Type) where
  | nx (s : S)
  | bk (s : S)
  | rt (r : ρ)
def ctk {ρ S τ : Type} (c : Ct ρ S) (n : S → Option τ) (r : ρ → Option τ) : Option τ := match c with
  | .nx s => n s
  | .bk s => n s
  | .rt v => r v
theorem ct_nx {ρ S τ : Type} {s : S} {n : S → Option τ} {r : ρ → Option τ} {x : τ} (h : ctk (.nx s) n r = some x) : n s = some x := h
theorem ct_rt {ρ S τ : Type} {v : ρ} {n : S → Option τ} {r : ρ → Option τ} {x : τ} (h : ctk (.rt v) n r = some x) : r v = some x := h
def lp {ρ S α : Type} (f : S → α → Option (Ct ρ S)) : S → List α → Option (Ct ρ S)
  | s, [] => some (.nx s)
  | s, x :: r => bd (f s x) fun c => match c with
    | .nx s' => lp f s' r
    | .bk s' => some (.bk s')
    | .rt v => some (.rt v)
def lpn {S α : Type} (f : S → α → Option S) : S → List α → Option S
  | s, [] => some s
  | s, x :: r => bd (f s x) fun s' => lpn f s' r
def wh {ρ S : Type} (t : S → Option Bool) (f : S → Option (Ct ρ S)) : Nat → S → Option (Ct ρ S)
  | 0, _ => none
  | n + 1, s => bd (t s) fun b => if b = true then bd (f s) fun c => match c with
      | .nx s' => wh t f n s'
      | .bk s' => some (.bk s')
      | .rt v => some (.rt v)
    else some (.nx s)
def ocons {β : Type} : Option β → List β → List β
  | some y, r => y :: r
  | none, r => r
def lcs {S α β : Type} (f : S → α → Option (S × Option β)) : S → List α → Option (S × List β)
  | s, [] => some (s, [])
  | s, x :: r => bd (f s x) fun p => bd (lcs f p.1 r) fun q => some (q.1, ocons p.2 q.2)
def mapO {α β : Type} (f : α → Option β) : List α → Option (List β)
  | [] => some []
  | x :: r => bd (f x) fun y => bd (mapO f r) fun ys => some (y :: ys)
def rng (lo : Int) (n : Nat) : List Int := (List.range n).map fun (i : Nat) => lo + (i : Int)
theorem rng_len (lo : Int) (n : Nat) : (rng lo n).length = n := by simp [rng]
theorem rng_get {lo : Int} {n i : Nat} {x : Int} (h : (rng lo n)[i]? = some x) : i < n ∧ x = lo + (i : Int) := by
  unfold rng at h
  rw [List.getElem?_map] at h
  by_cases hi : i < n
  · rw [List.getElem?_range hi] at h
    exact ⟨hi, (Option.some.inj h).symm⟩
  · rw [List.getElem?_eq_none (by rw [List.length_range]; omega)] at h
    cases h

structure TW {α : Type} [Rp α] (A : List Addr) (H0 : Hp) (J : It) (B : Hp) (xs : List α) : Prop where
  go : ∀ {B0 B' H' : Hp} {O : List (Addr × HO)} {i : Nat}, Le B B' → Ws A B0 H0 B' H' O → i < xs.length → J.go i H'
  stop : ∀ {B0 B' H' : Hp} {O : List (Addr × HO)} {i : Nat}, Le B B' → Ws A B0 H0 B' H' O → xs.length ≤ i → J.stop i H'
  yld : ∀ {B0 B' H' Hn : Hp} {O : List (Addr × HO)} {v : V} {i : Nat} {x : α}, Le B B' → Ws A B0 H0 B' H' O → xs[i]? = some x → J.yld i H' v Hn → ∃ Bn, Ws A B0 H0 Bn Hn O ∧ Le B' Bn ∧ Rp.R Bn v x
section
variable {α β : Type} [Rp α] [Rp β] {A : List Addr} {H0 : Hp} {B : Hp} {K : PySem.W.Frag} {a b : Addr} {l l2 : List V} {xs : List α} {ys : List β}
theorem tw_list (h : B a = some (.lst l)) (rs : Rs B l xs) : TW A H0 (Itl K a) B xs := by
  refine ⟨fun {B0 B' H' O i} l1 W hi => ?_, fun {B0 B' H' O i} l1 W hi => ⟨l, SqL.of (W.le.lst (l1.lst h)), by rw [rs.len]; exact hi⟩, fun {B0 B' H' Hn O v i x} l1 W hx y => ?_⟩
  · obtain ⟨v, hv, _⟩ := rs.get (List.getElem?_eq_getElem hi)
    exact ⟨l, v, SqL.of (W.le.lst (l1.lst h)), hv⟩
  · obtain ⟨rfl, hy⟩ := y
    obtain ⟨w, hw, r⟩ := rs.get hx
    have e := hy l (SqL.of (W.le.lst (l1.lst h)))
    rw [hw] at e
    cases e
    exact ⟨B', W, Le.refl _, Rp.mono l1 r⟩
theorem tw_rng {lo : Int} {n : Nat} : TW A H0 (Itr lo n) B (rng lo n) := by
  refine ⟨fun {B0 B' H' O i} _ _ hi => by rw [rng_len] at hi; exact hi, fun {B0 B' H' O i} _ _ hi => by rw [rng_len] at hi; exact hi, fun {B0 B' H' Hn O v i x} l1 W hx y => ?_⟩
  obtain ⟨rfl, rfl⟩ := y
  obtain ⟨hi, rfl⟩ := rng_get hx
  exact ⟨B', W, Le.refl _, rfl⟩
def signs (s : Str) : List Str := s.cps.toList.map fun c => (⟨#[c]⟩ : Str)
theorem signs_len (s : Str) : (signs s).length = s.cps.size := by simp [signs]
theorem tw_str {s : Str} : TW A H0 (Its s) B (signs s) := by
  refine ⟨fun {B0 B' H' O i} _ _ hi => by rw [signs_len] at hi; exact hi, fun {B0 B' H' O i} _ _ hi => by rw [signs_len] at hi; exact hi, fun {B0 B' H' Hn O v i x} l1 W hx y => ?_⟩
  obtain ⟨rfl, c, hc, rfl⟩ := y
  refine ⟨B', W, Le.refl _, ?_⟩
  unfold signs at hx
  rw [List.getElem?_map, Array.getElem?_toList, hc] at hx
  show V.str _ = V.str x
  rw [← Option.some.inj hx]
def enuF {α : Type} : Nat → List α → List (Int × α)
  | _, [] => []
  | n, x :: r => ((n : Int), x) :: enuF (n + 1) r
abbrev enu {α : Type} (xs : List α) : List (Int × α) := enuF 0 xs
theorem enuF_len {α : Type} : ∀ (n : Nat) (xs : List α), (enuF n xs).length = xs.length
  | _, [] => rfl
  | n, _ :: r => congrArg (· + 1) (enuF_len (n + 1) r)
theorem enuF_get {α : Type} : ∀ {n i : Nat} {xs : List α} {p : Int × α}, (enuF n xs)[i]? = some p → p.1 = ((n + i : Nat) : Int) ∧ xs[i]? = some p.2
  | n, i, [], p, h => by simp [enuF] at h
  | n, 0, x :: r, p, h => by simp [enuF] at h; subst h; simp
  | n, i + 1, x :: r, p, h => by
    have h' : (enuF (n + 1) r)[i]? = some p := by simpa [enuF] using h
    obtain ⟨h1, h2⟩ := enuF_get h'
    exact ⟨by rw [h1]; congr 1; omega, by simpa using h2⟩
theorem tw_enu (h : B a = some (.lst l)) (rs : Rs B l xs) : TW A H0 (Ite K a) B (enu xs) := by
  refine ⟨fun {B0 B' H' O i} l1 W hi => ?_, fun {B0 B' H' O i} l1 W hi => ⟨l, SqL.of (W.le.lst (l1.lst h)), by rw [rs.len]; rw [enuF_len] at hi; exact hi⟩, fun {B0 B' H' Hn O v i x} l1 W hx y => ?_⟩
  · rw [enuF_len] at hi
    obtain ⟨v, hv, _⟩ := rs.get (List.getElem?_eq_getElem hi)
    exact ⟨l, v, SqL.of (W.le.lst (l1.lst h)), hv⟩
  · obtain ⟨T, y, rfl, hT, rfl, hy⟩ := y
    obtain ⟨e1, e2⟩ := enuF_get hx
    obtain ⟨w, hw, r⟩ := rs.get e2
    have e := hy l (SqL.of (W.le.lst (l1.lst h)))
    rw [hw] at e
    cases e
    have ln : Le B' (upd B' T (.tup [.int (i : Nat), y])) := Le.new (W.le.free hT)
    refine ⟨_, W.np hT _, ln, T, _, _, rfl, upd_same, ?_, Rp.mono (l1.tr ln) r⟩
    show V.int (i : Nat) = V.int x.1
    rw [e1, Nat.zero_add]
end

def ForK (g : TG) (tb : TS) (D : Ends) (σ : L2.St) : It → Hp → Prop := fun J H1 => ∃ W : Nat → Nat → L2.St → Hp → Prop, (∃ m, W 0 m σ H1) ∧ ∀ i m σ H, W i m σ H →
  (J.stop i H ∧ D.nx σ H) ∨ (J.go i H ∧ ∃ N : L2.St → Hp → Prop, (∀ σ' H', N σ' H' → ∃ m', m' < m ∧ W (i + 1) m' σ' H') ∧ ∀ x H', J.yld i H x H' → g x σ H' fun σ2 H2 => tb { D with nx := N, ct := N, bk := D.nx } σ2 H2)
theorem for_ {wi : TI} {g : TG} {tb : TS} {D : Ends} {σ : L2.St} {H : Hp} (h : wi σ H (ForK g tb D σ)) : tFor wi g tb D σ H := h
def LcK (g : TG) (tt : TT) (te : TE) (vs : List Nat) (σ : L2.St) (Q : VK) : It → Hp → Prop := fun J H1 => ∀ D, H1 D = none → ∃ W : Nat → Nat → Hp → Prop, (∃ m, W 0 m (upd H1 D (.lst []))) ∧ ∀ i m H, W i m H →
  (J.stop i H ∧ Q (.ref D) H) ∨ (J.go i H ∧ ∃ Nx : Hp → Prop, (∀ H', Nx H' → ∃ m', m' < m ∧ W (i + 1) m' H') ∧ ∀ x H', J.yld i H x H' → g x (wipe σ vs) H' fun σ2 H2 => wipe σ2 vs = wipe σ vs ∧ tt σ2 H2 fun b H3 =>
    if b = true then te σ2 H3 fun y H4 => ∃ acc, H4 D = some (.lst acc) ∧ acc.length < sizeLine ∧ Nx (upd H4 D (.lst (acc ++ [y]))) else Nx H3)
theorem lc_ {wi : TI} {g : TG} {tt : TT} {te : TE} {vs : List Nat} {σ : L2.St} {H : Hp} {Q : VK} (h : wi σ H (LcK g tt te vs σ Q)) : tLc wi g tt te vs σ H Q := h
theorem ilist_ {K : PySem.W.Frag} {tl : TE} {σ : L2.St} {H : Hp} {R : It → Hp → Prop} (h : tl σ H fun x H1 => ∃ a, x = .ref a ∧ (∃ xs, SqL K H1 a xs) ∧ R (Itl K a) H1) : iList K tl σ H R := h
theorem irng1_ {ta : TA} {σ : L2.St} {H : Hp} {R : It → Hp → Prop} (h : ta σ H fun vs H1 => ∃ j : Int, vs = [.int j] ∧ -(2 ^ 62) ≤ j ∧ j < 2 ^ 62 ∧ R (Itr 0 j.toNat) H1) : iRng1 ta σ H R := h
theorem istr_ {te : TE} {σ : L2.St} {H : Hp} {R : It → Hp → Prop} (h : te σ H fun v H1 => ∃ x, v = .str x ∧ R (Its x) H1) : iStr te σ H R := h
theorem ienum_ {K : PySem.W.Frag} {ta : TA} {σ : L2.St} {H : Hp} {R : It → Hp → Prop} (h : ta σ H fun vs H1 => ∃ a xs, vs = [.ref a] ∧ SqL K H1 a xs ∧ R (Ite K a) H1) : iEnum K ta σ H R := h
section
variable {α : Type} [Rp α] {A : List Addr} {B0 H0 B H : Hp} {O : List (Addr × HO)} {σ : L2.St} {D : Ends} {g : TG} {tb : TS} {J : It} {xs : List α}
theorem lp_drop {ρ S : Type} {f : S → α → Option (Ct ρ S)} {s : S} {i : Nat} {x : α} {fin : Ct ρ S} (hx : xs[i]? = some x) (h : lp f s (xs.drop i) = some fin) :
    ∃ c, f s x = some c ∧ (∀ s', c = .nx s' → lp f s' (xs.drop (i + 1)) = some fin) ∧ (∀ s', c = .bk s' → fin = .bk s') ∧ ∀ r, c = .rt r → fin = .rt r := by
  obtain ⟨hi, e⟩ := List.getElem?_eq_some_iff.mp hx
  rw [List.drop_eq_getElem_cons hi, e] at h
  unfold lp at h
  obtain ⟨c, hc, h⟩ := bs h
  refine ⟨c, hc, fun s' e => ?_, fun s' e => ?_, fun r e => ?_⟩
  · subst e; exact h
  · subst e; exact (Option.some.inj h).symm
  · subst e; exact (Option.some.inj h).symm
theorem for_t {ρ S : Type} (W : Ws A B0 H0 B H O) (tw : TW A H0 J B xs) (f : S → α → Option (Ct ρ S)) {s0 : S} {fin : Ct ρ S} (hx : lp f s0 xs = some fin)
    (I : S → L2.St → List (Addr × HO) → Hp → Prop) (mono : ∀ s σ O B B', Le B B' → I s σ O B → I s σ O B') (h0 : I s0 σ O B)
    (turn : ∀ s x c v σ' O' B' H', Le B B' → Ws A B0 H0 B' H' O' → I s σ' O' B' → Rp.R B' v x → f s x = some c → (∀ s', c = .bk s' → fin = .bk s') → (∀ r, c = .rt r → fin = .rt r) →
      g v σ' H' fun σ2 H2 => tb { D with nx := fun σ3 H3 => ∃ s' O3 B3, c = .nx s' ∧ Le B B3 ∧ Ws A B0 H0 B3 H3 O3 ∧ I s' σ3 O3 B3, ct := fun σ3 H3 => ∃ s' O3 B3, c = .nx s' ∧ Le B B3 ∧ Ws A B0 H0 B3 H3 O3 ∧ I s' σ3 O3 B3, bk := D.nx } σ2 H2)
    (done : ∀ s σ' O' B' H', fin = .nx s → Le B B' → Ws A B0 H0 B' H' O' → I s σ' O' B' → D.nx σ' H') :
    ForK g tb D σ J H := by
  unfold ForK
  refine ⟨fun i m σ H => m = xs.length - i ∧ i ≤ xs.length ∧ ∃ s O' B', lp f s (xs.drop i) = some fin ∧ Le B B' ∧ Ws A B0 H0 B' H O' ∧ I s σ O' B', ⟨xs.length, by simp, Nat.zero_le _, s0, O, B, by rw [List.drop_zero]; exact hx, Le.refl _, W, h0⟩, ?_⟩
  rintro i m σ1 H1 ⟨rfl, hi, s, O1, B1, hl, le1, W1, i1⟩
  by_cases hlt : i < xs.length
  · refine .inr ⟨tw.go le1 W1 hlt, ?_⟩
    have hget : xs[i]? = some xs[i] := List.getElem?_eq_getElem hlt
    obtain ⟨c, hc, hn, hb, hr⟩ := lp_drop hget hl
    refine ⟨fun σ3 H3 => ∃ s' O3 B3, c = .nx s' ∧ Le B B3 ∧ Ws A B0 H0 B3 H3 O3 ∧ I s' σ3 O3 B3, ?_, fun x Hn y => ?_⟩
    · rintro σ3 H3 ⟨s', O3, B3, e, le3, W3, i3⟩
      exact ⟨xs.length - (i + 1), by omega, rfl, hlt, s', O3, B3, hn s' e, le3, W3, i3⟩
    · obtain ⟨Bn, Wn, len, rn⟩ := tw.yld le1 W1 hget y
      exact turn s _ c x σ1 O1 Bn Hn (le1.tr len) Wn (mono _ _ _ _ _ len i1) rn hc hb hr
  · refine .inl ⟨tw.stop le1 W1 (by omega), ?_⟩
    rw [List.drop_eq_nil_of_le (by omega)] at hl
    exact done s σ1 O1 B1 H1 (Option.some.inj hl).symm le1 W1 i1
theorem for_n {S : Type} (W : Ws A B0 H0 B H O) (tw : TW A H0 J B xs) (f : S → α → Option S) {s0 fin : S} (hx : lpn f s0 xs = some fin)
    (I : S → L2.St → List (Addr × HO) → Hp → Prop) (mono : ∀ s σ O B B', Le B B' → I s σ O B → I s σ O B') (h0 : I s0 σ O B)
    (turn : ∀ s x s' v σ' O' B' H', Le B B' → Ws A B0 H0 B' H' O' → I s σ' O' B' → Rp.R B' v x → f s x = some s' →
      g v σ' H' fun σ2 H2 => tb { D with nx := fun σ3 H3 => ∃ O3 B3, Le B B3 ∧ Ws A B0 H0 B3 H3 O3 ∧ I s' σ3 O3 B3, ct := fun σ3 H3 => ∃ O3 B3, Le B B3 ∧ Ws A B0 H0 B3 H3 O3 ∧ I s' σ3 O3 B3, bk := D.nx } σ2 H2)
    (done : ∀ σ' O' B' H', Le B B' → Ws A B0 H0 B' H' O' → I fin σ' O' B' → D.nx σ' H') :
    ForK g tb D σ J H := by
  unfold ForK
  refine ⟨fun i m σ H => m = xs.length - i ∧ i ≤ xs.length ∧ ∃ s O' B', lpn f s (xs.drop i) = some fin ∧ Le B B' ∧ Ws A B0 H0 B' H O' ∧ I s σ O' B', ⟨xs.length, by simp, Nat.zero_le _, s0, O, B, by rw [List.drop_zero]; exact hx, Le.refl _, W, h0⟩, ?_⟩
  rintro i m σ1 H1 ⟨rfl, hi, s, O1, B1, hl, le1, W1, i1⟩
  by_cases hlt : i < xs.length
  · refine .inr ⟨tw.go le1 W1 hlt, ?_⟩
    have hget : xs[i]? = some xs[i] := List.getElem?_eq_getElem hlt
    rw [List.drop_eq_getElem_cons hlt] at hl
    unfold lpn at hl
    obtain ⟨s', hs, hl⟩ := bs hl
    refine ⟨fun σ3 H3 => ∃ O3 B3, Le B B3 ∧ Ws A B0 H0 B3 H3 O3 ∧ I s' σ3 O3 B3, ?_, fun x Hn y => ?_⟩
    · rintro σ3 H3 ⟨O3, B3, le3, W3, i3⟩
      exact ⟨xs.length - (i + 1), by omega, rfl, hlt, s', O3, B3, hl, le3, W3, i3⟩
    · obtain ⟨Bn, Wn, len, rn⟩ := tw.yld le1 W1 hget y
      exact turn s _ s' x σ1 O1 Bn Hn (le1.tr len) Wn (mono _ _ _ _ _ len i1) rn hs
  · refine .inl ⟨tw.stop le1 W1 (by omega), ?_⟩
    rw [List.drop_eq_nil_of_le (by omega)] at hl
    cases (Option.some.inj hl : s = fin)
    exact done σ1 O1 B1 H1 le1 W1 i1
theorem itL {v : V} {K : PySem.W.Frag} {R : It → Hp → Prop} (W : Ws A B0 H0 B H O) (r : Rp.R B v xs) (k : ∀ a, TW A H0 (Itl K a) B xs → R (Itl K a) H) : ∃ a, v = .ref a ∧ (∃ xs, SqL K H a xs) ∧ R (Itl K a) H := by
  obtain ⟨a, l, rfl, h1, h2, h3⟩ := r
  exact ⟨a, rfl, ⟨l, SqL.of (W.le.lst h1)⟩, k a (tw_list h1 h3)⟩
theorem itR1 {j : Int} {R : It → Hp → Prop} (W : Ws A B0 H0 B H O) (h : -(2 ^ 62) ≤ j ∧ j < 2 ^ 62) (k : TW A H0 (Itr 0 j.toNat) B (rng 0 j.toNat) → R (Itr 0 j.toNat) H) : ∃ i : Int, [V.int j] = [.int i] ∧ -(2 ^ 62) ≤ i ∧ i < 2 ^ 62 ∧ R (Itr 0 i.toNat) H := ⟨j, rfl, h.1, h.2, k tw_rng⟩
theorem itS {s : Str} {R : It → Hp → Prop} (W : Ws A B0 H0 B H O) (k : TW A H0 (Its s) B (signs s) → R (Its s) H) : ∃ x, V.str s = .str x ∧ R (Its x) H := ⟨s, rfl, k tw_str⟩
theorem itE {v : V} {K : PySem.W.Frag} {R : It → Hp → Prop} (W : Ws A B0 H0 B H O) (r : Rp.R B v xs) (k : ∀ a, TW A H0 (Ite K a) B (enu xs) → R (Ite K a) H) : ∃ a ys, [v] = [.ref a] ∧ SqL K H a ys ∧ R (Ite K a) H := by
  obtain ⟨a, l, rfl, h1, h2, h3⟩ := r
  exact ⟨a, l, rfl, SqL.of (W.le.lst h1), k a (tw_enu h1 h3)⟩
end

section
variable {α β : Type} [Rp α] [Rp β] {A : List Addr} {B0 H0 B H : Hp} {O : List (Addr × HO)} {σ : L2.St} {g : TG} {tt : TT} {te : TE} {J : It} {xs : List α} {vs : List Nat} {Q : VK}
theorem er_last {α : Type} (l : List α) (x : α) : (l ++ [x]).eraseIdx l.length = l := by
  rw [List.eraseIdx_append_of_length_le (Nat.le_refl _), Nat.sub_self]
  simp
theorem set_last {α : Type} (l : List α) (x y : α) : (l ++ [x]).set l.length y = l ++ [y] := by
  rw [List.set_append_right _ _ (Nat.le_refl _), Nat.sub_self]
  rfl
theorem get_last {α : Type} (l : List α) (x : α) : (l ++ [x])[l.length]? = some x := by
  rw [List.getElem?_append_right (Nat.le_refl _), Nat.sub_self]
  rfl
theorem lc_so {S : Type} (W : Ws A B0 H0 B H O) (tw : TW A H0 J B xs) (hn : xs.length ≤ sizeLine) (f : S → α → Option (S × Option β)) {s0 s1 : S} {ys : List β} (hx : lcs f s0 xs = some (s1, ys))
    (I : S → List (Addr × HO) → Hp → Prop) (mono : ∀ s O B B', Le B B' → I s O B → I s O B') (h0 : I s0 O B)
    (turn : ∀ s x s' o v O' B' H' D acc (Nx : Hp → Prop), Le B B' → Ws A B0 H0 B' H' (O' ++ [(D, .lst acc)]) → I s O' B' → Rp.R B' v x → f s x = some (s', o) →
      (∀ z O4 B4 H4 y, o = some z → Le B' B4 → Ws A B0 H0 B4 H4 (O4 ++ [(D, .lst acc)]) → I s' O4 B4 → Rp.R B4 y z → ∃ acc', H4 D = some (.lst acc') ∧ acc'.length < sizeLine ∧ Nx (upd H4 D (.lst (acc' ++ [y])))) →
      (∀ O4 B4 H4, o = none → Le B' B4 → Ws A B0 H0 B4 H4 (O4 ++ [(D, .lst acc)]) → I s' O4 B4 → Nx H4) →
      g v (wipe σ vs) H' fun σ2 H2 => wipe σ2 vs = wipe σ vs ∧ tt σ2 H2 fun b H3 => if b = true then te σ2 H3 fun y H4 => ∃ acc, H4 D = some (.lst acc) ∧ acc.length < sizeLine ∧ Nx (upd H4 D (.lst (acc ++ [y]))) else Nx H3)
    (done : ∀ p l O' B' H', H0 p = none → Le B B' → Ws A B0 H0 B' H' (O' ++ [(p, .lst l)]) → I s1 O' B' → l.length ≤ sizeLine → Rs B' l ys → Q (.ref p) H') :
    LcK g tt te vs σ Q J H := by
  intro D hD
  have hD0 : H0 D = none := W.old hD
  refine ⟨fun i m H1 => m = xs.length - i ∧ i ≤ xs.length ∧ ∃ s O' B' acc pre rest, lcs f s (xs.drop i) = some (s1, rest) ∧ ys = pre ++ rest ∧ Rs B' acc pre ∧ acc.length ≤ i ∧ Le B B' ∧ Ws A B0 H0 B' H1 (O' ++ [(D, .lst acc)]) ∧ I s O' B',
    ⟨xs.length, by simp, Nat.zero_le _, s0, O, B, [], [], ys, by rw [List.drop_zero]; exact hx, rfl, .nil, Nat.le_refl _, Le.refl _, W.nw hD _, h0⟩, ?_⟩
  rintro i m H1 ⟨rfl, hi, s, O1, B1, acc, pre, rest, hl, ey, rs, ha, le1, W1, i1⟩
  by_cases hlt : i < xs.length
  · refine .inr ⟨tw.go le1 W1 hlt, ?_⟩
    have hget : xs[i]? = some xs[i] := List.getElem?_eq_getElem hlt
    rw [List.drop_eq_getElem_cons hlt] at hl
    unfold lcs at hl
    obtain ⟨⟨s', o⟩, hs, hl⟩ := bs hl
    obtain ⟨⟨s2, r2⟩, hs2, hl⟩ := bs hl
    have hl := Option.some.inj hl
    have e1 : s2 = s1 := congrArg Prod.fst hl
    have e2 : ocons o r2 = rest := congrArg Prod.snd hl
    subst e1
    refine ⟨fun H3 => ∃ O3 B3 acc' pre', ys = pre' ++ r2 ∧ Rs B3 acc' pre' ∧ acc'.length ≤ i + 1 ∧ Le B B3 ∧ Ws A B0 H0 B3 H3 (O3 ++ [(D, .lst acc')]) ∧ I s' O3 B3, ?_, fun x Hn y => ?_⟩
    · rintro H3 ⟨O3, B3, acc', pre', q1, q2, q3, q4, q5, q6⟩
      exact ⟨xs.length - (i + 1), by omega, rfl, hlt, s', O3, B3, acc', pre', r2, hs2, q1, q2, q3, q4, q5, q6⟩
    · obtain ⟨Bn, Wn, len, rn⟩ := tw.yld le1 W1 hget y
      refine turn s _ s' o x O1 Bn Hn D acc _ (le1.tr len) Wn (mono _ _ _ _ len i1) rn hs (fun z O4 B4 H4 y eo le4 W4 i4 r4 => ?_) (fun O4 B4 H4 eo le4 W4 i4 => ?_)
      · subst eo
        have hacc : acc.length < sizeLine := by omega
        refine ⟨acc, W4.at_ O4.length (get_last _ _), hacc, O4, B4, acc ++ [y], pre ++ [z], ?_, ?_, by rw [List.length_append, List.length_singleton]; omega, (le1.tr len).tr le4, ?_, i4⟩
        · rw [ey, ← e2, List.append_assoc]
          rfl
        · exact Rs.app (rs.mono (len.tr le4)) (Rs.one r4)
        · have q := W4.set O4.length (get_last _ _) (.lst (acc ++ [y]))
          rw [set_last] at q
          exact q
      · subst eo
        exact ⟨O4, B4, acc, pre, by rw [ey, ← e2]; rfl, rs.mono (len.tr le4), by omega, (le1.tr len).tr le4, W4, i4⟩
  · refine .inl ⟨tw.stop le1 W1 (by omega), ?_⟩
    rw [List.drop_eq_nil_of_le (by omega)] at hl
    have hl := Option.some.inj hl
    have e1 : s = s1 := congrArg Prod.fst hl
    have e2 : [] = rest := congrArg Prod.snd hl
    subst e1
    subst e2
    rw [List.append_nil] at ey
    subst ey
    exact done D acc O1 B1 H1 hD0 le1 W1 i1 (by omega) rs
theorem lc_s {S : Type} (W : Ws A B0 H0 B H O) (tw : TW A H0 J B xs) (hn : xs.length ≤ sizeLine) (f : S → α → Option (S × Option β)) {s0 s1 : S} {ys : List β} (hx : lcs f s0 xs = some (s1, ys))
    (I : S → List (Addr × HO) → Hp → Prop) (mono : ∀ s O B B', Le B B' → I s O B → I s O B') (h0 : I s0 O B)
    (turn : ∀ s x s' o v O' B' H' D acc (Nx : Hp → Prop), Le B B' → Ws A B0 H0 B' H' (O' ++ [(D, .lst acc)]) → I s O' B' → Rp.R B' v x → f s x = some (s', o) →
      (∀ z O4 B4 H4 y, o = some z → Le B' B4 → Ws A B0 H0 B4 H4 (O4 ++ [(D, .lst acc)]) → I s' O4 B4 → Rp.R B4 y z → ∃ acc', H4 D = some (.lst acc') ∧ acc'.length < sizeLine ∧ Nx (upd H4 D (.lst (acc' ++ [y])))) →
      (∀ O4 B4 H4, o = none → Le B' B4 → Ws A B0 H0 B4 H4 (O4 ++ [(D, .lst acc)]) → I s' O4 B4 → Nx H4) →
      g v (wipe σ vs) H' fun σ2 H2 => wipe σ2 vs = wipe σ vs ∧ tt σ2 H2 fun b H3 => if b = true then te σ2 H3 fun y H4 => ∃ acc, H4 D = some (.lst acc) ∧ acc.length < sizeLine ∧ Nx (upd H4 D (.lst (acc ++ [y]))) else Nx H3)
    (done : ∀ v O' B' H', Le B B' → Ws A B0 H0 B' H' O' → I s1 O' B' → Rp.R B' v ys → Q v H') :
    LcK g tt te vs σ Q J H :=
  lc_so W tw hn f hx I mono h0 turn fun p l O' B' H' h0 le1 W1 i1 hl rs => by
    obtain ⟨Wf, lf⟩ := W1.fz O'.length (get_last _ _) h0
    rw [er_last] at Wf
    exact done _ O' _ H' (le1.tr lf) Wf (mono _ _ _ _ lf i1) ⟨p, l, rfl, upd_same, hl, rs.mono lf⟩
end
end Pv

namespace Pv
open PySem L2
structure Ow {α : Type} [Rp α] (B : Hp) (l : List V) (xs : List α) : Prop where
  len : l.length ≤ sizeLine
  rs : Rs B l xs

theorem lcs_o {α β : Type} {f : α → Option β} : ∀ {xs : List α} {ys : List β}, mapO f xs = some ys → lcs (fun (_ : Unit) x => bd (f x) fun y => some ((), some y)) () xs = some ((), ys)
  | [], ys, h => by cases (Option.some.inj h : [] = ys); rfl
  | x :: r, ys, h => by
    unfold mapO at h
    obtain ⟨y, hy, h⟩ := bs h
    obtain ⟨zs, hz, h⟩ := bs h
    cases (Option.some.inj h : y :: zs = ys)
    show bd (bd (f x) _) _ = _
    rw [hy]
    show bd (lcs _ () r) _ = _
    rw [lcs_o hz]
    rfl
theorem lcs_m {α β : Type} {f : α → β} : ∀ {xs : List α}, lcs (fun (_ : Unit) x => some ((), some (f x))) () xs = some ((), xs.map f)
  | [] => rfl
  | x :: r => by
    show bd (lcs _ () r) _ = _
    rw [lcs_m]
    rfl
theorem lcs_fm {α β : Type} {p : α → Bool} {f : α → β} : ∀ {xs : List α}, lcs (fun (_ : Unit) x => some ((), if p x = true then some (f x) else none)) () xs = some ((), (xs.filter p).map f)
  | [] => rfl
  | x :: r => by
    show bd (lcs _ () r) _ = _
    rw [lcs_fm]
    show some ((), ocons (if p x = true then some (f x) else none) _) = _
    rw [List.filter_cons]
    by_cases h : p x = true
    · rw [if_pos h, if_pos h]; rfl
    · rw [if_neg h, if_neg h]; rfl
section
variable {α β : Type} [Rp α] [Rp β] {A : List Addr} {B0 H0 B H : Hp} {O : List (Addr × HO)} {σ : L2.St} {g : TG} {tt : TT} {te : TE} {J : It} {xs : List α} {ys : List β} {vs : List Nat} {Q : VK}
theorem lc_o (W : Ws A B0 H0 B H O) (tw : TW A H0 J B xs) (hn : xs.length ≤ sizeLine) (f : α → Option β) (hx : mapO f xs = some ys)
    (turn : ∀ x z v B' H' D acc (Nx : Hp → Prop), Le B B' → Ws A B0 H0 B' H' (O ++ [(D, .lst acc)]) → Rp.R B' v x → f x = some z →
      (∀ B4 H4 y, Le B' B4 → Ws A B0 H0 B4 H4 (O ++ [(D, .lst acc)]) → Rp.R B4 y z → ∃ acc', H4 D = some (.lst acc') ∧ acc'.length < sizeLine ∧ Nx (upd H4 D (.lst (acc' ++ [y])))) →
      g v (wipe σ vs) H' fun σ2 H2 => wipe σ2 vs = wipe σ vs ∧ te σ2 H2 fun y H4 => ∃ acc, H4 D = some (.lst acc) ∧ acc.length < sizeLine ∧ Nx (upd H4 D (.lst (acc ++ [y]))))
    (done : ∀ v B' H', Le B B' → Ws A B0 H0 B' H' O → Rp.R B' v ys → Q v H') :
    LcK g tYes te vs σ Q J H := by
  refine lc_s W tw hn _ (lcs_o hx) (fun _ O' _ => O' = O) (fun _ _ _ _ _ h => h) rfl (fun s x s' o v O' B' H' D acc Nx le1 W1 e1 r1 hf k1 k2 => ?_) (fun v O' B' H' le1 W1 e1 r1 => ?_)
  · subst e1
    obtain ⟨z, ho, hf⟩ := bs hf
    cases (Option.some.inj hf : ((), some z) = (s', o))
    exact turn x z v B' H' D acc Nx le1 W1 r1 ho (fun B4 H4 y l4 W4 r4 => k1 z _ B4 H4 y rfl l4 W4 rfl r4)
  · subst e1
    exact done v B' H' le1 W1 r1
theorem lc_m (W : Ws A B0 H0 B H O) (tw : TW A H0 J B xs) (hn : xs.length ≤ sizeLine) (f : α → β)
    (turn : ∀ x v B' H' D acc (Nx : Hp → Prop), Le B B' → Ws A B0 H0 B' H' (O ++ [(D, .lst acc)]) → Rp.R B' v x →
      (∀ B4 H4 y, Le B' B4 → Ws A B0 H0 B4 H4 (O ++ [(D, .lst acc)]) → Rp.R B4 y (f x) → ∃ acc', H4 D = some (.lst acc') ∧ acc'.length < sizeLine ∧ Nx (upd H4 D (.lst (acc' ++ [y])))) →
      g v (wipe σ vs) H' fun σ2 H2 => wipe σ2 vs = wipe σ vs ∧ te σ2 H2 fun y H4 => ∃ acc, H4 D = some (.lst acc) ∧ acc.length < sizeLine ∧ Nx (upd H4 D (.lst (acc ++ [y]))))
    (done : ∀ v B' H', Le B B' → Ws A B0 H0 B' H' O → Rp.R B' v (xs.map f) → Q v H') :
    LcK g tYes te vs σ Q J H := by
  refine lc_s W tw hn _ (lcs_m (f := f)) (fun _ O' _ => O' = O) (fun _ _ _ _ _ h => h) rfl (fun s x s' o v O' B' H' D acc Nx le1 W1 e1 r1 hf k1 k2 => ?_) (fun v O' B' H' le1 W1 e1 r1 => ?_)
  · subst e1
    cases (Option.some.inj hf : ((), some (f x)) = (s', o))
    exact turn x v B' H' D acc Nx le1 W1 r1 (fun B4 H4 y l4 W4 r4 => k1 _ _ B4 H4 y rfl l4 W4 rfl r4)
  · subst e1
    exact done v B' H' le1 W1 r1
theorem lc_fm (W : Ws A B0 H0 B H O) (tw : TW A H0 J B xs) (hn : xs.length ≤ sizeLine) (p : α → Bool) (f : α → β)
    (turn : ∀ x v B' H' D acc (Nx : Hp → Prop), Le B B' → Ws A B0 H0 B' H' (O ++ [(D, .lst acc)]) → Rp.R B' v x →
      (∀ B4 H4 y, p x = true → Le B' B4 → Ws A B0 H0 B4 H4 (O ++ [(D, .lst acc)]) → Rp.R B4 y (f x) → ∃ acc', H4 D = some (.lst acc') ∧ acc'.length < sizeLine ∧ Nx (upd H4 D (.lst (acc' ++ [y])))) →
      (∀ B4 H4, p x = false → Le B' B4 → Ws A B0 H0 B4 H4 (O ++ [(D, .lst acc)]) → Nx H4) →
      g v (wipe σ vs) H' fun σ2 H2 => wipe σ2 vs = wipe σ vs ∧ tt σ2 H2 fun b H3 => if b = true then te σ2 H3 fun y H4 => ∃ acc, H4 D = some (.lst acc) ∧ acc.length < sizeLine ∧ Nx (upd H4 D (.lst (acc ++ [y]))) else Nx H3)
    (done : ∀ v B' H', Le B B' → Ws A B0 H0 B' H' O → Rp.R B' v ((xs.filter p).map f) → Q v H') :
    LcK g tt te vs σ Q J H := by
  refine lc_s W tw hn _ (lcs_fm (p := p) (f := f)) (fun _ O' _ => O' = O) (fun _ _ _ _ _ h => h) rfl (fun s x s' o v O' B' H' D acc Nx le1 W1 e1 r1 hf k1 k2 => ?_) (fun v O' B' H' le1 W1 e1 r1 => ?_)
  · subst e1
    have hf := Option.some.inj hf
    have e2 : (if p x = true then some (f x) else none) = o := congrArg Prod.snd hf
    cases e : p x with
    | true =>
      rw [e, if_pos rfl] at e2
      exact turn x v B' H' D acc Nx le1 W1 r1 (fun B4 H4 y _ l4 W4 r4 => k1 _ _ B4 H4 y e2.symm l4 W4 rfl r4) (fun B4 H4 z _ _ => by rw [e] at z; cases z)
    | false =>
      rw [e] at e2
      exact turn x v B' H' D acc Nx le1 W1 r1 (fun B4 H4 y z _ _ _ => by rw [e] at z; cases z) (fun B4 H4 _ l4 W4 => k2 _ B4 H4 e2.symm l4 W4 rfl)
  · subst e1
    exact done v B' H' le1 W1 r1
theorem lc_mw (W : Ws A B0 H0 B H O) (tw : TW A H0 J B xs) (hn : xs.length ≤ sizeLine) (f : α → β)
    (turn : ∀ x v B' H' D acc (Nx : Hp → Prop), Le B B' → Ws A B0 H0 B' H' (O ++ [(D, .lst acc)]) → Rp.R B' v x →
      (∀ B4 H4 y, Le B' B4 → Ws A B0 H0 B4 H4 (O ++ [(D, .lst acc)]) → Rp.R B4 y (f x) → ∃ acc', H4 D = some (.lst acc') ∧ acc'.length < sizeLine ∧ Nx (upd H4 D (.lst (acc' ++ [y])))) →
      g v (wipe σ vs) H' fun σ2 H2 => wipe σ2 vs = wipe σ vs ∧ te σ2 H2 fun y H4 => ∃ acc, H4 D = some (.lst acc) ∧ acc.length < sizeLine ∧ Nx (upd H4 D (.lst (acc ++ [y]))))
    (done : ∀ q l B' H', H0 q = none → Le B B' → Ws A B0 H0 B' H' (O ++ [(q, .lst l)]) → Ow B' l (xs.map f) → Q (.ref q) H') :
    LcK g tYes te vs σ Q J H := by
  refine lc_so W tw hn _ (lcs_m (f := f)) (fun _ O' _ => O' = O) (fun _ _ _ _ _ h => h) rfl (fun s x s' o v O' B' H' D acc Nx le1 W1 e1 r1 hf k1 k2 => ?_) (fun p l O' B' H' hp le1 W1 e1 hl r1 => ?_)
  · subst e1
    cases (Option.some.inj hf : ((), some (f x)) = (s', o))
    exact turn x v B' H' D acc Nx le1 W1 r1 (fun B4 H4 y l4 W4 r4 => k1 _ _ B4 H4 y rfl l4 W4 rfl r4)
  · subst e1
    exact done p l B' H' hp le1 W1 ⟨hl, r1⟩
end

section
variable {A : List Addr} {B0 H0 B H : Hp} {O : List (Addr × HO)} {σ : L2.St} {D : Ends} {tc : TT} {tb : TS}
end

section
variable {α : Type} [Rp α] {A : List Addr} {B0 H0 B B' H : Hp} {O : List (Addr × HO)} {Q : VK} {K : PySem.W.Frag} {v : V} {l : List V} {xs : List α} {a : Addr}
theorem Ow.mono (m : Le B B') (o : Ow B l xs) : Ow B' l xs := ⟨o.len, o.rs.mono m⟩
theorem Ow.nil : Ow B [] ([] : List α) := ⟨Nat.zero_le _, .nil⟩
theorem oIx {x : α} {i : Int} (W : Ws A B0 H0 B H O) (n : Nat) (hn : O[n]? = some (a, .lst l)) (o : Ow B l xs) (h : atI xs i = some x) (k : ∀ w, Rp.R B w x → Q w H) : rIxL K (.ref a) (.int i) H Q := ixLo_ W n hn o.rs h k
theorem oSet {x : α} {i : Int} {j : Nat} {Q : Hp → Prop} (W : Ws A B0 H0 B H O) (n : Nat) (hn : O[n]? = some (a, .lst l)) (o : Ow B l xs) (r : Rp.R B v x) (hj : ixN xs.length i = some j)
    (k : ∀ H' l', Ws A B0 H0 B H' (O.set n (a, .lst l')) → Ow B l' (xs.set j x) → Q H') : rSetL (.ref a) (.int i) v H Q :=
  setL_ W n hn (by rw [o.rs.len]; exact hj) fun H' W' => k H' _ W' ⟨by rw [List.length_set]; exact o.len, o.rs.set r j⟩
theorem oApp {x : α} (W : Ws A B0 H0 B H O) (n : Nat) (hn : O[n]? = some (a, .lst l)) (o : Ow B l xs) (r : Rp.R B v x) (h : xs.length < sizeLine)
    (k : ∀ H' l', Ws A B0 H0 B H' (O.set n (a, .lst l')) → Ow B l' (xs ++ [x]) → Q .non H') : rAppend (.ref a) [v] H Q :=
  app_ W n hn (by rw [o.rs.len]; exact h) fun H' W' => k H' _ W' ⟨by rw [List.length_append, o.rs.len]; exact h, o.rs.app (Rs.one r)⟩
theorem oPop {x : α} (W : Ws A B0 H0 B H O) (n : Nat) (hn : O[n]? = some (a, .lst l)) (o : Ow B l xs) (h : xs.getLast? = some x)
    (k : ∀ w H' l', Ws A B0 H0 B H' (O.set n (a, .lst l')) → Rp.R B w x → Ow B l' xs.dropLast → Q w H') : rPop (.ref a) [] H Q := by
  rw [List.getLast?_eq_getElem?] at h
  obtain ⟨w, hw, r⟩ := o.rs.get h
  refine pop_ W n hn (v := w) (by rw [o.rs.len]; exact hw) fun H' W' => k w H' _ W' r ⟨by rw [List.length_dropLast]; exact Nat.le_trans (Nat.sub_le _ _) o.len, ?_⟩
  rw [List.dropLast_eq_take, List.dropLast_eq_take, o.rs.len]
  exact o.rs.take _
theorem oIns {x : α} {i : Int} (W : Ws A B0 H0 B H O) (n : Nat) (hn : O[n]? = some (a, .lst l)) (o : Ow B l xs) (r : Rp.R B v x) (h : xs.length < sizeLine ∧ 0 ≤ i ∧ i < 2 ^ 63)
    (k : ∀ H' l', Ws A B0 H0 B H' (O.set n (a, .lst l')) → Ow B l' (xs.take i.toNat ++ [x] ++ xs.drop i.toNat) → Q .non H') :
    rdIns (.ref a) [.int i, v] H Q := by
  have hl : l.length < sizeLine := by rw [o.rs.len]; exact h.1
  refine ⟨a, l, i, v, rfl, rfl, W.at_ n hn, hl, h.2.1, h.2.2, k _ _ (W.set n hn _) ⟨?_, ((o.rs.take _).app (Rs.one r)).app (o.rs.drop _)⟩⟩
  rw [List.length_append, List.length_append, List.length_take, List.length_drop, List.length_singleton]
  omega
theorem oLen (W : Ws A B0 H0 B H O) (n : Nat) (hn : O[n]? = some (a, .lst l)) (o : Ow B l xs) (k : Q (.int (xs.length : Int)) H) : rdLen K [V.ref a] H Q := lenLo_ W n hn o.rs k
theorem oFz {P : Prop} (W : Ws A B0 H0 B H O) (n : Nat) (hn : O[n]? = some (a, .lst l)) (h0 : H0 a = none) (o : Ow B l xs) (k : ∀ B', Ws A B0 H0 B' H (O.eraseIdx n) → Le B B' → Rp.R B' (.ref a) xs → P) : P := fzL W n hn h0 o.len o.rs k
theorem oMk {vs : List V} (W : Ws A B0 H0 B H O) (rs : Rs B vs xs) (hl : vs.length ≤ sizeLine) (k : ∀ p H' l, H0 p = none → Ws A B0 H0 B H' (O ++ [(p, .lst l)]) → Ow B l xs → Q (.ref p) H') : MkLs Q vs H :=
  mkO W hl fun p H' h0 W' => k p H' vs h0 W' ⟨hl, rs⟩
end

structure Ln (B H : Hp) (Os O : List (Addr × HO)) (B1 : Hp) : Prop where
  le : Le B B1
  leH : Le B1 H
  off : ∀ p ∈ O, B1 p.1 = none
  src : ∀ a o, B1 a = some o → B a = some o ∨ a ∈ Os.map (·.1)
section
variable {α : Type} [Rp α] {A : List Addr} {B0 H0 B B1 B' H H' : Hp} {O O' O1 O2 : List (Addr × HO)} {l : List V} {xs : List α} {a : Addr}
theorem Ws.ln (W : Ws A B0 H0 B H (O1 ++ O ++ O2)) : Ln B H (O1 ++ O2) O B :=
  ⟨Le.refl _, W.le, fun p hp => (W.own p (List.mem_append_left _ (List.mem_append_right _ hp))).2.1, fun _ _ e => .inl e⟩
theorem Ws.apart (W : Ws A B0 H0 B H (O1 ++ O ++ O2)) : ∀ p ∈ O1 ++ O2, p ∈ O1 ++ O ++ O2 ∧ p.1 ∉ O.map (·.1) := fun p hp => by
  have nd := W.nd
  rw [List.map_append, List.map_append] at nd
  obtain ⟨n12, n2, n3⟩ := List.nodup_append.mp nd
  obtain ⟨n1, nO, n4⟩ := List.nodup_append.mp n12
  rcases List.mem_append.mp hp with m | m
  · exact ⟨List.mem_append_left _ (List.mem_append_left _ m), fun z => n4 p.1 (List.mem_map.mpr ⟨p, m, rfl⟩) _ z rfl⟩
  · exact ⟨List.mem_append_right _ m, fun z => n3 p.1 (List.mem_append_right _ z) p.1 (List.mem_map.mpr ⟨p, m, rfl⟩) rfl⟩
theorem Ln.add (L : Ln B H (O1 ++ O2) O B1) (W : Ws A B0 H0 B H (O1 ++ O ++ O2)) (n : Nat) (hn : (O1 ++ O2)[n]? = some (a, .lst l)) (o : Ow B l xs) :
    ∃ B2, Ln B H (O1 ++ O2) O B2 ∧ Le B1 B2 ∧ Rp.R B2 (.ref a) xs := by
  have hm := List.mem_of_getElem? hn
  obtain ⟨m1, m2⟩ := W.apart _ hm
  have hH : H a = some (.lst l) := (W.own _ m1).1
  have l12 : Le B1 (upd B1 a (.lst l)) := fun b u e => by
    by_cases z : b = a
    · subst z
      obtain ⟨u', e1, e2⟩ := L.leH b u e
      rw [hH] at e1
      cases e1
      exact ⟨_, upd_same, e2⟩
    · exact ⟨u, by rw [upd_ne z]; exact e, rfl⟩
  refine ⟨upd B1 a (.lst l), ⟨L.le.tr l12, fun b u e => ?_, fun p hp => ?_, fun b u e => ?_⟩, l12, a, l, rfl, upd_same, o.len, o.rs.mono (L.le.tr l12)⟩
  · by_cases z : b = a
    · subst z; rw [upd_same] at e; cases e; exact ⟨_, hH, rfl⟩
    · rw [upd_ne z] at e; exact L.leH b u e
  · have ne : p.1 ≠ a := fun z => m2 (List.mem_map.mpr ⟨p, hp, z⟩)
    rw [upd_ne ne]
    exact L.off p hp
  · by_cases z : b = a
    · subst z; exact .inr (List.mem_map.mpr ⟨_, hm, rfl⟩)
    · rw [upd_ne z] at e; exact L.src b u e
theorem Ln.call (L : Ln B H (O1 ++ O2) O B1) (W : Ws A B0 H0 B H (O1 ++ O ++ O2)) : Ws (O.map (·.1)) B1 H B1 H O := by
  have V := W.call
  exact ⟨L.leH, fun p hp => ⟨(V.own p hp).1, L.off p hp, (V.own p hp).2.2⟩, V.nd, Le.refl _, V.fr, V.al, (fun _ _ _ _ n k => by rw [n] at k; cases k), V.nt⟩
theorem Ln.back (L : Ln B H (O1 ++ O2) O B1) (W : Ws A B0 H0 B H (O1 ++ O ++ O2)) (V : Ws (O.map (·.1)) B1 H B' H' O') : ∃ B2, Ws A B0 H0 B2 H' (O1 ++ O' ++ O2) ∧ Le B B2 := by
  let B2 : Hp := fun b => if b ∈ (O1 ++ O2).map (·.1) then none else B' b
  have b2n : ∀ b, B' b = none → B2 b = none := fun b e => by
    show (if _ then _ else _) = _
    split
    · rfl
    · exact e
  have lB : Le B B2 := fun b u e => by
    have n : b ∉ (O1 ++ O2).map (·.1) := fun z => by
      obtain ⟨p, hp, rfl⟩ := List.mem_map.mp z
      rw [(W.own p (W.apart p hp).1).2.1] at e
      cases e
    obtain ⟨u', e1, e2⟩ := (L.le.tr V.bb) b u e
    exact ⟨u', (if_neg n).trans e1, e2⟩
  have V2 : Ws (O.map (·.1)) B H B2 H' O' := by
    refine ⟨fun b u e => ?_, fun p hp => ⟨(V.own p hp).1, b2n _ (V.own p hp).2.1, (V.own p hp).2.2⟩, V.nd, lB, V.fr, V.al, fun b u t e n k => ?_, V.nt⟩
    · have e : (if b ∈ (O1 ++ O2).map (·.1) then none else B' b) = some u := e
      split at e
      · cases e
      · exact V.le b u e
    · have k : (if b ∈ (O1 ++ O2).map (·.1) then none else B' b) = some t := k
      split at k
      · cases k
      · rename_i m
        refine V.no b u t e ?_ k
        cases z : B1 b with
        | none => rfl
        | some q =>
          rcases L.src b q z with k | k
          · rw [n] at k; cases k
          · exact absurd k m
  exact ⟨B2, W.back V2, lB⟩
end
class Sc (α : Type) [Rp α] : Prop where
  any : ∀ {B B' : Hp} {v : V} {x : α}, Rp.R B v x → Rp.R B' v x
instance : Sc Int := ⟨fun h => h⟩
instance : Sc Bool := ⟨fun h => h⟩
instance : Sc Str := ⟨fun h => h⟩
theorem Rs.any {α : Type} [Rp α] [Sc α] {B B' : Hp} : ∀ {vs : List V} {xs : List α}, Rs B vs xs → Rs B' vs xs
  | _, _, .nil => .nil
  | _, _, .cons h t => .cons (Sc.any h) (Rs.any t)
theorem Ow.any {α : Type} [Rp α] [Sc α] {B B' : Hp} {vs : List V} {xs : List α} (o : Ow B vs xs) : Ow B' vs xs := ⟨o.len, o.rs.any⟩
theorem Ws.start (H : Hp) : Ws [] H H H H [] := ⟨Le.refl _, (fun p hp => absurd hp (List.not_mem_nil)), List.Pairwise.nil, Le.refl _, fun _ _ e _ => e, fun _ o e => ⟨o, e⟩, (fun _ _ _ _ n k => by rw [n] at k; cases k), (fun p hp => absurd hp (List.not_mem_nil))⟩
end Pv

namespace Pv
open PySem L2

class Dat (α : Type) [Rp α] [DecidableEq α] where
  d : α → PyData
  dp : ∀ {K : PySem.W.Frag} {B H : Hp} {v : V} {x : α}, Le B H → Rp.R B v x → Dp K H v (d x)
  eqv : ∀ x y : α, PyData.eqv (d x) (d y) = decide (x = y)
def shp {α : Type} [Rp α] [DecidableEq α] [Dat α] (x : α) : Bool := SeqAt.shaped (Dat.d x)
section
variable {α β γ δ : Type} [Rp α] [Rp β] [Rp γ] [Rp δ] [DecidableEq α] [DecidableEq β] [DecidableEq γ] [DecidableEq δ] [Dat α] [Dat β] [Dat γ] [Dat δ] {K : PySem.W.Frag} {B H : Hp}
theorem Rs.dps (l : Le B H) : ∀ {vs : List V} {xs : List α}, Rs B vs xs → DpAll K H vs (xs.map Dat.d)
  | _, _, .nil => .nil
  | _, _, .cons h t => .cons (Dat.dp l h) (Rs.dps l t)
theorem eqvs : ∀ xs ys : List α, PyData.eqvAll (xs.map Dat.d) (ys.map Dat.d) = decide (xs = ys)
  | [], [] => by simp [PyData.eqvAll]
  | [], _ :: _ => by simp [PyData.eqvAll]
  | _ :: _, [] => by simp [PyData.eqvAll]
  | x :: xs, y :: ys => by
    rw [List.map_cons, List.map_cons, PyData.eqvAll, Dat.eqv, eqvs xs ys]
    by_cases h1 : x = y
    · by_cases h2 : xs = ys
      · simp [h1, h2]
      · simp [h1, h2]
    · simp [h1]
instance : Dat Int := ⟨.int, fun _ r => by cases (show _ = V.int _ from r); exact .int _, fun x y => by
  rw [PyData.eqv]; by_cases h : x = y <;> simp [h]⟩
instance : Dat Str := ⟨.str, fun _ r => by cases (show _ = V.str _ from r); exact .str _, fun x y => by
  rw [PyData.eqv]; by_cases h : x = y <;> simp [h]⟩
instance : Dat Bool := ⟨.bool, fun _ r => by cases (show _ = V.bl _ from r); exact .bl _, fun x y => by
  rw [PyData.eqv]; by_cases h : x = y <;> simp [h]⟩
instance : Dat (List α) := ⟨fun xs => .list (xs.map Dat.d), fun l r => by
  obtain ⟨a, vs, rfl, h1, h2, h3⟩ := r
  exact .lst (SqL.of (l.lst h1)) (h3.dps l), fun x y => by rw [PyData.eqv, eqvs]⟩
instance : Dat (TV α) := ⟨fun t => .tuple (t.l.map Dat.d), fun l r => by
  obtain ⟨a, vs, rfl, h1, h2, h3⟩ := r
  exact .tup (SqT.of (l.tup h1)) (h3.dps l), fun x y => by
  obtain ⟨x⟩ := x
  obtain ⟨y⟩ := y
  rw [PyData.eqv, eqvs]
  exact decide_eq_decide.mpr (by simp)⟩
instance : Dat (α × β) := ⟨fun t => .tuple [Dat.d t.1, Dat.d t.2], fun l r => by
  obtain ⟨a, u, w, rfl, h1, h2, h3⟩ := r
  exact .tup (SqT.of (l.tup h1)) (.cons (Dat.dp l h2) (.cons (Dat.dp l h3) .nil)), fun x y => by
  obtain ⟨x1, x2⟩ := x
  obtain ⟨y1, y2⟩ := y
  rw [PyData.eqv, PyData.eqvAll, PyData.eqvAll, PyData.eqvAll, Dat.eqv, Dat.eqv]
  by_cases h1 : x1 = y1 <;> by_cases h2 : x2 = y2 <;> simp [h1, h2]⟩
instance : Dat (T3 α β γ) := ⟨fun t => .tuple [Dat.d t.a, Dat.d t.b, Dat.d t.c], fun l r => by
  obtain ⟨a, u, w, z, rfl, h1, h2, h3, h4⟩ := r
  exact .tup (SqT.of (l.tup h1)) (.cons (Dat.dp l h2) (.cons (Dat.dp l h3) (.cons (Dat.dp l h4) .nil))), fun x y => by
  obtain ⟨x1, x2, x3⟩ := x
  obtain ⟨y1, y2, y3⟩ := y
  rw [PyData.eqv, PyData.eqvAll, PyData.eqvAll, PyData.eqvAll, PyData.eqvAll, Dat.eqv, Dat.eqv, Dat.eqv]
  by_cases h1 : x1 = y1 <;> by_cases h2 : x2 = y2 <;> by_cases h3 : x3 = y3 <;> simp [h1, h2, h3]⟩
instance : Dat (T4 α β γ δ) := ⟨fun t => .tuple [Dat.d t.a, Dat.d t.b, Dat.d t.c, Dat.d t.d], fun l r => by
  obtain ⟨a, u, w, z, y, rfl, h1, h2, h3, h4, h5⟩ := r
  exact .tup (SqT.of (l.tup h1)) (.cons (Dat.dp l h2) (.cons (Dat.dp l h3) (.cons (Dat.dp l h4) (.cons (Dat.dp l h5) .nil)))), fun x y => by
  obtain ⟨x1, x2, x3, x4⟩ := x
  obtain ⟨y1, y2, y3, y4⟩ := y
  rw [PyData.eqv, PyData.eqvAll, PyData.eqvAll, PyData.eqvAll, PyData.eqvAll, PyData.eqvAll, Dat.eqv, Dat.eqv, Dat.eqv, Dat.eqv]
  by_cases h1 : x1 = y1 <;> by_cases h2 : x2 = y2 <;> by_cases h3 : x3 = y3 <;> by_cases h4 : x4 = y4 <;> simp [h1, h2, h3, h4]⟩
structure DX (K : PySem.W.Frag) (H : Hp) (v : V) (x : α) : Prop where
  dp : Dp K H v (Dat.d x)
  sh : SeqAt.shaped (Dat.d x) = true
variable {A : List Addr} {B0 H0 : Hp} {O : List (Addr × HO)} {v w : V} {x y : α} {Q : VK}
theorem dat (W : Ws A B0 H0 B H O) (r : Rp.R B v x) (s : shp x = true) : DX K H v x := ⟨Dat.dp W.le r, s⟩
theorem eqD_n (a : DX K H v x) (b : DX K H w y) (k : Q (.bl (!decide (x = y))) H) : rNeD K v w H Q := ⟨_, _, a.dp, b.dp, a.sh, b.sh, by rw [Dat.eqv]; exact k⟩
end

theorem k_tyn {X : Cx} {x : Str} {pos : Pos} (T : String) (hg : Gl X x) (hm : X.mg x = none) (hv : bootBuiltins x = some (.type T)) (hn : x ≠ "__name__" := by decide) (hdb : (x == ("__debug__" : Str)) = false := by decide) : PE X (.Name x pos) (tC (.ty T)) := pe_bltn hg hm hv rfl hn hdb
theorem isi_ {K : PySem.W.Frag} {H : Hp} {Q : VK} {v : V} {t n : String} {b : Bool} (ty : TyX K H v (.type t)) (e : kitB t n = some b) (k : Q (.bl b) H) : rIsi K [v, .ty n] H Q :=
  ⟨v, .ty n, .type t, .type n, b, rfl, .ty n, ty, kit_ty e, k⟩
theorem ty_int {K : PySem.W.Frag} {H : Hp} {i : Int} : TyX K H (.int i) (.type "int") := .base (.int i)
theorem ty_str {K : PySem.W.Frag} {H : Hp} {i : Str} : TyX K H (.str i) (.type "str") := .base (.str i)
theorem ty_bl {K : PySem.W.Frag} {H : Hp} {i : Bool} : TyX K H (.bl i) (.type "bool") := .base (.bl i)
section
variable {α β γ : Type} [Rp α] [Rp β] [Rp γ] {K : PySem.W.Frag} {A : List Addr} {B0 H0 B H : Hp} {O : List (Addr × HO)} {v : V}
end

inductive Tr where
  | lit (b : Bool)
  | nd (n : Str) (l h : Tr)
  deriving DecidableEq
namespace Tr
def isLit : Tr → Bool
  | .lit _ => true
  | .nd _ _ _ => false
def R : Hp → V → Tr → Prop
  | _, v, .lit b => v = .bl b
  | B, v, .nd n l h => ∃ a u w, v = .ref a ∧ B a = some (.tup [.str n, u, w]) ∧ R B u l ∧ R B w h
theorem R_mono {B B' : Hp} (m : Le B B') : ∀ {v : V} {x : Tr}, R B v x → R B' v x
  | _, .lit _, h => h
  | _, .nd _ _ _, h => by
    obtain ⟨a, u, w, e, h1, h2, h3⟩ := h
    exact ⟨a, u, w, e, m.tup h1, R_mono m h2, R_mono m h3⟩
instance : Rp Tr := ⟨R, fun m h => R_mono m h⟩
instance : NN Tr := ⟨fun {_ _ x} h => by
  cases x with
  | lit b => cases (show _ = V.bl b from h); exact fun z => by cases z
  | nd n l h' => obtain ⟨a, u, w, rfl, _⟩ := h; exact fun z => by cases z⟩
def dat : Tr → PyData
  | .lit b => .bool b
  | .nd n l h => .tuple [.str n, dat l, dat h]
theorem dat_dp {K : PySem.W.Frag} {B H : Hp} (l : Le B H) : ∀ {x : Tr} {v : V}, R B v x → Dp K H v (dat x)
  | .lit _, _, r => by cases (show _ = V.bl _ from r); exact .bl _
  | .nd _ _ _, _, r => by
    obtain ⟨a, u, w, rfl, h1, h2, h3⟩ := r
    exact .tup (SqT.of (l.tup h1)) (.cons (.str _) (.cons (dat_dp l h2) (.cons (dat_dp l h3) .nil)))
theorem dat_eqv : ∀ x y : Tr, PyData.eqv (dat x) (dat y) = decide (x = y)
  | .lit a, .lit b => by
    rw [dat, dat, PyData.eqv]
    by_cases h : a = b <;> simp [h]
  | .lit _, .nd _ _ _ => by rw [dat, dat, PyData.eqv]; simp
  | .nd _ _ _, .lit _ => by rw [dat, dat, PyData.eqv]; simp
  | .nd n l h, .nd n' l' h' => by
    rw [dat, dat, PyData.eqv, PyData.eqvAll, PyData.eqvAll, PyData.eqvAll, PyData.eqvAll, dat_eqv l l', dat_eqv h h', PyData.eqv]
    by_cases e1 : n = n' <;> by_cases e2 : l = l' <;> by_cases e3 : h = h' <;> simp [e1, e2, e3]
instance : Dat Tr := ⟨dat, fun l r => dat_dp l r, dat_eqv⟩
section
variable {K : PySem.W.Frag} {A : List Addr} {B0 H0 B H : Hp} {O : List (Addr × HO)} {v : V} {x : Tr} {Q : VK}
theorem isB (W : Ws A B0 H0 B H O) (r : Rp.R B v x) (k : Q (.bl x.isLit) H) : rIsi K [v, .ty "bool"] H Q := by
  cases x with
  | lit b => cases (show v = V.bl b from r); exact isi_ (b := true) ty_bl (by decide +kernel) k
  | nd n l h => obtain ⟨a, u, w, rfl, h1, h2, h3⟩ := r; exact isi_ (b := false) (.base (.tup (W.le.tup h1))) (t := "tuple") (by decide +kernel) k
theorem isT (W : Ws A B0 H0 B H O) (r : Rp.R B v x) (k : Q (.bl (!x.isLit)) H) : rIsi K [v, .ty "tuple"] H Q := by
  cases x with
  | lit b => cases (show v = V.bl b from r); exact isi_ (b := false) ty_bl (by decide +kernel) k
  | nd n l h => obtain ⟨a, u, w, rfl, h1, h2, h3⟩ := r; exact isi_ (b := true) (.base (.tup (W.le.tup h1))) (t := "tuple") (by decide +kernel) k
theorem mk {n : Str} {l h : Tr} {u w : V} (W : Ws A B0 H0 B H O) (r2 : Rp.R B u l) (r3 : Rp.R B w h) (k : ∀ v B' H', Ws A B0 H0 B' H' O → Le B B' → Rp.R B' v (Tr.nd n l h) → Q v H') : MkTs Q [.str n, u, w] H :=
  ⟨by show 3 ≤ sizeLine; decide, fun p hp => k _ _ _ (W.np hp _) (Le.new (W.le.free hp)) ⟨p, u, w, rfl, upd_same, Rp.mono (Le.new (W.le.free hp)) r2, Rp.mono (Le.new (W.le.free hp)) r3⟩⟩
end
end Tr
end Pv

namespace PvRev
open PySem PySem.Spec PyProof.Rows L2 RT
section
variable {prog : Program} {w : World} {A : Around} {E : Value → Shared → Prop} {s : Shared}
end
section
variable {X : Cx}
end
section
open Pv
variable {α : Type} [Rp α] {A : List Addr} {B0 H0 B H : Hp} {O : List (Addr × HO)} {Q : VK} {K : PySem.W.Frag} {v : V} {xs : List α}
end
end PvRev

namespace Pv
open PySem L2

def Ok {α : Type} (o : Option α) (p : α → Prop) : Prop := ∃ a, o = some a ∧ p a
namespace Ok
variable {α β : Type} {o : Option α} {p : α → Prop} {q : β → Prop}
theorem ret {a : α} (h : p a) : Ok (some a) p := ⟨a, rfl, h⟩
theorem bd {f : α → Option β} (h : Ok o p) (k : ∀ a, p a → Ok (f a) q) : Ok (bd o f) q := by
  obtain ⟨a, rfl, h⟩ := h
  exact k a h
theorem lt {a : α} {f : α → Option β} (k : Ok (f a) q) : Ok (Pv.bd (some a) f) q := k
theorem is {a : α} {f : α → Option β} (h : o = some a) (k : Ok (f a) q) : Ok (Pv.bd o f) q := by subst h; exact k
theorem ck {P : Prop} [Decidable P] {f : Unit → Option β} (h : P) (k : Ok (f ()) q) : Ok (Pv.bd (Pv.ck P) f) q := by
  rw [ck_pos h]
  exact k
theorem ite {c : Bool} {x y : Option α} (t : c = true → Ok x p) (f : c = false → Ok y p) : Ok (if c = true then x else y) p := by
  cases e : c with
  | true => rw [if_pos rfl]; exact t e
  | false => exact f e
theorem imp {r : α → Prop} (h : Ok o p) (k : ∀ a, p a → r a) : Ok o r := by
  obtain ⟨a, e, h⟩ := h
  exact ⟨a, e, k a h⟩
theorem eq {a : α} (h : Ok o (· = a)) : o = some a := by
  obtain ⟨b, e, rfl⟩ := h
  exact e
theorem of {a : α} (h : o = some a) : Ok o (· = a) := ⟨a, h, rfl⟩
end Ok
section
variable {α β S ρ : Type}
theorem lpn_ok {f : S → α → Option S} (I : Nat → S → Prop) : ∀ (xs : List α) (i : Nat) (s : S), I i s → (∀ j s x, xs[j]? = some x → I (i + j) s → Ok (f s x) (I (i + j + 1))) → Ok (lpn f s xs) (I (i + xs.length))
  | [], i, s, h, _ => Ok.ret h
  | x :: r, i, s, h, k => by
    refine Ok.bd (k 0 s x rfl h) fun s' h' => ?_
    have := lpn_ok I r (i + 1) s' h' (fun j s x hx hi => by
      have e : i + 1 + j = i + (j + 1) := by omega
      rw [e] at hi ⊢
      exact k (j + 1) s x (by simpa using hx) hi)
    have e : i + (x :: r).length = i + 1 + r.length := by rw [List.length_cons]; omega
    rw [e]
    exact this
theorem lpn_at {f : S → α → Option S} {xs : List α} {s : S} (I : Nat → S → Prop) (h : I 0 s) (k : ∀ j s x, xs[j]? = some x → I j s → Ok (f s x) (I (j + 1))) : Ok (lpn f s xs) (I xs.length) := by
  have := lpn_ok I xs 0 s h (fun j s x hx hi => by rw [Nat.zero_add] at hi ⊢; exact k j s x hx hi)
  rw [Nat.zero_add] at this
  exact this
theorem lpn_inv {f : S → α → Option S} {xs : List α} {s : S} (I : S → Prop) (h : I s) (k : ∀ s x, x ∈ xs → I s → Ok (f s x) I) : Ok (lpn f s xs) I :=
  (lpn_at (fun _ => I) h fun j s x hx hi => k s x (List.mem_of_getElem? hx) hi)
def CtP (N : S → Prop) (B : S → Prop) (R : ρ → Prop) : Ct ρ S → Prop
  | .nx s => N s
  | .bk s => B s
  | .rt r => R r
theorem lp_ok {f : S → α → Option (Ct ρ S)} (I : Nat → S → Prop) (B : S → Prop) (R : ρ → Prop) : ∀ (xs : List α) (i : Nat) (s : S), I i s → (∀ j s x, xs[j]? = some x → I (i + j) s → Ok (f s x) (CtP (I (i + j + 1)) B R)) → Ok (lp f s xs) (CtP (I (i + xs.length)) B R)
  | [], i, s, h, _ => Ok.ret h
  | x :: r, i, s, h, k => by
    unfold lp
    refine Ok.bd (k 0 s x rfl h) fun c hc => ?_
    cases c with
    | nx s' =>
      have := lp_ok I B R r (i + 1) s' hc (fun j s x hx hi => by
        have e : i + 1 + j = i + (j + 1) := by omega
        rw [e] at hi ⊢
        exact k (j + 1) s x (by simpa using hx) hi)
      have e : i + (x :: r).length = i + 1 + r.length := by rw [List.length_cons]; omega
      rw [e]
      exact this
    | bk s' => exact Ok.ret hc
    | rt r' => exact Ok.ret hc
theorem lp_at {f : S → α → Option (Ct ρ S)} {xs : List α} {s : S} (I : Nat → S → Prop) (B : S → Prop) (R : ρ → Prop) (h : I 0 s) (k : ∀ j s x, xs[j]? = some x → I j s → Ok (f s x) (CtP (I (j + 1)) B R)) : Ok (lp f s xs) (CtP (I xs.length) B R) := by
  have := lp_ok I B R xs 0 s h (fun j s x hx hi => by rw [Nat.zero_add] at hi ⊢; exact k j s x hx hi)
  rw [Nat.zero_add] at this
  exact this
theorem mapO_eq {f : α → Option β} {g : α → β} : ∀ {xs : List α}, (∀ x ∈ xs, f x = some (g x)) → mapO f xs = some (xs.map g)
  | [], _ => rfl
  | x :: r, h => by
    unfold mapO
    rw [h x (List.mem_cons_self ..), bd_some, mapO_eq (xs := r) fun y hy => h y (List.mem_cons_of_mem _ hy)]
    rfl
theorem mapO_ok {f : α → Option β} {P : β → Prop} : ∀ {xs : List α}, (∀ x ∈ xs, Ok (f x) P) → Ok (mapO f xs) fun ys => ys.length = xs.length ∧ ∀ y ∈ ys, P y
  | [], _ => Ok.ret ⟨rfl, fun y h => absurd h List.not_mem_nil⟩
  | x :: r, h => by
    unfold mapO
    refine Ok.bd (h x (List.mem_cons_self ..)) fun y hy => Ok.bd (mapO_ok fun z hz => h z (List.mem_cons_of_mem _ hz)) fun ys hys => Ok.ret ⟨by simp [hys.1], fun z hz => ?_⟩
    rcases List.mem_cons.mp hz with rfl | hz
    · exact hy
    · exact hys.2 z hz
theorem lcs_ok {f : S → α → Option (S × Option β)} (I : S → Prop) (P : β → Prop) : ∀ {xs : List α} {s : S}, I s → (∀ s x, x ∈ xs → I s → Ok (f s x) fun r => I r.1 ∧ ∃ y, r.2 = some y ∧ P y) → Ok (lcs f s xs) fun r => I r.1 ∧ r.2.length = xs.length ∧ ∀ y ∈ r.2, P y
  | [], s, h, _ => Ok.ret ⟨h, rfl, fun y h => absurd h List.not_mem_nil⟩
  | x :: r, s, h, k => by
    unfold lcs
    refine Ok.bd (k s x (List.mem_cons_self ..) h) fun a ha => Ok.bd (lcs_ok I P ha.1 fun s x hx => k s x (List.mem_cons_of_mem _ hx)) fun b hb => ?_
    obtain ⟨y, e, hy⟩ := ha.2
    refine Ok.ret ⟨hb.1, ?_, fun z hz => ?_⟩
    · rw [e]; show b.2.length + 1 = r.length + 1; rw [hb.2.1]
    · rw [e] at hz
      rcases List.mem_cons.mp hz with rfl | hz
      · exact hy
      · exact hb.2.2 z hz
end
theorem atI_nat {α : Type} {xs : List α} {i : Nat} : atI xs (i : Int) = xs[i]? := by
  unfold L2.atI ixN
  rw [if_pos (by omega)]
  by_cases h : i < xs.length
  · rw [if_pos (by omega)]
    show xs[((i : Int)).toNat]? = _
    rw [Int.toNat_natCast]
  · rw [if_neg (by omega)]
    show none = _
    rw [List.getElem?_eq_none (by omega)]
theorem atI_pos {α : Type} {xs : List α} {i : Int} (h : 0 ≤ i) : atI xs i = xs[i.toNat]? := by
  obtain ⟨n, rfl⟩ := Int.eq_ofNat_of_zero_le h
  rw [Int.toNat_natCast]
  exact atI_nat
theorem atI_ok {α : Type} {xs : List α} {i : Int} (h : 0 ≤ i) (h2 : i < xs.length) : Ok (atI xs i) (fun x => xs[i.toNat]? = some x ∧ x ∈ xs) := by
  rw [atI_pos h]
  have hl : i.toNat < xs.length := by omega
  exact ⟨xs[i.toNat], List.getElem?_eq_getElem hl, List.getElem?_eq_getElem hl, List.getElem_mem hl⟩
theorem atI_cons0 {α : Type} {x : α} {r : List α} : atI (x :: r) 0 = some x := by
  have := atI_nat (xs := x :: r) (i := 0)
  simpa using this
theorem ixN_pos {n : Nat} {i : Int} (h : 0 ≤ i) (h2 : i < n) : ixN n i = some i.toNat := by
  unfold ixN
  rw [if_pos h, if_pos h2]
theorem cut_to {α : Type} {xs : List α} {k : Nat} : cutL xs none (some (k : Int)) = xs.take k := by
  unfold cutL
  rw [HT.sIx_none, HT.sIx_nat, List.drop_zero, Nat.sub_zero]
  by_cases h : k ≤ xs.length
  · rw [Nat.min_eq_left h]
  · rw [Nat.min_eq_right (by omega), List.take_length, List.take_of_length_le (by omega)]
theorem cut_from {α : Type} {xs : List α} {k : Nat} : cutL xs (some (k : Int)) none = xs.drop k := by
  unfold cutL
  rw [HT.sIx_none, HT.sIx_nat]
  by_cases h : k ≤ xs.length
  · rw [Nat.min_eq_left h, List.take_of_length_le (by rw [List.length_drop]; omega)]
  · rw [Nat.min_eq_right (by omega), List.drop_eq_nil_of_le (Nat.le_refl _), List.drop_eq_nil_of_le (by omega), List.take_nil]
theorem rng_mem {lo x : Int} {n : Nat} (h : x ∈ rng lo n) : lo ≤ x ∧ x < lo + n := by
  unfold rng at h
  obtain ⟨i, hi, rfl⟩ := List.mem_map.mp h
  have := List.mem_range.mp hi
  omega
theorem size64 : sizeLine = 16777216 := by decide

def Asc (s : Str) : Prop := ∀ c ∈ s.cps.toList, c < 128
instance (s : Str) : Decidable (Asc s) := inferInstanceAs (Decidable (∀ c ∈ s.cps.toList, c < 128))
theorem Str.toL_app (a b : Str) : (a ++ b).cps.toList = a.cps.toList ++ b.cps.toList := by
  show (a.cps ++ b.cps).toList = _
  rw [Array.toList_append]
theorem Str.len_app (a b : Str) : (a ++ b).length = a.length + b.length := Str.length_append a b
theorem Asc.app {a b : Str} (h : Asc a) (k : Asc b) : Asc (a ++ b) := fun c hc => by
  rw [Str.toL_app] at hc
  rcases List.mem_append.mp hc with h1 | h1
  · exact h c h1
  · exact k c h1
theorem Asc.slice {a : Str} {l u : Option Int} (h : Asc a) : Asc (Txt.slice a l u) := fun c hc => by
  unfold Txt.slice at hc
  split at hc
  · exact h c hc
  · rw [List.toList_toArray] at hc
    obtain ⟨i, _, e⟩ := List.mem_filterMap.mp hc
    refine h c ?_
    have := Array.mem_of_getElem? e
    exact Array.mem_toList_iff.mpr this
theorem Asc.join {sep : Str} {ts : List Str} (h : Asc sep) (k : ∀ t ∈ ts, Asc t) : Asc (Txt.join sep ts) := fun c hc => by
  rw [show Txt.join sep ts = Str.join sep ts from StrLaws.glued_eq_join sep ts] at hc
  rcases (PyProof.Rows.mem_join sep c ts).mp hc with ⟨t, ht, hc⟩ | ⟨_, hc⟩
  · exact k t ht c hc
  · exact h c hc
theorem join_len (sep : Str) (ts : List Str) : (Txt.join sep ts).length ≤ (ts.map (·.length)).sum + ts.length * sep.length := by
  rw [show Txt.join sep ts = Str.join sep ts from StrLaws.glued_eq_join sep ts]
  exact StrLaws.join_length_le sep ts
theorem sum_le {ts : List Str} {k : Nat} (h : ∀ t ∈ ts, t.length ≤ k) : (ts.map (fun (s : Str) => s.length)).sum ≤ ts.length * k := by
  induction ts with
  | nil => exact Nat.zero_le _
  | cons t r ih =>
    rw [List.map_cons, List.sum_cons, List.length_cons, Nat.succ_mul]
    have h1 := h t (List.mem_cons_self ..)
    have h2 := ih fun u hu => h u (List.mem_cons_of_mem _ hu)
    omega
theorem Asc.ok {s : Str} (h : Asc s) : PySem.PyData.strOk s = true := by
  unfold PySem.PyData.strOk
  rw [Array.all_eq_true]
  intro i hi
  have := h s.cps[i] (by simp)
  exact decide_eq_true (by omega)
end Pv

namespace Pv
open PySem L2

namespace Dc
variable {κ α : Type} [DecidableEq κ]
def get? (d : Dc κ α) (k : κ) : Option α := (d.l.find? fun p => decide (p.1 = k)).map (·.2)
def has (d : Dc κ α) (k : κ) : Bool := (d.get? k).isSome
def put (d : Dc κ α) (k : κ) (v : α) : Dc κ α := ⟨if (d.l.any fun p => decide (p.1 = k)) = true then d.l.map (fun p => if p.1 = k then (p.1, v) else p) else d.l ++ [(k, v)]⟩
def del (d : Dc κ α) (k : κ) : Dc κ α := ⟨d.l.filter fun p => decide (p.1 ≠ k)⟩
def keys (d : Dc κ α) : List κ := d.l.map (·.1)
def of (l : List (κ × α)) : Dc κ α := l.foldl (fun d p => d.put p.1 p.2) ⟨[]⟩
def emp : Dc κ α := ⟨[]⟩
end Dc
section
variable {κ α : Type} [DecidableEq κ] [Kp κ] [Rp α] {B B' : Hp}
theorem kp_dec {a b : κ} : decide (Kp.k a = Kp.k b) = decide (a = b) := decide_eq_decide.mpr ⟨Kp.inj a b, fun e => e ▸ rfl⟩
theorem RK.len : ∀ {l : List (Key × V)} {xs : List (κ × α)}, RK B l xs → l.length = xs.length
  | _, _, .nil => rfl
  | _, _, .cons _ t => congrArg (· + 1) (RK.len t)
theorem RK.get : ∀ {l : List (Key × V)} {xs : List (κ × α)} (k : κ), RK B l xs →
    match (xs.find? fun p => decide (p.1 = k)).map (·.2) with
    | some x => ∃ v, valV l (Kp.k k) = some v ∧ Rp.R B v x
    | none => valV l (Kp.k k) = none
  | _, _, k, .nil => rfl
  | p :: l, q :: xs, k, .cons h t => by
    have ih := RK.get k t
    rw [List.find?_cons]
    by_cases e : q.1 = k
    · rw [decide_eq_true e]
      exact ⟨p.2, valV_pos (by rw [h.1, e]), h.2⟩
    · rw [decide_eq_false e]
      have ne : ¬ p.1 = Kp.k k := fun z => e (Kp.inj _ _ (h.1.symm.trans z))
      rw [valV_neg ne]
      exact ih
theorem RK.sm {l : List (Key × V)} {d : Dc κ α} {k : κ} {x : α} (r : RK B l d.l) (h : d.get? k = some x) : ∃ v, valV l (Kp.k k) = some v ∧ Rp.R B v x := by
  have := r.get k
  unfold Dc.get? at h
  rw [h] at this
  exact this
theorem RK.nn {l : List (Key × V)} {d : Dc κ α} {k : κ} (r : RK B l d.l) (h : d.get? k = none) : valV l (Kp.k k) = none := by
  have := r.get k
  unfold Dc.get? at h
  rw [h] at this
  exact this
theorem RK.has {l : List (Key × V)} {d : Dc κ α} (r : RK B l d.l) (k : κ) : (valV l (Kp.k k)).isSome = d.has k := by
  unfold Dc.has
  cases e : d.get? k with
  | none => rw [r.nn e]; rfl
  | some x => obtain ⟨v, h, _⟩ := r.sm e; rw [h]; rfl
theorem RK.app : ∀ {l m : List (Key × V)} {xs ys : List (κ × α)}, RK B l xs → RK B m ys → RK B (l ++ m) (xs ++ ys)
  | _, _, _, _, .nil, s => s
  | _, _, _, _, .cons h t, s => .cons h (RK.app t s)
theorem RK.repl {k : κ} {v : V} {x : α} (hv : Rp.R B v x) : ∀ {l : List (Key × V)} {xs : List (κ × α)}, RK B l xs → RK B (l.map fun kv => if kv.1 = Kp.k k then (kv.1, v) else kv) (xs.map fun p => if p.1 = k then (p.1, x) else p)
  | _, _, .nil => .nil
  | p :: l, q :: xs, .cons h t => by
    rw [List.map_cons, List.map_cons]
    refine .cons ?_ (RK.repl hv t)
    by_cases e : q.1 = k
    · rw [if_pos e, if_pos (by rw [h.1, e])]
      exact ⟨h.1, hv⟩
    · rw [if_neg e, if_neg fun z => e (Kp.inj _ _ (h.1.symm.trans z))]
      exact h
theorem RK.anyK {k : κ} : ∀ {l : List (Key × V)} {xs : List (κ × α)}, RK B l xs → (l.any fun kv => decide (kv.1 = Kp.k k)) = xs.any fun p => decide (p.1 = k)
  | _, _, .nil => rfl
  | p :: l, q :: xs, .cons h t => by rw [List.any_cons, List.any_cons, RK.anyK t, h.1, kp_dec]
theorem RK.put {k : κ} {v : V} {x : α} {l : List (Key × V)} {d : Dc κ α} (hv : Rp.R B v x) (r : RK B l d.l) : RK B (putK l (Kp.k k) v) (d.put k x).l := by
  unfold putK Dc.put
  rw [RK.anyK r]
  cases e : d.l.any fun p => decide (p.1 = k) with
  | true => rw [if_pos rfl, if_pos rfl]; exact RK.repl hv r
  | false => rw [if_neg Bool.false_ne_true, if_neg Bool.false_ne_true]; exact RK.app r (.cons ⟨rfl, hv⟩ .nil)
theorem RK.del {k : κ} : ∀ {l : List (Key × V)} {xs : List (κ × α)}, RK B l xs → RK B (dropK l (Kp.k k)) (xs.filter fun p => decide (p.1 ≠ k))
  | _, _, .nil => .nil
  | p :: l, q :: xs, .cons h t => by
    have ih := RK.del (k := k) t
    unfold dropK at ih ⊢
    rw [List.filter_cons, List.filter_cons]
    by_cases e : q.1 = k
    · have e' : p.1 = Kp.k k := by rw [h.1, e]
      rw [if_neg (fun z => (of_decide_eq_true z : q.1 ≠ k) e), if_neg (fun z => (of_decide_eq_true z : p.1 ≠ Kp.k k) e')]
      exact ih
    · have e' : ¬ p.1 = Kp.k k := fun z => e (Kp.inj _ _ (h.1.symm.trans z))
      rw [if_pos (decide_eq_true e), if_pos (decide_eq_true e')]
      exact .cons h ih
theorem RK.keys : ∀ {l : List (Key × V)} {xs : List (κ × α)}, RK B l xs → l.map (fun kv => kV kv.1) = (xs.map (·.1)).map fun k => kV (Kp.k k)
  | _, _, .nil => rfl
  | p :: l, q :: xs, .cons h t => by rw [List.map_cons, List.map_cons, List.map_cons, RK.keys t, h.1]
end
class Kv (κ : Type) [Kp κ] [Rp κ] : Prop where
  r : ∀ {B : Hp} (k : κ), Rp.R B (kV (Kp.k k)) k
instance : Kv Int := ⟨fun _ => rfl⟩
instance : Kv Str := ⟨fun _ => rfl⟩
theorem Rs.keys {κ : Type} [Kp κ] [Rp κ] [Kv κ] {B : Hp} : ∀ ks : List κ, Rs B (ks.map fun k => kV (Kp.k k)) ks
  | [] => .nil
  | k :: r => .cons (Kv.r k) (Rs.keys r)
class KvI (κ : Type) [Kp κ] [Rp κ] : Prop where
  eq : ∀ {B : Hp} {v : V} {k : κ}, Rp.R B v k → v = kV (Kp.k k)
instance : KvI Int := ⟨fun h => h⟩
instance : KvI Str := ⟨fun h => h⟩
structure Od {κ α : Type} [Kp κ] [Rp α] (B : Hp) (l : List (Key × V)) (d : Dc κ α) : Prop where
  len : l.length ≤ sizeLine
  rk : RK B l d.l

def RdGet (Q : VK) : V → V → Hp → Prop := fun x y H2 => ∃ a v, x = .ref a ∧ DGet H2 a y (some v) ∧ Q v H2
def RdDin (Q : VK) : V → V → Hp → Prop := fun y x H2 => ∃ a o, x = .ref a ∧ DGet H2 a y o ∧ Q (.bl o.isSome) H2
def RdDnin (Q : VK) : V → V → Hp → Prop := fun y x H2 => ∃ a o, x = .ref a ∧ DGet H2 a y o ∧ Q (.bl (!o.isSome)) H2
def RdPut (v : V) (nx : Hp → Prop) : V → V → Hp → Prop := fun x y H3 => ∃ a H4, x = .ref a ∧ DPut H3 a y v H4 ∧ nx H4
def RdGet2b (Q : VK) (a : Addr) (y : V) : V → Hp → Prop := fun z H3 => ∃ o, DGet H3 a y o ∧ Q (o.getD z) H3
def rdDictD : List V → Hp → VK → Prop := fun xs H Q => ∃ (a : Addr) (kvs : List (Key × V)), xs = [.ref a] ∧ Rd H a (.dK kvs) ∧ ∀ p, H p = none → Q (.ref p) (upd H p (.dK kvs))
def rdLenD : List V → Hp → VK → Prop := fun xs H Q => ∃ a kvs, xs = [V.ref a] ∧ Rd H a (.dK kvs) ∧ Q (.int kvs.length) H
def RdNewK (Q : VK) : Hp → Prop := fun H => ∀ p, H p = none → Q (.ref p) (upd H p (.dK []))
section
variable {X : Cx} {K : PySem.W.Frag}
theorem k_dictD : CallR X (.type "dict") rdDictD := call_dictD
theorem k_lenD : CallR X (.builtin "len") rdLenD := by
  intro pins s σ H xs us Q I r h
  obtain ⟨a, kvs, rfl, ha, q⟩ := h
  obtain ⟨u, rfl, ru⟩ := vals1 r
  cases ru
  exact d_len I ha fun t s' I' => ⟨.int kvs.length, H, I', ⟨t, rfl⟩, q⟩
end
section
variable {σ : L2.St} {H : Hp} {Q : VK} {D : Ends} {td ty tv tx : TE}
theorem dget_ (h : td σ H fun x H1 => ty σ H1 fun y H2 => RdGet Q x y H2) : tDGet td ty σ H Q := h
theorem din_ (h : ty σ H fun y H1 => td σ H1 fun x H2 => RdDin Q y x H2) : tDIn ty td σ H Q := h
theorem dnin_ (h : ty σ H fun y H1 => td σ H1 fun x H2 => RdDnin Q y x H2) : tDNotIn ty td σ H Q := h
theorem dput_ (h : tv σ H fun v H1 => td σ H1 fun x H2 => ty σ H2 fun y H3 => RdPut v (fun H4 => D.nx σ H4) x y H3) : sDPut td ty tv D σ H := h
theorem dnewK_ (h : RdNewK Q H) : tDNewK σ H Q := h
end

section
variable {κ α : Type} [DecidableEq κ] [Kp κ] [Rp α] {K : PySem.W.Frag} {A : List Addr} {B0 H0 B H : Hp} {O : List (Addr × HO)} {Q : VK} {v w : V} {d : Dc κ α} {x : α} {k : κ} {a : Addr} {l : List (Key × V)} {σ : L2.St}
theorem dRd (W : Ws A B0 H0 B H O) (r : Rp.R B v d) : ∃ a l, v = .ref a ∧ Rd H a (.dK l) ∧ l.length ≤ sizeLine ∧ RK B l d.l := by
  obtain ⟨a, l, rfl, h1, h2, h3⟩ := r
  exact ⟨a, l, rfl, (h1.mono W.le).rd, h2, h3⟩
theorem dinO (W : Ws A B0 H0 B H O) (n : Nat) (hn : O[n]? = some (a, .dK l)) (o : Od B l d) (q : Q (.bl (d.has k)) H) : RdDin Q (kV (Kp.k k)) (.ref a) H :=
  ⟨a, _, rfl, .inl ⟨l, _, .inl (W.at_ n hn), rfl, rfl⟩, by rw [o.rk.has]; exact q⟩
theorem dninS (W : Ws A B0 H0 B H O) (r : Rp.R B v d) (q : Q (.bl (!d.has k)) H) : RdDnin Q (kV (Kp.k k)) v H := by
  obtain ⟨a, l, rfl, h1, h2, h3⟩ := dRd W r
  exact ⟨a, _, rfl, .inl ⟨l, _, h1, rfl, rfl⟩, by rw [h3.has]; exact q⟩
theorem dninO (W : Ws A B0 H0 B H O) (n : Nat) (hn : O[n]? = some (a, .dK l)) (o : Od B l d) (q : Q (.bl (!d.has k)) H) : RdDnin Q (kV (Kp.k k)) (.ref a) H :=
  ⟨a, _, rfl, .inl ⟨l, _, .inl (W.at_ n hn), rfl, rfl⟩, by rw [o.rk.has]; exact q⟩
theorem putO {nx : Hp → Prop} (W : Ws A B0 H0 B H O) (n : Nat) (hn : O[n]? = some (a, .dK l)) (o : Od B l d) (r : Rp.R B v x) (hl : d.l.length < sizeLine) (q : ∀ H' l', Ws A B0 H0 B H' (O.set n (a, .dK l')) → Od B l' (d.put k x) → nx H') :
    RdPut v nx (.ref a) (kV (Kp.k k)) H := by
  refine ⟨a, _, rfl, .inl ⟨l, _, W.at_ n hn, rfl, by rw [o.rk.len]; exact hl, rfl⟩, q _ _ (W.set n hn _) ⟨?_, o.rk.put r⟩⟩
  refine Nat.le_trans (length_putK _ _ _) ?_
  rw [o.rk.len]
  exact hl
theorem get2bO (W : Ws A B0 H0 B H O) (n : Nat) (hn : O[n]? = some (a, .dK l)) (o : Od B l d) {z : α} (rz : Rp.R B w z) (q : ∀ u, Rp.R B u ((d.get? k).getD z) → Q u H) : RdGet2b Q a (kV (Kp.k k)) w H := by
  refine ⟨_, .inl ⟨l, _, .inl (W.at_ n hn), rfl, rfl⟩, ?_⟩
  cases e : d.get? k with
  | none => rw [o.rk.nn e]; rw [e] at q; exact q _ rz
  | some x => obtain ⟨u, h4, h5⟩ := o.rk.sm e; rw [h4]; rw [e] at q; exact q _ h5
theorem newD (W : Ws A B0 H0 B H O) (q : ∀ p H' l, H0 p = none → Ws A B0 H0 B H' (O ++ [(p, .dK l)]) → Od B l (Dc.emp : Dc κ α) → Q (.ref p) H') : RdNewK Q H :=
  fun p hp => q p _ [] (W.old hp) (W.nw hp _) ⟨Nat.zero_le _, .nil⟩
theorem copyS (W : Ws A B0 H0 B H O) (r : Rp.R B v d) (q : ∀ p H' l, H0 p = none → Ws A B0 H0 B H' (O ++ [(p, .dK l)]) → Od B l d → Q (.ref p) H') : rdDictD [v] H Q := by
  obtain ⟨a, l, rfl, h1, h2, h3⟩ := dRd W r
  exact ⟨a, l, rfl, h1, fun p hp => q p _ l (W.old hp) (W.nw hp _) ⟨h2, h3⟩⟩
theorem fzD {P : Prop} (W : Ws A B0 H0 B H O) (n : Nat) (hn : O[n]? = some (a, .dK l)) (h0 : H0 a = none) (o : Od B l d) (q : ∀ B', Ws A B0 H0 B' H (O.eraseIdx n) → Le B B' → Rp.R B' (.ref a) d → P) : P := by
  obtain ⟨W', le⟩ := W.fz n hn h0
  exact q _ W' le ⟨a, l, rfl, ⟨_, upd_same, rfl⟩, o.len, RK.mono le o.rk⟩
theorem Od.mono {B' : Hp} (m : Le B B') (o : Od B l d) : Od B' l d := ⟨o.len, RK.mono m o.rk⟩
theorem lenDO (W : Ws A B0 H0 B H O) (n : Nat) (hn : O[n]? = some (a, .dK l)) (o : Od B l d) (q : Q (.int (d.l.length : Int)) H) : rdLenD [V.ref a] H Q :=
  ⟨a, l, rfl, .inl (W.at_ n hn), by rw [o.rk.len]; exact q⟩
end
section
variable {κ α : Type} [DecidableEq κ] [Kp κ] [Rp κ] [Kv κ] [Rp α] {K : PySem.W.Frag} {A : List Addr} {B0 H0 B H : Hp} {O : List (Addr × HO)} {Q : VK} {v : V} {a : Addr}
end

section
variable {κ α : Type} [Kp κ] [Rp α] {A : List Addr} {B0 H0 B B' H H2 : Hp} {O O' : List (Addr × HO)} {v : V} {d : Dc κ α}
theorem RK.at_ {l : List (Key × V)} {xs : List (κ × α)} : ∀ {i : Nat} {k : κ}, RK B l xs → (xs.map (·.1))[i]? = some k → ∃ v, l[i]? = some (Kp.k k, v)
  | i, k, .nil, h => by simp at h
  | 0, k, .cons (a := p) (b := q) h t, e => by
    have e : q.1 = k := by simpa using e
    exact ⟨p.2, by rw [← e, ← h.1]; rfl⟩
  | i + 1, k, .cons h t, e => by
    obtain ⟨v, hv⟩ := RK.at_ (i := i) (k := k) t (by simpa using e)
    exact ⟨v, by simpa using hv⟩
end
section
variable {κ α : Type} [DecidableEq κ] [Kp κ] [Rp κ] [Kv κ] [Rp α] {A : List Addr} {B0 H0 B H : Hp} {O : List (Addr × HO)} {d : Dc κ α}
end
theorem units1 {k : Nat} {A : Around} (r : Room k A) : A.units + 1 < cLine := by have := r.un; omega
theorem Od.any {κ α : Type} [Kp κ] [Rp α] [Sc α] {B B' : Hp} {l : List (Key × V)} {d : Dc κ α} (o : Od B l d) : Od B' l d := by
  refine ⟨o.len, ?_⟩
  have go : ∀ {l : List (Key × V)} {xs : List (κ × α)}, RK B l xs → RK B' l xs := by
    intro l xs h
    induction h with
    | nil => exact .nil
    | cons h t ih => exact .cons ⟨h.1, Sc.any h.2⟩ ih
  exact go o.rk
theorem Le.dk {B B' : Hp} {a : Addr} {l : List (Key × V)} (m : Le B B') (h : DkA B a l) : DkA B' a l := h.mono m
theorem Ln.add0 {B B1 H : Hp} {O1 O O2 : List (Addr × HO)} {A : List Addr} {B0 H0 : Hp} {a : Addr} {u : HO} (L : Ln B H (O1 ++ O2) O B1) (W : Ws A B0 H0 B H (O1 ++ O ++ O2)) (n : Nat) (hn : (O1 ++ O2)[n]? = some (a, u)) :
    ∃ B2, Ln B H (O1 ++ O2) O B2 ∧ Le B1 B2 ∧ B2 a = some u := by
  have hm := List.mem_of_getElem? hn
  obtain ⟨m1, m2⟩ := W.apart _ hm
  have hH : H a = some u := (W.own _ m1).1
  have l12 : Le B1 (upd B1 a u) := fun b v e => by
    by_cases z : b = a
    · subst z
      obtain ⟨u', e1, e2⟩ := L.leH b v e
      rw [hH] at e1
      cases e1
      exact ⟨_, upd_same, e2⟩
    · exact ⟨v, by rw [upd_ne z]; exact e, rfl⟩
  refine ⟨upd B1 a u, ⟨L.le.tr l12, fun b v e => ?_, fun p hp => ?_, fun b v e => ?_⟩, l12, upd_same⟩
  · by_cases z : b = a
    · subst z; rw [upd_same] at e; cases e; exact ⟨_, hH, rfl⟩
    · rw [upd_ne z] at e; exact L.leH b v e
  · have ne : p.1 ≠ a := fun z => m2 (List.mem_map.mpr ⟨p, hp, z⟩)
    rw [upd_ne ne]
    exact L.off p hp
  · by_cases z : b = a
    · subst z; exact .inr (List.mem_map.mpr ⟨_, hm, rfl⟩)
    · rw [upd_ne z] at e; exact L.src b v e
theorem Ln.addD {κ α : Type} [Kp κ] [Rp α] {B B1 H : Hp} {O1 O O2 : List (Addr × HO)} {A : List Addr} {B0 H0 : Hp} {a : Addr} {l : List (Key × V)} {d : Dc κ α} (L : Ln B H (O1 ++ O2) O B1) (W : Ws A B0 H0 B H (O1 ++ O ++ O2)) (n : Nat) (hn : (O1 ++ O2)[n]? = some (a, .dK l)) (o : Od B l d) :
    ∃ B2, Ln B H (O1 ++ O2) O B2 ∧ Le B1 B2 ∧ Rp.R B2 (.ref a) d := by
  obtain ⟨B2, L2, l2, h2⟩ := L.add0 W n hn
  exact ⟨B2, L2, l2, a, l, rfl, ⟨_, h2, rfl⟩, o.len, RK.mono (L.le.tr l2) o.rk⟩
end Pv

namespace Pv
open PySem L2

def PQ (x y : V) (Q : List (V × V) → Hp → Prop) : List (V × V) → Hp → Prop := fun ps H => Q ((x, y) :: ps) H
def RdDisp (Q : VK) (p : Addr) : List (V × V) → Hp → Prop := fun ps H2 => H2 p = some (.dK []) ∧ ∃ kvs : List (Key × V), ps = kvs.map (fun kv => (kV kv.1, kv.2)) ∧ kvs.length ≤ 15 ∧ Q (.ref p) (upd H2 p (.dK (mergeK [] kvs)))
theorem disp_ {trs : List (TE × TE)} {σ : L2.St} {H : Hp} {Q : VK} (h : ∀ p, H p = none → tPairs trs σ (upd H p (.dK [])) (RdDisp Q p)) : tDisp trs σ H Q := h
theorem tp_ {tk tv : TE} {r : List (TE × TE)} {σ : L2.St} {H : Hp} {Q : List (V × V) → Hp → Prop} (h : tk σ H fun x H1 => tv σ H1 fun y H2 => tPairs r σ H2 (PQ x y Q)) : tPairs ((tk, tv) :: r) σ H Q := h
theorem tpn_ {σ : L2.St} {H : Hp} {Q : List (V × V) → Hp → Prop} (h : Q [] H) : tPairs [] σ H Q := h
theorem dispO {A : List Addr} {B0 H0 B H : Hp} {O : List (Addr × HO)} {trs : List (TE × TE)} {σ : L2.St} {Q : VK} (W : Ws A B0 H0 B H O) (q : ∀ p H', H0 p = none → Ws A B0 H0 B H' (O ++ [(p, .dK [])]) → tPairs trs σ H' (RdDisp Q p)) : tDisp trs σ H Q :=
  disp_ fun p hp => q p _ (W.old hp) (W.nw hp _)
theorem mergeK_app : ∀ (more kvs : List (Key × V)), ((kvs ++ more).map (·.1)).Nodup → mergeK kvs more = kvs ++ more
  | [], kvs, _ => by show kvs = _; rw [List.append_nil]
  | p :: r, kvs, h => by
    show mergeK (putK kvs p.1 p.2) r = _
    have hn : p.1 ∉ kvs.map (·.1) := fun z => by
      rw [List.map_append, List.nodup_append] at h
      exact h.2.2 _ z _ (List.mem_cons_self ..) rfl
    have e : putK kvs p.1 p.2 = kvs ++ [p] := by
      unfold putK
      rw [if_neg]
      intro z
      obtain ⟨q, hq, e⟩ := List.any_eq_true.mp z
      exact hn (List.mem_map.mpr ⟨q, hq, of_decide_eq_true e⟩)
    rw [e, mergeK_app r (kvs ++ [p]) (by rw [List.append_assoc]; exact h), List.append_assoc]
    rfl
theorem merge_nd {kvs : List (Key × V)} {ks : List Key} (hk : kvs.map (·.1) = ks) (h : ks.Nodup) : mergeK [] kvs = kvs := mergeK_app kvs [] (by rw [List.nil_append, hk]; exact h)
theorem dispE {A : List Addr} {B0 H0 B H : Hp} {O : List (Addr × HO)} {p : Addr} {Q : VK} (W : Ws A B0 H0 B H O) (n : Nat) (hn : O[n]? = some (p, .dK [])) (kvs : List (Key × V)) {ks : List Key} (hk : kvs.map (·.1) = ks) (hnd : ks.Nodup) (hl : ks.length ≤ 15)
    {ps : List (V × V)} (hp : ps = kvs.map (fun kv => (kV kv.1, kv.2))) (q : ∀ H', Ws A B0 H0 B H' (O.set n (p, .dK kvs)) → Q (.ref p) H') : RdDisp Q p ps H := by
  refine ⟨W.at_ n hn, kvs, hp, ?_, ?_⟩
  · have := congrArg List.length hk
    rw [List.length_map] at this
    omega
  · rw [merge_nd hk hnd]
    exact q _ (W.set n hn _)
theorem valV_at {kvs : List (Key × V)} {ks : List Key} {k : Key} {v : V} (hk : kvs.map (·.1) = ks) (hn : ks.Nodup) (i : Nat) (hi : kvs[i]? = some (k, v)) : valV kvs k = some v := by
  subst hk
  induction kvs generalizing i with
  | nil => simp at hi
  | cons p r ih =>
    rw [List.map_cons] at hn
    obtain ⟨h1, h2⟩ := List.nodup_cons.mp hn
    cases i with
    | zero =>
      have e : p = (k, v) := by simpa using hi
      subst e
      exact valV_pos rfl
    | succ j =>
      have hi : r[j]? = some (k, v) := by simpa using hi
      rw [valV_neg (fun e => h1 (by rw [e]; exact List.mem_map.mpr ⟨_, List.mem_of_getElem? hi, rfl⟩))]
      first | exact ih j h2 hi | exact ih j hi h2
theorem putK_new' {kvs : List (Key × V)} {ks : List Key} {k : Key} {v : V} (hk : kvs.map (·.1) = ks) (hn : k ∉ ks) : putK kvs k v = kvs ++ [(k, v)] := by
  unfold putK
  rw [if_neg]
  intro z
  obtain ⟨q, hq, e⟩ := List.any_eq_true.mp z
  exact hn (by rw [← hk]; exact List.mem_map.mpr ⟨q, hq, of_decide_eq_true e⟩)
section
variable {A : List Addr} {B0 H0 B H : Hp} {O : List (Addr × HO)} {Q : VK} {a : Addr} {l : List (Key × V)} {v : V} {k : Key}
theorem recGet {ks : List Key} {v0 : V} (e : v0 = .ref a) (W : Ws A B0 H0 B H O) (h : DkA B a l) (hk : l.map (·.1) = ks) (hn : ks.Nodup) (i : Nat) (hi : l[i]? = some (k, v)) (q : Q v H) : RdGet Q v0 (kV k) H :=
  ⟨a, v, e, .inl ⟨l, k, (h.mono W.le).rd, rfl, (valV_at hk hn i hi).symm⟩, q⟩
theorem recPutN {ks : List Key} {nx : Hp → Prop} (W : Ws A B0 H0 B H O) (n : Nat) (ho : O[n]? = some (a, .dK l)) (hk : l.map (·.1) = ks) (hn : k ∉ ks) (hl : ks.length < 1000) (q : ∀ H', Ws A B0 H0 B H' (O.set n (a, .dK (l ++ [(k, v)]))) → nx H') : RdPut v nx (.ref a) (kV k) H := by
  refine ⟨a, _, rfl, .inl ⟨l, k, W.at_ n ho, rfl, ?_, rfl⟩, ?_⟩
  · have := congrArg List.length hk
    rw [List.length_map] at this
    rw [show sizeLine = 16777216 by decide]
    omega
  · rw [putK_new' hk hn]
    exact q _ (W.set n ho _)
theorem fz0 {P : Prop} {u : HO} (W : Ws A B0 H0 B H O) (n : Nat) (hn : O[n]? = some (a, u)) (h0 : H0 a = none) (q : ∀ B', Ws A B0 H0 B' H (O.eraseIdx n) → Le B B' → B' a = some u → P) : P := by
  obtain ⟨W', le⟩ := W.fz n hn h0
  exact q _ W' le upd_same
theorem dkOf (h : B a = some (.dK l)) : DkA B a l := ⟨_, h, rfl⟩
end

theorem lk_at {fs : List (Str × V)} {ns : List Str} {f : Str} {v : V} (hk : fs.map (·.1) = ns) (hn : ns.Nodup) (i : Nat) (hi : fs[i]? = some (f, v)) : fs.lookup f = some v := by
  subst hk
  induction fs generalizing i with
  | nil => simp at hi
  | cons p r ih =>
    obtain ⟨g, x⟩ := p
    rw [List.map_cons] at hn
    obtain ⟨h1, h2⟩ := List.nodup_cons.mp hn
    cases i with
    | zero =>
      have e : (g, x) = (f, v) := by simpa using hi
      cases e
      simp [List.lookup]
    | succ j =>
      have hi : r[j]? = some (f, v) := by simpa using hi
      have ne : f ≠ g := fun e => h1 (by show g ∈ _; rw [← e]; exact List.mem_map.mpr ⟨_, List.mem_of_getElem? hi, rfl⟩)
      have hb : (f == g) = false := beq_eq_false_iff_ne.mpr ne
      rw [List.lookup, hb]
      first | exact ih j h2 hi | exact ih j hi h2
theorem putF_new {fs : List (Str × V)} {ns : List Str} {f : Str} {v : V} (hk : fs.map (·.1) = ns) (hn : f ∉ ns) : putF f v fs = fs ++ [(f, v)] := by
  subst hk
  induction fs with
  | nil => rfl
  | cons p r ih =>
    obtain ⟨g, x⟩ := p
    rw [List.map_cons] at hn
    show (if g = f then _ else _) = _
    rw [if_neg fun e => hn (by rw [← e]; exact List.mem_cons_self ..), ih fun z => hn (List.mem_cons_of_mem _ z)]
    rfl
def RdFld (K : PySem.W.Frag) (f : Str) (Q : VK) : V → Hp → Prop := fun x H1 => ∃ a C dx fs v, x = .ref a ∧ H1 a = some (.ins C dx fs) ∧ Cls K C ∧ NoAttr K C f ∧ fs.lookup f = some v ∧ Q v H1
def RdFst (K : PySem.W.Frag) (f : Str) (y : V) (nx : Hp → Prop) : V → Hp → Prop := fun x H2 => ∃ a C dx fs, x = .ref a ∧ H2 a = some (.ins C dx fs) ∧ Cls K C ∧ NoAttr K C f ∧ fs.length < 1000 ∧ nx (upd H2 a (.ins C dx (putF f y fs)))
section
variable {K : PySem.W.Frag} {σ : L2.St} {H : Hp} {Q : VK} {D : Ends} {ta tv : TE} {t : TA} {f : Str} {E : XK} {C : Addr} {sp : Sp}
theorem fld_ (h : ta σ H (RdFld K f Q)) : tFld K ta f σ H Q := h
theorem fst_ (h : tv σ H fun y H1 => ta σ H1 fun x H2 => RdFst K f y (fun H3 => D.nx σ H3) x H2) : sFld K ta tv f D σ H := h
def MkQ (Q : VK) (x : Addr) : VK := fun v H2 => v = .non ∧ Q (.ref x) H2
theorem mk_ (h : t σ H fun vs H1 => ∀ x dx, H1 x = none → H1 dx = none → dx ≠ x → sp (.ref x :: (vs ++ [])) (upd (upd H1 dx (.own x)) x (.ins C dx [])) (MkQ Q x) E) : tMake C sp [] E t σ H Q := h
variable {X : Cx}
theorem k_fld {e : Expr} {pos : Pos} (he : PE X e ta) (hb : attributeBase e f X.env (eval e X.env) = eval e X.env := by rfl) (hK : X.K = K := by rfl) : PE X (.Attribute e f pos) (tFld K ta f) := by subst hK; exact pe_fld he hb
theorem k_fst {o value : Expr} {pos pos' : Pos} (ha : PE X o ta) (hv : PE X value tv) (hs : swapsWith value (some (.Attribute o f pos')) pos.line X.env = pure false := by rfl) (hK : X.K = K := by rfl) : PS X (.Assign [.Attribute o f pos'] value pos) (sFld K ta tv f) := by subst hK; exact ps_fld ha hv hs
end
section
variable {A : List Addr} {B0 H0 B H : Hp} {O : List (Addr × HO)} {Q : VK} {K : PySem.W.Frag} {a C dx : Addr} {fs : List (Str × V)} {f : Str} {v : V}
theorem fldS {ns : List Str} {v0 : V} (e : v0 = .ref a) (W : Ws A B0 H0 B H O) (h : B a = some (.ins C dx fs)) (c : Cls K C) (n : NoAttr K C f) (hk : fs.map (·.1) = ns) (hn : ns.Nodup) (i : Nat) (hi : fs[i]? = some (f, v)) (q : Q v H) : RdFld K f Q v0 H :=
  ⟨a, C, dx, fs, v, e, W.le.ins h, c, n, lk_at hk hn i hi, q⟩
theorem fldO {ns : List Str} (W : Ws A B0 H0 B H O) (m : Nat) (h : O[m]? = some (a, .ins C dx fs)) (c : Cls K C) (n : NoAttr K C f) (hk : fs.map (·.1) = ns) (hn : ns.Nodup) (i : Nat) (hi : fs[i]? = some (f, v)) (q : Q v H) : RdFld K f Q (.ref a) H :=
  ⟨a, C, dx, fs, v, rfl, W.at_ m h, c, n, lk_at hk hn i hi, q⟩
theorem fstN {ns : List Str} {nx : Hp → Prop} (W : Ws A B0 H0 B H O) (m : Nat) (h : O[m]? = some (a, .ins C dx fs)) (c : Cls K C) (n : NoAttr K C f) (hk : fs.map (·.1) = ns) (hn : f ∉ ns) (hl : ns.length < 1000) (q : ∀ H', Ws A B0 H0 B H' (O.set m (a, .ins C dx (fs ++ [(f, v)]))) → nx H') : RdFst K f v nx (.ref a) H := by
  refine ⟨a, C, dx, fs, rfl, W.at_ m h, c, n, ?_, ?_⟩
  · have := congrArg List.length hk
    rw [List.length_map] at this
    omega
  · rw [putF_new hk hn]
    exact q _ (W.set m h _)
theorem mkO_ {sp : Sp} {E : XK} {vs : List V} (W : Ws A B0 H0 B H O) (q : ∀ x dx H', H0 x = none → H0 dx = none → Ws A B0 H0 B H' (O ++ [(dx, .own x)] ++ [(x, .ins C dx [])]) → sp (.ref x :: (vs ++ [])) H' (MkQ Q x) E) :
    ∀ x dx, H x = none → H dx = none → dx ≠ x → sp (.ref x :: (vs ++ [])) (upd (upd H dx (.own x)) x (.ins C dx [])) (MkQ Q x) E := fun x dx hx hdx ne =>
  q x dx _ (W.old hx) (W.old hdx) ((W.nw hdx _).nw (by rw [upd_ne ne.symm]; exact hx) _)
theorem Ws.last (W : Ws A B0 H0 B H O) (n : Nat) {p : Addr × HO} (h : O[n]? = some p) : Ws A B0 H0 B H (O.eraseIdx n ++ [p]) := by
  obtain ⟨hi, hg⟩ := List.getElem?_eq_some_iff.mp h
  have hm := List.mem_of_getElem? h
  refine ⟨W.le, fun q hq => ?_, ?_, W.bb, W.fr, W.al, W.no, fun q hq => ?_⟩
  · rcases List.mem_append.mp hq with m | m
    · exact W.own q (List.mem_of_mem_eraseIdx m)
    · rw [List.mem_singleton.mp m]; exact W.own p hm
  · have e2 : (O.eraseIdx n).map (·.1) = (O.map (·.1)).eraseIdx n := erase_map O n
    rw [List.map_append, e2, List.nodup_append]
    refine ⟨W.nd.sublist (List.eraseIdx_sublist _ _), List.pairwise_singleton .., fun a ha b hb z => ?_⟩
    have e : b = p.1 := by simpa using hb
    obtain ⟨j, hj, e1, e3⟩ := List.mem_eraseIdx_iff_getElem.mp ha
    have h1 : (O.map (·.1))[n]? = some p.1 := by rw [List.getElem?_map, h]; rfl
    have h2 : (O.map (·.1))[j]? = some p.1 := by rw [List.getElem?_eq_getElem hj, e3, z, e]
    exact e1 (nd_ix W.nd h2 h1)
  · rcases List.mem_append.mp hq with m | m
    · exact W.nt q (List.mem_of_mem_eraseIdx m)
    · rw [List.mem_singleton.mp m]; exact W.nt p hm
end
def TpH (B B' : Hp) : Prop := ∀ a xs, B a = some (.tup xs) → B' a = some (.tup xs)
class Tp (α : Type) [Rp α] : Prop where
  tp : ∀ {B B' : Hp} {v : V} {x : α}, TpH B B' → Rp.R B v x → Rp.R B' v x
instance : Tp Int := ⟨fun _ h => h⟩
instance : Tp Bool := ⟨fun _ h => h⟩
instance : Tp Str := ⟨fun _ h => h⟩
instance : Tp Unit := ⟨fun _ h => h⟩
section
variable {α β γ δ : Type} [Rp α] [Rp β] [Rp γ] [Rp δ] [Tp α] [Tp β] [Tp γ] [Tp δ] {B B' : Hp}
theorem Rs.tp (m : TpH B B') : ∀ {vs : List V} {xs : List α}, Rs B vs xs → Rs B' vs xs
  | _, _, .nil => .nil
  | _, _, .cons h t => .cons (Tp.tp m h) (Rs.tp m t)
instance : Tp (α × β) := ⟨fun m h => by obtain ⟨a, u, w, e, h1, h2, h3⟩ := h; exact ⟨a, u, w, e, m _ _ h1, Tp.tp m h2, Tp.tp m h3⟩⟩
instance : Tp (T3 α β γ) := ⟨fun m h => by obtain ⟨p, u, w, z, e, h1, h2, h3, h4⟩ := h; exact ⟨p, u, w, z, e, m _ _ h1, Tp.tp m h2, Tp.tp m h3, Tp.tp m h4⟩⟩
instance : Tp (T4 α β γ δ) := ⟨fun m h => by obtain ⟨p, u, w, z, y, e, h1, h2, h3, h4, h5⟩ := h; exact ⟨p, u, w, z, y, e, m _ _ h1, Tp.tp m h2, Tp.tp m h3, Tp.tp m h4, Tp.tp m h5⟩⟩
instance : Tp (TV α) := ⟨fun m h => by obtain ⟨a, l, e, h1, h2, h3⟩ := h; exact ⟨a, l, e, m _ _ h1, h2, h3.tp m⟩⟩
instance : Tp (Option α) := ⟨fun m h => by
  rename_i x
  cases x with
  | none => exact h
  | some y => exact Tp.tp (α := α) m h⟩
theorem Tr.tpR (m : TpH B B') : ∀ {v : V} {x : Tr}, Tr.R B v x → Tr.R B' v x
  | _, .lit _, h => h
  | _, .nd _ _ _, h => by
    obtain ⟨a, u, w, e, h1, h2, h3⟩ := h
    exact ⟨a, u, w, e, m _ _ h1, Tr.tpR m h2, Tr.tpR m h3⟩
instance : Tp Tr := ⟨fun m h => Tr.tpR m h⟩
theorem Ow.tp {l : List V} {xs : List α} (m : TpH B B') (o : Ow B l xs) : Ow B' l xs := ⟨o.len, o.rs.tp m⟩
theorem Od.tp {κ : Type} [Kp κ] {l : List (Key × V)} {d : Dc κ α} (m : TpH B B') (o : Od B l d) : Od B' l d := by
  refine ⟨o.len, ?_⟩
  have go : ∀ {l : List (Key × V)} {xs : List (κ × α)}, RK B l xs → RK B' l xs := by
    intro l xs h
    induction h with
    | nil => exact .nil
    | cons h t ih => exact .cons ⟨h.1, Tp.tp m h.2⟩ ih
  exact go o.rk
end
def NoTup : List (Addr × HO) → Bool
  | [] => true
  | (_, .tup _) :: _ => false
  | _ :: r => NoTup r
theorem noTup_mem : ∀ {O : List (Addr × HO)} {p : Addr × HO} {xs : List V}, NoTup O = true → p ∈ O → p.2 ≠ .tup xs
  | [], _, _, _, h => absurd h List.not_mem_nil
  | q :: r, p, xs, hn, h => by
    obtain ⟨a, o⟩ := q
    rcases List.mem_cons.mp h with rfl | h
    · intro e
      have e : o = .tup xs := e
      subst e
      cases hn
    · refine noTup_mem (O := r) ?_ h
      cases o <;> first | exact hn | cases hn
theorem Ln.backT {A : List Addr} {B0 H0 B B1 B' H H' : Hp} {O O' O1 O2 : List (Addr × HO)} (L : Ln B H (O1 ++ O2) O B1) (W : Ws A B0 H0 B H (O1 ++ O ++ O2)) (V : Ws (O.map (·.1)) B1 H B' H' O') (hn : NoTup (O1 ++ O2) = true) :
    ∃ B2, Ws A B0 H0 B2 H' (O1 ++ O' ++ O2) ∧ Le B B2 ∧ TpH B' B2 := by
  let B2 : Hp := fun b => if b ∈ (O1 ++ O2).map (·.1) then none else B' b
  have b2n : ∀ b, B' b = none → B2 b = none := fun b e => by
    show (if _ then _ else _) = _
    split
    · rfl
    · exact e
  have lB : Le B B2 := fun b u e => by
    have n : b ∉ (O1 ++ O2).map (·.1) := fun z => by
      obtain ⟨p, hp, rfl⟩ := List.mem_map.mp z
      rw [(W.own p (W.apart p hp).1).2.1] at e
      cases e
    obtain ⟨u', e1, e2⟩ := (L.le.tr V.bb) b u e
    exact ⟨u', (if_neg n).trans e1, e2⟩
  have V2 : Ws (O.map (·.1)) B H B2 H' O' := by
    refine ⟨fun b u e => ?_, fun p hp => ⟨(V.own p hp).1, b2n _ (V.own p hp).2.1, (V.own p hp).2.2⟩, V.nd, lB, V.fr, V.al, fun b u t e n k => ?_, V.nt⟩
    · have e : (if b ∈ (O1 ++ O2).map (·.1) then none else B' b) = some u := e
      split at e
      · cases e
      · exact V.le b u e
    · have k : (if b ∈ (O1 ++ O2).map (·.1) then none else B' b) = some t := k
      split at k
      · cases k
      · rename_i m
        refine V.no b u t e ?_ k
        cases z : B1 b with
        | none => rfl
        | some q =>
          rcases L.src b q z with k | k
          · rw [n] at k; cases k
          · exact absurd k m
  refine ⟨B2, W.back V2, lB, fun a xs e => ?_⟩
  have n : a ∉ (O1 ++ O2).map (·.1) := fun z => by
    obtain ⟨p, hp, rfl⟩ := List.mem_map.mp z
    obtain ⟨m1, m2⟩ := W.apart p hp
    have h1 := V.fr _ _ (W.own p m1).1 m2
    have h2 := V.le.tup e
    rw [h1] at h2
    exact noTup_mem hn hp (Option.some.inj h2)
  exact (if_neg n).trans e
section
variable {α : Type} [Rp α] {A : List Addr} {B0 H0 B H : Hp} {O : List (Addr × HO)} {Q : VK} {K : PySem.W.Frag} {v w : V} {xs ys : List α}
end
end Pv

namespace PvSrt
open PySem PySem.Spec PyProof.Rows PySem.W
section
variable {prog : Program} {w : World} {A : Around} {E : Value → Shared → Prop} {s : Shared} {β : Type} {R : Value → β → Prop} {enc : β → PyData} {vs : List Value} {bs : List β}
def SortOk (ds : List PyData) : Prop := AllAlike ds ∧ (Sortable ds ∨ ∃ d, ds = [d] ∧ d ≠ .none)
end
end PvSrt
namespace Pv
open PySem L2 PyProof.Rows PySem.W
def srtOk {α : Type} [Rp α] [DecidableEq α] [Dat α] (xs : List α) : Prop := PvSrt.SortOk (xs.map Dat.d) ∧ ∀ x ∈ xs, (Dat.d x).depth ≤ 60
section
variable {α : Type} [Rp α] [DecidableEq α] [Dat α] {K : PySem.W.Frag} {A : List Addr} {B0 H0 B H : Hp} {O : List (Addr × HO)} {Q : VK} {v : V} {xs : List α} {a : Addr} {l : List V}
end
end Pv

namespace PvZip
open PySem PySem.Spec PyProof.Rows L2
open PySem.Sem (wp)
structure Iv (P : Program) (w : World) (it l : Addr) (St : Heap → Nat → Prop) (Sr : Heap → Prop) (item : Nat → Option Value) : Prop where
  mv : ∀ {h h' : Heap} {k : Nat}, St h k → (∀ o, h.get? it = some o → h'.get? it = some o) → St h' k
  sv : ∀ {h h' : Heap}, Sr h → (∀ o, h.get? l = some o → h'.get? l = some o) → Sr h'
  ob : ∀ {h : Heap} {k : Nat}, St h k → ∃ o, h.get? it = some o ∧ ∀ v, o.data ≠ .cell v
  step : ∀ {A : Around} {E : Value → Shared → Prop} {s : Shared} {k : Nat} {x : Value} {Q : Value → Shared → Prop}, St s.heap k → Sr s.heap → item k = some x → (∀ h', St h' (k + 1) → Heap.SameBut it s.heap h' → Q x { s with heap := h' }) →
    wpAny (model P w) A (Builtin.SmallTypes.nextOf (.ref it)) Q E s
  stop : ∀ {A : Around} {E : Value → Shared → Prop} {s : Shared} {k : Nat} {Q : Value → Shared → Prop}, A.handled = none → St s.heap k → Sr s.heap → item k = none →
    (∀ h' e, Heap.ExtBut it s.heap h' → (∃ o, h'.get? e = some o ∧ o.cls = .type "StopIteration") → E (.ref e) { s with heap := h' }) → wpAny (model P w) A (Builtin.SmallTypes.nextOf (.ref it)) Q E s
section
variable {P : Program} {w : World} {A : Around} {E : Value → Shared → Prop} {s : Shared} {z TI TO i1 i2 l1 l2 : Addr} {S1 S2 : Heap → Nat → Prop} {R1 R2 : Heap → Prop} {m1 m2 : Nat → Option Value} {k : Nat} {a b x y : Value}
theorem ivL {it l : Addr} {xs : Array Value} : Iv P w it l (fun h k => h.IsListIter it l k) (fun h => h.IsList l xs) (fun k => xs[k]?) :=
  ⟨fun q e => q.at e, fun q e => by obtain ⟨o, h1, r⟩ := q; exact ⟨o, e o h1, r⟩, fun q => by obtain ⟨o, e, _, d⟩ := q; exact ⟨o, e, fun v z => by rw [d] at z; cases z⟩,
    fun h1 h2 e q => wpAny_nextOf_list_item h1 h2 e q, fun hh h1 h2 e q => wpAny_nextOf_list_end hh h1 h2 e q⟩
theorem ivT {it l : Addr} {xs : Array Value} : Iv P w it l (fun h k => h.IsTupleIter it l k) (fun h => h.IsTuple l xs) (fun k => xs[k]?) :=
  ⟨fun q e => q.at e, fun q e => by obtain ⟨o, h1, r⟩ := q; exact ⟨o, e o h1, r⟩, fun q => by obtain ⟨o, e, _, d⟩ := q; exact ⟨o, e, fun v z => by rw [d] at z; cases z⟩,
    fun h1 h2 e q => RZ.nextOf_tuple_item h1 h2 e q, fun hh h1 h2 e q => RZ.nextOf_tuple_end hh h1 h2 e q⟩
end
end PvZip

namespace PvZip
open PySem PySem.Spec PyProof.Rows L2
abbrev hp1 (h : Heap) (o1 : Obj) : Heap := h.push o1
abbrev hp2 (h : Heap) (o1 o2 : Obj) : Heap := (hp1 h o1).push o2
abbrev hp3 (h : Heap) (o1 o2 : Obj) : Heap := (hp2 h o1 o2).push { cls := .type "tuple", data := .seq #[.ref h.objs.size, .ref (hp1 h o1).objs.size] }
abbrev hp4 (h : Heap) (o1 o2 : Obj) : Heap := (hp3 h o1 o2).push { cls := .type "tuple", data := .seq #[.none, .none] }
abbrev hp5 (h : Heap) (o1 o2 : Obj) : Heap := (hp4 h o1 o2).push { cls := .type "zip", data := .fields #[.none, .bool false, .bool false, .ref (hp2 h o1 o2).objs.size, .ref (hp3 h o1 o2).objs.size] }
def Lays (l : Addr) (R : Heap → Prop) (o : Obj) : Prop := ∀ (prog : Program) (w : World) (A : Around) (E : Value → Shared → Prop) (s : Shared) (Q : Value → Shared → Prop), R s.heap → Q (.ref s.heap.objs.size) { s with heap := s.heap.push o } → wpAny (model prog w) A (pyIter (.ref l)) Q E s
theorem laysL {l : Addr} {xs : Array Value} : Lays l (fun h => h.IsList l xs) { cls := .type "list_iterator", data := .fields #[.ref l, .int 0 0] } := fun _ _ _ _ _ _ h q => wpAny_pyIter_list h q
theorem laysT {l : Addr} {xs : Array Value} : Lays l (fun h => h.IsTuple l xs) { cls := .type "tuple_iterator", data := .fields #[.ref l, .int 0 0] } := fun _ _ _ _ _ _ h q => wpAny_pyIter_tuple h q
theorem made {l1 l2 : Addr} {R1 R2 : Heap → Prop} {o1 o2 : Obj} (p1 : Lays l1 R1 o1) (p2 : Lays l2 R2 o2) : Meets (Builtin.«zip.__new__» ⟨[.type "zip", .ref l1, .ref l2], []⟩) (fun _ R s => R1 s.heap ∧ R2 (hp1 s.heap o1) ∧ R (.ok (.ret (.ref (hp4 s.heap o1 o2).objs.size))) { s with heap := hp5 s.heap o1 o2 }) :=
  .of_wp fun prog w A R s h => by
    obtain ⟨hp, g, d, tk, os⟩ := s
    obtain ⟨hl1, hl2, h⟩ := h
    have hsub := sub_zip
    have q1 := fun (Q : Value → Shared → Prop) (E : Value → Shared → Prop) (A : Around) => p1 prog w A E ⟨hp, g, d, tk, os⟩ Q hl1
    have q2 := fun (Q : Value → Shared → Prop) (E : Value → Shared → Prop) (A : Around) => p2 prog w A E ⟨hp.push o1, g, d, tk, os⟩ Q hl2
    wp_walk using q1 _ _ _, q2 _ _ _
    exact ⟨_, rfl, h⟩
end PvZip
namespace PvZip
open PySem PySem.Spec PyProof.Rows L2
section
variable {P : Program} {w : World} {A : Around} {E : Value → Shared → Prop} {s : Shared}
end
structure ZSrc (P : Program) (w : World) (K : PySem.W.Frag) (a : Addr) (G : Hp → Prop) (m : Nat → Option V) (St : Addr → Heap → Nat → Prop) : Prop where
  mv : ∀ {h h' : Heap} {it : Addr} {k : Nat}, St it h k → (∀ o, h.get? it = some o → h'.get? it = some o) → St it h' k
  ob : ∀ {h : Heap} {it : Addr} {k : Nat}, St it h k → ∃ o, h.get? it = some o ∧ ∀ v, o.data ≠ .cell v
  get : ∀ {X : Cx} {pins : List (Addr × Obj)} {σ : L2.St} {H : Hp} {s : Shared}, X.prog = P → X.w = w → X.K = K → Inv X pins σ H s → G H →
    ∃ (R : Heap → Prop) (mv : Nat → Option Value), (∀ it, Iv P w it a (St it) R mv) ∧ R s.heap ∧ (∀ i x, m i = some x → ∃ u, mv i = some u ∧ RelV x u) ∧ (∀ i, m i = none → mv i = none) ∧ a < s.heap.objs.size ∧
      ∃ o, Lays a R o ∧ o.isFreed = false ∧ ∀ (h : Heap) (it : Addr), h.get? it = some o → St it h 0
theorem srcL {P : Program} {w : World} {K : PySem.W.Frag} {a : Addr} {xs : List V} : ZSrc P w K a (fun H => SqL K H a xs) (fun i => xs[i]?) (fun it h k => h.IsListIter it a k) := by
  refine ⟨fun q e => q.at e, fun q => by obtain ⟨o, e, _, d⟩ := q; exact ⟨o, e, fun v z => by rw [d] at z; cases z⟩, ?_⟩
  intro X pins σ H s hP hw hK I g
  subst hP hw hK
  obtain ⟨its, rv, p, _⟩ := I.list g
  have hl := rv.length
  refine ⟨fun h => h.IsList a its.toArray, fun i => its.toArray[i]?, fun it => ivL, p.isList, fun i x hx => ?_, fun i hx => ?_, p.lt, _, laysL, rfl, fun h it e => ⟨_, e, rfl, rfl⟩⟩
  · obtain ⟨u, hu, ru⟩ := rv.get hx
    exact ⟨u, by simpa using hu, ru⟩
  · rw [List.getElem?_eq_none_iff] at hx
    simp
    omega
theorem srcT {P : Program} {w : World} {K : PySem.W.Frag} {a : Addr} {xs : List V} : ZSrc P w K a (fun H => SqT K H a xs) (fun i => xs[i]?) (fun it h k => h.IsTupleIter it a k) := by
  refine ⟨fun q e => q.at e, fun q => by obtain ⟨o, e, _, d⟩ := q; exact ⟨o, e, fun v z => by rw [d] at z; cases z⟩, ?_⟩
  intro X pins σ H s hP hw hK I g
  subst hP hw hK
  obtain ⟨its, rv, p, _⟩ := I.tuple g
  have hl := rv.length
  obtain ⟨o1, ho1, _⟩ := id p
  refine ⟨fun h => h.IsTuple a its.toArray, fun i => its.toArray[i]?, fun it => ivT, p, fun i x hx => ?_, fun i hx => ?_, Heap.lt_size ho1, _, laysT, rfl, fun h it e => ⟨_, e, rfl, rfl⟩⟩
  · obtain ⟨u, hu, ru⟩ := rv.get hx
    exact ⟨u, by simpa using hu, ru⟩
  · rw [List.getElem?_eq_none_iff] at hx
    simp
    omega
end PvZip
namespace Pv
open PySem L2 PvZip
section
variable {P : Program} {w : World} {K : PySem.W.Frag} {α β : Type} [Rp α] [Rp β] {A : List Addr} {B0 H0 B H : Hp} {O : List (Addr × HO)}
structure Zt (P : Program) (w : World) (K : PySem.W.Frag) {α : Type} [Rp α] (A : List Addr) (H0 B : Hp) (v : V) (xs : List α) (a : Addr) (G : Hp → Prop) (m : Nat → Option V) (S : Addr → Heap → Nat → Prop) : Prop where
  e : v = .ref a
  src : ZSrc P w K a G m S
  g : ∀ {B0 B' H' : Hp} {O : List (Addr × HO)}, Le B B' → Ws A B0 H0 B' H' O → G H'
  at_ : ∀ {i : Nat} {x : α}, xs[i]? = some x → ∃ u, m i = some u ∧ Rp.R B u x
  end_ : ∀ {i : Nat}, xs.length ≤ i → m i = none
theorem zL {v : V} {xs : List α} (r : Rp.R B v xs) : ∃ a G m S, Zt P w K A H0 B v xs a G m S := by
  obtain ⟨a, l, rfl, h1, h2, h3⟩ := r
  exact ⟨a, _, _, _, rfl, srcL (xs := l), fun l1 W => SqL.of (W.le.lst (l1.lst h1)), fun hx => h3.get hx, fun h => by rw [← h3.len] at h; exact List.getElem?_eq_none h⟩
theorem zV {v : V} {t : TV α} (r : Rp.R B v t) : ∃ a G m S, Zt P w K A H0 B v t.l a G m S := by
  obtain ⟨a, l, rfl, h1, h2, h3⟩ := r
  exact ⟨a, _, _, _, rfl, srcT (xs := l), fun l1 W => SqT.of (W.le.tup (l1.tup h1)), fun hx => h3.get hx, fun h => by rw [← h3.len] at h; exact List.getElem?_eq_none h⟩
end
end Pv

namespace Pv
open PySem L2 PySem.W
class Srt (α : Type) [Rp α] [DecidableEq α] [Dat α] where
  ok : List α → Bool
  is : ∀ {xs : List α}, ok xs = true → srtOk xs
instance : Srt Int := ⟨fun _ => true, fun {xs} _ => ⟨⟨AllAlike.of (enc := PyData.int) fun _ _ => by simp [alike], .inl (Sortable.others (enc := PyData.int) fun b => ⟨(fun h => by cases h), (fun xs h => by cases h)⟩)⟩, fun x _ => by show PyData.depth (.int x) ≤ 60; simp [PyData.depth]⟩⟩
instance : Srt Str := ⟨fun _ => true, fun {xs} _ => ⟨⟨AllAlike.of (enc := PyData.str) fun _ _ => by simp [alike], .inl (Sortable.others (enc := PyData.str) fun b => ⟨(fun h => by cases h), (fun xs h => by cases h)⟩)⟩, fun x _ => by show PyData.depth (.str x) ≤ 60; simp [PyData.depth]⟩⟩
def tvOk : List (TV Int) → Bool
  | [_] => true
  | xs => xs.all fun t => !t.l.isEmpty
instance : Srt (TV Int) := ⟨tvOk, fun {xs} h => by
  have hd : ∀ t : TV Int, (Dat.d t).depth ≤ 60 := fun t => by
    show PyData.depth (.tuple (t.l.map .int)) ≤ 60
    rw [PyData.depth, depth_ints]
    decide
  refine ⟨⟨AllAlike.of (enc := fun t : TV Int => PyData.tuple (t.l.map .int)) fun a b => by rw [alike]; exact alike_ints _ _, ?_⟩, fun x _ => hd x⟩
  match xs, h with
  | [t], _ => exact .inr ⟨_, rfl, fun h => by cases h⟩
  | [], _ => exact .inl (.inl fun d h => absurd h List.not_mem_nil)
  | t :: u :: r, h =>
    refine .inl (.inl fun d hd => ?_)
    obtain ⟨s, hs, rfl⟩ := List.mem_map.mp hd
    have h : (t :: u :: r).all (fun t => !t.l.isEmpty) = true := h
    have hne := List.all_eq_true.mp h s hs
    show ∃ x r, PyData.tuple (s.l.map .int) = _
    cases e : s.l with
    | nil => rw [e] at hne; cases hne
    | cons a b => exact ⟨_, _, rfl⟩⟩
section
variable {α : Type} [Rp α] {A : List Addr} {B0 H0 B H : Hp} {O : List (Addr × HO)} {Q : VK} {K : PySem.W.Frag} {v w : V}
theorem list3_ {t : T3 α α α} (W : Ws A B0 H0 B H O) (r : Rp.R B v t) (q : ∀ v B' H', Ws A B0 H0 B' H' O → Le B B' → Rp.R B' v [t.a, t.b, t.c] → Q v H') : rdList K [v] H Q := by
  obtain ⟨a, u, w, z, rfl, h1, h2, h3, h4⟩ := r
  exact ⟨a, _, rfl, .inr (SqT.of (W.le.tup h1)), newL W (.cons h2 (.cons h3 (.cons h4 .nil))) (by show 3 ≤ sizeLine; decide) q⟩
end
section
variable {ta : TA} {D : Ends} {σ σ' : L2.St} {H : Hp} {i j l : Nat} {u v w : V}
theorem pq_ {x y : V} {Q : List (V × V) → Hp → Prop} {ps : List (V × V)} {H : Hp} (h : Q ((x, y) :: ps) H) : PQ x y Q ps H := h
end
end Pv

namespace Pv
open PySem L2

section
variable {κ α : Type} [Kp κ] [Rp α] {A : List Addr} {B0 H0 B H : Hp} {O : List (Addr × HO)} {d : Dc κ α}
theorem RK.at2 : ∀ {l : List (Key × V)} {xs : List (κ × α)} {i : Nat} {p : κ × α}, RK B l xs → xs[i]? = some p → ∃ v, l[i]? = some (Kp.k p.1, v) ∧ Rp.R B v p.2
  | _, _, i, p, .nil, h => by simp at h
  | _, _, 0, p, .cons (a := a) (b := b) h t, e => by
    have e : b = p := by simpa using e
    subst e
    exact ⟨a.2, by rw [← h.1]; rfl, h.2⟩
  | _, _, i + 1, p, .cons h t, e => by
    obtain ⟨v, h1, h2⟩ := RK.at2 (i := i) (p := p) t (by simpa using e)
    exact ⟨v, by simpa using h1, h2⟩
end
section
variable {κ α : Type} [DecidableEq κ] [Kp κ] [Rp κ] [Kv κ] [Rp α] {A : List Addr} {B0 H0 B H : Hp} {O : List (Addr × HO)} {d : Dc κ α}
end
end Pv

namespace PvZip
open PySem PySem.Spec PyProof.Rows L2
open PySem.Sem (wp)
section
variable {prog : Program} {w : World} {A : Around} {E : Value → Shared → Prop} {s : Shared}
end
structure ZQ (P : Program) (w : World) (K : PySem.W.Frag) (a : Addr) (G : Hp → Prop) (m : Nat → Option V) (St : Addr → Heap → Nat → Prop) : Prop where
  mv : ∀ {h h' : Heap} {it : Addr} {k : Nat}, St it h k → (∀ o, h.get? it = some o → h'.get? it = some o) → St it h' k
  ob : ∀ {h : Heap} {it : Addr} {k : Nat}, St it h k → ∃ o, h.get? it = some o ∧ ∀ v, o.data ≠ .cell v
  get : ∀ {X : Cx} {pins : List (Addr × Obj)} {σ : L2.St} {H : Hp} {s : Shared}, X.prog = P → X.w = w → X.K = K → Inv X pins σ H s → G H →
    ∃ (R : Heap → Prop) (mv : Nat → Option Value), (∀ it, Iv P w it a (St it) R mv) ∧ R s.heap ∧ (∀ i x, m i = some x → ∃ u, mv i = some u ∧ RelV x u) ∧ (∀ i, m i = none → mv i = none) ∧ a < s.heap.objs.size ∧
      (∃ o, Lays a R o ∧ o.isFreed = false ∧ ∀ (h : Heap) (it : Addr), h.get? it = some o → St it h 0) ∧ ∀ h, R h → ∃ o, h.get? a = some o
theorem ZQ.z {P : Program} {w : World} {K : PySem.W.Frag} {a : Addr} {G : Hp → Prop} {m : Nat → Option V} {St : Addr → Heap → Nat → Prop} (q : ZQ P w K a G m St) : ZSrc P w K a G m St :=
  ⟨q.mv, q.ob, fun hP hw hK I g => by
    obtain ⟨R, v, h1, h2, h3, h4, h5, h6, _⟩ := q.get hP hw hK I g
    exact ⟨R, v, h1, h2, h3, h4, h5, h6⟩⟩
section
variable {P : Program} {w : World} {A : Around} {E : Value → Shared → Prop} {s : Shared} {z TI TO T i1 i2 l1 l2 : Addr} {S1 S2 : Heap → Nat → Prop} {R1 R2 : Heap → Prop} {m1 m2 : Nat → Option Value} {k : Nat} {x y : Value} {f : Bool} {oT : Obj}
end
end PvZip
namespace Pv
open PySem L2 PvZip
section
variable {P : Program} {w : World} {K : PySem.W.Frag} {α β κ : Type} [Rp α] [Rp β] {A : List Addr} {B0 H0 B H : Hp} {O : List (Addr × HO)}
end
def repS (a : Str) (n : Int) : Str := ⟨(List.replicate n.toNat a.cps).foldl (· ++ ·) #[]⟩
def rdMulS : R2 := fun x y H Q => ∃ a n, x = .str a ∧ y = .int n ∧ 2 ≤ n ∧ n ≤ 1000 ∧ 1 ≤ a.length ∧ a.length ≤ 1000 ∧ Q (.str (repS a n)) H
def rdMul1 : R2 := fun x y H Q => ∃ a n, x = .str a ∧ y = .int n ∧ n = 1 ∧ Q (.str a) H
def rdMulR : R2 := fun x y H Q => rdMulS x y H Q ∨ rdMul1 x y H Q
def timesS (a : Str) (n : Int) : Str := if n = 1 then a else repS a n
theorem rep_len (xs : Array Nat) : ∀ (k : Nat) (acc : Array Nat), ((List.replicate k xs).foldl (· ++ ·) acc).size = acc.size + k * xs.size
  | 0, acc => by simp
  | k + 1, acc => by
    rw [List.replicate_succ, List.foldl_cons, rep_len xs k, Array.size_append, Nat.succ_mul]
    omega
theorem k_mulS {X : Cx} : OpR X (binaryOp .Mult) rdMulR := by
  intro pins s σ H x y v u Q I rx ry h
  rcases h with ⟨a, n, rfl, rfl, h1, h2, h3, h4, q⟩ | ⟨a, n, rfl, rfl, h1, q⟩
  · obtain ⟨t, rfl⟩ := rx
    obtain ⟨t', rfl⟩ := ry
    have hne : (n == 1 || a.length == 0) = false := by
      rw [Bool.or_eq_false_iff]
      exact ⟨beq_eq_false_iff_ne.mpr (by omega), beq_eq_false_iff_ne.mpr (by omega)⟩
    refine PySem.P.mul_str (by rw [decide_eq_false (by omega), decide_eq_false (by omega)]; rfl) (fun _ _ => ?_) (fun _ _ => ?_) ?_
    · have : (1000 : Int) ≤ (2 ^ 63 - 1) / n := Int.le_ediv_of_mul_le (by omega) (by omega)
      omega
    · have : a.length * n.toNat ≤ 1000 * 1000 := Nat.mul_le_mul h4 (by omega)
      have sz : sizeLine = 16777216 := by decide
      exact decide_eq_false (by omega)
    · rw [if_neg (by omega), if_neg (by rw [hne]; decide)]
      have hl : (repS a n).length ≤ sizeLine := by
        have e := rep_len a.cps n.toNat #[]
        have : a.length * n.toNat ≤ 1000 * 1000 := Nat.mul_le_mul h4 (by omega)
        have sz : sizeLine = 16777216 := by decide
        show ((List.replicate n.toNat a.cps).foldl (· ++ ·) #[]).size ≤ _
        rw [e]
        have e3 : a.cps.size = a.length := rfl
        have e4 : (#[] : Array Nat).size = 0 := rfl
        rw [e3, e4, Nat.mul_comm]
        omega
      exact ⟨hl, .str (repS a n), H, I.tok _, ⟨_, rfl⟩, q⟩
  · obtain ⟨t, rfl⟩ := rx
    obtain ⟨t', rfl⟩ := ry
    subst h1
    refine PySem.P.mul_str (by rfl) (fun _ h => by simp at h) (fun _ h => by simp at h) ?_
    rw [if_neg (by omega), if_pos (by rfl)]
    exact ⟨.str a, H, I, ⟨_, rfl⟩, q⟩
theorem mulS_ {a : Str} {n : Int} {H : Hp} {Q : VK} (h : 1 ≤ n ∧ n ≤ 1000 ∧ 1 ≤ a.length ∧ a.length ≤ 1000) (k : Q (.str (timesS a n)) H) : rdMulR (.str a) (.int n) H Q := by
  unfold timesS at k
  by_cases c : n = 1
  · rw [if_pos c] at k
    exact .inr ⟨a, n, rfl, rfl, c, k⟩
  · rw [if_neg c] at k
    exact .inl ⟨a, n, rfl, rfl, by omega, h.2.1, h.2.2.1, h.2.2.2, k⟩
end Pv

namespace Pv
open PySem PySem.Spec PyProof.Rows L2
structure KDc {α : Type} [Rp α] (K : PySem.W.Frag) (w : World) (d : Addr) (D : Dc Str α) : Prop where
  ex : ∃ es n, KDict K w d es n
  has : ∀ z, ∃ r, PySem.W.nsIn K d z = some r ∧ r.isSome = D.has z
  get : ∀ z x, D.get? z = some x → ∃ u v, PySem.W.nsIn K d z = some (some u) ∧ RelV v u ∧ ∀ B, Rp.R B v x
inductive KdL {α : Type} [Rp α] (P : Params) : List DictEntry → List (Str × α) → Prop where
  | nil : KdL P [] []
  | cons {x : Str} {t : Tok} {h : Int} {u : Value} {v : V} {a : α} {r : List DictEntry} {s : List (Str × α)} (hh : h = PyData.keyHash P x) (rv : RelV v u) (rp : ∀ B, Rp.R B v a) (k : KdL P r s) : KdL P (⟨h, .str x t, u⟩ :: r) ((x, a) :: s)
section
variable {α : Type} [Rp α] {K : PySem.W.Frag} {w : World} {d : Addr}
theorem KdL.lit {P : Params} : ∀ {es : List DictEntry} {s : List (Str × α)}, KdL P es s → PySem.W.KeysLit P es
  | _, _, .nil => trivial
  | _, _, .cons hh _ _ k => ⟨⟨_, _, rfl, hh⟩, k.lit⟩
theorem KdL.noref {P : Params} : ∀ {es : List DictEntry} {s : List (Str × α)}, KdL P es s → es.any (·.refKey) = false
  | _, _, .nil => rfl
  | _, _, .cons _ _ _ k => by
    rw [List.any_cons, k.noref]
    rfl
theorem KdL.find {P : Params} (z : Str) : ∀ {es : List DictEntry} {s : List (Str × α)}, KdL P es s → (es.find? (·.key.isStr z) = none ∧ s.find? (fun p => decide (p.1 = z)) = none) ∨
    ∃ e p v, es.find? (·.key.isStr z) = some e ∧ s.find? (fun p => decide (p.1 = z)) = some p ∧ RelV v e.val ∧ ∀ B, Rp.R B v p.2
  | _, _, .nil => .inl ⟨rfl, rfl⟩
  | _, _, .cons (x := x) (t := t) (h := h) (u := u) (a := a) hh rv rp k => by
    rw [List.find?_cons, List.find?_cons]
    by_cases c : x = z
    · have e1 : (Value.str x t).isStr z = true := by show (x == z) = true; rw [c]; exact beq_self_eq_true z
      have e2 : decide ((x, a).1 = z) = true := decide_eq_true c
      rw [e2]
      show (match (Value.str x t).isStr z with | true => _ | false => _) = _ ∧ _ ∨ _
      rw [e1]
      exact .inr ⟨_, _, _, rfl, rfl, rv, rp⟩
    · have e1 : (Value.str x t).isStr z = false := by show (x == z) = false; exact beq_eq_false_iff_ne.mpr c
      have e2 : decide ((x, a).1 = z) = false := decide_eq_false c
      rw [e2]
      have := k.find z
      show (match (Value.str x t).isStr z with | true => _ | false => _) = _ ∧ _ ∨ ∃ e p v, (match (Value.str x t).isStr z with | true => _ | false => _) = some e ∧ _
      rw [e1]
      exact this
theorem kdc_of {es : Array DictEntry} {n : Nat} {D : Dc Str α} (l : K.lookup d = some ⟨.type "dict", none, .dict es n, #[]⟩) (h : KdL w.params es.toList D.l) (lo : (d == sysModules) = false) : KDc K w d D := by
  have hn : ∀ z, PySem.W.nsIn K d z = (match es.toList.find? (·.key.isStr z) with
      | some e => some (some e.val)
      | none => some none) := fun z => by
    unfold PySem.W.nsIn
    rw [l]
    dsimp only
    rw [h.noref]
    rfl
  refine ⟨⟨es, n, l, h.lit, lo⟩, fun z => ?_, fun z x hx => ?_⟩
  · rw [hn z]
    unfold Dc.has Dc.get?
    rcases h.find z with ⟨e1, e2⟩ | ⟨e, p, v, e1, e2, _, _⟩
    · rw [e1, e2]; exact ⟨_, rfl, rfl⟩
    · rw [e1, e2]; exact ⟨_, rfl, rfl⟩
  · rw [hn z]
    unfold Dc.get? at hx
    rcases h.find z with ⟨e1, e2⟩ | ⟨e, p, v, e1, e2, rv, rp⟩
    · rw [e2] at hx; cases hx
    · rw [e2] at hx
      have hx : p.2 = x := Option.some.inj hx
      rw [e1, ← hx]
      exact ⟨_, _, rfl, rv, rp⟩
def rKdI (K : PySem.W.Frag) (d : Addr) (neg : Bool) : R2 := fun x y H Q => ∃ (z : Str) (r : Option Value), x = .str z ∧ y = .ref d ∧ PySem.W.nsIn K d z = some r ∧ Q (.bl (if neg then !r.isSome else r.isSome)) H
variable {X : Cx} {D : Dc Str α} {H : Hp} {Q : VK} {z : Str}
theorem k_kdnin (D : KDc K w d D) (hK : X.K = K := by rfl) (hw : X.w = w := by rfl) : OpR X (compareOp .NotIn) (rKdI K d true) := by
  subst hK; subst hw
  obtain ⟨es, n, k⟩ := D.ex
  exact op_notIn_kd k
theorem kdin_ {neg : Bool} (k : KDc K w d D) (q : Q (.bl (if neg then !D.has z else D.has z)) H) : rKdI K d neg (.str z) (.ref d) H Q := by
  obtain ⟨r, h1, h2⟩ := k.has z
  exact ⟨z, r, rfl, rfl, h1, by rw [h2]; exact q⟩
theorem k_ixKd (hK : X.K = K := by rfl) (hw : X.w = w := by rfl) : IxR X (rIxD K w) := by
  subst hK; subst hw
  exact ix_kdict
theorem kdix_ {x : α} (k : KDc K w d D) (h : D.get? z = some x) (B : Hp) (q : ∀ v, Rp.R B v x → Q v H) : rIxD K w (.ref d) (.str z) H Q := by
  obtain ⟨u, v, h1, h2, h3⟩ := k.get z x h
  obtain ⟨es, n, kd⟩ := k.ex
  exact ⟨d, z, v, rfl, rfl, ⟨es, n, u, kd.at_, kd.lit, h1, h2⟩, q v (h3 B)⟩
end
def subS (i j : Str) : Bool := !(Builtin.Str.occurrences j i 0 j.length 1).isEmpty
def rSub (neg : Bool) : R2 := fun x y H Q => ∃ i j, x = .str i ∧ y = .str j ∧ Q (.bl (if neg then !subS i j else subS i j)) H
theorem k_sub {X : Cx} : OpR X (compareOp .In) (rSub false) := op_in_str
theorem sub_ {neg : Bool} {i j : Str} {H : Hp} {Q : VK} (q : Q (.bl (if neg then !subS i j else subS i j)) H) : rSub neg (.str i) (.str j) H Q := ⟨i, j, rfl, rfl, q⟩
theorem subS_one (c : Nat) (j : Str) : subS ⟨#[c]⟩ j = decide (c ∈ j.cps.toList) := PySem.StrLaws.found_one j c
open C8 in
theorem pe_mk0 {X : Cx} {k j : Nat} {x : Str} {C : Addr} {sp : Sp} {dvs : List V} {p pos : Pos} (c : C8.Mak X.prog X.w X.K X.mg X.base k x C sp dvs) (hr : Room j X.A) (hk : k + 1 ≤ j) (hg : Gl X x) (hdb : (x == ("__debug__" : Str)) = false := by decide) :
    PE X (.Call (.Name x p) [] [] pos) (tMake C sp dvs C8.E0 tNil) := by
  obtain ⟨f, fd, ps, ds, M, F, hm, b, d⟩ := c.ex
  exact pe_make0 M F (hr.mono hk) hg hm b d C8.pass0 hdb
end Pv

namespace PvUn
open PySem PySem.Spec PyProof.Rows L2
open PySem.Sem (wp)
section
variable {prog : Program} {w : World} {A : Around} {E : Value → Shared → Prop} {s : Shared}
theorem draw_list {it t : Addr} {items : Array Value} (hne : t ≠ it) : ∀ (n i : Nat) (s : Shared) (Q : List Value → Shared → Prop), s.heap.IsListIter it t i → s.heap.IsList t items → i + n ≤ items.size →
    (∀ h', Heap.IsListIter h' it t (i + n) → Heap.SameBut it s.heap h' → Q ((items.toList.drop i).take n) { s with heap := h' }) → wpAny (model prog w) A (draw (.ref it) n) Q E s
  | 0, i, s, Q, hit, _, _, hQ => by
    show wpAny _ _ (pure []) Q E s
    exact wpAny_pure (by simpa using hQ s.heap hit (Heap.SameBut.refl ..))
  | n + 1, i, s, Q, hit, ht, hle, hQ => by
    have hlt : i < items.size := by omega
    show wpAny _ _ (pyNext (.ref it) >>= _) Q E s
    refine wpAny_bind (wpAny_pyNext_list_item hit ht (x := items[i]) (by simp [hlt]) fun h₁ hit₁ hs₁ => ?_)
    refine wpAny_bind (wpAny_holding (draw_list hne n (i + 1) _ _ hit₁ (ht.extBut hs₁.extBut hne) (by omega) fun h₂ hit₂ hs₂ => wpAny_pure ?_))
    have hd : items.toList.drop i = items[i] :: items.toList.drop (i + 1) := by simp [List.drop_eq_getElem_cons, hlt]
    have := hQ h₂ (by rw [show i + (n + 1) = i + 1 + n by omega]; exact hit₂) (hs₁.trans hs₂)
    rw [hd, List.take_succ_cons] at this
    exact this
theorem unpackItems_list {t : Addr} {items : Array Value} {Q : List Value → Shared → Prop} (hh : A.handled = none) (ht : s.heap.IsList t items)
    (hQ : ∀ h', Heap.ExtBut s.heap.objs.size s.heap h' → Q items.toList { s with heap := h' }) : wpAny (model prog w) A (unpackItems (.ref t) items.size none) Q E s := by
  have hlt : t ≠ s.heap.objs.size := by obtain ⟨o, ho, _⟩ := ht; exact Nat.ne_of_lt (Heap.lt_size ho)
  unfold unpackItems
  refine wpAny_bind ?_
  · unfold notIterableAtAll
    refine wpAny_bind (wpAny_specialOf ht.typeIs slot_list_iter.lookup ?_)
    refine wpAny_pure ?_
    simp only [Bool.false_eq_true, if_false]
    refine wpAny_bind (wpAny_holding (wpAny_pyIter_list ht ?_))
    refine wpAny_bind (wpAny_holding (draw_list hlt items.size 0 _ _ ⟨_, Heap.get?_push_size _ rfl, rfl, rfl⟩ (ht.push _) (by omega) fun h₁ hit₁ hs₁ => ?_))
    have hall : List.take items.size (List.drop 0 items.toList) = items.toList := by
      rw [List.drop_zero]; exact List.take_of_length_le (by simp)
    rw [hall]
    rw [if_neg (by simp)]
    have ht₁ : Heap.IsList h₁ t items := (ht.push _).extBut hs₁.extBut hlt
    refine wpAny_bind (wpAny_holding (wpAny_pyNext_list_end hh hit₁ ht₁ (by simp) fun h₂ he₂ => ?_))
    simp only [Option.isSome_none, Bool.false_eq_true, if_false]
    refine wpAny_pure (hQ h₂ fun b o hb e => he₂ b o hb (hs₁.extBut b o hb (Heap.get?_push_of_some _ e)))
theorem unpack_list {t : Addr} {items : Array Value} {targets : List (Bool × (Value → Sem Unit))} {Q : Unit → Shared → Prop} (hh : A.handled = none) (ht : s.heap.IsList t items)
    (hn : targets.length = items.size) (hstar : targets.findIdx? (·.1) = none)
    (h : ∀ h', Heap.ExtBut s.heap.objs.size s.heap h' → wpAny (model prog w) A (assignInOrder (targets.map (·.2)) items.toList) Q E { s with heap := h' }) :
    wpAny (model prog w) A (unpack (.ref t) targets) Q E s := by
  unfold unpack
  rw [hn, hstar]
  exact wpAny_bind (wpAny_holding (unpackItems_list hh ht h))
theorem assign_Tuple_list {env : Env} {elts : List Expr} {x1} {pos : Pos} {t : Addr} {items : Array Value} {Q : Unit → Shared → Prop} (hh : A.handled = none) (ht : s.heap.IsList t items)
    (hn : (assignEach elts env).length = items.size) (hstar : (assignEach elts env).findIdx? (·.1) = none)
    (h : ∀ h', Heap.ExtBut s.heap.objs.size s.heap h' → wpAny (model prog w) A (assignInOrder ((assignEach elts env).map (·.2)) items.toList) Q E { s with heap := h' }) :
    wpAny (model prog w) A (assign (.Tuple elts x1 pos) env (.ref t)) Q E s := by
  rw [assign_Tuple]
  exact wpAny_bind (wpAny_standAt (unpack_list hh ht hn hstar h))
end
end PvUn
namespace Pv
open PySem PySem.Spec PyProof.Rows L2
def gLst (K : PySem.W.Frag) (n : Nat) (t : TGs) : TG := fun v σ H Q => ∃ a xs, v = .ref a ∧ SqL K H a xs ∧ xs.length = n ∧ t xs σ H Q
theorem k_glst {X : Cx} {K : PySem.W.Frag} {pos : Pos} {es : List Expr} {k : Nat} {t : TGs} {n : Nat} (hc : X.calm = true) (h : PGs X es t)
    (hn : (assignEach es X.env).length = n := by rfl) (hst : (assignEach es X.env).findIdx? (·.1) = none := by rfl) (hK : X.K = K := by rfl) : PG X (.Tuple es k pos) (gLst K n t) := by
  subst hK
  refine ⟨fun pins s σ H v u Q I r hw => ?_⟩
  obtain ⟨a, xs, e1, hq, hl, hw⟩ := hw
  subst e1
  cases r
  obtain ⟨its, rv, ⟨o, m, ho, hc1, _, hd⟩, hz⟩ := I.list hq
  refine PvUn.assign_Tuple_list (I.ok.hd hc) ⟨o, ho, hc1, m, hd⟩ (by simp [hn, ← hl, rv.length]) hst fun h' hx => ?_
  have I1 : Inv X pins σ H { s with heap := h' } := I.kept (t' := s.toks) fun b o e => hx b o (Nat.ne_of_lt (Heap.lt_size e)) e
  exact h.run pins _ σ H xs _ Q I1 (by simpa using rv) hw
section
variable {α β : Type} [Rp α] [Rp β] {A : List Addr} {B0 H0 B H : Hp} {O : List (Addr × HO)} {σ : L2.St} {g : TG} {te : TE} {J : It} {xs : List α} {Q : VK} {vs : List Nat}
inductive OwL (H0 B : Hp) : List V → List (Addr × HO) → List (List β) → Prop where
  | nil : OwL H0 B [] [] []
  | cons {p : Addr} {l : List V} {y : List β} {us : List V} {T : List (Addr × HO)} {ys : List (List β)} (h : H0 p = none) (o : Ow B l y) (r : OwL H0 B us T ys) : OwL H0 B (.ref p :: us) ((p, .lst l) :: T) (y :: ys)
theorem OwL.mono {B' : Hp} (m : Le B B') : ∀ {us : List V} {T : List (Addr × HO)} {ys : List (List β)}, OwL H0 B us T ys → OwL H0 B' us T ys
  | _, _, _, .nil => .nil
  | _, _, _, .cons h o r => .cons h (o.mono m) (r.mono m)
theorem OwL.snoc {p : Addr} {l : List V} {y : List β} (h : H0 p = none) (o : Ow B l y) : ∀ {us : List V} {T : List (Addr × HO)} {ys : List (List β)}, OwL H0 B us T ys → OwL H0 B (us ++ [.ref p]) (T ++ [(p, .lst l)]) (ys ++ [y])
  | _, _, _, .nil => .cons h o .nil
  | _, _, _, .cons h1 o1 r => .cons h1 o1 (r.snoc h o)
theorem OwL.len : ∀ {us : List V} {T : List (Addr × HO)} {ys : List (List β)}, OwL H0 B us T ys → us.length = ys.length
  | _, _, _, .nil => rfl
  | _, _, _, .cons _ _ r => congrArg (· + 1) r.len
def un3 {γ : Type} : List γ → Option (γ × γ × γ)
  | [a, b, c] => some (a, b, c)
  | _ => none
theorem un3_ok {γ : Type} {xs : List γ} {y : γ × γ × γ} (h : un3 xs = some y) : xs = [y.1, y.2.1, y.2.2] := by
  match xs, h with
  | [a, b, c], h => cases h; rfl
theorem OwL.three {us : List V} {T : List (Addr × HO)} {X : List (List β)} {y : List β × List β × List β} (o : OwL H0 B us T X) (h : un3 X = some y) :
    ∃ p1 l1 p2 l2 p3 l3, us = [.ref p1, .ref p2, .ref p3] ∧ T = [(p1, .lst l1), (p2, .lst l2), (p3, .lst l3)] ∧ H0 p1 = none ∧ H0 p2 = none ∧ H0 p3 = none ∧ Ow B l1 y.1 ∧ Ow B l2 y.2.1 ∧ Ow B l3 y.2.2 := by
  have e := un3_ok h
  subst e
  cases o with
  | cons h1 o1 o => cases o with
    | cons h2 o2 o => cases o with
      | cons h3 o3 o => cases o with
        | nil => exact ⟨_, _, _, _, _, _, rfl, rfl, h1, h2, h3, o1, o2, o3⟩
theorem mapO_drop {f : α → Option (List β)} {i : Nat} {x : α} {r : List (List β)} (hx : xs[i]? = some x) (h : mapO f (xs.drop i) = some r) : ∃ y r2, f x = some y ∧ mapO f (xs.drop (i + 1)) = some r2 ∧ r = y :: r2 := by
  obtain ⟨hi, e⟩ := List.getElem?_eq_some_iff.mp hx
  rw [List.drop_eq_getElem_cons hi, e] at h
  unfold mapO at h
  obtain ⟨y, hy, h⟩ := bs h
  obtain ⟨r2, hr, h⟩ := bs h
  exact ⟨y, r2, hy, hr, (Option.some.inj h).symm⟩
theorem lc_Ow (W : Ws A B0 H0 B H O) (tw : TW A H0 J B xs) (hn : xs.length ≤ sizeLine) (f : α → Option (List β)) {ys : List (List β)} (hx : mapO f xs = some ys)
    (turn : ∀ x z v B' H' D acc T (Nx : Hp → Prop), Le B B' → Ws A B0 H0 B' H' (O ++ (D, .lst acc) :: T) → Rp.R B' v x → f x = some z →
      (∀ B4 H4 p l, Le B' B4 → H0 p = none → Ws A B0 H0 B4 H4 ((O ++ (D, .lst acc) :: T) ++ [(p, .lst l)]) → Ow B4 l z → ∃ acc', H4 D = some (.lst acc') ∧ acc'.length < sizeLine ∧ Nx (upd H4 D (.lst (acc' ++ [.ref p])))) →
      g v (wipe σ vs) H' fun σ2 H2 => wipe σ2 vs = wipe σ vs ∧ te σ2 H2 fun y H4 => ∃ acc, H4 D = some (.lst acc) ∧ acc.length < sizeLine ∧ Nx (upd H4 D (.lst (acc ++ [y]))))
    (done : ∀ D l T B' H', H0 D = none → Le B B' → Ws A B0 H0 B' H' (O ++ (D, .lst l) :: T) → OwL H0 B' l T ys → Q (.ref D) H') :
    LcK g tYes te vs σ Q J H := by
  intro D hD
  have hD0 : H0 D = none := W.old hD
  refine ⟨fun i m H1 => m = xs.length - i ∧ i ≤ xs.length ∧ ∃ B' acc T pre rest, mapO f (xs.drop i) = some rest ∧ ys = pre ++ rest ∧ OwL H0 B' acc T pre ∧ acc.length ≤ i ∧ Le B B' ∧ Ws A B0 H0 B' H1 (O ++ (D, .lst acc) :: T),
    ⟨xs.length, by simp, Nat.zero_le _, B, [], [], [], ys, by rw [List.drop_zero]; exact hx, rfl, .nil, Nat.le_refl _, Le.refl _, W.nw hD _⟩, ?_⟩
  rintro i m H1 ⟨rfl, hi, B1, acc, T, pre, rest, hl, ey, ow, ha, le1, W1⟩
  by_cases hlt : i < xs.length
  · refine .inr ⟨tw.go le1 W1 hlt, ?_⟩
    have hget : xs[i]? = some xs[i] := List.getElem?_eq_getElem hlt
    obtain ⟨y0, r2, hy0, hr2, er⟩ := mapO_drop hget hl
    refine ⟨fun H3 => ∃ B3 acc' T' pre', ys = pre' ++ r2 ∧ OwL H0 B3 acc' T' pre' ∧ acc'.length ≤ i + 1 ∧ Le B B3 ∧ Ws A B0 H0 B3 H3 (O ++ (D, .lst acc') :: T'), ?_, fun x Hn y => ?_⟩
    · rintro H3 ⟨B3, acc', T', pre', q1, q2, q3, q4, q5⟩
      exact ⟨xs.length - (i + 1), by omega, rfl, hlt, B3, acc', T', pre', r2, hr2, q1, q2, q3, q4, q5⟩
    · obtain ⟨Bn, Wn, len, rn⟩ := tw.yld le1 W1 hget y
      have key := turn _ _ x Bn Hn D acc T (fun H3 => ∃ B3 acc' T' pre', ys = pre' ++ r2 ∧ OwL H0 B3 acc' T' pre' ∧ acc'.length ≤ i + 1 ∧ Le B B3 ∧ Ws A B0 H0 B3 H3 (O ++ (D, .lst acc') :: T')) (le1.tr len) Wn rn hy0 fun B4 H4 p l le4 hp W4 o4 => by
        have hget2 : ((O ++ (D, HO.lst acc) :: T) ++ [(p, HO.lst l)])[O.length]? = some (D, .lst acc) := by simp
        refine ⟨acc, W4.at_ O.length hget2, by omega, B4, acc ++ [.ref p], T ++ [(p, .lst l)], pre ++ [y0], ?_, ?_, by rw [List.length_append, List.length_singleton]; omega, (le1.tr len).tr le4, ?_⟩
        · rw [ey, er, List.append_assoc]
          rfl
        · exact (ow.mono (len.tr le4)).snoc hp o4
        · have q := W4.set O.length hget2 (.lst (acc ++ [.ref p]))
          have e : ((O ++ (D, HO.lst acc) :: T) ++ [(p, HO.lst l)]).set O.length (D, HO.lst (acc ++ [V.ref p])) = O ++ (D, HO.lst (acc ++ [V.ref p])) :: (T ++ [(p, HO.lst l)]) := by simp
          rw [e] at q
          exact q
      exact key
  · refine .inl ⟨tw.stop le1 W1 (by omega), ?_⟩
    rw [List.drop_eq_nil_of_le (by omega)] at hl
    have e2 : [] = rest := Option.some.inj hl
    subst e2
    rw [List.append_nil] at ey
    subst ey
    exact done D acc T B1 H1 hD0 le1 W1 ow
end
def RdGet2N (Q : VK) (a : Addr) (y z : V) (H3 : Hp) : Prop := (∃ o, DGet H3 a y o ∧ Q (o.getD z) H3) ∨ ∃ kvs, y = .non ∧ Rd H3 a (.dK kvs) ∧ Q z H3
def tDGet2N (td ty tx : TE) : TE := fun σ H Q => td σ H fun x H1 => ∃ a, x = .ref a ∧ IsD H1 a ∧ ty σ H1 fun y H2 => tx σ H2 fun z H3 => RdGet2N Q a y z H3
theorem pe_dget2N {X : Cx} {o e f : Expr} {apos cpos : Pos} {td ty tx : TE} (hu : X.A.units + 1 < cLine) (ho : PE X o td) (he : PE X e ty) (hf : PE X f tx) (m : M2 X o "get" apos e f cpos) : PE X (.Call (.Attribute o "get" apos) [e, f] [] cpos) (tDGet2N td ty tx) := by
  refine ⟨fun pins s σ H Q I h => ?_⟩
  refine wpAny_Call_method m.base m.few m.line PySem.F.plainAttrs_dict PySem.F.slot_dict_get PySem.F.type_dict_get (thn (ho.run pins s σ H _ I h) fun u s1 ⟨x, H1, I1, rx, a, ex, d, q1⟩ => ?_)
  subst ex
  obtain rfl : u = Value.ref a := rx
  obtain ⟨t1, t2, _⟩ := isD_at I1 d
  refine ⟨t1, t2, ?_⟩
  rw [m.trees]
  refine Calls.callWith_builtin rfl (Calls.evalArgs_plain (Calls.spliced_cons (thn (he.run pins s1 σ H1 _ I1 q1) fun iv s2 ⟨y, H2, I2, ry, q2⟩ =>
    Calls.spliced_cons (thn (hf.run pins s2 σ H2 _ I2 q2) fun fv s3 ⟨z, H3, I3, rz, q3⟩ => Calls.spliced_nil ?_))))
  rcases q3 with ⟨ov, g, q3⟩ | ⟨kvs, ey, g, q3⟩
  · exact d_get2 hu I3 g ry rz fun w' s4 I4 rw' => ⟨_, H3, I4, rw', q3⟩
  · subst ey
    obtain rfl : iv = Value.none := ry
    obtain ⟨_, hd, vs, _, dd⟩ := dk_rd I3.hok g
    obtain ⟨fm, hm, hfm⟩ := none_map dd
    refine call_meetsIn PySem.F.slot_dict_get dd.typeIs PySem.F.entry_dict_get (PySem.F.args_dict_get_3 _ _ _) (meets_dict_get_default (noneKind X.prog X.w) (k := none) a rfl hd fv) ⟨_, hm, ?_⟩
    rw [hfm]
    exact ⟨_, H3, I3.tok _, rz, q3⟩
section
variable {α : Type} [Rp α] {A : List Addr} {B0 H0 B H : Hp} {O : List (Addr × HO)} {σ : L2.St} {Q : VK} {a : Addr} {l : List (Key × V)} {d : Dc Int α} {td ty tx : TE}
theorem dget2N_ (h : td σ H fun x H1 => ∃ a, x = .ref a ∧ IsD H1 a ∧ ty σ H1 fun y H2 => tx σ H2 fun z H3 => RdGet2N Q a y z H3) : tDGet2N td ty tx σ H Q := h
theorem get2NO (W : Ws A B0 H0 B H O) (n : Nat) (hn : O[n]? = some (a, .dK l)) (q : ty σ H fun y H2 => tx σ H2 fun z H3 => RdGet2N Q a y z H3) : ∃ a', V.ref a = .ref a' ∧ IsD H a' ∧ ty σ H fun y H2 => tx σ H2 fun z H3 => RdGet2N Q a' y z H3 :=
  ⟨a, rfl, .inl ⟨_, .of (W.at_ n hn)⟩, q⟩
theorem get2NbO (W : Ws A B0 H0 B H O) (n : Nat) (hn : O[n]? = some (a, .dK l)) (o : Od B l d) {k : Option Int} {y : V} (rk : Rp.R B y k) {z : α} {w : V} (rz : Rp.R B w z) (q : ∀ u, Rp.R B u ((k.bind d.get?).getD z) → Q u H) : RdGet2N Q a y w H := by
  cases k with
  | none =>
    obtain rfl : y = V.non := rk
    exact .inr ⟨l, rfl, .of (W.at_ n hn), q _ rz⟩
  | some i =>
    obtain rfl : y = V.int i := rk
    obtain ⟨o', h1, h2⟩ := get2bO (Q := Q) (k := i) W n hn o rz q
    exact .inl ⟨o', h1, h2⟩
end
section
variable {α β : Type} [Rp α] [Rp β] {B : Hp} {v : V}
end
end Pv

namespace Pv
open PySem L2
section
variable {α κ : Type} [Rp α] [DecidableEq κ] [Kp κ] {K : PySem.W.Frag} {A : List Addr} {B0 H0 B H : Hp} {O : List (Addr × HO)} {v : V} {d : Dc κ α} {l : List (Key × V)} {Q : VK} {a : Addr}
theorem clrD (W : Ws A B0 H0 B H O) (n : Nat) (hn : O[n]? = some (a, .dK l)) (q : ∀ H' l', Ws A B0 H0 B H' (O.set n (a, .dK l')) → Od B l' (Dc.emp : Dc κ α) → Q .non H') : tyV K "dict" (.ref a) H ∧ rDClear (.ref a) [] H Q :=
  ⟨.inr (.inr (.inl ⟨rfl, .inl ⟨l, W.at_ n hn⟩⟩)), a, l, rfl, rfl, W.at_ n hn, q _ _ (W.set n hn _) ⟨Nat.zero_le _, .nil⟩⟩
end
section
variable {α : Type} [Rp α] {K : PySem.W.Frag} {A : List Addr} {B0 H0 B H : Hp} {O : List (Addr × HO)} {xs : List α} {l : List V} {Q : VK} {a : Addr}
end
end Pv

namespace PvZip
open PySem PySem.Spec PyProof.Rows L2
open PySem.Sem (wp)
section
variable {prog : Program} {w : World} {A : Around} {E : Value → Shared → Prop} {s : Shared}
end
structure ZS2 (P : Program) (w : World) (K : PySem.W.Frag) (a l : Addr) (G : Hp → Prop) (m : Nat → Option V) (St : Addr → Heap → Nat → Prop) : Prop where
  mv : ∀ {h h' : Heap} {it : Addr} {k : Nat}, St it h k → (∀ o, h.get? it = some o → h'.get? it = some o) → St it h' k
  ob : ∀ {h : Heap} {it : Addr} {k : Nat}, St it h k → ∃ o, h.get? it = some o ∧ ∀ v, o.data ≠ .cell v
  get : ∀ {X : Cx} {pins : List (Addr × Obj)} {σ : L2.St} {H : Hp} {s : Shared}, X.prog = P → X.w = w → X.K = K → Inv X pins σ H s → G H →
    ∃ (R : Heap → Prop) (mv : Nat → Option Value), (∀ it, Iv P w it l (St it) R mv) ∧ R s.heap ∧ (∀ i x, m i = some x → ∃ u, mv i = some u ∧ RelV x u) ∧ (∀ i, m i = none → mv i = none) ∧ l < s.heap.objs.size ∧
      ∃ (R' : Heap → Prop) (o : Obj), Lays a R' o ∧ R' s.heap ∧ (∀ o', R' (s.heap.push o')) ∧ o.isFreed = false ∧ ∀ (h : Heap) (it : Addr), h.get? it = some o → St it h 0
theorem ZSrc.two {P : Program} {w : World} {K : PySem.W.Frag} {a : Addr} {G : Hp → Prop} {m : Nat → Option V} {St : Addr → Heap → Nat → Prop} (q : ZSrc P w K a G m St) : ZS2 P w K a a G m St :=
  ⟨q.mv, q.ob, fun hP hw hK I g => by
    obtain ⟨R, v, h1, h2, h3, h4, h5, o, h6, h7, h8⟩ := q.get hP hw hK I g
    exact ⟨R, v, h1, h2, h3, h4, h5, R, o, h6, h2, fun o' => (h1 0).sv h2 fun u e => Heap.get?_push_of_some _ e, h7, h8⟩⟩
end PvZip
namespace Pv
open PySem L2 PvZip
section
variable {P : Program} {w : World} {K : PySem.W.Frag} {α β : Type} [Rp α] [Rp β] {A : List Addr} {B0 H0 B H : Hp} {O : List (Addr × HO)}
end
end Pv

namespace PvZip
open PySem PySem.Spec PyProof.Rows L2
end PvZip
namespace Pv
open PySem L2 PvZip
section
variable {κ α : Type} [DecidableEq κ] [Kp κ] [Rp α] {K : PySem.W.Frag} {A : List Addr} {B0 H0 B H : Hp} {O : List (Addr × HO)} {Q : VK} {v : V} {d : Dc κ α} {a : Addr} {l : List (Key × V)}
end
section
variable {α : Type} [Rp α] {K : PySem.W.Frag} {A : List Addr} {B0 H0 B H : Hp} {O : List (Addr × HO)} {xs : List α} {a : Addr} {l : List V}
end
end Pv

namespace Pv
open PySem PySem.Spec PyProof.Rows L2
end Pv

namespace Pv
open PySem PySem.Spec PyProof.Rows L2
inductive Dt where
  | non
  | int (i : Int)
  | str (s : Str)
  | seq (t : Bool) (l : List Dt)
mutual
inductive DR (B : Hp) : V → Dt → Prop
  | non : DR B .non .non
  | int (i : Int) : DR B (.int i) (.int i)
  | str (s : Str) : DR B (.str s) (.str s)
  | tup {a : Addr} {l : List V} {xs : List Dt} : B a = some (.tup l) → l.length ≤ sizeLine → DRs B l xs → DR B (.ref a) (.seq true xs)
  | lst {a : Addr} {l : List V} {xs : List Dt} : B a = some (.lst l) → l.length ≤ sizeLine → DRs B l xs → DR B (.ref a) (.seq false xs)
inductive DRs (B : Hp) : List V → List Dt → Prop
  | nil : DRs B [] []
  | cons {v : V} {vs : List V} {x : Dt} {xs : List Dt} : DR B v x → DRs B vs xs → DRs B (v :: vs) (x :: xs)
end
mutual
theorem DR.mono {B B' : Hp} (m : Le B B') : ∀ {v : V} {x : Dt}, DR B v x → DR B' v x
  | _, _, .non => .non
  | _, _, .int i => .int i
  | _, _, .str i => .str i
  | _, _, .tup h1 h2 h3 => .tup (m.tup h1) h2 (DRs.mono m h3)
  | _, _, .lst h1 h2 h3 => .lst (m.lst h1) h2 (DRs.mono m h3)
theorem DRs.mono {B B' : Hp} (m : Le B B') : ∀ {vs : List V} {xs : List Dt}, DRs B vs xs → DRs B' vs xs
  | _, _, .nil => .nil
  | _, _, .cons h t => .cons (DR.mono m h) (DRs.mono m t)
end
instance : Rp Dt := ⟨fun B v x => DR B v x, fun m h => DR.mono m h⟩
theorem DRs.rs {B : Hp} : ∀ {vs : List V} {xs : List Dt}, DRs B vs xs → Rs B vs xs
  | _, _, .nil => .nil
  | _, _, .cons h t => .cons h (DRs.rs t)
theorem DRs.of {B : Hp} : ∀ {vs : List V} {xs : List Dt}, Rs B vs xs → DRs B vs xs
  | _, _, .nil => .nil
  | _, _, .cons h t => .cons h (DRs.of t)
namespace Dt
mutual
def dat : Dt → PyData
  | .non => .none
  | .int i => .int i
  | .str s => .str s
  | .seq true l => .tuple (dats l)
  | .seq false l => .list (dats l)
def dats : List Dt → List PyData
  | [] => []
  | x :: r => dat x :: dats r
end
mutual
theorem eqv_iff : ∀ x y : Dt, PyData.eqv (dat x) (dat y) = true ↔ x = y
  | .non, .non => by simp [dat, PyData.eqv]
  | .non, .int _ => by simp [dat, PyData.eqv]
  | .non, .str _ => by simp [dat, PyData.eqv]
  | .non, .seq true _ => by simp [dat, PyData.eqv]
  | .non, .seq false _ => by simp [dat, PyData.eqv]
  | .int _, .non => by simp [dat, PyData.eqv]
  | .int _, .int _ => by simp [dat, PyData.eqv]
  | .int _, .str _ => by simp [dat, PyData.eqv]
  | .int _, .seq true _ => by simp [dat, PyData.eqv]
  | .int _, .seq false _ => by simp [dat, PyData.eqv]
  | .str _, .non => by simp [dat, PyData.eqv]
  | .str _, .int _ => by simp [dat, PyData.eqv]
  | .str _, .str _ => by simp [dat, PyData.eqv]
  | .str _, .seq true _ => by simp [dat, PyData.eqv]
  | .str _, .seq false _ => by simp [dat, PyData.eqv]
  | .seq true _, .non => by simp [dat, PyData.eqv]
  | .seq true _, .int _ => by simp [dat, PyData.eqv]
  | .seq true _, .str _ => by simp [dat, PyData.eqv]
  | .seq true l, .seq true k => by rw [dat, dat, PyData.eqv, eqvs_iff l k]; simp
  | .seq true _, .seq false _ => by simp [dat, PyData.eqv]
  | .seq false _, .non => by simp [dat, PyData.eqv]
  | .seq false _, .int _ => by simp [dat, PyData.eqv]
  | .seq false _, .str _ => by simp [dat, PyData.eqv]
  | .seq false _, .seq true _ => by simp [dat, PyData.eqv]
  | .seq false l, .seq false k => by rw [dat, dat, PyData.eqv, eqvs_iff l k]; simp
theorem eqvs_iff : ∀ xs ys : List Dt, PyData.eqvAll (dats xs) (dats ys) = true ↔ xs = ys
  | [], [] => by simp [dats, PyData.eqvAll]
  | [], _ :: _ => by simp [dats, PyData.eqvAll]
  | _ :: _, [] => by simp [dats, PyData.eqvAll]
  | x :: xs, y :: ys => by rw [dats, dats, PyData.eqvAll, Bool.and_eq_true, eqv_iff x y, eqvs_iff xs ys, List.cons.injEq]
end
instance : DecidableEq Dt := fun x y => decidable_of_iff _ (eqv_iff x y)
theorem dat_eqv (x y : Dt) : PyData.eqv (dat x) (dat y) = decide (x = y) := by
  rw [Bool.eq_iff_iff, eqv_iff, decide_eq_true_iff]
mutual
theorem dp {K : PySem.W.Frag} {B H : Hp} (m : Le B H) : ∀ {v : V} {x : Dt}, DR B v x → Dp K H v (dat x)
  | _, _, .non => .non
  | _, _, .int i => .int i
  | _, _, .str i => .str i
  | _, _, .tup h1 h2 h3 => .tup (SqT.of (m.tup h1)) (dps m h3)
  | _, _, .lst h1 h2 h3 => .lst (SqL.of (m.lst h1)) (dps m h3)
theorem dps {K : PySem.W.Frag} {B H : Hp} (m : Le B H) : ∀ {vs : List V} {xs : List Dt}, DRs B vs xs → DpAll K H vs (dats xs)
  | _, _, .nil => .nil
  | _, _, .cons h t => .cons (dp m h) (dps m t)
end
instance : Dat Dt := ⟨dat, fun l r => dp l r, dat_eqv⟩
def isNone : Dt → Bool
  | .non => true
  | _ => false
def isInt : Dt → Bool
  | .int _ => true
  | _ => false
def isStr : Dt → Bool
  | .str _ => true
  | _ => false
def isTup : Dt → Bool
  | .seq t _ => t
  | _ => false
def isLst : Dt → Bool
  | .seq t _ => !t
  | _ => false
def items? : Dt → Option (List Dt)
  | .seq _ l => some l
  | _ => none
section
variable {P : Program} {w : World} {K : PySem.W.Frag} {A : List Addr} {B0 H0 B H : Hp} {O : List (Addr × HO)} {v : V} {x : Dt} {Q : VK}
theorem none_ (r : Rp.R B v x) : decide (v = V.non) = x.isNone := by
  cases (show DR B v x from r) <;> rfl
theorem isB (W : Ws A B0 H0 B H O) (r : Rp.R B v x) (k : Q (.bl false) H) : rIsi K [v, .ty "bool"] H Q := by
  cases (show DR B v x from r) with
  | non => exact isi_ (b := false) (.base .non) (t := "NoneType") (by decide +kernel) k
  | int i => exact isi_ (b := false) ty_int (by decide +kernel) k
  | str i => exact isi_ (b := false) ty_str (by decide +kernel) k
  | tup h1 h2 h3 => exact isi_ (b := false) (.base (.tup (W.le.tup h1))) (t := "tuple") (by decide +kernel) k
  | lst h1 h2 h3 => exact isi_ (b := false) (.base (.lst (W.le.lst h1))) (t := "list") (by decide +kernel) k
theorem isT (W : Ws A B0 H0 B H O) (r : Rp.R B v x) (k : Q (.bl x.isTup) H) : rIsi K [v, .ty "tuple"] H Q := by
  cases (show DR B v x from r) with
  | non => exact isi_ (b := false) (.base .non) (t := "NoneType") (by decide +kernel) k
  | int i => exact isi_ (b := false) ty_int (by decide +kernel) k
  | str i => exact isi_ (b := false) ty_str (by decide +kernel) k
  | tup h1 h2 h3 => exact isi_ (b := true) (.base (.tup (W.le.tup h1))) (t := "tuple") (by decide +kernel) k
  | lst h1 h2 h3 => exact isi_ (b := false) (.base (.lst (W.le.lst h1))) (t := "list") (by decide +kernel) k
theorem len_ {xs : List Dt} (W : Ws A B0 H0 B H O) (r : Rp.R B v x) (e : x.items? = some xs) (k : Q (.int xs.length) H) : rdLen K [v] H Q := by
  cases (show DR B v x from r) with
  | non => cases e
  | int i => cases e
  | str i => cases e
  | tup h1 h2 h3 => cases e; exact ⟨_, _, rfl, .inr (SqT.of (W.le.tup h1)), by rw [h3.rs.len]; exact k⟩
  | lst h1 h2 h3 => cases e; exact ⟨_, _, rfl, .inl (SqL.of (W.le.lst h1)), by rw [h3.rs.len]; exact k⟩
theorem z_ {xs : List Dt} (r : Rp.R B v x) (e : x.items? = some xs) : ∃ a G m S, Zt P w K A H0 B v xs a G m S := by
  cases (show DR B v x from r) with
  | non => cases e
  | int i => cases e
  | str i => cases e
  | tup h1 h2 h3 => cases e; exact zV (t := TV.mk xs) ⟨_, _, rfl, h1, h2, h3.rs⟩
  | lst h1 h2 h3 => cases e; exact zL (xs := xs) ⟨_, _, rfl, h1, h2, h3.rs⟩
end
end Dt
class Dl (α : Type) [Rp α] where
  toD : α → Dt
  to_r : ∀ {B : Hp} {v : V} {x : α}, Rp.R B v x → Rp.R B v (toD x)
section
variable {α β γ δ : Type} [Rp α] [Rp β] [Rp γ] [Rp δ] [Dl α] [Dl β] [Dl γ] [Dl δ]
theorem Dl.all {B : Hp} : ∀ {vs : List V} {xs : List α}, Rs B vs xs → DRs B vs (xs.map Dl.toD)
  | _, _, .nil => .nil
  | _, _, .cons h t => .cons (Dl.to_r h) (Dl.all t)
instance : Dl Int := ⟨.int, fun r => by cases (show _ = V.int _ from r); exact DR.int _⟩
instance : Dl Str := ⟨.str, fun r => by cases (show _ = V.str _ from r); exact DR.str _⟩
instance : Dl Dt := ⟨id, fun r => r⟩
instance : Dl (Option α) := ⟨fun o => match o with
  | none => .non
  | some x => Dl.toD x, fun {_ _ o} r => by
  cases o with
  | none => cases (show _ = V.non from r); exact DR.non
  | some x => exact Dl.to_r (x := x) r⟩
instance : Dl (List α) := ⟨fun xs => .seq false (xs.map Dl.toD), fun r => by
  obtain ⟨a, l, rfl, h1, h2, h3⟩ := r
  exact DR.lst h1 h2 (Dl.all h3)⟩
instance : Dl (TV α) := ⟨fun t => .seq true (t.l.map Dl.toD), fun r => by
  obtain ⟨a, l, rfl, h1, h2, h3⟩ := r
  exact DR.tup h1 h2 (Dl.all h3)⟩
instance : Dl (α × β) := ⟨fun t => .seq true [Dl.toD t.1, Dl.toD t.2], fun r => by
  obtain ⟨a, u, w, rfl, h1, h2, h3⟩ := r
  exact DR.tup h1 (by show 2 ≤ sizeLine; decide) (.cons (Dl.to_r h2) (.cons (Dl.to_r h3) .nil))⟩
instance : Dl (T3 α β γ) := ⟨fun t => .seq true [Dl.toD t.a, Dl.toD t.b, Dl.toD t.c], fun r => by
  obtain ⟨a, u, w, z, rfl, h1, h2, h3, h4⟩ := r
  exact DR.tup h1 (by show 3 ≤ sizeLine; decide) (.cons (Dl.to_r h2) (.cons (Dl.to_r h3) (.cons (Dl.to_r h4) .nil)))⟩
instance : Dl (T4 α β γ δ) := ⟨fun t => .seq true [Dl.toD t.a, Dl.toD t.b, Dl.toD t.c, Dl.toD t.d], fun r => by
  obtain ⟨a, u, w, z, y, rfl, h1, h2, h3, h4, h5⟩ := r
  exact DR.tup h1 (by show 4 ≤ sizeLine; decide) (.cons (Dl.to_r h2) (.cons (Dl.to_r h3) (.cons (Dl.to_r h4) (.cons (Dl.to_r h5) .nil))))⟩
end
end Pv

namespace Pv
open PySem PySem.Spec PyProof.Rows L2
abbrev LK := L2.Key
section
variable {X : Cx}
end

abbrev kT {κ : Type} [Kp κ] (t : TV κ) : List LK := t.l.map Kp.k
theorem kT_inj {κ : Type} [Kp κ] {a b : TV κ} (h : kT a = kT b) : a = b := by
  have : a.l = b.l := List.map_inj_right (f := (Kp.k : κ → LK)) (fun x y e => Kp.inj _ _ e) |>.mp h
  cases a
  cases b
  exact congrArg TV.mk this
theorem kT_dec {κ : Type} [DecidableEq κ] [Kp κ] {a b : TV κ} : decide (kT a = kT b) = decide (a = b) := decide_eq_decide.mpr ⟨kT_inj, fun e => e ▸ rfl⟩
abbrev RT {κ α : Type} [Kp κ] [Rp α] (B : Hp) : List (List LK × V) → List (TV κ × α) → Prop := Paired fun p q => p.1 = kT q.1 ∧ Rp.R B p.2 q.2
section
variable {κ α : Type} [DecidableEq κ] [Kp κ] [Rp α] {B B' : Hp}
omit [DecidableEq κ] in
theorem RT.mono (l : Le B B') : ∀ {ks : List (List LK × V)} {xs : List (TV κ × α)}, RT B ks xs → RT B' ks xs
  | _, _, .nil => .nil
  | _, _, .cons h t => .cons ⟨h.1, Rp.mono l h.2⟩ (RT.mono l t)
omit [DecidableEq κ] in
theorem RT.len : ∀ {l : List (List LK × V)} {xs : List (TV κ × α)}, RT B l xs → l.length = xs.length
  | _, _, .nil => rfl
  | _, _, .cons _ t => congrArg (· + 1) (RT.len t)
theorem RT.get : ∀ {l : List (List LK × V)} {xs : List (TV κ × α)} (k : TV κ), RT B l xs →
    match (xs.find? fun p => decide (p.1 = k)).map (·.2) with
    | some x => ∃ v, valV l (kT k) = some v ∧ Rp.R B v x
    | none => valV l (kT k) = none
  | _, _, k, .nil => rfl
  | p :: l, q :: xs, k, .cons h t => by
    have ih := RT.get k t
    rw [List.find?_cons]
    by_cases e : q.1 = k
    · rw [decide_eq_true e]
      exact ⟨p.2, valV_pos (by rw [h.1, e]), h.2⟩
    · rw [decide_eq_false e]
      have ne : ¬ p.1 = kT k := fun z => e (kT_inj (h.1.symm.trans z))
      rw [valV_neg ne]
      exact ih
theorem RT.sm {l : List (List LK × V)} {d : Dc (TV κ) α} {k : TV κ} {x : α} (r : RT B l d.l) (h : d.get? k = some x) : ∃ v, valV l (kT k) = some v ∧ Rp.R B v x := by
  have := r.get k
  unfold Dc.get? at h
  rw [h] at this
  exact this
theorem RT.nn {l : List (List LK × V)} {d : Dc (TV κ) α} {k : TV κ} (r : RT B l d.l) (h : d.get? k = none) : valV l (kT k) = none := by
  have := r.get k
  unfold Dc.get? at h
  rw [h] at this
  exact this
theorem RT.has {l : List (List LK × V)} {d : Dc (TV κ) α} (r : RT B l d.l) (k : TV κ) : (valV l (kT k)).isSome = d.has k := by
  unfold Dc.has
  cases e : d.get? k with
  | none => rw [r.nn e]; rfl
  | some x => obtain ⟨v, h, _⟩ := r.sm e; rw [h]; rfl
theorem RT.app : ∀ {l m : List (List LK × V)} {xs ys : List (TV κ × α)}, RT B l xs → RT B m ys → RT B (l ++ m) (xs ++ ys)
  | _, _, _, _, .nil, s => s
  | _, _, _, _, .cons h t, s => .cons h (RT.app t s)
theorem RT.repl {k : TV κ} {v : V} {x : α} (hv : Rp.R B v x) : ∀ {l : List (List LK × V)} {xs : List (TV κ × α)}, RT B l xs → RT B (l.map fun kv => if kv.1 = kT k then (kv.1, v) else kv) (xs.map fun p => if p.1 = k then (p.1, x) else p)
  | _, _, .nil => .nil
  | p :: l, q :: xs, .cons h t => by
    rw [List.map_cons, List.map_cons]
    refine .cons ?_ (RT.repl hv t)
    by_cases e : q.1 = k
    · rw [if_pos e, if_pos (by rw [h.1, e])]
      exact ⟨h.1, hv⟩
    · rw [if_neg e, if_neg fun z => e (kT_inj (h.1.symm.trans z))]
      exact h
theorem RT.anyK {k : TV κ} : ∀ {l : List (List LK × V)} {xs : List (TV κ × α)}, RT B l xs → (l.any fun kv => decide (kv.1 = kT k)) = xs.any fun p => decide (p.1 = k)
  | _, _, .nil => rfl
  | p :: l, q :: xs, .cons h t => by rw [List.any_cons, List.any_cons, RT.anyK t, h.1, kT_dec]
theorem RT.put {k : TV κ} {v : V} {x : α} {l : List (List LK × V)} {d : Dc (TV κ) α} (hv : Rp.R B v x) (r : RT B l d.l) : RT B (putK l (kT k) v) (d.put k x).l := by
  unfold putK Dc.put
  rw [RT.anyK r]
  cases e : d.l.any fun p => decide (p.1 = k) with
  | true => rw [if_pos rfl, if_pos rfl]; exact RT.repl hv r
  | false => rw [if_neg Bool.false_ne_true, if_neg Bool.false_ne_true]; exact RT.app r (.cons ⟨rfl, hv⟩ .nil)
end
instance {κ α : Type} [Kp κ] [Rp α] : Rp (Dc (TV κ) α) := ⟨fun B v x => ∃ a l, v = .ref a ∧ DtA B a l ∧ l.length ≤ sizeLine ∧ RT B l x.l,
  fun m h => by obtain ⟨a, l, e, h1, h2, h3⟩ := h; exact ⟨a, l, e, h1.mono m, h2, h3.mono m⟩⟩
instance {κ α : Type} [Kp κ] [Rp α] : NN (Dc (TV κ) α) := ⟨fun h => by obtain ⟨a, l, rfl, _⟩ := h; exact fun z => by cases z⟩
structure Ot {κ α : Type} [Kp κ] [Rp α] (B : Hp) (l : List (List LK × V)) (d : Dc (TV κ) α) : Prop where
  len : l.length ≤ sizeLine
  rk : RT B l d.l
section
variable {κ α : Type} [DecidableEq κ] [Kp κ] [Rp κ] [Kv κ] [KvI κ] [Rp α] {K : PySem.W.Frag} {A : List Addr} {B0 H0 B H : Hp} {O : List (Addr × HO)} {Q : VK} {v u w : V} {d : Dc (TV κ) α} {x : α} {k : TV κ} {a : Addr} {l : List (List LK × V)} {σ : L2.St}
theorem Ot.mono {B' : Hp} (m : Le B B') (o : Ot B l d) : Ot B' l d := ⟨o.len, RT.mono m o.rk⟩
end
theorem Ot.tp {κ α : Type} [DecidableEq κ] [Kp κ] [Rp α] [Tp α] {B B' : Hp} {l : List (List LK × V)} {d : Dc (TV κ) α} (m : TpH B B') (o : Ot B l d) : Ot B' l d := by
  refine ⟨o.len, ?_⟩
  have go : ∀ {l : List (List LK × V)} {xs : List (TV κ × α)}, RT B l xs → RT B' l xs := by
    intro l xs h
    induction h with
    | nil => exact .nil
    | cons h t ih => exact .cons ⟨h.1, Tp.tp m h.2⟩ ih
  exact go o.rk
mutual
def Dt.noList : Dt → Bool
  | .seq t l => t && Dt.noLists l
  | _ => true
def Dt.noLists : List Dt → Bool
  | [] => true
  | x :: r => Dt.noList x && Dt.noLists r
end
mutual
theorem DR.tp {B B' : Hp} (m : TpH B B') : ∀ {v : V} {x : Dt}, x.noList = true → DR B v x → DR B' v x
  | _, _, _, .non => .non
  | _, _, _, .int i => .int i
  | _, _, _, .str i => .str i
  | _, .seq true xs, h, .tup h1 h2 h3 => .tup (m _ _ h1) h2 (DRs.tp m (by rw [Dt.noList, Bool.true_and] at h; exact h) h3)
  | _, .seq false xs, h, .lst h1 h2 h3 => by rw [Dt.noList] at h; cases h
theorem DRs.tp {B B' : Hp} (m : TpH B B') : ∀ {vs : List V} {xs : List Dt}, Dt.noLists xs = true → DRs B vs xs → DRs B' vs xs
  | _, _, _, .nil => .nil
  | _, _, h, .cons h1 h2 => by
    rw [Dt.noLists, Bool.and_eq_true] at h
    exact .cons (DR.tp m h.1 h1) (DRs.tp m h.2 h2)
end
theorem Dt.tp {B B' : Hp} {v : V} {x : Dt} (m : TpH B B') (h : x.noList = true) (r : Rp.R B v x) : Rp.R B' v x := DR.tp m h r
end Pv

namespace Pv
open PySem PySem.Spec PyProof.Rows L2
section
variable {P : Program} {w : World} {K : PySem.W.Frag} {d : Addr} {o : Obj} {es : Array DictEntry} {ep : Nat}
end
section
variable {X : Cx} {e : Expr} {td : TE} {apos cpos : Pos}
end
section
variable {α : Type} [Rp α] {A : List Addr} {B0 H0 B H : Hp} {O : List (Addr × HO)} {d : Dc (TV Int) α}
theorem RT.at2 : ∀ {l : List (List LK × V)} {xs : List (TV Int × α)} {i : Nat} {p : TV Int × α}, RT B l xs → xs[i]? = some p → ∃ v, l[i]? = some (kT p.1, v) ∧ Rp.R B v p.2
  | _, _, i, p, .nil, h => by simp at h
  | _, _, 0, p, .cons (a := a) (b := b) h t, e => by
    have e : b = p := by simpa using e
    subst e
    exact ⟨a.2, by rw [← h.1]; rfl, h.2⟩
  | _, _, i + 1, p, .cons h t, e => by
    obtain ⟨v, h1, h2⟩ := RT.at2 (i := i) (p := p) t (by simpa using e)
    exact ⟨v, by simpa using h1, h2⟩
theorem Ws.out {O' : List (Addr × HO)} {B' H' : Hp} (W : Ws A B0 H0 B H O) (V : Ws (O.map (·.1)) B H B' H' O') : Ws A B0 H0 B' H' O' := by
  have := (show Ws A B0 H0 B H ([] ++ O ++ []) by rw [List.nil_append, List.append_nil]; exact W).back V
  rwa [List.nil_append, List.append_nil] at this
end
end Pv

namespace Pv
open PySem PySem.Spec PyProof.Rows L2
section
variable {P : Program} {w : World} {K : PySem.W.Frag} {A : List Addr} {B0 H0 B H : Hp} {O : List (Addr × HO)} {v : V} {Q : VK}
end
section
variable {A : List Addr} {B0 H0 B H : Hp} {O : List (Addr × HO)} {v w : V} {Q : VK} {d e : Dc Str Str}
end
def NewR (H0 : Hp) (v : V) : Prop := ∃ p, v = .ref p ∧ H0 p = none
@[reducible] def FrI (H0 : Hp) (α : Type) [Rp α] : Rp α := ⟨fun B v x => Rp.R B v x ∧ NewR H0 v, fun m h => ⟨Rp.mono m h.1, h.2⟩⟩
def RF2 {α : Type} [Rp α] (H0 B : Hp) (v : V) (xs : List (List α)) : Prop := ∃ a l, v = .ref a ∧ H0 a = none ∧ B a = some (.lst l) ∧ l.length ≤ sizeLine ∧
  Paired (fun w x => Rp.R B w x ∧ NewR H0 w ∧ w ≠ .ref a) l xs
theorem paired_imp {α β : Type} {r s : α → β → Prop} (h : ∀ a b, r a b → s a b) : ∀ {l : List α} {m : List β}, Paired r l m → Paired s l m
  | _, _, .nil => .nil
  | _, _, .cons a t => .cons (h _ _ a) (paired_imp h t)
theorem RF2.r {α : Type} [Rp α] {H0 B : Hp} {v : V} {xs : List (List α)} (h : RF2 H0 B v xs) : Rp.R B v xs := by
  obtain ⟨a, l, e, _, h1, h2, h3⟩ := h
  exact ⟨a, l, e, h1, h2, paired_imp (fun _ _ q => q.1) h3⟩
section
variable {α β : Type} [Rp α] [Rp β] {A : List Addr} {B0 H0 B H : Hp} {O : List (Addr × HO)} {σ : L2.St} {Q : VK} {g : TG} {te : TE} {vs : List Nat} {J : It} {xs : List α} {K : PySem.W.Frag} {v : V}
def Gb (A : List Addr) (B H0 H : Hp) (O : List (Addr × HO)) (m : Nat) (l : List V) : Prop := ∀ w ∈ l, ∃ p q, w = .ref p ∧ H p = some (.lst q) ∧ B p = none ∧ H0 p = none ∧ p ∉ O.map (·.1) ∧ q.length ≤ m
theorem Ws.grow {a : Addr} {ls : List V} (W : Ws A B0 H0 B H O) (ha : H a = some (.lst ls)) (hB : B a = none) (h0 : H0 a = none) (ho : a ∉ O.map (·.1)) : Ws A B0 H0 B H (O ++ [(a, .lst ls)]) := by
  refine ⟨W.le, fun c hc => ?_, ?_, W.bb, W.fr, W.al, W.no, fun c hc l e => ?_⟩
  · rcases List.mem_append.mp hc with h | h
    · exact W.own c h
    · cases List.mem_singleton.mp h
      exact ⟨ha, hB, .inr h0⟩
  · rw [List.map_append, List.nodup_append]
    refine ⟨W.nd, by simp, fun x hx y hy e => ?_⟩
    have : y = a := by simpa using hy
    exact ho (this ▸ e ▸ hx)
  · rcases List.mem_append.mp hc with h | h
    · exact W.nt c h l e
    · cases List.mem_singleton.mp h
      cases e
theorem paired_len {α β : Type} {r : α → β → Prop} : ∀ {l : List α} {m : List β}, Paired r l m → l.length = m.length
  | _, _, .nil => rfl
  | _, _, .cons _ t => congrArg (· + 1) (paired_len t)
theorem paired_mem {α β : Type} {r : α → β → Prop} {a : α} : ∀ {l : List α} {m : List β}, Paired r l m → a ∈ l → ∃ b, b ∈ m ∧ r a b
  | _, _, .cons h t, ha => by
    rcases List.mem_cons.mp ha with e | e
    · subst e; exact ⟨_, List.mem_cons_self, h⟩
    · obtain ⟨b, hb, q⟩ := paired_mem t e
      exact ⟨b, List.mem_cons_of_mem _ hb, q⟩
theorem Gb.upd {m : Nat} {l : List V} {p : Addr} {q : List V} (G : Gb A B H0 H O m l) (hq : q.length ≤ m + 1) : Gb A B H0 (upd H p (.lst q)) O (m + 1) l := fun w hw => by
  obtain ⟨p', q', e, h1, h2, h3, h4, h5⟩ := G w hw
  by_cases e2 : p' = p
  · subst e2
    exact ⟨p', q, e, upd_same, h2, h3, h4, hq⟩
  · exact ⟨p', q', e, by rw [upd_ne e2]; exact h1, h2, h3, h4, by omega⟩
end
end Pv

namespace Pv
open PySem PySem.Spec PyProof.Rows L2
namespace Dt
class Un (α : Type) [Rp α] where
  un : Dt → Option α
  un_r : ∀ {B : Hp} {v : V} {d : Dt} {x : α}, Rp.R B v d → un d = some x → Rp.R B v x
def int? : Dt → Option Int
  | .int i => some i
  | _ => none
def str? : Dt → Option Str
  | .str s => some s
  | _ => none
instance : Un Int := ⟨int?, fun {B v d x} r e => by
  cases d with
  | int i =>
    have e : i = x := Option.some.inj e
    subst e
    cases (show DR B v (.int i) from r)
    rfl
  | _ => cases e⟩
instance : Un Str := ⟨str?, fun {B v d x} r e => by
  cases d with
  | str i =>
    have e : i = x := Option.some.inj e
    subst e
    cases (show DR B v (.str i) from r)
    rfl
  | _ => cases e⟩
theorem un_all {α : Type} [Rp α] [Un α] {B : Hp} : ∀ {vs : List V} {ds : List Dt} {xs : List α}, Rs B vs ds → mapO Un.un ds = some xs → Rs B vs xs
  | _, [], xs, .nil, e => by cases (Option.some.inj e : [] = xs); exact .nil
  | _, d :: r, xs, .cons h t, e => by
    unfold mapO at e
    obtain ⟨y, hy, e⟩ := bs e
    obtain ⟨ys, hys, e⟩ := bs e
    cases (Option.some.inj e : y :: ys = xs)
    exact .cons (Un.un_r h hy) (un_all t hys)
def tv? {α : Type} [Rp α] [Un α] : Dt → Option (TV α)
  | .seq true l => bd (mapO Un.un l) fun xs => some ⟨xs⟩
  | _ => none
def lst? {α : Type} [Rp α] [Un α] : Dt → Option (List α)
  | .seq false l => mapO Un.un l
  | _ => none
instance {α : Type} [Rp α] [Un α] : Un (TV α) := ⟨tv?, fun {B v d x} r e => by
  cases d with
  | seq t l =>
    cases t with
    | true =>
      obtain ⟨xs, hx, e⟩ := bs (show bd (mapO Un.un l) (fun xs => some (TV.mk xs)) = some x from e)
      cases (Option.some.inj e : TV.mk xs = x)
      cases (show DR B v (.seq true l) from r) with
      | tup h1 h2 h3 => exact ⟨_, _, rfl, h1, h2, un_all h3.rs hx⟩
    | false => cases e
  | _ => cases e⟩
instance {α : Type} [Rp α] [Un α] : Un (List α) := ⟨lst?, fun {B v d x} r e => by
  cases d with
  | seq t l =>
    cases t with
    | false =>
      cases (show DR B v (.seq false l) from r) with
      | lst h1 h2 h3 => exact ⟨_, _, rfl, h1, h2, un_all h3.rs e⟩
    | true => cases e
  | _ => cases e⟩
end Dt
def NewL (H0 B : Hp) (v : V) : Prop := ∃ a us p l, v = .ref a ∧ B a = some (.tup (us ++ [.ref p])) ∧ H0 p = none ∧ B p = some (.lst l) ∧ l.length < sizeLine
def RFl {α : Type} [Rp α] (H0 B : Hp) (v : V) (d : α) : Prop := Rp.R B v d ∧ NewL H0 B v
section
variable {α β γ : Type} [Rp α] [Rp β] [Rp γ] {A : List Addr} {B0 H0 B H : Hp} {O : List (Addr × HO)} {Q : VK} {v w z : V} {K : PySem.W.Frag}
theorem NewL.old {B' : Hp} (W : Ws A B0 H0 B H O) (n : NewL H B' v) : NewL H0 B' v := by
  obtain ⟨a, us, p, l, e, h1, h2, h3, h4⟩ := n
  exact ⟨a, us, p, l, e, h1, W.old h2, h3, h4⟩
theorem NewL.mono {B' : Hp} (m : Le B B') (n : NewL H0 B v) : NewL H0 B' v := by
  obtain ⟨a, us, p, l, e, h1, h2, h3, h4⟩ := n
  exact ⟨a, us, p, l, e, m.tup h1, h2, m.lst h3, h4⟩
end
end Pv

namespace Pv
open PySem PySem.Spec PyProof.Rows L2
inductive Dx where
  | non
  | int (i : Int)
  | str (s : Str)
  | seq (t : Bool) (l : List Dx)
  | dic (ks : List Str) (l : List Dx)
mutual
inductive XR (B : Hp) : V → Dx → Prop
  | non : XR B .non .non
  | int (i : Int) : XR B (.int i) (.int i)
  | str (s : Str) : XR B (.str s) (.str s)
  | tup {a : Addr} {l : List V} {xs : List Dx} : B a = some (.tup l) → l.length ≤ sizeLine → XRs B l xs → XR B (.ref a) (.seq true xs)
  | lst {a : Addr} {l : List V} {xs : List Dx} : B a = some (.lst l) → l.length ≤ sizeLine → XRs B l xs → XR B (.ref a) (.seq false xs)
  | dic {a : Addr} {l : List (Key × V)} {ks : List Str} {xs : List Dx} : DkA B a l → l.length ≤ sizeLine → l.map (·.1) = ks.map Sum.inr → XRs B (l.map (·.2)) xs → XR B (.ref a) (.dic ks xs)
inductive XRs (B : Hp) : List V → List Dx → Prop
  | nil : XRs B [] []
  | cons {v : V} {vs : List V} {x : Dx} {xs : List Dx} : XR B v x → XRs B vs xs → XRs B (v :: vs) (x :: xs)
end
mutual
theorem XR.mono {B B' : Hp} (m : Le B B') : ∀ {v : V} {x : Dx}, XR B v x → XR B' v x
  | _, _, .non => .non
  | _, _, .int i => .int i
  | _, _, .str i => .str i
  | _, _, .tup h1 h2 h3 => .tup (m.tup h1) h2 (XRs.mono m h3)
  | _, _, .lst h1 h2 h3 => .lst (m.lst h1) h2 (XRs.mono m h3)
  | _, _, .dic h1 h2 h3 h4 => .dic (h1.mono m) h2 h3 (XRs.mono m h4)
theorem XRs.mono {B B' : Hp} (m : Le B B') : ∀ {vs : List V} {xs : List Dx}, XRs B vs xs → XRs B' vs xs
  | _, _, .nil => .nil
  | _, _, .cons h t => .cons (XR.mono m h) (XRs.mono m t)
end
instance : Rp Dx := ⟨fun B v x => XR B v x, fun m h => XR.mono m h⟩
theorem XRs.rs {B : Hp} : ∀ {vs : List V} {xs : List Dx}, XRs B vs xs → Rs B vs xs
  | _, _, .nil => .nil
  | _, _, .cons h t => .cons h (XRs.rs t)
theorem XRs.of {B : Hp} : ∀ {vs : List V} {xs : List Dx}, Rs B vs xs → XRs B vs xs
  | _, _, .nil => .nil
  | _, _, .cons h t => .cons h (XRs.of t)
namespace Dx
def isNone : Dx → Bool
  | .non => true
  | _ => false
def isInt : Dx → Bool
  | .int _ => true
  | _ => false
def isStr : Dx → Bool
  | .str _ => true
  | _ => false
def isTup : Dx → Bool
  | .seq t _ => t
  | _ => false
def isLst : Dx → Bool
  | .seq t _ => !t
  | _ => false
def items? : Dx → Option (List Dx)
  | .seq _ l => some l
  | _ => none
def kd : Dx → String
  | .non => "NoneType"
  | .int _ => "int"
  | .str _ => "str"
  | .seq true _ => "tuple"
  | .seq false _ => "list"
  | .dic _ _ => "dict"
def dic? : Dx → Option (Dc Str Dx)
  | .dic ks l => if ks.length = l.length then some ⟨ks.zip l⟩ else none
  | _ => none
def eqS? : Dx → Dx → Option Bool
  | .int a, .int b => some (decide (a = b))
  | .str a, .str b => some (decide (a = b))
  | _, _ => none
section
variable {P : Program} {w : World} {K : PySem.W.Frag} {A : List Addr} {B0 H0 B H : Hp} {O : List (Addr × HO)} {v u : V} {x y : Dx} {Q : VK}
theorem none_ (r : Rp.R B v x) : decide (v = V.non) = x.isNone := by
  cases (show XR B v x from r) <;> rfl
theorem ty (W : Ws A B0 H0 B H O) (r : Rp.R B v x) : TyX K H v (.type x.kd) := by
  cases (show XR B v x from r) with
  | non => exact .base .non
  | int i => exact ty_int
  | str i => exact ty_str
  | tup h1 h2 h3 => exact .base (.tup (W.le.tup h1))
  | lst h1 h2 h3 => exact .base (.lst (W.le.lst h1))
  | dic h1 h2 h3 h4 =>
    rcases (h1.mono W.le).rd with h | ⟨o, h⟩
    · exact .base (.dK h)
    · exact .fDict h
theorem len_ {xs : List Dx} (W : Ws A B0 H0 B H O) (r : Rp.R B v x) (e : x.items? = some xs) (k : Q (.int xs.length) H) : rdLen K [v] H Q := by
  cases (show XR B v x from r) with
  | tup h1 h2 h3 => cases (Option.some.inj e); exact ⟨_, _, rfl, .inr (SqT.of (W.le.tup h1)), by rw [h3.rs.len]; exact k⟩
  | lst h1 h2 h3 => cases (Option.some.inj e); exact ⟨_, _, rfl, .inl (SqL.of (W.le.lst h1)), by rw [h3.rs.len]; exact k⟩
  | non => cases e
  | int _ => cases e
  | str _ => cases e
  | dic _ _ _ _ => cases e
theorem z_ {xs : List Dx} (r : Rp.R B v x) (e : x.items? = some xs) : ∃ a G m S, Zt P w K A H0 B v xs a G m S := by
  cases (show XR B v x from r) with
  | tup h1 h2 h3 => cases e; exact zV (t := TV.mk xs) ⟨_, _, rfl, h1, h2, h3.rs⟩
  | lst h1 h2 h3 => cases e; exact zL (xs := xs) ⟨_, _, rfl, h1, h2, h3.rs⟩
  | non => cases e
  | int _ => cases e
  | str _ => cases e
  | dic _ _ _ _ => cases e
theorem rk_of {B : Hp} : ∀ {l : List (Key × V)} {ks : List Str} {xs : List Dx}, l.map (·.1) = ks.map Sum.inr → XRs B (l.map (·.2)) xs → RK B l (ks.zip xs)
  | [], [], _, _, _ => .nil
  | [], _ :: _, _, h, _ => by cases h
  | _ :: _, [], _, h, _ => by cases h
  | p :: r, k :: ks, xs, h, hx => by
    rw [List.map_cons, List.map_cons, List.cons.injEq] at h
    rw [List.map_cons] at hx
    cases hx with
    | cons h1 h2 => exact .cons ⟨h.1, h1⟩ (rk_of h.2 h2)
theorem dic_r {d : Dc Str Dx} (r : Rp.R B v x) (e : x.dic? = some d) : Rp.R B v d := by
  cases (show XR B v x from r) with
  | dic h1 h2 h3 h4 =>
    rename_i a l ks xs
    have e : (if ks.length = xs.length then some (Dc.mk (ks.zip xs)) else none) = some d := e
    by_cases c : ks.length = xs.length
    · rw [if_pos c] at e
      cases (Option.some.inj e)
      exact ⟨a, l, rfl, h1, h2, rk_of h3 h4⟩
    · rw [if_neg c] at e
      cases e
  | tup _ _ _ => cases e
  | lst _ _ _ => cases e
  | non => cases e
  | int _ => cases e
  | str _ => cases e
theorem eqS_ {b : Bool} (r : Rp.R B v x) (r2 : Rp.R B u y) (e : eqS? x y = some b) (k : Q (.bl b) H) : rEq v u H Q := by
  cases (show XR B v x from r) with
  | int i =>
    cases (show XR B u y from r2) with
    | int j => cases (Option.some.inj e); exact eqI_ k
    | _ => cases e
  | str i =>
    cases (show XR B u y from r2) with
    | str j => cases (Option.some.inj e); exact Pv.eqS_ k
    | _ => cases e
  | _ => cases e
end
end Dx
class Xl (α : Type) [Rp α] where
  toX : α → Dx
  to_r : ∀ {B : Hp} {v : V} {x : α}, Rp.R B v x → Rp.R B v (toX x)
section
variable {α β γ δ : Type} [Rp α] [Rp β] [Rp γ] [Rp δ] [Xl α] [Xl β] [Xl γ] [Xl δ]
theorem Xl.all {B : Hp} : ∀ {vs : List V} {xs : List α}, Rs B vs xs → XRs B vs (xs.map Xl.toX)
  | _, _, .nil => .nil
  | _, _, .cons h t => .cons (Xl.to_r h) (Xl.all t)
instance : Xl Int := ⟨.int, fun r => by cases (show _ = V.int _ from r); exact XR.int _⟩
instance : Xl Str := ⟨.str, fun r => by cases (show _ = V.str _ from r); exact XR.str _⟩
instance : Xl Dx := ⟨id, fun r => r⟩
instance : Xl (Option α) := ⟨fun o => match o with
  | none => .non
  | some x => Xl.toX x, fun {B v o} r => by
  cases o with
  | none => cases (show v = V.non from r); exact XR.non
  | some x => exact Xl.to_r (show Rp.R B v x from r)⟩
instance : Xl (List α) := ⟨fun xs => .seq false (xs.map Xl.toX), fun r => by
  obtain ⟨a, l, rfl, h1, h2, h3⟩ := r
  exact XR.lst h1 h2 (Xl.all h3)⟩
instance : Xl (TV α) := ⟨fun t => .seq true (t.l.map Xl.toX), fun r => by
  obtain ⟨a, l, rfl, h1, h2, h3⟩ := r
  exact XR.tup h1 h2 (Xl.all h3)⟩
instance : Xl (α × β) := ⟨fun t => .seq true [Xl.toX t.1, Xl.toX t.2], fun r => by
  obtain ⟨a, u, w, rfl, h1, h2, h3⟩ := r
  exact XR.tup h1 (by show 2 ≤ sizeLine; decide) (.cons (Xl.to_r h2) (.cons (Xl.to_r h3) .nil))⟩
instance : Xl (T3 α β γ) := ⟨fun t => .seq true [Xl.toX t.a, Xl.toX t.b, Xl.toX t.c], fun r => by
  obtain ⟨a, u, w, z, rfl, h1, h2, h3, h4⟩ := r
  exact XR.tup h1 (by show 3 ≤ sizeLine; decide) (.cons (Xl.to_r h2) (.cons (Xl.to_r h3) (.cons (Xl.to_r h4) .nil)))⟩
theorem xk_keys {B : Hp} : ∀ {l : List (Key × V)} {xs : List (Str × α)}, RK B l xs → l.map (·.1) = (xs.map (·.1)).map Sum.inr ∧ XRs B (l.map (·.2)) (xs.map fun p => Xl.toX p.2)
  | _, _, .nil => ⟨rfl, .nil⟩
  | _, _, .cons h t => by
    obtain ⟨e, k⟩ := xk_keys t
    exact ⟨by rw [List.map_cons, List.map_cons, List.map_cons, e, h.1]; rfl, .cons (Xl.to_r h.2) k⟩
instance : Xl (Dc Str α) := ⟨fun d => .dic (d.l.map (·.1)) (d.l.map fun p => Xl.toX p.2), fun r => by
  obtain ⟨a, l, rfl, h1, h2, h3⟩ := r
  obtain ⟨e, k⟩ := xk_keys h3
  exact XR.dic h1 h2 e k⟩
end
end Pv

namespace PvLz
open PySem PySem.Spec PyProof.Rows L2
def Zat (h : Heap) (z TI TO i1 i2 l1 l2 L : Addr) (i : Nat) : Prop :=
  IsPair h TI (.ref i1) (.ref i2) ∧ h.IsListIter i1 l1 i ∧ h.IsListIter i2 l2 i ∧
    ((i = 0 ∧ IsZip h z TI TO .none ∧ ∃ a b, IsPair h TO a b) ∨ ∃ T f o, IsZipHeld h z TI TO T f ∧ h.get? T = some o ∧ T ≠ z ∧ T ≠ i1 ∧ T ≠ i2 ∧ T ≠ L)
theorem Zat.mv {h h' : Heap} {z TI TO i1 i2 l1 l2 L : Addr} {i : Nat} (q : Zat h z TI TO i1 i2 l1 l2 L i) (hk : ∀ b o, b ≠ L → h.get? b = some o → h'.get? b = some o) (nz : z ≠ L) (nI : TI ≠ L) (nO : TO ≠ L) (n1 : i1 ≠ L) (n2 : i2 ≠ L) : Zat h' z TI TO i1 i2 l1 l2 L i := by
  obtain ⟨q1, q2, q3, q4⟩ := q
  refine ⟨hk _ _ nI q1, q2.at fun o e => hk _ o n1 e, q3.at fun o e => hk _ o n2 e, ?_⟩
  rcases q4 with ⟨e, q4, a, b, q5⟩ | ⟨T, f, o, q4, q5, t1, t2, t3, t4⟩
  · exact .inl ⟨e, hk _ _ nz q4, a, b, hk _ _ nO q5⟩
  · exact .inr ⟨T, f, o, hk _ _ nz q4, hk _ _ t4 q5, t1, t2, t3, t4⟩
section
variable {prog : Program} {w : World} {A : Around} {E : Value → Shared → Prop} {s : Shared} {z TI TO i1 i2 l1 l2 L : Addr} {xs ys : Array Value}
end
def putP : Hp → List Addr → List (V × V) → Hp
  | H, a :: as, p :: ps => putP (upd H a (.tup [p.1, p.2])) as ps
  | H, _, _ => H
theorem putP_off {b : Addr} : ∀ (as : List Addr) (ps : List (V × V)) (H : Hp), b ∉ as → putP H as ps b = H b
  | [], _, _, _ => rfl
  | _ :: _, [], _, _ => rfl
  | a :: as, p :: ps, H, h => by
    unfold putP
    rw [putP_off as ps _ fun y => h (List.mem_cons_of_mem _ y), upd_ne fun y => h (by rw [y]; exact List.mem_cons_self)]
theorem putP_at : ∀ (as : List Addr) (ps : List (V × V)) (H : Hp), as.length = ps.length → as.Nodup → Paired (fun (t : Addr) (p : V × V) => putP H as ps t = some (.tup [p.1, p.2])) as ps
  | [], [], _, _, _ => .nil
  | [], _ :: _, _, h, _ => nomatch h
  | _ :: _, [], _, h, _ => nomatch h
  | a :: as, p :: ps, H, h, hn => by
    obtain ⟨n1, n2⟩ := List.nodup_cons.mp hn
    refine .cons ?_ (putP_at as ps (upd H a (.tup [p.1, p.2])) (Nat.succ.inj h) n2)
    unfold putP
    rw [putP_off as ps _ n1, upd_same]
section
variable {X : Cx}
end
open Pv
section
variable {A : List Addr} {B0 H0 B H H' : Hp} {O : List (Addr × HO)}
theorem grow (W : Ws A B0 H0 B H O) (hk : ∀ b o, H b = some o → H' b = some o) : Ws A B0 H0 B H' O :=
  ⟨fun a o e => by obtain ⟨u, e1, e2⟩ := W.le a o e; exact ⟨u, hk _ _ e1, e2⟩, fun p hp => ⟨hk _ _ (W.own p hp).1, (W.own p hp).2⟩, W.nd, W.bb, fun a o e n => hk _ _ (W.fr a o e n), fun a o e => by obtain ⟨u, e1⟩ := W.al a o e; exact ⟨u, hk _ _ e1⟩, W.no, W.nt⟩
theorem tells : ∀ {ts : List Addr} {prs : List (V × V)} {B : Hp}, Ws A B0 H0 B H O → Paired (fun (t : Addr) (q : V × V) => H t = some (.tup [q.1, q.2])) ts prs → ∃ B', Ws A B0 H0 B' H O ∧ Le B B' ∧ Paired (fun (t : Addr) (q : V × V) => B' t = some (.tup [q.1, q.2])) ts prs
  | _, _, B, W, .nil => ⟨B, W, Le.refl _, .nil⟩
  | _, _, B, W, .cons h t => by
    obtain ⟨B1, W1, l1, e1⟩ := W.tell h
    obtain ⟨B2, W2, l2, e2⟩ := tells W1 t
    exact ⟨B2, W2, l1.tr l2, .cons (l2.tup e1) e2⟩
variable {α β : Type} [Rp α] [Rp β]
end
end PvLz
namespace Pv
open PySem L2
section
variable {A : List Addr} {B0 H0 B H : Hp} {O : List (Addr × HO)} {Q : VK} {a : Addr} {l : List (Key × V)} {fs : List (Str × V)} {k : Str} {v v0 : V}
end
end Pv
namespace Pv
open PySem L2
mutual
def Dt.flat : Dt → Bool
  | .seq t l => t && Dt.flats l
  | _ => true
def Dt.flats : List Dt → Bool
  | [] => true
  | d :: r => Dt.flat d && Dt.flats r
end
mutual
theorem DR.tpF {B B2 : Hp} (m : TpH B B2) : ∀ {v : V} {x : Dt}, DR B v x → Dt.flat x = true → DR B2 v x
  | _, _, .non, _ => .non
  | _, _, .int i, _ => .int i
  | _, _, .str s, _ => .str s
  | _, _, .tup h1 h2 h3, f => .tup (m _ _ h1) h2 (DRs.tpF m h3 (by unfold Dt.flat at f; simpa using f))
  | _, _, .lst h1 h2 h3, f => by unfold Dt.flat at f; simp at f
theorem DRs.tpF {B B2 : Hp} (m : TpH B B2) : ∀ {vs : List V} {xs : List Dt}, DRs B vs xs → Dt.flats xs = true → DRs B2 vs xs
  | _, _, .nil, _ => .nil
  | _, _, .cons h t, f => by
    unfold Dt.flats at f
    obtain ⟨f1, f2⟩ := Bool.and_eq_true_iff.mp f
    exact .cons (DR.tpF m h f1) (DRs.tpF m t f2)
end
theorem DRs.app {B : Hp} : ∀ {vs ws : List V} {xs ys : List Dt}, DRs B vs xs → DRs B ws ys → DRs B (vs ++ ws) (xs ++ ys)
  | _, _, _, _, .nil, s => s
  | _, _, _, _, .cons h t, s => .cons h (DRs.app t s)
theorem DRs.rev {B : Hp} : ∀ {vs : List V} {xs : List Dt}, DRs B vs xs → DRs B vs.reverse xs.reverse
  | _, _, .nil => .nil
  | _, _, .cons h t => by rw [List.reverse_cons, List.reverse_cons]; exact DRs.app (DRs.rev t) (.cons h .nil)
theorem DRs.len {B : Hp} : ∀ {vs : List V} {xs : List Dt}, DRs B vs xs → vs.length = xs.length
  | _, _, .nil => rfl
  | _, _, .cons _ t => congrArg (· + 1) (DRs.len t)
theorem DRs.part {B : Hp} : ∀ {us vs : List V} {xs ys : List Dt}, us.length = xs.length → DRs B (us ++ vs) (xs ++ ys) → DRs B us xs ∧ DRs B vs ys
  | [], _, [], _, _, h => ⟨.nil, h⟩
  | _ :: _, _, [], _, e, _ => nomatch e
  | [], _, _ :: _, _, e, _ => nomatch e
  | _ :: us, _, _ :: xs, _, e, .cons h t => by
    obtain ⟨h1, h2⟩ := DRs.part (Nat.succ.inj e) t
    exact ⟨.cons h h1, h2⟩
section
variable {A : List Addr} {B0 H0 B H : Hp} {O : List (Addr × HO)} {Q : VK} {v : V} {K : PySem.W.Frag}
end
end Pv

namespace PySem
open Builtin Builtin.Str
def Txt.rep (n : Nat) (x y z : Str) : Str := if ((occurrences x y 0 x.length n).isEmpty || (y.length == 0 && z.length == 0)) = true then x else glued z (partsBetween x (occurrences x y 0 x.length n) y.length)
end PySem
namespace PySem
end PySem
namespace PvTk
open PySem PySem.Spec PyProof.Rows L2 CwR
section
open Builtin Builtin.Str
end
section
variable {X : Cx} {o e f : Expr} {te tf : TE} {to : TE} {y z : Str} {j k l n : Nat} {c0 c1 c2 apos pos p p' : Pos}
end
def PTT (X : Cx) (e : Expr) (t : TT) : Prop := ∀ (pins : List (Addr × Obj)) (s : Shared) (σ : L2.St) (H : Hp) (Q : Bool → Hp → Prop), 1 ≤ s.toks → Inv X pins σ H s → t σ H Q → wpAny (model X.prog X.w) X.A (isTrue e X.env (eval e X.env)) (TP X pins σ Q) X.xe s
def PWT (X : Cx) (e : Expr) (t : TT) : Prop := ∀ (whole : Sem Value) (pins : List (Addr × Obj)) (s : Shared) (σ : L2.St) (H : Hp) (Q : Bool → Hp → Prop), 1 ≤ s.toks → Inv X pins σ H s → t σ H Q → wpAny (model X.prog X.w) X.A (isTrue e X.env whole) (TP X pins σ Q) X.xe s
section
variable {X : Cx} {a b c e f o : Expr} {rest es : List Expr} {ta tb te tf to : TE} {tA tB' tc : TT} {t u tb' : TS} {ar : TA} {pos : Pos}
theorem PTT.of (h : PT X e tA) : PTT X e tA := fun pins s σ H Q _ I q => h.run pins s σ H Q I q
theorem PWT.of (h : PW X e tA) : PWT X e tA := fun wh pins s σ H Q _ I q => h.run wh pins s σ H Q I q
theorem PWT.pt (h : PWT X e tA) : PTT X e tA := fun pins s σ H Q k I q => h _ pins s σ H Q k I q
theorem up {α : Type} {tr : Sem α} {Q Q' : α → Shared → Prop} {M : Model} {A : Around} {E : Value → Shared → Prop} {s : Shared} (k : 1 ≤ s.toks) (h : wpAny M A tr Q E s) (hQ : ∀ a s', 1 ≤ s'.toks → Q a s' → Q' a s') : wpAny M A tr Q' E s :=
  wpAny_mono (PySem.wpAny_toks h) (fun a s' q => hQ a s' (Nat.le_trans k q.1) q.2) fun _ _ q => q.2
theorem pst_setT {i : Nat} {x : Str} {pos' : Pos} (hN : X.N.Nodup) (hi : X.N[i]? = some x) (hx : Loc X.env.scope x) (he : PET X e te) (hs : swapsWith e (some (.Name x pos')) pos.line X.env = pure false := by rfl)
    (hf : X.fn x = true ∨ X.env.scope.names.lookup x = some .local := by first | exact .inl rfl | exact .inr rfl | assumption) : PST X (.Assign [.Name x pos'] e pos) (tAsg te (gName i)) := by
  intro pins s σ H D k I h
  exact wpAny_Assign_Name (thn (he pins s σ H _ k I h) fun v s1 ⟨y, H1, I1, r1, q1⟩ => store_ok I1 hN hi hx r1 (fun s2 I2 => ⟨_, H1, I2, q1⟩) hf) hs
theorem pst_forT {tg iter : Expr} {body : List Stmt} {wi : TI} {g : TG} (hp : PassesOwn (model X.prog X.w) X.A X.env X.xe) (hc : X.calm = true) (hi : PI X tg iter wi) (hg : PG X tg g) (hb : PSsT X body tb')
    (hs : ∀ x, foldedSetIterable iter X.env x = pure x := by intro _; rfl) : PST X (.For tg iter body [] pos) (tFor wi g tb') := by
  intro pins s σ H D k I h
  refine wpAny_For (up k (hi.run pins s σ H _ I h) fun v s1 k1 h1 => up k1 h1 fun itv s2 k2 h2 => ?_) hs
  obtain ⟨it, fp, tn, J, H2, e, I2, T, st2, f2, W, ⟨m0, w0⟩, turn⟩ := h2
  subst e
  have stat : ∀ {H' : Hp}, (∀ b ∈ fp, H' b = none) → ∀ b ∈ fp, FpOk X pins H' b := fun hn b hb => ⟨hn b hb, (f2 b hb).2⟩
  refine codeAny_forLoop_any (fun n s' => 1 ≤ s'.toks ∧ ∃ i σ' H', Inv X pins σ' H' s' ∧ tn i s'.heap ∧ (∀ b ∈ fp, H' b = none) ∧ W i n σ' H') ?_ m0 ⟨k2, 0, σ, H2, I2, st2, fun b hb => (f2 b hb).1, w0⟩
  rintro n s3 ⟨k3, i, σ3, H3, I3, st3, fr3, w3⟩
  rcases turn i n σ3 H3 w3 with ⟨stop, qn⟩ | ⟨go, N, hN, step⟩
  · refine wpAny_passesOwn hp (thn (T.done X rfl rfl rfl hc i pins s3 σ3 H3 X.xe I3 (stat fr3) st3 stop) fun r s4 ⟨hr, I4⟩ => ?_)
    subst hr
    exact wpAny_execs_nil ⟨σ3, H3, I4, qn⟩
  · refine wpAny_passesOwn hp (up k3 (T.item X rfl rfl rfl hc i pins s3 σ3 H3 X.xe I3 (stat fr3) st3 go) fun r s4 k4 ⟨v4, hr, h4⟩ => ?_)
    subst hr
    refine wpAny_passesOwn hp (up k4 h4 fun _ s5 k5 ⟨x, H5, I5, r5, y5, st5, fr5⟩ => ?_)
    have J5 := I5.pinned (stat fr5) (T.obj _ _ st5)
    refine wpAny_passesOwn hp (up k5 (hg.run _ s5 σ3 H5 x v4 _ J5 r5 (step x H5 y5)) fun _ s6 k6 ⟨σ6, H6, I6, q6⟩ => ?_)
    refine wpAny_passesOwn hp (up k6 (hb _ s6 σ6 H6 _ k6 I6 q6) fun w7 s7 k7 q7 => ?_)
    have again : ∀ {σ7 : L2.St} {H7 : Hp}, Inv X (pins ++ pinsAt fp s5.heap) σ7 H7 s7 → N σ7 H7 → ∃ m, m < n ∧ 1 ≤ s7.toks ∧ ∃ i σ' H', Inv X pins σ' H' s7 ∧ tn i s7.heap ∧ (∀ b ∈ fp, H' b = none) ∧ W i m σ' H' := fun {σ7 H7} I7 n7 => by
      obtain ⟨m', hm, w7⟩ := hN σ7 H7 n7
      refine ⟨m', hm, k7, i + 1, σ7, H7, I7.unpinned, T.keep _ _ _ st5 fun b hb o e => (I7.pin (b, o) (List.mem_append_right _ (List.mem_append_right _ (mem_pinsAt hb e)))).1, fun b hb => ?_, w7⟩
      obtain ⟨o, e, d⟩ := T.obj _ _ st5 b hb
      exact (I7.pin (b, o) (List.mem_append_right _ (List.mem_append_right _ (mem_pinsAt hb e)))).2.1
    cases w7 with
    | next => obtain ⟨σ7, H7, I7, n7⟩ := q7; exact again I7 n7
    | cont => obtain ⟨σ7, H7, I7, n7⟩ := q7; exact again I7 n7
    | brk => obtain ⟨σ7, H7, I7, q7⟩ := q7; exact ⟨σ7, H7, I7.unpinned, q7⟩
    | ret v => obtain ⟨x7, σ7, H7, I7, r7, q7⟩ := q7; exact ⟨x7, σ7, H7, I7.unpinned, r7, q7⟩
end
section
variable {X : Cx} {K : PySem.W.Frag} {o e : Expr} {es : List Expr} {to : TE} {ar : TA}
end
end PvTk

namespace PySem
section
variable {prog : Program} {w : World} {K : Type} [DecidableEq K] {knd : KeyKind prog w K} {A : Around} {E : Value → Shared → Prop} {s : Shared}
end
end PySem
namespace Pv
open PySem PySem.Spec PyProof.Rows L2
section
variable {X : Cx} {pins : List (Addr × Obj)} {σ : L2.St} {H : Hp} {s : Shared} {a : Addr} {y d z : V} {u r : Value} {A : Around} {E : Value → Shared → Prop}
end
section
variable {X : Cx} {o e f : Expr} {apos cpos : Pos} {td ty tx : TE}
end
section
variable {td ty tx : TE} {σ : L2.St} {H : Hp} {Q : VK}
end
namespace Dc
variable {κ α : Type} [DecidableEq κ]
end Dc
section
variable {κ α : Type} [DecidableEq κ] [Kp κ] [Rp α] {A : List Addr} {B0 H0 B H : Hp} {O : List (Addr × HO)} {Q : VK} {v w : V} {d e : Dc κ α} {x z : α} {k : κ} {a : Addr} {l : List (Key × V)} {σ : L2.St}
theorem RK.mergeK : ∀ {m : List (Key × V)} {ys : List (κ × α)} {l : List (Key × V)} {d : Dc κ α}, RK B m ys → RK B l d.l → RK B (L2.mergeK l m) (ys.foldl (fun d p => d.put p.1 p.2) d).l
  | _, _, _, _, .nil, h => h
  | p :: m, q :: ys, l, d, .cons h t, k => by
    show RK B (L2.mergeK (putK l p.1 p.2) m) (ys.foldl _ (d.put q.1 q.2)).l
    rw [h.1]
    exact RK.mergeK t (RK.put h.2 k)
end
section
variable {κ α : Type} [DecidableEq κ] [Kp κ] [Rp κ] [Kv κ] [KvI κ] [Rp α] {A : List Addr} {B0 H0 B H : Hp} {O : List (Addr × HO)} {Q : VK} {v w u : V} {d e : Dc (TV κ) α} {x z : α} {k : TV κ} {a : Addr} {l : List (List LK × V)} {σ : L2.St}
end
section
variable {κ α : Type} [DecidableEq κ] [Kp κ] [Rp κ] [Kv κ] [Rp α] {A : List Addr} {B0 H0 B H : Hp} {O : List (Addr × HO)} {d : Dc κ α}
end
section
variable {A : List Addr} {B0 H0 B H : Hp} {O : List (Addr × HO)} {K : PySem.W.Frag} {σ : L2.St}
theorem Ws.more {p : Addr} {o : HO} (W : Ws A B0 H0 B H O) (h : H p = none) : Ws A B0 H0 B (upd H p o) O := by
  have ne : ∀ {b : Addr} {u : HO}, H b = some u → b ≠ p := fun e => ne_of_none e h
  exact ⟨fun a u e => let ⟨o', h1, h2⟩ := W.le a u e; ⟨o', by rw [upd_ne (ne h1)]; exact h1, h2⟩, fun q hq => ⟨by rw [upd_ne (ne (W.own q hq).1)]; exact (W.own q hq).1, (W.own q hq).2⟩, W.nd, W.bb,
    fun a u e n => by rw [upd_ne (ne (W.fr a u e n))]; exact W.fr a u e n, fun a u e => let ⟨o', h1⟩ := W.al a u e; ⟨o', by rw [upd_ne (ne h1)]; exact h1⟩, W.no, W.nt⟩
end
section
variable {α : Type} [Rp α] {A : List Addr} {B0 H0 B H : Hp} {O : List (Addr × HO)} {a : Addr} {l : List V} {xs ys : List α} {v : V} {Q : VK}
end
def Dc.opt {κ : Type} (d : Dc κ Str) : Dc κ (Option Str) := ⟨d.l.map fun p => (p.1, some p.2)⟩
theorem RK.opt {κ : Type} [Kp κ] {B : Hp} : ∀ {l : List (Key × V)} {xs : List (κ × Str)}, RK B l xs → RK (α := Option Str) B l (xs.map fun p => (p.1, some p.2))
  | _, _, .nil => .nil
  | _, _, .cons h t => .cons ⟨h.1, h.2⟩ (RK.opt t)
end Pv

namespace PvLi
open PySem PySem.Spec PyProof.Rows L2 LiI Pv
def RdLI (Q : VK) : V → Hp → Prop := fun x H => ∃ (d : Addr) (kvs : List (Key × V)), x = .ref d ∧ Rd H d (.dK kvs) ∧
  ∀ (H' : Hp) (p : Addr) (ts : List Addr), (∀ b o, H b = some o → H' b = some o) → H p = none → (∀ t ∈ ts, H t = none) → p ∉ ts → H' p = some (.lst (ts.map V.ref)) → Paired (fun (t : Addr) (q : Key × V) => H' t = some (.tup [kV q.1, q.2])) ts kvs → Q (.ref p) H'
def tLI (te : TE) : TE := fun σ H Q => te σ H (RdLI Q)
theorem litems_ {t : TE} {σ : L2.St} {H : Hp} {Q : VK} (h : t σ H (RdLI Q)) : tLI t σ H Q := h
end PvLi
namespace Pv
open PySem L2
section
variable {A : List Addr} {B0 H0 B H H' : Hp} {O : List (Addr × HO)} {p : Addr} {o : HO}
theorem Ws.ext (W : Ws A B0 H0 B H O) (e : ∀ b o, H b = some o → H' b = some o) : Ws A B0 H0 B H' O :=
  ⟨fun a u h => let ⟨o, h1, h2⟩ := W.le a u h; ⟨o, e _ _ h1, h2⟩, fun p hp => ⟨e _ _ (W.own p hp).1, (W.own p hp).2⟩, W.nd, W.bb, fun a o h n => e _ _ (W.fr a o h n), fun a o h => let ⟨o', h1⟩ := W.al a o h; ⟨o', e _ _ h1⟩, W.no, W.nt⟩
end
section
variable {κ α : Type} [DecidableEq κ] [Kp κ] [Rp κ] [Kv κ] [Rp α] {A : List Addr} {B0 H0 B H : Hp} {O : List (Addr × HO)} {d : Dc κ α} {Q : VK} {v : V} {a : Addr} {l : List (Key × V)}
end
end Pv

namespace PvSt
open PySem PySem.Calls PyProof.Rows PySem.W L2 PySem.Spec
section
variable {prog : Program} {w : World} {A : Around} {E : Value → Shared → Prop} {s : Shared}
end
end PvSt
namespace Pv
open PySem L2 PyProof.Rows PySem.W
section
variable {α : Type} [Rp α] [DecidableEq α] [Dat α] {K : PySem.W.Frag} {A : List Addr} {B0 H0 B H : Hp} {O : List (Addr × HO)} {Q : VK} {v : V} {t : TV α} {a : Addr} {l : List V}
end
end Pv

namespace Pv
open PySem PySem.Spec PyProof.Rows L2
section
variable {A : List Addr} {B0 H0 B H : Hp} {O : List (Addr × HO)} {v w : V} {Q : VK} {d e : Dc Str Str}
end
section
variable {α : Type} [Rp α] {K : PySem.W.Frag} {A : List Addr} {B0 H0 B H : Hp} {O : List (Addr × HO)} {v w : V} {Q : VK} {xs : List α} {a : Addr} {l : List V}
end
instance : Dat (Option Int) := ⟨fun o => match o with | none => .none | some i => .int i, fun {_ _ _ v x} _ r => by
  cases x with
  | none => cases (show v = .non from r); exact .non
  | some i => cases (show v = .int i from r); exact .int _, fun x y => by
  cases x <;> cases y
  · rfl
  · rfl
  · rfl
  · rename_i i j
    show PyData.eqv (.int i) (.int j) = _
    rw [PyData.eqv]
    by_cases h : i = j <;> simp [h]⟩
theorem Dat.two {α : Type} [Rp α] [DecidableEq α] [Dat α] {K : PySem.W.Frag} {B H : Hp} {u w : V} {x y : α} (l : Le B H) (r : Rp.R B u x) (r2 : Rp.R B w y) (e : x = y) (sh : shp x = true) : ∃ d, Dp K H u d ∧ Dp K H w d ∧ SeqAt.shaped d = true ∧ PyData.eqv d d = true := by
  subst e
  exact ⟨_, Dat.dp l r, Dat.dp l r2, sh, by rw [Dat.eqv]; exact decide_eq_true rfl⟩
end Pv

namespace PvTk
open PySem PySem.Spec PyProof.Rows L2 CwR
section
variable {X : Cx} {e : Expr} {es : List Expr} {te : TE} {ta : TA} {pos : Pos}
end
section
variable {X : Cx}
abbrev Bl (X : Cx) (sc : Scope) (st : Shared) (Hs : Hp) (C : Addr) (cl : List (Str × Addr)) (fp : List Addr) : Cx := X.blk st Hs sc (compEnvC sc cl C X.env) fp
end
end PvTk

namespace Pv
open PySem PySem.Spec PyProof.Rows L2
class Ux (α : Type) [Rp α] where
  un : Dx → Option α
  un_r : ∀ {B : Hp} {v : V} {d : Dx} {x : α}, Rp.R B v d → un d = some x → Rp.R B v x
instance : Ux Str := ⟨fun d => match d with | .str s => some s | _ => none, fun {B v d x} r e => by
  cases d with
  | str i =>
    have e : i = x := Option.some.inj e
    subst e
    cases (show XR B v (.str i) from r)
    rfl
  | _ => cases e⟩
instance : Ux Int := ⟨fun d => match d with | .int s => some s | _ => none, fun {B v d x} r e => by
  cases d with
  | int i =>
    have e : i = x := Option.some.inj e
    subst e
    cases (show XR B v (.int i) from r)
    rfl
  | _ => cases e⟩
instance : Ux (Option Int) := ⟨fun d => match d with | .non => some none | .int s => some (some s) | _ => none, fun {B v d x} r e => by
  cases d with
  | non =>
    have e : none = x := Option.some.inj e
    subst e
    cases (show XR B v .non from r)
    rfl
  | int i =>
    have e : some i = x := Option.some.inj e
    subst e
    cases (show XR B v (.int i) from r)
    rfl
  | _ => cases e⟩
section
variable {α β γ : Type} [Rp α] [Rp β] [Rp γ] [Ux α] [Ux β] [Ux γ]
theorem ux_all {B : Hp} : ∀ {vs : List V} {ds : List Dx} {xs : List α}, XRs B vs ds → mapO Ux.un ds = some xs → Rs B vs xs
  | _, [], xs, .nil, e => by cases (Option.some.inj e : [] = xs); exact .nil
  | _, d :: r, xs, .cons h t, e => by
    unfold mapO at e
    obtain ⟨y, hy, e⟩ := bs e
    obtain ⟨ys, hys, e⟩ := bs e
    cases (Option.some.inj e : y :: ys = xs)
    exact .cons (Ux.un_r h hy) (ux_all t hys)
instance : Ux (List α) := ⟨fun d => match d with | .seq false l => mapO Ux.un l | _ => none, fun {B v d x} r e => by
  cases d with
  | seq t l =>
    cases t with
    | false =>
      cases (show XR B v (.seq false l) from r) with
      | lst h1 h2 h3 => exact ⟨_, _, rfl, h1, h2, ux_all h3 e⟩
    | true => cases e
  | _ => cases e⟩
instance : Ux (T3 α β γ) := ⟨fun d => match d with | .seq true [a, b, c] => bd (Ux.un a) fun x => bd (Ux.un b) fun y => bd (Ux.un c) fun z => some (T3.mk x y z) | _ => none, fun {B v d x} r e => by
  match d, r, e with
  | .seq true [a, b, c], r, e =>
    obtain ⟨x1, e1, e⟩ := bs (show bd (Ux.un a) (fun x => bd (Ux.un b) fun y => bd (Ux.un c) fun z => some (T3.mk x y z)) = some x from e)
    obtain ⟨x2, e2, e⟩ := bs e
    obtain ⟨x3, e3, e⟩ := bs e
    cases (Option.some.inj e : T3.mk x1 x2 x3 = x)
    cases (show XR B v (.seq true [a, b, c]) from r) with
    | tup h1 h2 h3 =>
      cases h3 with
      | cons g1 t1 => cases t1 with
        | cons g2 t2 => cases t2 with
          | cons g3 t3 => cases t3; exact ⟨_, _, _, _, rfl, h1, Ux.un_r g1 e1, Ux.un_r g2 e2, Ux.un_r g3 e3⟩⟩
theorem ux_rk {B : Hp} : ∀ {l : List (Key × V)} {ds : List (Str × Dx)} {xs : List (Str × α)}, RK B l ds → mapO (fun p : Str × Dx => bd (Ux.un p.2) fun x => some (p.1, x)) ds = some xs → RK B l xs
  | _, [], xs, .nil, e => by cases (Option.some.inj e : [] = xs); exact .nil
  | _, d :: r, xs, .cons h t, e => by
    unfold mapO at e
    obtain ⟨y, hy, e⟩ := bs e
    obtain ⟨ys, hys, e⟩ := bs e
    obtain ⟨z, hz, hy⟩ := bs hy
    cases (Option.some.inj hy : (d.1, z) = y)
    cases (Option.some.inj e : (d.1, z) :: ys = xs)
    exact .cons ⟨h.1, Ux.un_r h.2 hz⟩ (ux_rk t hys)
instance : Ux (Dc Str α) := ⟨fun d => bd d.dic? fun D => bd (mapO (fun p : Str × Dx => bd (Ux.un p.2) fun x => some (p.1, x)) D.l) fun l => some ⟨l⟩, fun {B v d x} r e => by
  obtain ⟨D, e1, e⟩ := bs e
  obtain ⟨l, e2, e⟩ := bs e
  cases (Option.some.inj e : Dc.mk l = x)
  obtain ⟨a, l, rfl, h1, h2, h3⟩ := Dx.dic_r r e1
  exact ⟨a, l, rfl, h1, h2, ux_rk h3 e2⟩⟩
end
end Pv

namespace Pv
open PySem PySem.Spec PyProof.Rows L2
def rdMulZ : R2 := fun x y H Q => rdMulR x y H Q ∨ ∃ a n, x = .str a ∧ y = .int n ∧ n = 0 ∧ Q (.str (timesS a n)) H
theorem k_mulZ {X : Cx} : OpR X (binaryOp .Mult) rdMulZ := by
  intro pins s σ H x y v u Q I rx ry h
  rcases h with h | ⟨a, n, rfl, rfl, h1, q⟩
  · exact k_mulS pins s σ H x y v u Q I rx ry h
  · obtain ⟨t, rfl⟩ := rx
    obtain ⟨t', rfl⟩ := ry
    subst h1
    have e : timesS a 0 = Str.empty := rfl
    rw [e] at q
    refine PySem.P.mul_str (by rfl) (fun z _ => absurd (by decide) z) (fun z _ => absurd (by decide) z) ?_
    rw [if_pos (by omega)]
    exact ⟨by decide, .str Str.empty, H, I.tok _, ⟨_, rfl⟩, q⟩
theorem mulZ_ {a : Str} {n : Int} {H : Hp} {Q : VK} (h : 0 ≤ n ∧ n ≤ 1000 ∧ 1 ≤ a.length ∧ a.length ≤ 1000) (k : Q (.str (timesS a n)) H) : rdMulZ (.str a) (.int n) H Q := by
  by_cases c : n = 0
  · exact .inr ⟨a, n, rfl, rfl, c, k⟩
  · exact .inl (mulS_ ⟨by omega, h.2⟩ k)
end Pv

namespace Pv
end Pv

namespace Pv
open PySem PySem.Spec PyProof.Rows L2
def KindOf : Bool → Option HO → Prop
  | true, o => ∃ l, o = some (.lst l)
  | false, o => ∃ l, o = some (.dK l)
theorem KindOf.l {o : Option HO} {l : List V} (h : o = some (.lst l)) : KindOf true o := ⟨l, h⟩
theorem KindOf.d {o : Option HO} {l : List (Key × V)} (h : o = some (.dK l)) : KindOf false o := ⟨l, h⟩
theorem KindOf.one {b c : Bool} {o : Option HO} (h : KindOf b o) (k : KindOf c o) : b = c := by
  cases b <;> cases c
  · rfl
  · obtain ⟨l, rfl⟩ := h; obtain ⟨m, e⟩ := k; cases e
  · obtain ⟨l, rfl⟩ := h; obtain ⟨m, e⟩ := k; cases e
  · rfl
def Fk (P : Bool → Addr → Prop) : List (Str × V) → List Bool → Prop
  | [], [] => True
  | q :: r, b :: s => (∃ a, q.2 = .ref a ∧ P b a) ∧ Fk P r s
  | _, _ => False
theorem Fk.nil {P : Bool → Addr → Prop} : Fk P [] [] := trivial
theorem Fk.cons {P : Bool → Addr → Prop} {f : Str} {a : Addr} {b : Bool} {r : List (Str × V)} {s : List Bool} (h : P b a) (t : Fk P r s) : Fk P ((f, .ref a) :: r) (b :: s) := ⟨⟨a, rfl, h⟩, t⟩
theorem Fk.imp {P Q : Bool → Addr → Prop} (h : ∀ b a, P b a → Q b a) : ∀ {r : List (Str × V)} {s : List Bool}, Fk P r s → Fk Q r s
  | [], [], _ => trivial
  | _ :: _, _ :: _, ⟨⟨a, e, p⟩, t⟩ => ⟨⟨a, e, h _ a p⟩, Fk.imp h t⟩
theorem Fk.at_ {P : Bool → Addr → Prop} : ∀ {r : List (Str × V)} {s : List Bool} (i : Nat) {f : Str} {v : V} {b : Bool}, Fk P r s → r[i]? = some (f, v) → s[i]? = some b → ∃ a, v = .ref a ∧ P b a
  | _ :: _, _ :: _, 0, f, v, b, ⟨⟨a, e, p⟩, _⟩, h, k => by
    have h := Option.some.inj h
    have k := Option.some.inj k
    subst h k
    exact ⟨a, e, p⟩
  | _ :: r, _ :: s, i + 1, f, v, b, ⟨_, t⟩, h, k => Fk.at_ i t h k
def NewI (C : Addr) (ks : List Bool) (H0 H : Hp) (w : V) : Prop := ∃ p dx fs, w = .ref p ∧ H p = some (.ins C dx fs) ∧ Fk (fun b a => H0 a = none ∧ KindOf b (H a)) fs ks
section
variable {A A1 : List Addr} {B0 H0 B B1 B2 B' H H1 H2 H' : Hp} {O O1 O2 : List (Addr × HO)} {C p dx : Addr} {ks : List Bool} {fs : List (Str × V)} {w v u : V} {Q : VK} {K : PySem.W.Frag}
theorem Ws.stands {a : Addr} {o : HO} (V : Ws [] B1 H1 B2 H2 O2) (h : H1 a = some o) : H2 a = some o := V.fr a o h List.not_mem_nil
theorem NewI.keep (V : Ws [] B1 H1 B2 H2 O2) (q : NewI C ks H0 H1 w) : NewI C ks H0 H2 w := by
  obtain ⟨p, dx, fs, e, h, f⟩ := q
  refine ⟨p, dx, fs, e, V.stands h, f.imp fun b a g => ⟨g.1, ?_⟩⟩
  cases b
  · obtain ⟨l, z⟩ := g.2; exact ⟨l, V.stands z⟩
  · obtain ⟨l, z⟩ := g.2; exact ⟨l, V.stands z⟩
theorem Ws.gput {a : Addr} {o : HO} (W : Ws A B0 H0 B H O) (hB : B a = none) (h0 : H0 a = none) (ho : a ∉ O.map (·.1)) : Ws A B0 H0 B (upd H a o) O := by
  have k : ∀ {x : Addr} {z : HO} {G : Hp}, G a = none → G x = some z → x ≠ a := fun {x z G} n e y => by rw [y, n] at e; cases e
  refine ⟨fun x z e => ?_, fun c hc => ?_, W.nd, W.bb, fun x z e na => ?_, fun x z e => ?_, W.no, W.nt⟩
  · rw [upd_ne (k hB e)]; exact W.le x z e
  · have ne : c.1 ≠ a := fun z => ho (z ▸ List.mem_map_of_mem hc)
    rw [upd_ne ne]; exact W.own c hc
  · rw [upd_ne (k h0 e)]; exact W.fr x z e na
  · rw [upd_ne (k h0 e)]; exact W.al x z e
structure Tol (A : List Addr) (B0 H0 B H : Hp) (O : List (Addr × HO)) (p C dx : Addr) (fs : List (Str × V)) (ks : List Bool) : Prop where
  w : Ws A B0 H0 B H O
  i : H p = some (.ins C dx fs)
  f : Fk (fun b a => B a = none ∧ H0 a = none ∧ a ∉ O.map (·.1) ∧ KindOf b (H a)) fs ks
theorem Tol.of (W : Ws A B0 H0 B H O) (q : NewI C ks H H2 (.ref p)) (le : Le B B2) (W2 : Ws A B0 H0 B2 H2 O) (hp : B2 p = some (.ins C dx fs)) : Tol A B0 H0 B H2 O p C dx fs ks := by
  obtain ⟨p', dx', fs', e, h, f⟩ := q
  cases e
  have h2 := W2.le.ins hp
  rw [h] at h2
  cases h2
  refine ⟨W2.weak le W.bb, h, f.imp fun b a g => ⟨W.le.free g.1, W.old g.1, fun z => ?_, g.2⟩⟩
  obtain ⟨c, hc, e⟩ := List.mem_map.mp z
  have := (W.own c hc).1
  rw [e, g.1] at this
  cases this
theorem Tol.put {a : Addr} {b : Bool} {o : HO} (T : Tol A B0 H0 B H O p C dx fs ks) (g : B a = none ∧ H0 a = none ∧ a ∉ O.map (·.1) ∧ KindOf b (H a)) (ho : KindOf b (some o)) : Tol A B0 H0 B (upd H a o) O p C dx fs ks := by
  obtain ⟨g1, g2, g3, g4⟩ := g
  have ne : p ≠ a := fun z => by
    rw [← z, T.i] at g4
    cases b <;> (obtain ⟨l, e⟩ := g4; cases e)
  refine ⟨T.w.gput g1 g2 g3, by rw [upd_ne ne]; exact T.i, T.f.imp fun c x k => ⟨k.1, k.2.1, k.2.2.1, ?_⟩⟩
  by_cases e : x = a
  · subst e
    rw [upd_same, ← g4.one k.2.2.2]
    exact ho
  · rw [upd_ne e]; exact k.2.2.2
theorem Tol.new {t : Addr} {o : HO} (T : Tol A B0 H0 B H O p C dx fs ks) (ht : H t = none) : Tol A B0 H0 B (upd H t o) O p C dx fs ks := by
  have ne : ∀ {x : Addr} {z : HO}, H x = some z → x ≠ t := fun {x z} e y => by rw [y, ht] at e; cases e
  refine ⟨(T.w.np ht o).weak (Le.new (T.w.le.free ht)) T.w.bb, by rw [upd_ne (ne T.i)]; exact T.i, T.f.imp fun c x k => ⟨k.1, k.2.1, k.2.2.1, ?_⟩⟩
  cases c
  · obtain ⟨l, e⟩ := k.2.2.2; exact ⟨l, by rw [upd_ne (ne e)]; exact e⟩
  · obtain ⟨l, e⟩ := k.2.2.2; exact ⟨l, by rw [upd_ne (ne e)]; exact e⟩
section
variable {f : Str} (T : Tol A B0 H0 B H O p C dx fs ks) (i : Nat) (hi : fs[i]? = some (f, u))
include T hi
theorem Tol.clrD (hk : ks[i]? = some false) (q : ∀ H', Tol A B0 H0 B H' O p C dx fs ks → Q .non H') : tyV K "dict" u H ∧ rDClear u [] H Q := by
  obtain ⟨a, rfl, g⟩ := T.f.at_ i hi hk
  obtain ⟨l, e⟩ := g.2.2.2
  exact ⟨.inr (.inr (.inl ⟨rfl, .inl ⟨l, e⟩⟩)), a, l, rfl, rfl, e, q _ (T.put g (KindOf.d rfl))⟩
theorem Tol.app (hk : ks[i]? = some true) (hl : ∀ a l, u = .ref a → H a = some (.lst l) → l.length < sizeLine) {y : V} (q : ∀ H', Tol A B0 H0 B H' O p C dx fs ks → Q .non H') : rAppend u [y] H Q := by
  obtain ⟨a, rfl, g⟩ := T.f.at_ i hi hk
  obtain ⟨l, e⟩ := g.2.2.2
  exact ⟨a, l, y, rfl, rfl, e, hl a l rfl e, q _ (T.put g (KindOf.l rfl))⟩
end
theorem len_of {α : Type} [Rp α] {xs : List α} {n : Nat} (W : Ws A B0 H0 B H O) (r : Rp.R B u xs) (h : xs.length < n) (a : Addr) (l : List V) (e : u = .ref a) (k : H a = some (.lst l)) : l.length < n := by
  obtain ⟨a', l', e', h1, h2, h3⟩ := r
  rw [e] at e'
  cases e'
  rw [W.le.lst h1] at k
  cases k
  rw [h3.len]
  exact h
theorem Tol.loop {tb : TS} {g : TG} {σ : L2.St} {E : Ends} {D : Addr} {ls : List V} (S : Option V → L2.St) {u0 : Option V} (hσ : σ = S u0) (T : Tol A B0 H0 B H O p C dx fs ks) (hD : H D = none) (hl : ∀ x ∈ ls, ∃ (i : Nat) (f : Str), fs[i]? = some (f, x) ∧ ks[i]? = some false)
    (turn : ∀ x z G (N : L2.St → Hp → Prop), (∀ Q : VK, (∀ G2, N (S (some x)) G2 → Q .non G2) → tyV K "dict" x G ∧ rDClear x [] G Q) → g x (S z) G fun σ2 G2 => tb { E with nx := N, ct := N, bk := E.nx } σ2 G2)
    (done : ∀ z G, Tol A B0 H0 B G O p C dx fs ks → E.nx (S z) G) : ForK g tb E σ (Itl K D) (upd H D (.lst ls)) := by
  subst hσ
  refine ⟨fun i k σ' G => k = ls.length - i ∧ i ≤ ls.length ∧ ∃ z, σ' = S z ∧ Tol A B0 H0 B G O p C dx fs ks ∧ G D = some (.lst ls) ∧ B D = none, ⟨ls.length, by simp, Nat.zero_le _, u0, rfl, T.new hD, upd_same, T.w.le.free hD⟩, ?_⟩
  rintro i k σ1 G1 ⟨rfl, hi, z, rfl, T1, d1, dB⟩
  have hsq : SqL K G1 D ls := SqL.of d1
  by_cases hlt : i < ls.length
  · have hv : ls[i]? = some ls[i] := List.getElem?_eq_getElem hlt
    refine .inr ⟨⟨ls, ls[i], hsq, hv⟩, fun σ3 G3 => ∃ z, σ3 = S z ∧ Tol A B0 H0 B G3 O p C dx fs ks ∧ G3 D = some (.lst ls) ∧ B D = none, ?_, ?_⟩
    · rintro σ3 G3 ⟨z, e, T3, d3, dB⟩
      exact ⟨ls.length - (i + 1), by omega, rfl, hlt, z, e, T3, d3, dB⟩
    · rintro x Gn ⟨rfl, hy⟩
      have e := hy ls hsq
      rw [hv] at e
      cases e
      obtain ⟨j, f, hj, hk⟩ := hl _ (List.getElem_mem hlt)
      refine turn _ z _ _ fun Q q => ?_
      obtain ⟨a, ea, gg⟩ := T1.f.at_ j hj hk
      obtain ⟨l, el⟩ := gg.2.2.2
      have ne : D ≠ a := fun y => by rw [y, el] at d1; cases d1
      rw [ea]
      refine ⟨.inr (.inr (.inl ⟨rfl, .inl ⟨l, el⟩⟩)), a, l, rfl, rfl, el, ?_⟩
      rw [ea] at q
      exact q _ ⟨_, rfl, T1.put gg (KindOf.d rfl), by rw [upd_ne ne]; exact d1, dB⟩
  · exact .inl ⟨⟨ls, hsq, by omega⟩, done z G1 T1⟩
end
end Pv

namespace PvNs
open PySem PySem.Spec PyProof.Rows L2 Pv
end PvNs

namespace Pv
open PySem PySem.Spec PyProof.Rows L2
section
variable {A : List Addr} {B0 H0 B H : Hp} {O : List (Addr × HO)} {Q : VK} {v w : V} {K : PySem.W.Frag} {σ : L2.St}
def KpN (p : Addr) (B : Hp) (v : V) : Prop := ∃ c u q, v = .ref c ∧ B c = some (.tup [u, .ref q]) ∧ q ≠ p
theorem KpN.mono {p : Addr} {B' : Hp} (m : Le B B') (h : KpN p B v) : KpN p B' v := by
  obtain ⟨c, u, q, e, h1, h2⟩ := h
  exact ⟨c, u, q, e, m.tup h1, h2⟩
theorem RFl.mono {α : Type} [Rp α] {B' : Hp} {x : α} (m : Le B B') (h : RFl H B v x) : RFl H B' v x := ⟨Rp.mono m h.1, NewL.mono m h.2⟩
theorem NewL.parts {B' : Hp} (q : NewL H B' v) : ∃ a us p l, v = .ref a ∧ B' a = some (.tup (us ++ [.ref p])) ∧ H p = none ∧ B' p = some (.lst l) ∧ l.length < sizeLine := q
end
end Pv

namespace Pv
open PySem PySem.Spec PyProof.Rows L2
section
variable {A : List Addr} {B0 H0 B H : Hp} {O : List (Addr × HO)} {Q : VK} {v w : V} {K : PySem.W.Frag}
structure FloD (A : List Addr) (B0 H0 B H : Hp) (O : List (Addr × HO)) (as : List Addr) (n : Nat) : Prop where
  w : Ws A B0 H0 B H O
  f : ∀ a ∈ as, B a = none ∧ H0 a = none ∧ a ∉ O.map (·.1) ∧ ∃ l, H a = some (.dK l) ∧ l.length ≤ n
theorem FloD.new {as : List Addr} {n : Nat} {p : Addr} {o : HO} (T : FloD A B0 H0 B H O as n) (h : H p = none) : FloD A B0 H0 B (upd H p o) O as n :=
  ⟨T.w.more h, fun a ha => by
    obtain ⟨h1, h2, h3, l, h4, h5⟩ := T.f a ha
    exact ⟨h1, h2, h3, l, by rw [upd_ne fun z => by rw [z, h] at h4; cases h4]; exact h4, h5⟩⟩
theorem FloD.put {as : List Addr} {n : Nat} {a : Addr} {l : List (Key × V)} (T : FloD A B0 H0 B H O as n) (ha : a ∈ as) (hl : l.length ≤ n + 1) : FloD A B0 H0 B (upd H a (.dK l)) O as (n + 1) := by
  obtain ⟨h1, h2, h3, _⟩ := T.f a ha
  refine ⟨T.w.gput h1 h2 h3, fun b hb => ?_⟩
  obtain ⟨k1, k2, k3, m, k4, k5⟩ := T.f b hb
  refine ⟨k1, k2, k3, ?_⟩
  by_cases c : b = a
  · rw [c]; exact ⟨l, upd_same, hl⟩
  · exact ⟨m, by rw [upd_ne c]; exact k4, Nat.le_succ_of_le k5⟩
theorem FloD.loop {tb : TS} {g : TG} {σ : L2.St} {E : Ends} {D : Addr} {as : List Addr} {n : Nat} (S : Option V → L2.St) {u0 : Option V} (hσ : σ = S u0) (T : FloD A B0 H0 B H O as n) (hn : n + as.length < sizeLine) (hD : H D = none)
    (turn : ∀ x z G (N : L2.St → Hp → Prop), (∀ (u : V) (k : Str), RdPut u (fun G2 => N (S (some x)) G2) x (.str k) G) → g x (S z) G fun σ2 G2 => tb { E with nx := N, ct := N, bk := E.nx } σ2 G2)
    (done : ∀ z G, Ws A B0 H0 B G O → E.nx (S z) G) : ForK g tb E σ (Itl K D) (upd H D (.lst (as.map V.ref))) := by
  subst hσ
  have ll : (as.map V.ref).length = as.length := List.length_map ..
  refine ⟨fun i k σ' G => k = (as.map V.ref).length - i ∧ i ≤ (as.map V.ref).length ∧ ∃ z, σ' = S z ∧ FloD A B0 H0 B G O as (n + i) ∧ G D = some (.lst (as.map V.ref)) ∧ B D = none, ⟨(as.map V.ref).length, by simp, Nat.zero_le _, u0, rfl, T.new hD, upd_same, T.w.le.free hD⟩, ?_⟩
  rintro i k σ1 G1 ⟨rfl, hi, z, rfl, T1, d1, dB⟩
  have hsq : SqL K G1 D (as.map V.ref) := SqL.of d1
  by_cases hlt : i < (as.map V.ref).length
  · have hv : (as.map V.ref)[i]? = some (as.map V.ref)[i] := List.getElem?_eq_getElem hlt
    refine .inr ⟨⟨_, (as.map V.ref)[i], hsq, hv⟩, fun σ3 G3 => ∃ z, σ3 = S z ∧ FloD A B0 H0 B G3 O as (n + i + 1) ∧ G3 D = some (.lst (as.map V.ref)) ∧ B D = none, ?_, ?_⟩
    · rintro σ3 G3 ⟨z, e, T3, d3, dB⟩
      exact ⟨(as.map V.ref).length - (i + 1), by omega, rfl, hlt, z, e, T3, d3, dB⟩
    · rintro x Gn ⟨rfl, hy⟩
      have e := hy _ hsq
      rw [hv] at e
      cases e
      obtain ⟨a, ha, ea⟩ := List.mem_map.mp (List.getElem_mem hlt)
      refine turn _ z _ _ fun u k => ?_
      obtain ⟨_, _, _, l, el, hl⟩ := T1.f a ha
      have ne : D ≠ a := fun y => by rw [y, el] at d1; cases d1
      rw [← ea]
      have i1 : i < as.length := by rw [ll] at hlt; exact hlt
      refine ⟨a, _, rfl, DPut.k (k := .inr k) el (by omega), ⟨_, rfl, T1.put ha (Nat.le_trans (length_putK _ _ _) (by omega)), ?_, dB⟩⟩
      rw [upd_ne ne]; exact d1
  · exact .inl ⟨⟨_, hsq, by omega⟩, done z G1 T1.w⟩
end
end Pv

namespace L2
open PySem PySem.Spec PyProof.Rows
theorem PSsT.nox {X : Cx} {st : List Stmt} {t : TS} (h : PSsT X.nox st t) : PSsT X st t := fun pins s σ H D hk I hw =>
  wpAny_mono (h pins s σ H D hk (I.wish _) hw) (fun _ _ q => q.unwish) fun _ _ z => False.elim z
end L2
namespace C8
open PySem PySem.Spec PyProof.Rows L2
section
variable {P : Program} {w : World} {K : PySem.W.Frag} {mg : Str → Option Value} {base : Heap}
theorem fn0T {x qual : Str} {st : Stmt} {f : Addr} {fd : FuncData} {N ps : List Str} {k : Nat} {sp : Sp} (F : Fun K x qual st f fd) (S : FnScope N ps (fnScope st)) (hnc : ∀ y ∈ (fnScope st).names, y.2 ≠ .cell) (hps : 1 ≤ ps.length) (len : ∀ vs H Q E, sp vs H Q E → vs.length = ps.length)
    (hbody : ∀ (cdv : Value) (A : Around) (outer : List Env) (s : Shared) (H : Hp) (vs : List V) (Q : VK) (E : XK), Room k (A.deeper (envOfC qual (fnScope st) s.heap.objs.size f cdv)) → sp vs H Q E →
      ∃ t, PSsT (cxOf CX0 P w K mg base N qual (fnScope st) f cdv A outer s H E).nox (fnBody st) t ∧ t { nx := fun _ H' => Q .non H', rt := Q } (start N vs) H) : FnOk P w K mg base CX0 (k + 1) f fd ps sp := by
  obtain ⟨oc, od, dV, kV, doc, pm, an, cdv, ct, osl, rfl, lk, hcd⟩ := F.ex
  refine fn_ofT lk hcd S hnc hps len fun A outer s H vs Q E hr hsp => ?_
  obtain ⟨t, h, q⟩ := hbody cdv A outer s H vs Q E hr hsp
  exact ⟨t, PSsT.nox h, q⟩
end
end C8
namespace PvTk
open PySem PySem.Spec PyProof.Rows L2
end PvTk
namespace Pv
open PySem PySem.Spec PyProof.Rows L2
section
variable {A : List Addr} {B0 H0 B H : Hp} {O : List (Addr × HO)} {Q : VK} {v w : V} {K : PySem.W.Frag}
instance : Dat (Option Str) := ⟨fun o => match o with | none => .none | some i => .str i, fun {_ _ _ v x} _ r => by
  cases x with
  | none => cases (show v = .non from r); exact .non
  | some i => cases (show v = .str i from r); exact .str _, fun x y => by
  cases x <;> cases y
  · rfl
  · rfl
  · rfl
  · rename_i i j
    show PyData.eqv (.str i) (.str j) = _
    rw [PyData.eqv]
    by_cases h : i = j <;> simp [h]⟩
def NewJ (C : Addr) (ns : List Str) (ks : List Bool) (H0 H : Hp) (i : Addr) : Prop := ∃ dx fs, H i = some (.ins C dx fs) ∧ fs.map (·.1) = ns ∧ Fk (fun b a => H0 a = none ∧ KindOf b (H a)) fs ks
def NewT (C : Addr) (ns : List Str) (ks : List Bool) (H0 H : Hp) (a i p : Addr) : Prop := H a = some (.tup [.ref i, .ref p]) ∧ NewJ C ns ks H0 H i ∧ H0 p = none ∧ H0 a = none ∧ ∃ l, H p = some (.dK l)
section
variable {C a i p : Addr} {ns : List Str} {ks : List Bool} {G : Hp}
theorem NewJ.at_ {H2 : Hp} (q : NewJ C ns ks G H i) (h : ∀ x o, H x = some o → G x = none ∨ x = i → H2 x = some o) : NewJ C ns ks G H2 i := by
  obtain ⟨dx, fs, e, n, f⟩ := q
  refine ⟨dx, fs, h _ _ e (.inr rfl), n, f.imp fun b x g => ⟨g.1, ?_⟩⟩
  cases b
  · obtain ⟨l, z⟩ := g.2; exact ⟨l, h _ _ z (.inl g.1)⟩
  · obtain ⟨l, z⟩ := g.2; exact ⟨l, h _ _ z (.inl g.1)⟩
theorem NewT.mk {l : List (Key × V)} (W : Ws A B0 H0 B H O) (ha : H a = none) (q : NewJ C ns ks H0 H i) (hp : H0 p = none) (e : H p = some (.dK l)) : NewT C ns ks H0 (upd H a (.tup [.ref i, .ref p])) a i p := by
  have ne : ∀ {x : Addr} {z : HO}, H x = some z → x ≠ a := fun {x z} e y => by rw [y, ha] at e; cases e
  exact ⟨upd_same, q.at_ fun x o h _ => by rw [upd_ne (ne h)]; exact h, hp, W.old ha, l, by rw [upd_ne (ne e)]; exact e⟩
theorem NewT.keep {B1 H1 B2 H2 : Hp} {O2 : List (Addr × HO)} (V : Ws [] B1 H1 B2 H2 O2) (q : NewT C ns ks G H1 a i p) : NewT C ns ks G H2 a i p := by
  obtain ⟨h1, h2, h3, h4, l, h5⟩ := q
  exact ⟨V.stands h1, h2.at_ fun x o h _ => V.stands h, h3, h4, l, V.stands h5⟩
theorem NewT.put {Hb H' : Hp} {p' : Addr} {o : HO} {l' : List (Key × V)} (q : NewT C ns ks Hb H a i p) (hp : Hb p' = some o) (h1 : ∃ m, H p' = some (.dK m)) (e : H' = upd H p' (.dK l')) : NewT C ns ks Hb H' a i p := by
  obtain ⟨g1, g2, g3, g4, m, g5⟩ := q
  obtain ⟨m', h1⟩ := h1
  subst e
  have na : a ≠ p' := fun z => by rw [z, h1] at g1; cases g1
  have np : ∀ {x : Addr}, Hb x = none → x ≠ p' := fun {x} h z => by rw [z, hp] at h; cases h
  refine ⟨by rw [upd_ne na]; exact g1, g2.at_ fun x o h c => ?_, g3, g4, m, by rw [upd_ne (np g3)]; exact g5⟩
  rcases c with c | rfl
  · rw [upd_ne (np c)]; exact h
  · obtain ⟨dx, fs, z, _⟩ := g2
    rw [upd_ne fun y => by rw [y, h1] at z; cases z]; exact h
end
def UnK (g : TG) (tb : TS) (E : Ends) (D : Addr) (ls : List V) : List V → L2.St → Hp → Prop
  | [], σ, H => E.nx σ H
  | x :: r, σ, H => g x σ H fun σ2 H2 => tb { E with nx := fun σ3 H3 => H3 D = some (.lst ls) ∧ UnK g tb E D ls r σ3 H3, ct := fun σ3 H3 => H3 D = some (.lst ls) ∧ UnK g tb E D ls r σ3 H3, bk := E.nx } σ2 H2
section
variable {g : TG} {tb : TS} {E : Ends} {D : Addr} {ls r : List V} {x : V} {σ : L2.St}
theorem UnK.step (h : g x σ H fun σ2 H2 => tb { E with nx := fun σ3 H3 => H3 D = some (.lst ls) ∧ UnK g tb E D ls r σ3 H3, ct := fun σ3 H3 => H3 D = some (.lst ls) ∧ UnK g tb E D ls r σ3 H3, bk := E.nx } σ2 H2) : UnK g tb E D ls (x :: r) σ H := h
theorem UnK.done (h : E.nx σ H) : UnK g tb E D ls [] σ H := h
theorem UnK.for_ (h0 : H D = some (.lst ls)) (h : UnK g tb E D ls ls σ H) : ForK g tb E σ (Itl K D) H := by
  refine ⟨fun i k σ' G => k = ls.length - i ∧ i ≤ ls.length ∧ G D = some (.lst ls) ∧ UnK g tb E D ls (ls.drop i) σ' G, ⟨ls.length, by simp, Nat.zero_le _, h0, h⟩, ?_⟩
  rintro i k σ1 G1 ⟨rfl, hi, d1, u⟩
  have hsq : SqL K G1 D ls := SqL.of d1
  by_cases hlt : i < ls.length
  · have hv : ls[i]? = some ls[i] := List.getElem?_eq_getElem hlt
    rw [List.drop_eq_getElem_cons hlt] at u
    refine .inr ⟨⟨ls, ls[i], hsq, hv⟩, fun σ3 G3 => G3 D = some (.lst ls) ∧ UnK g tb E D ls (ls.drop (i + 1)) σ3 G3, ?_, ?_⟩
    · rintro σ3 G3 ⟨d3, u3⟩
      exact ⟨ls.length - (i + 1), by omega, rfl, hlt, d3, u3⟩
    · rintro x Gn ⟨rfl, hy⟩
      have e := hy ls hsq
      rw [hv] at e
      cases e
      exact u
  · rw [List.drop_eq_nil_of_le (by omega)] at u
    exact .inl ⟨⟨ls, hsq, by omega⟩, u⟩
end
end
end Pv

namespace PvTk
open PySem PySem.Spec PyProof.Rows L2
end PvTk
namespace Pv
open PySem PySem.Spec PyProof.Rows L2
section
variable {A : List Addr} {B0 H0 B H H' : Hp} {O : List (Addr × HO)} {Q : VK} {u v w : V} {K : PySem.W.Frag} {a i p C dx : Addr} {fs : List (Str × V)} {ks : List Bool} {f : Str} {k : Nat}
def SmlF (H : Hp) (i : Addr) (k : Nat) : Prop := ∀ C dx fs f a l, H i = some (.ins C dx fs) → fs[k]? = some (f, .ref a) → H a = some (.lst l) → l.length < sizeLine
theorem SmlF.of {α : Type} [Rp α] {xs : List α} (W : Ws A B0 H0 B H O) (hI : B i = some (.ins C dx fs)) (hk : fs[k]? = some (f, u)) (r : Rp.R B u xs) (hl : xs.length < sizeLine) : SmlF H i k := fun C' dx' fs' f' a l e hk' hl' => by
  have h := W.le.ins hI
  rw [e] at h
  cases h
  rw [hk] at hk'
  cases hk'
  exact len_of W r hl a l rfl hl'
theorem SmlF.chg {o : HO} (S : SmlF H i k) (e : H' = upd H p o) (h1 : ∀ C dx fs, o ≠ .ins C dx fs) (h2 : ∀ l, o = .lst l → l = []) : SmlF H' i k := fun C dx fs f a l hi hk hl => by
  subst e
  have ne : i ≠ p := fun z => by
    subst z
    rw [upd_same] at hi
    exact h1 _ _ _ (Option.some.inj hi)
  rw [upd_ne ne] at hi
  by_cases c : a = p
  · subst c
    rw [upd_same] at hl
    rw [h2 l (Option.some.inj hl)]
    show 0 < sizeLine
    decide
  · rw [upd_ne c] at hl
    exact S C dx fs f a l hi hk hl
theorem SmlF.dk {l : List (Key × V)} (S : SmlF H i k) (e : H' = upd H p (.dK l)) : SmlF H' i k := S.chg e (fun _ _ _ z => by cases z) fun _ z => by cases z
end
end Pv

namespace PvS1
open PySem PySem.Spec PyProof.Rows L2
section
variable {X : Cx}
end
end PvS1
namespace Pv
open PySem PySem.Spec PyProof.Rows L2
section
variable {A : List Addr} {B0 H0 B H H' : Hp} {O : List (Addr × HO)} {Q : VK} {u v w : V} {K : PySem.W.Frag} {l : List V}
def vO : Option Str → V
  | none => .non
  | some s => .str s
theorem flat1 {x : Option Str} : flatV (vO x) = true := by cases x <;> rfl
end
end Pv

namespace Pv
open PySem PySem.Spec PyProof.Rows L2
section
variable {A : List Addr} {B0 H0 B H : Hp} {O : List (Addr × HO)} {Q : VK} {K : PySem.W.Frag} {C a i p b : Addr} {ns : List Str} {ks : List Bool}
def Apart (H : Hp) (C i b : Addr) : Prop := ∀ dx fs f u, H i = some (.ins C dx fs) → (f, u) ∈ fs → u ≠ .ref b
theorem Fk.mem_ {F : Bool → Addr → Prop} : ∀ {fs : List (Str × V)} {ks : List Bool}, Fk F fs ks → ∀ {f : Str} {u : V}, (f, u) ∈ fs → ∃ k x, u = .ref x ∧ F k x
  | [], _, _, _, _, h => absurd h List.not_mem_nil
  | _ :: _, [], t, _, _, _ => t.elim
  | _ :: _, _ :: _, ⟨⟨x, e, g⟩, t⟩, _, _, h => by
    rcases List.mem_cons.mp h with z | h
    · subst z; exact ⟨_, x, e, g⟩
    · exact Fk.mem_ t h
theorem NewT.apart {B1 Hb Ht B' : Hp} {O' : List (Addr × HO)} (V : Ws [] B1 Ht B' H O') (q1 : NewT C ns ks Hb Ht a i p) (hb : Ht b = none) : p ≠ b ∧ Apart H C i b := by
  obtain ⟨_, ⟨dx, fs, g1, g2, g3⟩, _, _, l, e⟩ := q1
  refine ⟨(fun z => by rw [z, hb] at e; cases e), fun dx' fs' f u h m z => ?_⟩
  have s := V.stands g1
  rw [h] at s
  cases s
  obtain ⟨k, x, e1, g⟩ := Fk.mem_ g3 m
  rw [z] at e1
  cases e1
  have g := g.2
  rw [hb] at g
  cases k <;> (obtain ⟨_, y⟩ := g; cases y)
end
end Pv
namespace Pv
open PySem PySem.Spec PyProof.Rows L2
section
variable {A : List Addr} {B0 H0 B H : Hp} {O : List (Addr × HO)} {v w : V} {Q : VK} {d e : Dc Str (Option Str)}
end
end Pv

namespace Pv
open PySem PySem.Spec PyProof.Rows L2
section
variable {K : PySem.W.Frag} {σ : L2.St} {H : Hp} {D : Ends} {ta tv : TE} {f : Str} {rd : V → V → Hp → VK → Prop}
variable {X : Cx}
end
section
variable {A : List Addr} {B0 H0 B H : Hp} {O : List (Addr × HO)} {Q : VK} {K : PySem.W.Frag} {a C dx : Addr} {fs : List (Str × V)} {f : Str} {v : V} {σ : L2.St} {D : Ends} {tv ta : TE} {rd : V → V → Hp → VK → Prop}
end
section
variable {κ α : Type} [DecidableEq κ] [Kp κ] [Rp α] {K : PySem.W.Frag} {A : List Addr} {B0 H0 B H : Hp} {O : List (Addr × HO)} {Q : VK} {v w : V} {d : Dc κ α} {x : α} {k : κ} {a : Addr} {l : List (Key × V)} {σ : L2.St}
end
section
variable {A : List Addr} {B0 H0 B H B' H' : Hp} {O : List (Addr × HO)}
open Classical in
theorem Ws.thawK {Ba Ha B1 B2 H2 B3 B4 H4 : Hp} {v w : V} {cl kept : List (List Int)} {m : Nat} (Wa : Ws A B0 H0 Ba Ha []) (W2 : Ws A B0 H0 B2 H2 []) (l01 : Le Ba B1) (l12 : Le B1 B2) (q : RF2 Ha B1 v cl) (W4 : Ws A B0 H0 B4 H4 []) (l24 : Le B2 B4) (l34 : Le B3 B4) (qk : RF2 H2 B3 w kept) (hm : ∀ x ∈ cl, x.length ≤ m) :
    ∃ a ls Bm, v = .ref a ∧ H0 a = none ∧ Ws A B0 H0 Bm H4 ([] ++ [(a, .lst ls)]) ∧ ls.length = cl.length ∧ Gb A Bm H0 H4 ([] ++ [(a, .lst ls)]) m ls ∧ Le Ba Bm ∧ Rp.R Bm w kept := by
  obtain ⟨a, ls, rfl, ha, hb, hl, ps⟩ := q
  let Bm : Hp := fun y => if Ba y = none ∧ H2 y ≠ none then none else B4 y
  have l14 : Le B1 B4 := l12.tr l24
  have lm : Le Ba Bm := fun y o e => by
    show ∃ o', (if Ba y = none ∧ H2 y ≠ none then none else B4 y) = some o' ∧ _
    rw [if_neg (fun z => by rw [e] at z; exact absurd z.1 (fun z => nomatch z))]
    exact (l01.tr l14) y o e
  have l4 : ∀ y o, Bm y = some o → B4 y = some o := fun y o e => by
    have e : (if Ba y = none ∧ H2 y ≠ none then none else B4 y) = some o := e
    by_cases c : Ba y = none ∧ H2 y ≠ none
    · rw [if_pos c] at e; cases e
    · rw [if_neg c] at e; exact e
  have stay : ∀ p l, H2 p = none → B3 p = some (.lst l) → Bm p = some (.lst l) := fun p o h1 h2 => by
    show (if Ba p = none ∧ H2 p ≠ none then none else B4 p) = _
    rw [if_neg (fun z => z.2 h1)]
    exact l34.lst h2
  have gone : ∀ p l, Ha p = none → B1 p = some (.lst l) → Bm p = none := fun p o h1 h2 => by
    show (if Ba p = none ∧ H2 p ≠ none then none else B4 p) = _
    rw [if_pos ⟨Wa.le.free h1, fun z => by rw [W2.le.lst (l12.lst h2)] at z; cases z⟩]
  refine ⟨a, ls, Bm, rfl, Wa.old ha, ⟨fun y o e => W4.le y o (l4 y o e), fun c hc => ?_, ?_, Wa.bb.tr lm, W4.fr, W4.al, fun y o u e n k => W4.no y o u e n (l4 y u k), fun c hc l e => ?_⟩, paired_len ps, fun x hx => ?_, lm, ?_⟩
  · have hc : c ∈ [(a, HO.lst ls)] := hc
    rw [List.mem_singleton.mp hc]
    exact ⟨W4.le.lst (l14.lst hb), gone _ _ ha hb, .inr (Wa.old ha)⟩
  · exact List.pairwise_singleton ..
  · have hc : c ∈ [(a, HO.lst ls)] := hc
    rw [List.mem_singleton.mp hc] at e
    cases e
  · obtain ⟨y, hy, ⟨p, l, rfl, h1, h2, h3⟩, ⟨p', e, hp⟩, ne⟩ := paired_mem ps hx
    cases e
    refine ⟨p, l, rfl, W4.le.lst (l14.lst h1), gone _ _ hp h1, Wa.old hp, fun z => ?_, by rw [h3.len]; exact hm y hy⟩
    have : p = a := by simpa using z
    exact ne (congrArg V.ref this)
  · obtain ⟨a2, l2, e2, h2, hb2, hl2, ps2⟩ := qk
    refine ⟨a2, l2, e2, stay _ _ h2 hb2, hl2, paired_imp (fun x y h => ?_) ps2⟩
    obtain ⟨⟨p, l, e, h1, h3, h4⟩, ⟨p', e', hp⟩, _⟩ := h
    rw [e] at e'
    cases e'
    exact ⟨p, l, e, stay _ _ hp h1, h3, paired_imp (fun _ _ h => h) h4⟩
end
end Pv

namespace Pv
open PySem L2 LamX PyProof.Rows PySem.Spec

section
variable {X : Cx} {ta : TE} {a : Expr}
end

section
variable {s : Shared} {H : Hp} {σ : L2.St} {pins : List (Addr × Obj)} {X : Cx}
inductive Grown (H : Hp) (P : Addr) (q : Str) (ps : Array Value) : Hp → Prop where
  | hit : Grown H P q ps H
  | new {c' : Addr} {ps' : Array Value} (hc : H c' = Option.none) (t : TriplesOk ps'.toList) (m : ∀ (pos : Pos) (cv : Value), codeAmong pos ps'.toList = some cv → codeAmong pos ps.toList = some cv ∨ cv = .ref c') : Grown H P q ps (upd (upd H P (.tbl ps')) c' (CodeO c' q))
theorem Grown.keep {P : Addr} {q : Str} {ps : Array Value} {G : Hp} (g : Grown H P q ps G) (hP : H P = some (.tbl ps)) {b : Addr} {o : HO} (h : H b = some o) (n : ∀ z, o ≠ .tbl z) : G b = some o := by
  cases g with
  | hit => exact h
  | new hc _ _ =>
    rw [upd_ne (ne_of_none h hc), upd_ne (fun z => n ps (Option.some.inj (h.symm.trans (by rw [z]; exact hP))))]
    exact h
def Only (R : VK) : List V → Hp → Prop
  | [v], H => R v H
  | _, _ => False
theorem Only.one {R : VK} : ∀ {vs : List V} {H : Hp}, Only R vs H → ∃ v, vs = [v] ∧ R v H
  | [v], _, h => ⟨v, rfl, h⟩
  | [], _, h => absurd h id
  | _ :: _ :: _, _, h => absurd h id
end
end Pv

namespace Pv
open PySem L2 PyProof.Rows PySem.Spec
section
variable {X : Cx}
end
end Pv

namespace Pv
open PySem L2
section
variable {σ : L2.St} {D : Ends} {g : TG} {tb : TS} {J : It} {xs : List Int} {P : Hp → Prop} {H : Hp}
end
section
variable {A : List Addr} {B0 H0 B H : Hp} {O O' : List (Addr × HO)}
theorem Ws.sub (W : Ws A B0 H0 B H O) (p : O'.Sublist O) : Ws A B0 H0 B H O' :=
  ⟨W.le, fun q hq => W.own q (p.mem hq), W.nd.sublist (p.map (·.1)), W.bb, W.fr, W.al, W.no, fun q hq => W.nt q (p.mem hq)⟩
end
end Pv

namespace Pv
open PySem L2 PyProof.Rows PySem.W
section
variable {α : Type} [Rp α] [DecidableEq α] [Dat α] {K : PySem.W.Frag} {A : List Addr} {B0 H0 B H : Hp} {O : List (Addr × HO)} {Q : VK} {v : V} {xs : List α}
end
end Pv

namespace Pv
open PySem PySem.Spec PyProof.Rows L2
section
variable {P : Program} {w : World} {K : PySem.W.Frag} {mg : Str → Option Value} {base : Heap}
end
end Pv

namespace DT
open PySem PySem.Calls PyProof.Rows PyProof.V PySem.Spec PySem.W
section
variable {prog : Program} {w : World} {A : Around} {E : Value → Shared → Prop} {s : Shared} {r d : Addr} {es : Array DictEntry} {ep : Nat}
end
end DT
namespace PvLt
open PySem PySem.Spec PyProof.Rows L2 LiI Pv
def putP : Hp → List Addr → List (Addr × V) → Hp
  | H, a :: as, p :: kvs => putP (upd H a (.tup [.ref p.1, p.2])) as kvs
  | H, _, _ => H
theorem putP_off {b : Addr} : ∀ (as : List Addr) (kvs : List (Addr × V)) (H : Hp), b ∉ as → putP H as kvs b = H b
  | [], _, _, _ => rfl
  | _ :: _, [], _, _ => rfl
  | a :: as, p :: kvs, H, h => by
    show putP (upd H a (.tup [.ref p.1, p.2])) as kvs b = H b
    rw [putP_off as kvs _ (fun z => h (List.mem_cons_of_mem _ z)), upd_ne (fun z => h (by rw [z]; exact List.mem_cons_self))]
theorem putP_at : ∀ (as : List Addr) (kvs : List (Addr × V)) (H : Hp), as.length = kvs.length → as.Nodup → Paired (fun (t : Addr) (p : Addr × V) => putP H as kvs t = some (.tup [.ref p.1, p.2])) as kvs
  | [], [], _, _, _ => .nil
  | [], _ :: _, _, h, _ => by cases h
  | _ :: _, [], _, h, _ => by cases h
  | a :: as, p :: kvs, H, h, hn => by
    have hn' := List.nodup_cons.mp hn
    have ih := putP_at as kvs (upd H a (.tup [.ref p.1, p.2])) (Nat.succ.inj h) hn'.2
    refine .cons ?_ ih
    show putP (upd H a (.tup [.ref p.1, p.2])) as kvs a = some (.tup [.ref p.1, p.2])
    rw [putP_off as kvs _ hn'.1, upd_same]
def RdLT (Q : VK) : V → Hp → Prop := fun x H => ∃ (d : Addr) (kvs : List (List LK × V)), x = .ref d ∧ Rd H d (.dT kvs) ∧
  ∀ (H' : Hp) (p : Addr) (ts : List Addr) (qs : List (Addr × V)), (∀ b o, H b = some o → H' b = some o) → H p = none → (∀ t ∈ ts, H t = none) → p ∉ ts → H' p = some (.lst (ts.map V.ref)) → Paired (fun (t : Addr) (q : Addr × V) => H' t = some (.tup [.ref q.1, q.2])) ts qs →
    Paired (fun (q : Addr × V) (p : List LK × V) => q.2 = p.2 ∧ H q.1 = some (.tup (p.1.map kV))) qs kvs → Q (.ref p) H'
def tLT (te : TE) : TE := fun σ H Q => te σ H (RdLT Q)
theorem litems_ {t : TE} {σ : L2.St} {H : Hp} {Q : VK} (h : t σ H (RdLT Q)) : tLT t σ H Q := h
end PvLt
namespace Pv
open PySem PySem.Spec PyProof.Rows L2
section
variable {κ α : Type} [DecidableEq κ] [Kp κ] [Rp κ] [Kv κ] [Rp α] {A : List Addr} {B0 H0 B H : Hp} {O : List (Addr × HO)} {d : Dc (TV κ) α} {Q : VK} {v : V} {a : Addr} {l : List (List LK × V)}
end
section
variable {κ α : Type} [Kp κ] [Rp α] {A : List Addr} {B0 H0 B B' H H2 : Hp} {O O' : List (Addr × HO)} {v : V} {d : Dc (TV κ) α}
end
section
variable {κ α : Type} [Kp κ] [Rp κ] [Kv κ] [Rp α] {A : List Addr} {B0 H0 B H : Hp} {O : List (Addr × HO)} {d : Dc (TV κ) α}
end
end Pv
namespace Pv
open PySem PySem.Spec PyProof.Rows L2
section
variable {A : List Addr} {B0 H0 B H B' H' : Hp} {O O' : List (Addr × HO)} {a : Addr} {l : List (List LK × V)} {od : Obj}
end
section
variable {κ α : Type} [DecidableEq κ] [Kp κ] [Rp κ] [Kv κ] [KvI κ] [Rp α] {A : List Addr} {B0 H0 B H : Hp} {O : List (Addr × HO)} {Q : VK} {v u w : V} {d : Dc (TV κ) α} {x : α} {k : TV κ} {a : Addr} {l : List (List LK × V)} {σ : L2.St}
end
end Pv

namespace Pv
open PySem PySem.Spec PyProof.Rows L2
end Pv

namespace L2
open PySem PySem.Spec PyProof.Rows
section
variable {P : Program} {w : World} {A : Around} {E : Value → Shared → Prop} {s : Shared}
end
end L2
namespace Pv
open PySem PySem.Spec PyProof.Rows L2
end Pv
namespace Pv
open PySem PySem.Spec PyProof.Rows L2
end Pv
namespace PvTk
open PySem PySem.Spec PyProof.Rows L2
end PvTk

set_option maxHeartbeats 1000000
namespace Pv
open PySem PySem.Spec PyProof.Rows L2
namespace Dt
def t4? {α β γ δ : Type} [Rp α] [Un α] [Rp β] [Un β] [Rp γ] [Un γ] [Rp δ] [Un δ] : Dt → Option (T4 α β γ δ)
  | .seq true [a, b, c, d] => bd (Un.un a) fun a => bd (Un.un b) fun b => bd (Un.un c) fun c => bd (Un.un d) fun d => some ⟨a, b, c, d⟩
  | _ => none
theorem t4_r {α β γ δ : Type} [Rp α] [Un α] [Rp β] [Un β] [Rp γ] [Un γ] [Rp δ] [Un δ] {B : Hp} {v : V} {d : Dt} {x : T4 α β γ δ} (r : Rp.R B v d) (e : t4? d = some x) : Rp.R B v x := by
  match d, r, e with
  | .seq true [a, b, c, d], r, e =>
    obtain ⟨a', ha, e⟩ := bs (show bd (Un.un a) (fun a => bd (Un.un b) fun b => bd (Un.un c) fun c => bd (Un.un d) fun d => some (T4.mk a b c d)) = some x from e)
    obtain ⟨b', hb, e⟩ := bs e
    obtain ⟨c', hc, e⟩ := bs e
    obtain ⟨d', hd, e⟩ := bs e
    cases (Option.some.inj e : T4.mk a' b' c' d' = x)
    cases (show DR B v (.seq true [a, b, c, d]) from r) with
    | tup h1 h2 h3 =>
      cases h3 with
      | cons g0 h3 =>
        cases h3 with
        | cons g1 h3 =>
          cases h3 with
          | cons g2 h3 =>
            cases h3 with
            | cons g3 h3 =>
              cases h3
              exact ⟨_, _, _, _, _, rfl, h1, Un.un_r (show Rp.R B _ a from g0) ha, Un.un_r (show Rp.R B _ b from g1) hb, Un.un_r (show Rp.R B _ c from g2) hc, Un.un_r (show Rp.R B _ d from g3) hd⟩
instance {α β γ δ : Type} [Rp α] [Un α] [Rp β] [Un β] [Rp γ] [Un γ] [Rp δ] [Un δ] : Un (T4 α β γ δ) := ⟨t4?, fun r e => t4_r r e⟩
end Dt
section
variable {K : PySem.W.Frag} {A : List Addr} {B0 H0 B H : Hp} {O : List (Addr × HO)} {v : V} {Q : VK} {σ : L2.St} {α β γ δ : Type} [Rp α] [Rp β] [Rp γ] [Rp δ]
end
end Pv

namespace Pv
open PySem L2
namespace Dt
def pr? {α β : Type} [Rp α] [Un α] [Rp β] [Un β] : Dt → Option (α × β)
  | .seq true [a, b] => bd (Un.un a) fun a => bd (Un.un b) fun b => some (a, b)
  | _ => none
theorem pr_r {α β : Type} [Rp α] [Un α] [Rp β] [Un β] {B : Hp} {v : V} {d : Dt} {x : α × β} (r : Rp.R B v d) (e : pr? d = some x) : Rp.R B v x := by
  match d, r, e with
  | .seq true [a, b], r, e =>
    obtain ⟨a', ha, e⟩ := bs (show bd (Un.un a) (fun a => bd (Un.un b) fun b => some (a, b)) = some x from e)
    obtain ⟨b', hb, e⟩ := bs e
    cases (Option.some.inj e : (a', b') = x)
    cases (show DR B v (.seq true [a, b]) from r) with
    | tup h1 h2 h3 =>
      cases h3 with
      | cons g0 h3 =>
        cases h3 with
        | cons g1 h3 =>
          cases h3
          exact ⟨_, _, _, rfl, h1, Un.un_r (show Rp.R B _ a from g0) ha, Un.un_r (show Rp.R B _ b from g1) hb⟩
instance {α β : Type} [Rp α] [Un α] [Rp β] [Un β] : Un (α × β) := ⟨pr?, fun r e => pr_r r e⟩
def t3? {α β γ : Type} [Rp α] [Un α] [Rp β] [Un β] [Rp γ] [Un γ] : Dt → Option (T3 α β γ)
  | .seq true [a, b, c] => bd (Un.un a) fun a => bd (Un.un b) fun b => bd (Un.un c) fun c => some ⟨a, b, c⟩
  | _ => none
theorem t3_r {α β γ : Type} [Rp α] [Un α] [Rp β] [Un β] [Rp γ] [Un γ] {B : Hp} {v : V} {d : Dt} {x : T3 α β γ} (r : Rp.R B v d) (e : t3? d = some x) : Rp.R B v x := by
  match d, r, e with
  | .seq true [a, b, c], r, e =>
    obtain ⟨a', ha, e⟩ := bs (show bd (Un.un a) (fun a => bd (Un.un b) fun b => bd (Un.un c) fun c => some (T3.mk a b c)) = some x from e)
    obtain ⟨b', hb, e⟩ := bs e
    obtain ⟨c', hc, e⟩ := bs e
    cases (Option.some.inj e : T3.mk a' b' c' = x)
    cases (show DR B v (.seq true [a, b, c]) from r) with
    | tup h1 h2 h3 =>
      cases h3 with
      | cons g0 h3 =>
        cases h3 with
        | cons g1 h3 =>
          cases h3 with
          | cons g2 h3 =>
            cases h3
            exact ⟨_, _, _, _, rfl, h1, Un.un_r (show Rp.R B _ a from g0) ha, Un.un_r (show Rp.R B _ b from g1) hb, Un.un_r (show Rp.R B _ c from g2) hc⟩
instance {α β γ : Type} [Rp α] [Un α] [Rp β] [Un β] [Rp γ] [Un γ] : Un (T3 α β γ) := ⟨t3?, fun r e => t3_r r e⟩
end Dt
end Pv

namespace PySem.W
open PySem PySem.Spec PySem.Calls PyProof.Rows
section
variable {prog : Program} {w : World} {A : Around} {E : Value → Shared → Prop} {s : Shared} {K : Frag} {x D : Addr} {ox : Obj} {od : Option Obj}
theorem findObj_dataX {C : Addr} {name : Str} {a g : Value} (hc : (clsIn K C).isSome = true) (ha : findIn K (.ref C) name = some (some a)) (hg : specialIn K a "__get__" = some (some g)) (ht : takesIn K a = some true) : findObj K C od name = some (.bind g a) := by
  obtain ⟨cd, hc⟩ := Option.isSome_iff_exists.mp hc
  unfold findObj
  rw [hc, Option.bind_some, ha, Option.bind_some]
  simp [hg, ht]
theorem kin_classX {Q : Option Value → Shared → Prop} (hga : findIn K (.ref D) "__getattribute__" = some (some (.builtin "BaseException.__getattribute__"))) (hgt : findIn K (.ref D) "__getattr__" = some none) (hsub : subIn K (.ref D) (.type "BaseException") = some true)
    (hdct : hasDictIn K D = true) (ha : findIn K (.ref D) "__class__" = some (some (.builtin "object.__class__")))
    (hn : specialIn K (.builtin "object.__class__") "__get__" = some (some (.builtin "getset_descriptor.__get__"))) (htk : takesIn K (.builtin "object.__class__") = some true) (hm : mroIn K D (.type "object") = some true)
    (X : K.In s.heap) (I : InstAt s.heap x ox D od) (h : Q (some (.ref D)) { s with toks := s.toks + 1 }) : wpAny (model prog w) A (getAttr? (.ref x) "__class__") Q E s := by
  have hf : findObj K D od "__class__" = some (.bind (.builtin "getset_descriptor.__get__") (.builtin "object.__class__")) := findObj_dataX (by obtain ⟨cd, hc, _⟩ := any_some hdct; rw [hc]; rfl) ha hn htk
  obtain ⟨hp, g, d, t, os⟩ := s
  have L0 := I.type (M := model prog w)
  have L1 := looks_findIn (M := model prog w) X hga
  have L2 := looks_findIn (M := model prog w) X hgt
  have L3 := looks_find (M := model prog w) X I hf
  have sub : Looks (model prog w) hp (isInstance (.ref x) (.type "BaseException")) true := L0.andThen (looks_subIn X hsub)
  have hx0 : (false && onTheHeap (Value.builtin "BaseException.__getattribute__")) = false := rfl
  have hx2 : (Value.builtin "BaseException.__getattribute__" == Value.builtin "object.__getattribute__") = false := by decide +kernel
  have hx1 : (onTheHeap (Value.ref D) && Value.builtin "BaseException.__getattribute__" == Value.builtin "object.__getattribute__") = false := by rw [hx2]; rfl
  unfold getAttr? getAttrBy? getAttrBy
  refine wpAny_bind (wpAny_mkText (wpAny_bind (wpAny_attempt (wpAny_holding (wpAny_bind (L0.at (wpAny_bind (L1.at ?_))))))))
  show wpAny _ _ (if (onTheHeap (Value.ref D) && Value.builtin "BaseException.__getattribute__" == Value.builtin "object.__getattribute__") = true then _ else _) _ _ _
  rw [hx1, if_neg Bool.false_ne_true]
  unfold getAttrByItsOwn hookBefore
  refine wpAny_bind ?_
  rw [if_pos (show onTheHeap (Value.ref D) = true from rfl)]
  refine L2.at ?_
  refine wpAny_bind (wpAny_attempt (wpAny_holding ?_))
  unfold callGetattribute
  rw [hx0, if_neg Bool.false_ne_true]
  unfold boundAndCalled
  rw [PySem.F.excAttr_ValueError.ga.bind (.ref x)]
  refine wpAny_bind (wpAny_pure ?_)
  show wpAny _ _ (call (.builtin "BaseException.__getattribute__") [.ref x, .str "__class__" t]) _ _ _
  refine wpAny_call (codeAny_call_builtin PySem.F.excAttr_ValueError.ga.plain PySem.F.entry_bexc_ga ?_)
  refine @check_slot (model prog w) _ _ ⟨hp, g, d, t + 1, os⟩ "BaseException.__getattribute__" "BaseException" "__getattribute__" (.ref x) [.str "__class__" t] [] _ (by decide +kernel) (by decide +kernel) sub (PySem.F.args_bexc_ga (.ref x) (.str "__class__" t)) ?_
  unfold Builtin.«object.__getattribute__»
  refine wpAny_bind (wpAny_of_eq (a := ((Value.ref x : Value), [Value.str "__class__" t])) (by first | rfl | (simp only [slotArgs]; rfl)) ?_)
  refine wpAny_bind (wpAny_pure (wpAny_bind (L0.at (wpAny_bind (L3.at ?_)))))
  show wpAny _ _ (holding [Value.builtin "object.__class__"] (call (.builtin "getset_descriptor.__get__") [.builtin "object.__class__", .ref x, .ref D]) >>= ret) _ _ _
  refine wpAny_bind (wpAny_holding (wpAny_call (class_get (s := ⟨hp, g, d, t + 1, os⟩) (ox := ox) (od := od) X I hm ?_)))
  refine wpAny_pure ?_
  show wpAny _ _ (handedOut (.ref D)) _ _ _
  rw [handedOut_of (v := .ref D) rfl]
  first
    | exact wpAny_pure (wpAny_pure h)
    | exact wpAny_pure h
    | exact wpAny_pure (wpAny_bind (wpAny_pure (wpAny_pure h)))
theorem kitx_excX (hga : findIn K (.ref D) "__getattribute__" = some (some (.builtin "BaseException.__getattribute__"))) (hgt : findIn K (.ref D) "__getattr__" = some none) (hsub : subIn K (.ref D) (.type "BaseException") = some true) (hdct : hasDictIn K D = true) (ha : findIn K (.ref D) "__class__" = some (some (.builtin "object.__class__")))
    (hn : specialIn K (.builtin "object.__class__") "__get__" = some (some (.builtin "getset_descriptor.__get__"))) (htk : takesIn K (.builtin "object.__class__") = some true) (hm : mroIn K D (.type "object") = some true) :
    KitX K (.ref x) (.ref D) (fun h => InstAt h x ox D od) where
  ty := fun _ _ _ I => I.type
  it := fun _ _ X _ => by
    obtain ⟨cdD, hcD, _⟩ := any_some hdct
    unfold clsIn at hcD
    split at hcD
    · rename_i c' d' cd' sl' ho
      intro A' Q' E' s' k q
      unfold isType loadHead
      exact wpAny_bind (wpAny_loadPart (k _ _ (X _ _ ho)) (wpAny_pure q))
    · cases hcD
  ne := fun h tp dd its n sl X htp => by
    obtain ⟨cdD, hcD, _⟩ := any_some hdct
    refine Bool.eq_false_iff.mpr fun q => ?_
    have e : D = tp := Value.ref.inj (beq_iff_eq.mp q)
    subst e
    unfold clsIn at hcD
    split at hcD
    · rename_i c' d' cd' sl' ho
      have z := (X _ _ ho).symm.trans htp
      cases z
    · cases hcD
  ca := fun X I k => kin_classX hga hgt hsub hdct ha hn htk hm X I k
end
end PySem.W
namespace L2
open PySem PySem.Spec PyProof.Rows
section
variable {X : Cx} {e : Expr} {es : List Expr} {ta : TA} {p1 p2 pos : Pos}
theorem pe_beinit {b : Str} {G : Addr} {pl : Sem Bool} (hg : Gl X b) (hm : X.mg b = some (.ref G)) (rd : PySem.W.readsIn X.K G (.type "type") = true) (sp : PySem.W.specialIn X.K (.ref G) "__getattribute__" = some (some (.builtin "type.__getattribute__")))
    (vV : PySem.W.findCls X.K (.ref G) (.type "type") "__init__" = some (.val (.builtin "ValueError.__init__"))) (ha : PA X (e :: es) ta) (hdb : (b == ("__debug__" : Str)) = false := by decide)
    (hc : eval (.Call (.Attribute (.Name b p1) "__init__" p2) (e :: es) [] pos) X.env = (do
      let ov ← eval (.Name b p1) X.env
      standAt p2.atName
      let (f, first) ← holding [ov] (getMethod ov "__init__" pl)
      callWith pos f first (backTo pos (starEach (e :: es) X.env)) (backToKw pos (keywordEach [] X.env))) := by rfl)
    (he : starEach (e :: es) X.env = (false, eval e X.env) :: starEach es X.env := by rfl) (hpl : (backTo pos (starEach es X.env)).any (·.1) = false := by rfl) :
    PE X (.Call (.Attribute (.Name b p1) "__init__" p2) (e :: es) [] pos) (tVeI X.K ta) := by
  refine ⟨fun pins s σ H Q I h => ?_⟩
  refine PySem.W.methodCall_KW (ld_glob I hg hm ?_ hdb) hc
  refine PySem.W.method_cls I.kIn sp (PySem.W.cls_value I.kIn rd vV rfl ?_)
  show wpAny _ _ (callWith pos (Value.builtin "ValueError.__init__") [] (backTo pos (starEach (e :: es) X.env)) []) _ _ _
  refine PyProof.Rows.callWith_method1 (thn (ha.run pos pins _ σ H _ (I.tok _) h) fun us s1 ⟨vs, H1, I1, r1, a, C, ws, ev, hl, T, ea, q⟩ => ?_) he hpl
  subst ev
  cases r1 with
  | @cons _ u0 _ ur ra rw' =>
    obtain rfl : u0 = Value.ref a := ra
    have hlen : ur.length ≤ sizeLine := by
      rw [← Paired.length rw', sizeLine_eq]
      omega
    exact oinit_ok T I1 ea hlen fun s' J => ⟨.non, H1, J, rfl, q⟩
end
def exv (a : Addr) (cls : Value) (d : Option Addr) : HO := .ext fun h => ∃ (oe : Obj) (vs : Array Value), h.get? a = some oe ∧ Zc cls d oe ∧ oe.data = .fields vs
theorem exv_ok {P : Program} {w : World} {H : Hp} {h : Heap} {a : Addr} {cls : Value} {d : Option Addr} {oe : Obj} {vs : Array Value} (he : h.get? a = some oe) (hz : Zc cls d oe) (hd : oe.data = .fields vs) : ObjOk P w H h a (exv a cls d) :=
  ⟨⟨oe, vs, he, hz, hd⟩, ⟨_, he⟩, fun h1 h2 z k => by
    obtain ⟨oe, vs, q, r⟩ := z
    exact ⟨oe, vs, k _ q, r⟩⟩
theorem exv_at {P : Program} {w : World} {H : Hp} {h : Heap} {a : Addr} {cls : Value} {d : Option Addr} (hok : HOk P w H h) (e : H a = some (exv a cls d)) : ∃ (oe : Obj) (vs : Array Value), h.get? a = some oe ∧ Zc cls d oe ∧ oe.data = .fields vs := by
  have x : ObjOk P w H h a (.ext fun h => ∃ (oe : Obj) (vs : Array Value), h.get? a = some oe ∧ Zc cls d oe ∧ oe.data = .fields vs) := hok a _ e
  exact x.1
section
variable {X : Cx} {pins : List (Addr × Obj)} {σ : St} {H : Hp} {sI s s' : Shared} {B : Heap}
theorem Inv.landedX (I : Inv X pins σ H sI) (nb : ∀ b o, sI.heap.get? b = some o → b ∉ frs X.stack → B.get? b = some o) (st : B.StaysIn s'.heap) (up : sI.heap.UpToSlots s'.heap) (os : s'.os = sI.os) (ag : AllBare s'.gens)
    {a : Addr} {cls : Value} {d : Option Addr} {oe : Obj} {vs : Array Value} (hn : sI.heap.get? a = none) (na : H a = none) (he : s'.heap.get? a = some oe) (hz : Zc cls d oe) (hd : oe.data = .fields vs) : Inv X pins σ (upd H a (exv a cls d)) s' := by
  have nf : ∀ b ∈ frs X.stack, ∀ o, sI.heap.get? b = some o → ∃ sl, s'.heap.get? b = some { o with slots := sl } := fun b hb o e => by
    obtain ⟨_, o', e', hd⟩ := I.stack.mem hb
    rw [e] at e'; cases e'
    exact up b o e hd
  have ba : ∀ {b : Addr} {o : Obj}, sI.heap.get? b = some o → b ≠ a := fun {b o} q z => by rw [z, hn] at q; cases q
  have J := I.call (ch := []) (h' := s'.heap) (g' := s'.gens) (t' := s'.toks) (d' := s'.drawn) (H' := upd H a (exv a cls d))
    ⟨fun b o e _ hb _ => st b o (nb b o e hb), fun b o e _ hb _ => nf b hb o e, fun b o e n _ => by rw [upd_ne (ba e)]; exact n, fun b o e _ => by
      by_cases hb : b ∈ frs X.stack
      · obtain ⟨sl, q⟩ := nf b hb o e
        exact ⟨_, q⟩
      · exact ⟨o, st b o (nb b o e hb)⟩, fun b xs e => by rw [upd_ne (ne_of_none e na)]; exact e, fun b o v e => by rw [upd_ne (ne_of_none e na)]; exact e, fun b ps e => ⟨#[], by rw [upd_ne (ne_of_none e na), e]; simp⟩⟩
    (fun b o q => by
      by_cases hb : b = a
      · subst hb
        rw [upd_same] at q
        cases q
        exact exv_ok he hz hd
      · rw [upd_ne hb] at q
        exact ((I.inGround nb).kept st b o q).stay (fun _ _ _ z => z) (fun c hc => by rw [upd_ne (ne_of_none hc na)]; exact hc) (fun c xs hc => by rw [upd_ne (ne_of_none hc na)]; exact hc)) ag (fun _ z => nomatch z)
  obtain ⟨a1, a2, a3, a4, a5⟩ := s'
  have e5 : a5 = sI.os := os
  subst e5
  exact J
theorem Inv.suiteX (I : Inv X pins σ H s) (a : Addr) : Inv (X.suite a (X.pn ++ pins)) [] σ H s :=
  ⟨I.ok.suite _ _, I.os, I.bare, I.base, I.loc, I.cell, I.free, I.freeC, fun p hp => I.pin p (by rw [List.append_nil] at hp; exact hp), I.hok, I.len⟩
theorem Inv.unsuiteX {a : Addr} {pn' : List (Addr × Obj)} (I : Inv (X.suite a (X.pn ++ pins)) pn' σ H s) (ok : X.Ok) : Inv X pins σ H s :=
  ⟨ok, I.os, I.bare, I.base, I.loc, I.cell, I.free, I.freeC, fun p hp => I.pin p (List.mem_append_left _ hp), I.hok, I.len⟩
end
def wKeep (K : PySem.W.Frag) (c : Value) (i j : Nat) (Wout : WX) (D : Ends) : WX := fun cls d σ H =>
  ∃ b, PySem.W.exmOne K cls c = some b ∧ (b = true → ∀ a, H a = none → D.nx (((σ.set i (some (.ref a))).set j (some (.ref a))).set i none) (upd H a (exv a cls d))) ∧ (b = false → Wout cls d σ H)
section
variable {X : Cx} {x n m : Str} {c : Value} {i j : Nat} {body : List Stmt} {np pos pos' p1 p2 p3 : Pos} {tb : WX → TS} {Wout : WX}
theorem ps_try_keep (hs : X.stack = X.env :: X.outer) (hf : X.env.frame = some X.env.locals) (hN : X.N.Nodup) (hi : X.N[i]? = some n) (hln : X.env.kindOf n = some .local) (hc : Names X x c) (tk : Takes X Wout)
    (hb : ∀ (W : WX) (pn : List (Addr × Obj)) (xe : Value → Shared → Prop), Takes (X.tr pn xe) W → PassesOwn (model X.prog X.w) X.A X.env xe → PSs (X.tr pn xe) body (tb W))
    (hsu : ∀ (a : Addr) (pn : List (Addr × Obj)), PSs (X.suite a pn) [.Assign [.Name m p1] (.Name n p2) p3] (tAsg (tVar i) (gName j))) :
    PS X (.Try body [.ExceptHandler (some (.Name x np)) (some n) [.Assign [.Name m p1] (.Name n p2) p3] pos'] [] [] pos) (fun D σ H => tb (wKeep X.K c i j Wout D) D σ H) := by
  refine ⟨fun pins s σ H D I h => ?_⟩
  have ok := I.ok
  have hfr : X.A.frames = some (X.env :: X.outer) := by rw [ok.frames, hs]
  have hloc : Loc X.env.scope n := .inl hln
  refine wpAny_Try_except ?_
  refine wpAny_mono ((hb (wKeep X.K c i j Wout D) (X.pn ++ pins) (fun e s₁ => wpAny (model X.prog X.w) X.A (noteFrame e X.env) (fun _ s₂ => wpAny (model X.prog X.w) X.A (setFlight e none) (fun _ s₃ =>
    wpAny (model X.prog X.w) X.A (handleBy e X.env [.ExceptHandler (some (.Name x np)) (some n) [.Assign [.Name m p1] (.Name n p2) p3] pos']) (SP X pins D) X.xe s₃) X.xe s₂) X.xe s₁) (fun u s' xx => ?_) PassesOwn.looking).run [] s σ H D (I.toTry _) h) (fun f s1 hsp => ?_) (fun e s1 he => he)
  · -- the catch
    obtain ⟨a, B, sI, pins', σ', H', cls, d, rfl, J', nb, up, sky, na, os, ag, b, hb1, hyes, hno⟩ := xx
    have J : Inv X pins σ' H' sI := J'.ofTry ok
    have sky' : Sky B (X.env :: X.outer) a (Zc cls d) X.env.locals s'.heap := by rw [← hs]; exact sky
    show wpAny (model X.prog X.w) X.A (noteFrame (.ref a) X.env) _ _ _
    refine Sky.land Zc.steady hfr hf sky' fun h3 fl3 up3 => ?_
    have J3 : Inv X pins σ' H' { s' with heap := h3 } := J.landed nb fl3.1 (up.trans up3) os ag
    obtain ⟨oe3, vs3, he3, hz3, hd3⟩ := fl3.there
    have notFr : ∀ {h : Heap} {o : Obj} {vs : Array Value}, h.FunFrames B (X.env :: X.outer) → h.get? a = some o → o.data = .fields vs → a ∉ frs (X.env :: X.outer) := fun {h o vs} ff e dd hm => by
      obtain ⟨_, o', e', hnf⟩ := ff.mem hm
      rw [e] at e'; cases e'
      exact hnf _ dd
    have nfr := notFr fl3.2.2.1 he3 hd3
    have nI : sI.heap.get? a = none := by
      cases q : sI.heap.get? a with
      | none => rfl
      | some o =>
        have z := nb a o q (by rw [hs]; exact nfr)
        rw [fl3.2.1] at z
        cases z
    have S3 := J3.suiteX a
    refine wpAny_handleBy_cons (codeAny_handlers_test ?_) (by intro q; cases q)
    have LT : PySem.W.Looks (model X.prog X.w) h3 (typeOf (.ref a)) cls := fun A Q E s k q => wpAny_typeOf_ref (k _ _ he3) (by rw [hz3.1]; exact q)
    have LM := PySem.W.exm_one (M := model X.prog X.w) (J3.kIn) LT hb1
    have test : ∀ {Q : Value → Shared → Prop} {E : Value → Shared → Prop}, Q c { s' with heap := h3 } → wpAny (model X.prog X.w) (X.A.mark (some (.ref a))) (eval (.Name x np) X.env) Q E { s' with heap := h3 } := fun {Q E} q => by
      obtain ⟨hg, hdbg, hm | ⟨hm, hv, hnn⟩⟩ := hc
      · exact ld_glob (X := X.suite a (X.pn ++ pins)) S3 hg hm q hdbg
      · exact ld_blt (X := X.suite a (X.pn ++ pins)) S3 hg hm hv q hnn hdbg
    refine test (LM.here ?_)
    cases b with
    | true =>
      refine codeAny_handlers_suite_as ?_
      refine HandSPX.lands_againZ fl3 fun h4 fl4 up4 => ?_
      obtain ⟨oe4, vs4, he4, hz4, hd4⟩ := fl4.there
      have J4 : Inv X pins σ' (upd H' a (exv a cls d)) { s' with heap := h4 } := J.landedX (s' := { s' with heap := h4 }) nb fl4.1 ((up.trans up3).trans up4) os ag nI na he4 hz4 hd4
      have S4 := J4.suiteX a
      refine store_ok (X := X.suite a (X.pn ++ pins)) (v := .ref a) S4 hN hi hloc rfl (fun s5 S5 => ?_) (.inr hln)
      refine wpAny_mono ((hsu a (X.pn ++ pins)).run [] s5 _ _ { nx := fun σ6 H6 => σ6 = (σ'.set i (some (.ref a))).set j (some (.ref a)) ∧ H6 = upd H' a (exv a cls d), rt := fun _ _ => False } S5 ?_) (fun f s6 hsp => ?_) (fun _ _ z => False.elim z)
      · have hlen : i < σ'.length := by
          have e1 := S4.len
          have e2 := (List.getElem?_eq_some_iff.mp hi).1
          show i < _
          rw [e1]
          exact e2
        exact ⟨.ref a, by rw [List.getElem?_set_self hlen], rfl, rfl⟩
      · cases f with
        | next =>
          obtain ⟨σ6, H6, S6, e6, e7⟩ := hsp
          subst e6 e7
          exact gone_ok (S6.unsuiteX ok) hN hi hln fun s7 J7 => ⟨_, _, J7, hyes rfl a na⟩
        | brk =>
          obtain ⟨σ6, H6, S6, q6⟩ := hsp
          exact False.elim q6
        | cont =>
          obtain ⟨σ6, H6, S6, q6⟩ := hsp
          exact False.elim q6
        | ret u =>
          obtain ⟨v6, σ6, H6, S6, r6, q6⟩ := hsp
          exact False.elim q6
    | false =>
      show wpAny _ X.A (handleBy (.ref a) X.env []) _ _ _
      refine wpAny_handleBy_nil ?_
      obtain ⟨k1, k2, k3, oe, vs, T, oT, ts', he, hz, hd, h1, hr⟩ := id fl3
      unfold PySem.passOn
      refine wpAny_bind (wpAny_field he hd h1 ?_)
      rw [if_neg (show ¬ ((Value.ref T == Value.none) = true) from by simp)]
      have fin : wpAny (model X.prog X.w) X.A (setFlight (.ref a) X.env.frame) (fun _ s4 => wpAny (model X.prog X.w) X.A (throw (.ref a) : Sem Flow) (SP X pins D) X.xe s4) X.xe { s' with heap := h3 } := by
        rw [hf]
        refine HandSPX.setFlight_upZ fl3 fun h4 hh4 up4 => wpAny_throw (tk _ _ ?_)
        exact ⟨a, B, sI, pins, σ', H', cls, d, rfl, J, nb, (up.trans up3).trans up4, .inr (.inr (by rw [hs]; exact hh4)), na, os, ag, hno rfl⟩
      first
        | exact wpAny_bind (wpAny_pure (wpAny_bind fin))
        | exact wpAny_bind fin
  · cases f with
    | next =>
      obtain ⟨σ', H', J', q⟩ := hsp
      exact wpAny_execs_nil ⟨σ', H', J'.ofTry ok, q⟩
    | brk =>
      obtain ⟨σ', H', J', q⟩ := hsp
      exact ⟨σ', H', J'.ofTry ok, q⟩
    | cont =>
      obtain ⟨σ', H', J', q⟩ := hsp
      exact ⟨σ', H', J'.ofTry ok, q⟩
    | ret u =>
      obtain ⟨v, σ', H', J', r, q⟩ := hsp
      exact ⟨v, σ', H', J'.ofTry ok, r, q⟩
end
def Kept (H : Hp) (a D dd : Addr) (fs : List (Str × V)) : Prop := H a = some (exv a (.ref D) (some dd)) ∧ H dd = some (.xd fs)
def rIsV (K : PySem.W.Frag) : List V → Hp → VK → Prop := fun xs H Q => ∃ (a D dd : Addr) (fs : List (Str × V)) (c : V) (cv : Value) (b : Bool), xs = [.ref a, c] ∧ ExcC K D ∧ Kept H a D dd fs ∧ ClsV c cv ∧ PySem.W.kitOne K (.ref D) cv = some b ∧ Q (.bl b) H
def rIsVT (K : PySem.W.Frag) : List V → Hp → VK → Prop := fun xs H Q => ∃ (a D dd tp : Addr) (fs : List (Str × V)) (cs : List V) (us : List Value) (b : Bool), xs = [.ref a, .ref tp] ∧ ExcC K D ∧ Kept H a D dd fs ∧ H tp = some (.tup cs) ∧ Paired ClsV cs us ∧ PySem.W.kitAny K (.ref D) us = some b ∧ Q (.bl b) H
section
variable {X : Cx}
theorem inst_exv {pins : List (Addr × Obj)} {σ : St} {H : Hp} {s : Shared} {a D dd : Addr} {fs : List (Str × V)} (I : Inv X pins σ H s) (k : Kept H a D dd fs) :
    ∃ (oe od : Obj) (mA : Str → Option Value), PySem.W.InstAt s.heap a oe D (some od) ∧ (∀ name, PySem.W.lookIn name od = some (mA name)) ∧ ∀ f, RelO (fs.lookup f) (mA f) := by
  obtain ⟨oe, vs, he, ⟨hc, hd⟩, hv⟩ := exv_at I.hok k.1
  obtain ⟨mA, hns, hr⟩ := (show ObjOk X.prog X.w H s.heap dd (.xd fs) from I.hok dd _ k.2)
  obtain ⟨od, ho, hl⟩ := lookIn_ns hns
  refine ⟨oe, od, mA, ⟨he, hc, by unfold PySem.W.notCls; rw [hv] <;> rfl, ?_⟩, hl, hr⟩
  rw [hd]
  exact ho
theorem call_isV : CallR X (.builtin "isinstance") (rIsV X.K) := by
  intro pins s σ H xs us Q I r h
  obtain ⟨a, D, dd, fs, c, cv, b, rfl, C, k, ck, e, q⟩ := h
  obtain ⟨u1, u2, rfl, r1, r2⟩ := vals2 r
  obtain rfl : u1 = Value.ref a := r1
  have ec := ck.eq r2
  subst ec
  obtain ⟨oe, od, mA, J, _, _⟩ := inst_exv I k
  exact PySem.W.kia_one (PySem.W.kitx_excX C.hg C.hk C.hs C.hd C.ha C.hn C.ht C.hm) I.kIn J e (fun z => nomatch z) fun tk => ⟨.bl b, H, I.tok tk, rfl, q⟩
theorem call_isVT : CallR X (.builtin "isinstance") (rIsVT X.K) := by
  intro pins s σ H xs us Q I r h
  obtain ⟨a, D, dd, tp, fs, cs, ws, b, rfl, C, k, hT, ck, e, q⟩ := h
  obtain ⟨u1, u2, rfl, r1, r2⟩ := vals2 r
  obtain rfl : u1 = Value.ref a := r1
  cases (show u2 = Value.ref tp from r2)
  obtain ⟨oe, od, mA, J, _, _⟩ := inst_exv I k
  obtain ⟨_, its, rv, o, h1, h2, n, h3⟩ := (show ObjOk X.prog X.w H s.heap tp (.tup cs) from I.hok tp _ hT)
  have e3 := ClsV.all ck rv
  subst e3
  obtain ⟨oc, od', dt, sl⟩ := o
  simp only at h2 h3
  subst h2 h3
  exact PySem.W.kia_tup (PySem.W.kitx_excX C.hg C.hk C.hs C.hd C.ha C.hn C.ht C.hm) I.kIn J h1 e (fun z => nomatch z) fun tk => ⟨.bl b, H, I.tok tk, rfl, q⟩
def tXv (K : PySem.W.Frag) (f : Str) (te : TE) : TE := fun σ H Q => te σ H fun x H1 => ∃ (a D dd : Addr) (fs : List (Str × V)) (v : V), x = .ref a ∧ ExcC K D ∧ PySem.W.findIn K (.ref D) f = some none ∧ Kept H1 a D dd fs ∧ fs.lookup f = some v ∧ Q v H1
theorem pe_xv {e : Expr} {f : Str} {te : TE} {pos : Pos} (he : PE X e te) (hb : attributeBase e f X.env (eval e X.env) = eval e X.env := by rfl) : PE X (.Attribute e f pos) (tXv X.K f te) := by
  refine ⟨fun pins s σ H Q I h => ?_⟩
  refine attr_of hb (thn (he.run pins s σ H _ I h) fun u s1 hh => ?_)
  obtain ⟨x, H1, I1, rx, a, D, dd, fs, v, ex, C, no, k, hf, q⟩ := hh
  subst ex
  obtain rfl : u = Value.ref a := rx
  obtain ⟨oe, od, mA, J, hl, hr⟩ := inst_exv I1 k
  obtain ⟨u, hu, ru⟩ := RelO.some_of (v := v) (o := mA f) (by rw [← hf]; exact hr f)
  exact HandSPX.exc_get I1.kIn J C.hg C.hk C.hs (PySem.W.findObj_own C.hd no rfl (by rw [hl, hu])) (handed_of ru) ⟨v, H1, I1.tok _, ru, q⟩
end
end L2
namespace L2
open PySem PySem.Spec PyProof.Rows
section
variable {P : Program} {w : World} {K : PySem.W.Frag} {mg : Str → Option Value} {base : Heap}
theorem fnX {x : Str} {st : Stmt} {f : Addr} {fd : FuncData} {N ps : List Str} {k : Nat} {sp : Sp} (F : C8.Def K mg x st f fd) (S : FnScope N ps (C8.fnScope st)) (len : ∀ vs H Q E, sp vs H Q E → vs.length = ps.length)
    (hbody : ∀ (cdv : Value) (A : Around) (outer : List Env) (s : Shared) (H : Hp) (vs : List V) (Q : VK) (E : XK), Room k (A.deeper (envOfC x (C8.fnScope st) s.heap.objs.size f cdv)) → sp vs H Q E →
      ∃ t, PSs (cxOf (L2.CX P w) P w K mg base N x (C8.fnScope st) f cdv A outer s H E) (C8.fnBody st) t ∧ t { nx := fun _ H' => Q .non H', rt := Q } (start N vs) H) : FnOk P w K mg base (L2.CX P w) (k + 1) f fd ps sp := by
  obtain ⟨oc, od, dV, kV, doc, pm, an, cdv, ct, osl, rfl, lk, hcd⟩ := F.fn.ex
  exact fn_of lk hcd S len fun A outer s H vs Q E hr hsp => hbody cdv A outer s H vs Q E hr hsp
end
end L2
namespace Pv
open PySem L2
def lpx {S α ε : Type} (f : S → α → Option (Except ε S)) : S → List α → Option ε
  | _, [] => none
  | s, x :: r => bd (f s x) fun y => match y with
    | .error e => some e
    | .ok s' => lpx f s' r
section
variable {α S ε : Type} [Rp α] {A : List Addr} {B0 H0 B H : Hp} {O : List (Addr × HO)} {J : It} {xs : List α} {g : TG} {tb : TS} {D : Ends} {σ : L2.St}
theorem for_x (W : Ws A B0 H0 B H O) (tw : TW A H0 J B xs) (f : S → α → Option (Except ε S)) {s0 : S} {fin : ε} (hx : lpx f s0 xs = some fin)
    (I : S → L2.St → List (Addr × HO) → Hp → Prop) (mono : ∀ s σ O B B', Le B B' → I s σ O B → I s σ O B') (h0 : I s0 σ O B)
    (turn : ∀ s x y v σ' O' B' H', Le B B' → Ws A B0 H0 B' H' O' → I s σ' O' B' → Rp.R B' v x → f s x = some y → (∀ e, y = .error e → e = fin) →
      g v σ' H' fun σ2 H2 => tb { D with nx := fun σ3 H3 => ∃ s' O3 B3, y = .ok s' ∧ Le B B3 ∧ Ws A B0 H0 B3 H3 O3 ∧ I s' σ3 O3 B3, ct := fun σ3 H3 => ∃ s' O3 B3, y = .ok s' ∧ Le B B3 ∧ Ws A B0 H0 B3 H3 O3 ∧ I s' σ3 O3 B3, bk := D.nx } σ2 H2) :
    ForK g tb D σ J H := by
  unfold ForK
  refine ⟨fun i m σ H => m = xs.length - i ∧ i ≤ xs.length ∧ ∃ s O' B', lpx f s (xs.drop i) = some fin ∧ Le B B' ∧ Ws A B0 H0 B' H O' ∧ I s σ O' B', ⟨xs.length, by simp, Nat.zero_le _, s0, O, B, by rw [List.drop_zero]; exact hx, Le.refl _, W, h0⟩, ?_⟩
  rintro i m σ1 H1 ⟨rfl, hi, s, O1, B1, hl, le1, W1, i1⟩
  by_cases hlt : i < xs.length
  · refine .inr ⟨tw.go le1 W1 hlt, ?_⟩
    have hget : xs[i]? = some xs[i] := List.getElem?_eq_getElem hlt
    rw [List.drop_eq_getElem_cons hlt] at hl
    unfold lpx at hl
    obtain ⟨y, hs, hl⟩ := bs hl
    refine ⟨fun σ3 H3 => ∃ s' O3 B3, y = .ok s' ∧ Le B B3 ∧ Ws A B0 H0 B3 H3 O3 ∧ I s' σ3 O3 B3, ?_, fun x Hn yl => ?_⟩
    · rintro σ3 H3 ⟨s', O3, B3, rfl, le3, W3, i3⟩
      exact ⟨xs.length - (i + 1), by omega, rfl, hlt, s', O3, B3, hl, le3, W3, i3⟩
    · obtain ⟨Bn, Wn, len, rn⟩ := tw.yld le1 W1 hget yl
      exact turn s _ y x σ1 O1 Bn Hn (le1.tr len) Wn (mono _ _ _ _ _ len i1) rn hs fun e ee => by
        subst ee
        exact Option.some.inj hl
  · rw [List.drop_eq_nil_of_le (by omega)] at hl
    cases hl
end
theorem Ws.newX {A : List Addr} {B0 H0 B H : Hp} {O : List (Addr × HO)} (W : Ws A B0 H0 B H O) {a : Addr} (h : H a = none) (o : HO) : Ws A B0 H0 B (upd H a o) O := (W.np h o).weak (Le.new (W.le.free h)) W.bb
end Pv
namespace L2
open PySem PySem.Spec PyProof.Rows
end L2
namespace Pv
open PySem L2
section
variable {α : Type} [Rp α] {A : List Addr} {B0 H0 B H : Hp} {O : List (Addr × HO)} {Q : VK} {v w : V} {K : PySem.W.Frag}
theorem Rs.rep {l : List V} {xs : List α} (r : Rs B l xs) : ∀ n : Nat, Rs B (List.replicate n l).flatten (List.replicate n xs).flatten
  | 0 => .nil
  | n + 1 => by
    rw [List.replicate_succ, List.replicate_succ, List.flatten_cons, List.flatten_cons]
    exact r.app (Rs.rep r n)
theorem repL_ {xs : List α} {n : Int} (W : Ws A B0 H0 B H O) (r : Rp.R B v xs) (hn : -(2 ^ 63) ≤ n ∧ n < 2 ^ 63 ∧ xs.length * n.toNat ≤ sizeLine) (k : ∀ v B' H', Ws A B0 H0 B' H' O → Le B B' → Rp.R B' v (List.replicate n.toNat xs).flatten → Q v H') : rRep v (.int n) H Q := by
  obtain ⟨a, l, rfl, h1, h2, h3⟩ := r
  refine ⟨a, n, l, rfl, rfl, W.le.lst h1, hn.1, hn.2.1, by rw [h3.len]; exact hn.2.2, newL W (Rs.rep h3 _) ?_ k⟩
  rw [List.length_flatten, List.map_replicate, List.sum_replicate_nat, h3.len, Nat.mul_comm]
  exact hn.2.2
end
end Pv
namespace Pv
open PySem L2
end Pv

namespace PvTk
open PySem PySem.Spec PyProof.Rows L2 CwR Pv
theorem noneBooked {X : Cx} {pins : List (Addr × Obj)} {σ : L2.St} {H : Hp} {s : Shared} (I : Inv X pins σ H s) (hS : PySem.W.nsIn X.K cStatics sharingNotToldKey = some none) : NoneBooked s.heap := by
  obtain ⟨mc, h, _⟩ := I.nolimit
  exact ⟨mc, h, PySem.W.ns_none_of I.kIn h hS⟩
def tReplV (to : TE) (y z : Str) (te : TE) : TE := fun σ H Q => to σ H fun v H1 => ∃ (x : Str), v = .str x ∧ te σ H1 fun u H2 => ∃ (n : Int), u = .int n ∧ (1 ≤ n ∧ n ≤ 1000 ∧ 1 ≤ z.length ∧ z.length ≤ 1000 ∧ x.length + (x.length + 1) * (timesS z n).length ≤ 16777216) ∧ Q (.str (Txt.replace x y (timesS z n))) H2
theorem mul_tok {prog : Program} {w : World} {A : Around} {E : Value → Shared → Prop} {s : Shared} {a : Str} {n : Int} {t t' : Tok} {Q : Value → Shared → Prop} (h1 : 1 ≤ n) (h2 : n ≤ 1000) (h3 : 1 ≤ a.length) (h4 : a.length ≤ 1000)
    (hq1 : Q (.str (timesS a n) t) s) (hq2 : Q (.str (timesS a n) s.toks) { s with toks := s.toks + 1 }) : wpAny (model prog w) A (binaryOp .Mult (.str a t) (.int n t')) Q E s := by
  by_cases e : n = 1
  · subst e
    have e2 : timesS a 1 = a := rfl
    rw [e2] at hq1
    refine PySem.P.mul_str (by rfl) (fun _ z => absurd z (by simp)) (fun _ z => absurd z (by simp)) ?_
    rw [if_neg (by omega), if_pos (by rfl)]
    exact hq1
  · have e2 : timesS a n = repS a n := by unfold timesS; rw [if_neg e]
    rw [e2] at hq2
    have hne : (n == 1 || a.length == 0) = false := by
      rw [Bool.or_eq_false_iff]
      exact ⟨beq_eq_false_iff_ne.mpr (by omega), beq_eq_false_iff_ne.mpr (by omega)⟩
    refine PySem.P.mul_str (by rw [decide_eq_false (by omega), decide_eq_false (by omega)]; rfl) (fun _ _ => ?_) (fun _ _ => ?_) ?_
    · have : (1000 : Int) ≤ (2 ^ 63 - 1) / n := Int.le_ediv_of_mul_le (by omega) (by omega)
      omega
    · have : a.length * n.toNat ≤ 1000 * 1000 := Nat.mul_le_mul h4 (by omega)
      have sz : sizeLine = 16777216 := by decide
      exact decide_eq_false (by omega)
    · rw [if_neg (by omega), if_neg (by rw [hne]; decide)]
      have hl : (repS a n).length ≤ sizeLine := by
        have e := rep_len a.cps n.toNat #[]
        have : a.length * n.toNat ≤ 1000 * 1000 := Nat.mul_le_mul h4 (by omega)
        have sz : sizeLine = 16777216 := by decide
        show ((List.replicate n.toNat a.cps).foldl (· ++ ·) #[]).size ≤ _
        rw [e]
        have e3 : a.cps.size = a.length := rfl
        have e4 : (#[] : Array Nat).size = 0 := rfl
        rw [e3, e4, Nat.mul_comm]
        omega
      exact ⟨hl, hq2⟩
section
variable {X : Cx} {K : PySem.W.Frag} {o e : Expr} {te to : TE} {y z : Str} {j k : Nat} {c0 c1 c2 apos pos : Pos}
theorem pet_replV (ho : PE X o to) (he : PE X e te) (hS : PySem.W.nsIn K cStatics sharingNotToldKey = some none) (hK : X.K = K := by rfl)
    (hst : starEach [.Constant (.str y) j c0, .BinOp (.Constant (.str z) k c1) .Mult e c2] X.env = [(false, eval (.Constant (.str y) j c0) X.env), (false, eval (.BinOp (.Constant (.str z) k c1) .Mult e c2) X.env)] := by rfl)
    (hbase : attributeBase o "replace" X.env (eval o X.env) = eval o X.env := by rfl) (hline : (apos.endLine == pos.line) = true := by rfl) :
    PET X (.Call (.Attribute o "replace" apos) [.Constant (.str y) j c0, .BinOp (.Constant (.str z) k c1) .Mult e c2] [] pos) (tReplV to y z te) := by
  intro pins s σ H Q h0 I h
  subst hK
  refine PySem.Call_method2 hbase hst hline (wpAny_mono (PySem.wpAny_toks (ho.run pins s σ H _ I h)) (fun v s1 q => ?_) fun _ _ z => z.2)
  obtain ⟨hk, v', H1, I1, r1, x, e1, q⟩ := q
  subst e1
  obtain ⟨tx, e2⟩ := r1
  subst e2
  refine ⟨"str", _, PySem.F.plainAttrs_str, PySem.F.slot_str_replace, PySem.F.type_str_replace, typeIs_str _ _ _, (fun _ e => nomatch e), Calls.callWith_builtin rfl (Calls.evalArgs_plain (Calls.spliced_cons ?_))⟩
  refine Calls.Constant_str (Calls.spliced_cons ?_)
  refine wpAny_BinOp (Calls.Constant_str ?_)
  refine wpAny_mono (PySem.wpAny_toks (he.run pins _ σ H1 _ (I1.tok (s1.toks + 1 + 1)) q)) (fun u s2 q2 => ?_) fun _ _ z => z.2
  obtain ⟨hk2, u', H2, I2, r2, n, e3, hb, q3⟩ := q2
  subst e3
  obtain ⟨tn, e4⟩ := r2
  subst e4
  have hk3 : s1.toks + 1 + 1 ≤ s2.toks := hk2
  refine mul_tok hb.1 hb.2.1 hb.2.2.1 hb.2.2.2.1 ?_ ?_
  · refine Calls.spliced_nil ?_
    exact PySem.SC.replaceA (by show s1.toks ≠ 0; omega) (by show s1.toks + 1 ≠ 0; omega) (by show s1.toks ≠ s1.toks + 1; omega) hb.2.2.2.2 (fun t' k => ⟨.str (Txt.replace x y (timesS z n)), H2, I2.tok k, ⟨t', rfl⟩, q3⟩) (noneBooked I2 hS)
  · refine Calls.spliced_nil ?_
    exact PySem.SC.replaceA (by show s1.toks ≠ 0; omega) (by show s2.toks ≠ 0; omega) (by show s1.toks ≠ s2.toks; omega) hb.2.2.2.2 (fun t' k => ⟨.str (Txt.replace x y (timesS z n)), H2, (I2.tok (s2.toks + 1)).tok k, ⟨t', rfl⟩, q3⟩) (noneBooked (I2.tok (s2.toks + 1)) hS)
end
theorem replV_ {to te : TE} {y z : Str} {σ : L2.St} {H : Hp} {Q : VK} (h : to σ H fun v H1 => ∃ (x : Str), v = .str x ∧ te σ H1 fun u H2 => ∃ (n : Int), u = .int n ∧ (1 ≤ n ∧ n ≤ 1000 ∧ 1 ≤ z.length ∧ z.length ≤ 1000 ∧ x.length + (x.length + 1) * (timesS z n).length ≤ 16777216) ∧ Q (.str (Txt.replace x y (timesS z n))) H2) : tReplV to y z te σ H Q := h
end PvTk

namespace G
open PySem L2 Pv
class Cs where
  c_Machine : Addr
  c_Draft : Addr
  k_FIRSTS : Addr
structure R_m where
  switches : List Str
  keepers : List (Str × (Option Int))
  gates : List (T3 Str Str Str)
  nexts : List (Str × Str)
  nevers : List (Str × Str)
  somes : List (Str × Str)
instance : Rp R_m := ⟨fun B v x => ∃ (p : Addr) (u0 u1 u2 u3 u4 u5 : V), v = .ref p ∧ DkA B p [(.inr "switches", u0), (.inr "keepers", u1), (.inr "gates", u2), (.inr "nexts", u3), (.inr "nevers", u4), (.inr "somes", u5)] ∧ Rp.R B u0 x.switches ∧ Rp.R B u1 x.keepers ∧ Rp.R B u2 x.gates ∧ Rp.R B u3 x.nexts ∧ Rp.R B u4 x.nevers ∧ Rp.R B u5 x.somes, fun m h => by
  obtain ⟨p, u0, u1, u2, u3, u4, u5, e, hB, h0, h1, h2, h3, h4, h5⟩ := h
  exact ⟨p, u0, u1, u2, u3, u4, u5, e, hB.mono m, Rp.mono m h0, Rp.mono m h1, Rp.mono m h2, Rp.mono m h3, Rp.mono m h4, Rp.mono m h5⟩⟩
instance : NN R_m := ⟨fun h => by obtain ⟨p, u0, u1, u2, u3, u4, u5, rfl, _⟩ := h; exact fun z => by cases z⟩
structure O_Machine where
  switches : List Str
  keepers : Dc Str (Option Int)
  gates : List (T3 Str Str Str)
  nexts : Dc Str Str
  nevers : Dc Str Str
  somes : Dc Str Str
instance [Cs] : Rp O_Machine := ⟨fun B v x => ∃ (p dx : Addr) (u0 u1 u2 u3 u4 u5 : V), v = .ref p ∧ B p = some (.ins Cs.c_Machine dx [("switches", u0), ("keepers", u1), ("gates", u2), ("nexts", u3), ("nevers", u4), ("somes", u5)]) ∧ Rp.R B u0 x.switches ∧ Rp.R B u1 x.keepers ∧ Rp.R B u2 x.gates ∧ Rp.R B u3 x.nexts ∧ Rp.R B u4 x.nevers ∧ Rp.R B u5 x.somes, fun m h => by
  obtain ⟨p, dx, u0, u1, u2, u3, u4, u5, e, hB, h0, h1, h2, h3, h4, h5⟩ := h
  exact ⟨p, dx, u0, u1, u2, u3, u4, u5, e, m.ins hB, Rp.mono m h0, Rp.mono m h1, Rp.mono m h2, Rp.mono m h3, Rp.mono m h4, Rp.mono m h5⟩⟩
instance [Cs] : NN O_Machine := ⟨fun h => by obtain ⟨p, dx, u0, u1, u2, u3, u4, u5, rfl, _⟩ := h; exact fun z => by cases z⟩
structure O_Draft where
  switches : List Str
  keepers : Dc Str (Option Int)
  gates : List (T3 Str Str Str)
  nexts : Dc Str Str
  nevers : Dc Str Str
  somes : Dc Str Str
  names : Dc Str Bool
instance [Cs] : Rp O_Draft := ⟨fun B v x => ∃ (p dx : Addr) (u0 u1 u2 u3 u4 u5 u6 : V), v = .ref p ∧ B p = some (.ins Cs.c_Draft dx [("switches", u0), ("keepers", u1), ("gates", u2), ("nexts", u3), ("nevers", u4), ("somes", u5), ("names", u6)]) ∧ Rp.R B u0 x.switches ∧ Rp.R B u1 x.keepers ∧ Rp.R B u2 x.gates ∧ Rp.R B u3 x.nexts ∧ Rp.R B u4 x.nevers ∧ Rp.R B u5 x.somes ∧ Rp.R B u6 x.names, fun m h => by
  obtain ⟨p, dx, u0, u1, u2, u3, u4, u5, u6, e, hB, h0, h1, h2, h3, h4, h5, h6⟩ := h
  exact ⟨p, dx, u0, u1, u2, u3, u4, u5, u6, e, m.ins hB, Rp.mono m h0, Rp.mono m h1, Rp.mono m h2, Rp.mono m h3, Rp.mono m h4, Rp.mono m h5, Rp.mono m h6⟩⟩
instance [Cs] : NN O_Draft := ⟨fun h => by obtain ⟨p, dx, u0, u1, u2, u3, u4, u5, u6, rfl, _⟩ := h; exact fun z => by cases z⟩
def G_FIRSTS : Dc Str (Option Int) := ⟨[(("0" : Str), (some (0 : Int))), (("1" : Str), (some (1 : Int))), (("-" : Str), none)]⟩
def R_m.at_ (m : R_m) (f : Str) : Option (List (Str × Str)) := if f = "nexts" then some m.nexts else if f = "nevers" then some m.nevers else if f = "somes" then some m.somes else none
theorem R_m.at_ok {m : R_m} {f : Str} {y : List (Str × Str)} (h : m.at_ f = some y) : (f = "nexts" ∧ y = m.nexts) ∨ (f = "nevers" ∧ y = m.nevers) ∨ (f = "somes" ∧ y = m.somes) := by
  unfold R_m.at_ at h
  by_cases c0 : f = "nexts"
  · rw [if_pos c0] at h
    exact .inl ⟨c0, (Option.some.inj h).symm⟩
  rw [if_neg c0] at h
  by_cases c1 : f = "nevers"
  · rw [if_pos c1] at h
    exact .inr (.inl ⟨c1, (Option.some.inj h).symm⟩)
  rw [if_neg c1] at h
  by_cases c2 : f = "somes"
  · rw [if_pos c2] at h
    exact .inr (.inr (⟨c2, (Option.some.inj h).symm⟩))
  rw [if_neg c2] at h
  cases h
def m_cell_at (x_script : Scr) (x_k : Int) : Option Int :=
  if decide (x_k < (x_script.l.length : Int)) = true then (bd (atI x_script.l x_k) fun x4 => some x4) else (some (0 : Int))
def m_mix (x_cell : Int) (x_k : Int) : Option Int :=
  bd (ck ((-(2 ^ 64) < x_k ∧ x_k < 2 ^ 64) ∨ (-(2 ^ 64) < x_k ∧ x_k < 2 ^ 64))) fun _ => bd (some (((((x_cell % (2147483629 : Int)) + ((x_k * x_k) * (7919 : Int))) + (11 : Int)) * (48271 : Int)) % (2147483647 : Int))) fun x2 => bd (ck ((-(2 ^ 64) < x2 ∧ x2 < 2 ^ 64) ∨ (-(2 ^ 64) < x2 ∧ x2 < 2 ^ 64))) fun _ => some ((x2 * x2) % (1999999973 : Int))

def m_rich (x_cell : Int) (x_k : Int) : Option Int :=
  bd (lpn (fun (s2 : Int) (x4 : Int) => bd (m_mix x_cell (((20 : Int) * x_k) + x4)) fun r16 => bd (some ((s2 * (1999999973 : Int)) + r16)) fun x24 => some x24) (0 : Int) (rng 0 ((12 : Int) : Int).toNat)) fun fin25 => some fin25
def m_pick (x_left : List Int) (x_many : Int) : Option (Int × (List Int)) :=
  bd (atI x_left (0 : Int)) fun x3 => bd (if ((decide (x3 ∈ (TV.mk [(0 : Int), (-(1 : Int))] : TV Int).l)) && (decide ((1 : Int) < (x_left.length : Int)))) = true then (bd ((x_left).getLast?) fun x21 => bd (ixN ((x_left).dropLast).length (0 : Int)) fun x28 => some (((x_left).dropLast).set x28 x21)) else (some x_left)) fun j18 => bd (atI j18 (0 : Int)) fun x39 => bd (ck (0 < x_many)) fun _ => bd (some (x39 % x_many)) fun x43 => bd (atI j18 (0 : Int)) fun x44 => bd (ck (0 < x_many ∧ x_many < 1073741824)) fun _ => bd (ixN (j18).length (0 : Int)) fun x48 => some (x43, (j18.set x48 (x44 / x_many)))
def m_spelt (x_left : List Int) (x_told : List Str) : Option (Str × (List Int)) :=
  bd (some (Txt.split ("switch keep gate next never some wall row step piece lasso" : Str) (" " : Str))) fun x7 => bd (m_pick x_left (9 : Int)) fun r10 => bd (some ((1 : Int) + r10.1)) fun x20 => bd (m_pick r10.2 (11 : Int)) fun r22 => bd (atI x7 r22.1) fun x32 => bd (if decide (x20 < (9 : Int)) = true then (bd (ck (-(2 ^ 62) ≤ x20 ∧ x20 < 2 ^ 62)) fun _ => bd (ck ((rng 0 (x20 : Int).toNat).length ≤ sizeLine)) fun _ => bd (lcs (fun (s53 : (List Int)) (x42 : Int) => bd (m_pick s53 (26 : Int)) fun r59 => bd (sAt ("abcdefghijklmnopqrstuvwxyz" : Str) r59.1) fun x69 => some (r59.2, some x69)) r22.2 (rng 0 (x20 : Int).toNat)) fun x71 => bd (ck ((List.map (fun (s : Str) => s.length) x71.2).sum + (x71.2).length * (("" : Str)).length ≤ 16777216)) fun _ => bd (some (Txt.join ("" : Str) x71.2)) fun x86 => some (x86, x71.1)) else (some (x32, r22.2))) fun j37 => bd (ck ((signs ("abcdefghijklmnopqrstuvwxyz" : Str)).length ≤ sizeLine)) fun _ => bd (mapO (fun (x100 : Str) => bd (ck ((j37.1).length ≤ sizeLine)) fun _ => bd (ck (((Txt.slice j37.1 none (some (7 : Int)))).length + (x100).length ≤ sizeLine)) fun _ => some ((Txt.slice j37.1 none (some (7 : Int))) ++ x100)) (signs ("abcdefghijklmnopqrstuvwxyz" : Str))) fun x117 => bd (ck ((([j37.1] : List Str)).length + (x117).length ≤ sizeLine)) fun _ => bd (ck ((signs ("abcdefghijklmnopqrstuvwxyz" : Str)).length ≤ sizeLine)) fun _ => bd (mapO (fun (x133 : Str) => bd (ck ((j37.1).length ≤ sizeLine)) fun _ => bd (ck (((Txt.slice j37.1 none (some (6 : Int)))).length + (x133).length ≤ sizeLine)) fun _ => bd (ck ((((Txt.slice j37.1 none (some (6 : Int))) ++ x133)).length + (("q" : Str)).length ≤ sizeLine)) fun _ => some (((Txt.slice j37.1 none (some (6 : Int))) ++ x133) ++ ("q" : Str))) (signs ("abcdefghijklmnopqrstuvwxyz" : Str))) fun x151 => bd (ck (((([j37.1] : List Str) ++ x117)).length + (x151).length ≤ sizeLine)) fun _ => bd (some ((([j37.1] : List Str) ++ x117) ++ x151)) fun x166 => bd (ck ((signs ("abcdefghijklmnopqrstuvwxyz" : Str)).length ≤ sizeLine)) fun _ => bd (mapO (fun (x169 : Str) => bd (ck ((j37.1).length ≤ sizeLine)) fun _ => bd (ck (((Txt.slice j37.1 none (some (6 : Int)))).length + (x169).length ≤ sizeLine)) fun _ => bd (ck ((((Txt.slice j37.1 none (some (6 : Int))) ++ x169)).length + (("z" : Str)).length ≤ sizeLine)) fun _ => some (((Txt.slice j37.1 none (some (6 : Int))) ++ x169) ++ ("z" : Str))) (signs ("abcdefghijklmnopqrstuvwxyz" : Str))) fun x187 => bd (ck ((x166).length + (x187).length ≤ sizeLine)) fun _ => bd (ck ((signs ("abcdefghijklmnopqrstuvwxyz" : Str)).length ≤ sizeLine)) fun _ => bd (mapO (fun (x203 : Str) => bd (ck ((j37.1).length ≤ sizeLine)) fun _ => bd (ck (((Txt.slice j37.1 none (some (5 : Int)))).length + (x203).length ≤ sizeLine)) fun _ => bd (ck ((((Txt.slice j37.1 none (some (5 : Int))) ++ x203)).length + (("qz" : Str)).length ≤ sizeLine)) fun _ => some (((Txt.slice j37.1 none (some (5 : Int))) ++ x203) ++ ("qz" : Str))) (signs ("abcdefghijklmnopqrstuvwxyz" : Str))) fun x221 => bd (ck (((x166 ++ x187)).length + (x221).length ≤ sizeLine)) fun _ => bd (some ((x166 ++ x187) ++ x221)) fun x236 => bd (ck (x236.length ≤ sizeLine)) fun _ => bd (atI (List.map (fun (x240 : Str) => x240) (List.filter (fun (x240 : Str) => (!decide (x240 ∈ x_told))) x236)) (0 : Int)) fun x265 => some (x265, j37.2)
def m_Machine_init (x_switches : List Str) (x_keepers : Dc Str (Option Int)) (x_gates : List (T3 Str Str Str)) (x_nexts : Dc Str Str) (x_nevers : Dc Str Str) (x_somes : Dc Str Str) : Option O_Machine :=
  some (O_Machine.mk x_switches x_keepers x_gates x_nexts x_nevers x_somes)
def m_p_plain_name (x_literal : Str) : Option Str :=
  if (Txt.startswith x_literal ("~" : Str)) = true then (bd (ck ((x_literal).length ≤ sizeLine)) fun _ => some (Txt.slice x_literal (some (1 : Int)) none)) else (some x_literal)
def m_literal (x_left : List Int) (x_names : List Str) : Option (Str × (List Int)) :=
  bd (m_pick x_left (((2 : Int) * (x_names.length : Int)) + (2 : Int))) fun r2 => if decide ((((2 : Int) * (x_names.length : Int)) - (1 : Int)) < r2.1) = true then (bd (sAt ("01" : Str) (r2.1 % (2 : Int))) fun x15 => some (x15, r2.2)) else (bd (atI ([("" : Str), ("~" : Str)] : List Str) (r2.1 % (2 : Int))) fun x22 => bd (atI x_names (r2.1 / (2 : Int))) fun x25 => bd (ck ((x22).length + (x25).length ≤ sizeLine)) fun _ => some ((x22 ++ x25), r2.2))

def m_wishes (x_left : List Int) (x_names : List Str) (x_told : List Str) (x_many : Int) : Option ((List (Str × Str)) × (List Int)) :=
  bd (some ([] : List (Str × Str))) fun x7 => bd (ck (-(2 ^ 62) ≤ x_many ∧ x_many < 2 ^ 62)) fun _ => bd (lpn (fun (s10 : (List Int) × (List (Str × Str))) (x13 : Int) => bd (ck (s10.2.length ≤ sizeLine)) fun _ => bd (ck ((x_told).length + ((List.map (fun (x36 : Str × Str) => x36.1) s10.2)).length ≤ sizeLine)) fun _ => bd (m_spelt s10.1 (x_told ++ (List.map (fun (x36 : Str × Str) => x36.1) s10.2))) fun r79 => bd (m_literal r79.2 x_names) fun r90 => bd (ck ((s10.2).length < sizeLine)) fun _ => some (r90.2, (s10.2 ++ [(r79.1, r90.1)]))) (x_left, x7) (rng 0 (x_many : Int).toNat)) fun fin111 => some (fin111.2, fin111.1)

def m_machine_digits (x_cells : List Int) (x_sizes : TV Int) : Option R_m :=
  bd (ck ((enu x_cells).length ≤ sizeLine)) fun _ => bd (mapO (fun (x3 : Int × Int) => bd (m_rich x3.2 ((40 : Int) + x3.1)) fun r21 => some ([x3.2, r21] : List Int)) (enu x_cells)) fun x36 => bd (un3 x36) fun x37 => bd (some ([] : List Str)) fun x67 => bd (atI x_sizes.l (0 : Int)) fun x68 => bd (m_pick x37.1 (x68 + (1 : Int))) fun r72 => bd (ck (-(2 ^ 62) ≤ r72.1 ∧ r72.1 < 2 ^ 62)) fun _ => bd (lpn (fun (s84 : (List Int) × (List Str)) (x86 : Int) => bd (m_spelt s84.1 s84.2) fun r106 => bd (ck ((s84.2).length < sizeLine)) fun _ => some (r106.2, (s84.2 ++ [r106.1]))) (r72.2, x67) (rng 0 (r72.1 : Int).toNat)) fun fin124 => bd (some ([] : List (Str × (Option Int)))) fun x152 => bd (atI x_sizes.l (1 : Int)) fun x153 => bd (m_pick fin124.1 (x153 + (1 : Int))) fun r157 => bd (ck (-(2 ^ 62) ≤ r157.1 ∧ r157.1 < 2 ^ 62)) fun _ => bd (lpn (fun (s169 : (List Int) × (List Str) × (List (Str × (Option Int)))) (x171 : Int) => bd (m_spelt s169.1 s169.2.1) fun r193 => bd (ck ((s169.2.1).length < sizeLine)) fun _ => bd (atI (s169.2.1 ++ [r193.1]) (-(1 : Int))) fun x211 => bd (m_pick r193.2 (3 : Int)) fun r221 => bd (atI ([(some (0 : Int)), (some (1 : Int)), none] : List (Option Int)) r221.1) fun x231 => bd (ck ((s169.2.2).length < sizeLine)) fun _ => some (r221.2, (s169.2.1 ++ [r193.1]), (s169.2.2 ++ [(x211, x231)]))) (r157.2, fin124.2, x152) (rng 0 (r157.1 : Int).toNat)) fun fin245 => bd (some ([] : List (T3 Str Str Str))) fun x269 => bd (atI x_sizes.l (2 : Int)) fun x270 => bd (m_pick x37.2.1 (x270 + (1 : Int))) fun r274 => bd (ck (-(2 ^ 62) ≤ r274.1 ∧ r274.1 < 2 ^ 62)) fun _ => bd (lpn (fun (s286 : (List Int) × (List Str) × (List (T3 Str Str Str))) (x289 : Int) => bd (m_spelt s286.1 s286.2.1) fun r311 => bd (m_literal r311.2 s286.2.1) fun r329 => bd (m_literal r329.2 s286.2.1) fun r347 => bd (ck ((s286.2.2).length < sizeLine)) fun _ => bd (ck ((s286.2.1).length < sizeLine)) fun _ => some (r347.2, (s286.2.1 ++ [r311.1]), (s286.2.2 ++ [(T3.mk r311.1 r329.1 r347.1)]))) (r274.2, fin245.2.1, x269) (rng 0 (r274.1 : Int).toNat)) fun fin376 => bd (some ([] : List (Str × Str))) fun x401 => bd (lpn (fun (s408 : (List Int) × (List (Str × Str))) (x411 : Str × (Option Int)) => bd (m_pick s408.1 (5 : Int)) fun r433 => if decide ((0 : Int) < r433.1) = true then (bd (m_pick r433.2 ((s408.2.length : Int) + (1 : Int))) fun r452 => bd (m_literal r452.2 fin376.2.1) fun r467 => bd (ck ((s408.2).length < sizeLine ∧ 0 ≤ r452.1 ∧ r452.1 < 2 ^ 63)) fun _ => some (r467.2, (s408.2.take (r452.1).toNat ++ [(x411.1, r467.1)] ++ s408.2.drop (r452.1).toNat))) else (some (r433.2, s408.2))) (x37.2.2, x401) fin245.2.2) fun fin491 => bd (atI x_sizes.l (3 : Int)) fun x514 => bd (m_pick fin491.1 x514) fun r518 => bd (m_wishes r518.2 fin376.2.1 ([] : List Str) ((1 : Int) + r518.1)) fun r533 => bd (ck (r533.1.length ≤ sizeLine)) fun _ => bd (atI x_sizes.l (3 : Int)) fun x581 => bd (m_pick r533.2 (x581 + (1 : Int))) fun r585 => bd (m_wishes r585.2 fin376.2.1 (List.map (fun (x558 : Str × Str) => x558.1) r533.1) r585.1) fun r600 => some (R_m.mk fin124.2 fin245.2.2 fin376.2.2 fin491.2 r533.1 r600.1)
def m_machine (x_script : Scr) (x_sizes : TV Int) : Option R_m :=
  bd (mapO (fun (x2 : Int) => bd (m_cell_at x_script x2) fun r17 => some r17) (rng 0 ((3 : Int) : Int).toNat)) fun x25 => bd (atI x25 (2 : Int)) fun x35 => bd (if decide ((x35 % (2 : Int)) = (0 : Int)) = true then (bd (ck ((enu x25).length ≤ sizeLine)) fun _ => bd (mapO (fun (x43 : Int × Int) => bd (m_rich x43.2 x43.1) fun r62 => some r62) (enu x25)) fun x71 => some x71) else (some x25)) fun j38 => bd (atI j38 (0 : Int)) fun x85 => bd (atI j38 (1 : Int)) fun x88 => bd (atI j38 (2 : Int)) fun x91 => bd (m_machine_digits ([x85, x88, (x91 / (2 : Int))] : List Int) x_sizes) fun r101 => some r101
def m_Draft_init  : Option O_Draft :=
  some (O_Draft.mk ([] : List Str) (Dc.emp : Dc Str (Option Int)) ([] : List (T3 Str Str Str)) (Dc.emp : Dc Str Str) (Dc.emp : Dc Str Str) (Dc.emp : Dc Str Str) (Dc.emp : Dc Str Bool))
def m_p_words_of (x_row : Str) : Option (List Str) :=
  bd (ck ((x_row).length + 2 ≤ sizeLine ∧ (Txt.split x_row (" " : Str)).length ≤ sizeLine)) fun _ => bd (ck ((Txt.split x_row (" " : Str)).length ≤ sizeLine)) fun _ => some (List.map (fun (x10 : Str) => x10) (List.filter (fun (x10 : Str) => (!decide (x10 = ("" : Str)))) (Txt.split x_row (" " : Str))))
def m_p_is_name (x_word : Str) : Option Bool :=
  bd (ck ((x_word).length ≤ sizeLine)) fun _ => if (!((decide ((1 : Int) ≤ ((x_word).length : Int))) && (decide (((x_word).length : Int) ≤ (8 : Int))))) = true then (some false) else (bd (ck ((signs x_word).length ≤ sizeLine)) fun _ => some ((List.map (fun (x10 : Str) => (subS x10 ("abcdefghijklmnopqrstuvwxyz" : Str))) (signs x_word)).all id))
def m_p_is_literal (x_word : Str) : Option Bool :=
  bd (if decide (x_word ∈ (TV.mk [("0" : Str), ("1" : Str)] : TV Str).l) = true then some true else bd (m_p_plain_name x_word) fun r12 => bd (m_p_is_name r12) fun r21 => some (r21)) fun j29 => some j29
def m_p_lacks (x_draft : O_Draft) (x_literal : Str) : Option Bool :=
  bd (if (!decide (x_literal ∈ (TV.mk [("0" : Str), ("1" : Str)] : TV Str).l)) = true then bd (m_p_plain_name x_literal) fun r12 => some ((!x_draft.names.has r12)) else some false) fun j38 => some j38
def m_p_first_due (x_twice : Bool) (x_lacking : Bool) (x_many : Bool) : Option Str :=
  if x_twice = true then (some ("twice" : Str)) else (if x_lacking = true then (some ("name" : Str)) else (if x_many = true then (some ("many" : Str)) else (some ("" : Str))))
def m_p_switch_row (x_draft : O_Draft) (x_words : List Str) : Option (Str × O_Draft) :=
  bd (if (!decide ((x_words.length : Int) = (1 : Int))) = true then some true else bd (atI x_words (0 : Int)) fun x5 => bd (m_p_is_name x5) fun r9 => some ((!r9))) fun j17 => if j17 = true then (some (("row" : Str), x_draft)) else (bd (atI x_words (0 : Int)) fun x23 => bd (m_p_first_due (x_draft.names.has x23) false (decide ((x_draft.switches.length : Int) = (12 : Int)))) fun r27 => bd (if decide (r27 = ("" : Str)) = true then (bd (atI x_words (0 : Int)) fun x40 => bd (ck ((x_draft.switches).length < sizeLine)) fun _ => bd (atI x_words (0 : Int)) fun x48 => bd (ck (x_draft.names.l.length < sizeLine)) fun _ => some ((x_draft.switches ++ [x40]), (x_draft.names.put x48 true))) else (some (x_draft.switches, x_draft.names))) fun j37 => some (r27, (O_Draft.mk j37.1 x_draft.keepers x_draft.gates x_draft.nexts x_draft.nevers x_draft.somes j37.2)))
def m_p_keep_row (x_draft : O_Draft) (x_words : List Str) : Option (Str × O_Draft) :=
  bd (if (!decide ((x_words.length : Int) = (2 : Int))) = true then some true else bd (atI x_words (0 : Int)) fun x5 => bd (m_p_is_name x5) fun r9 => bd (if (!r9) = true then some true else bd (atI x_words (1 : Int)) fun x19 => some ((!G_FIRSTS.has x19))) fun j22 => some (j22)) fun j23 => if j23 = true then (some (("row" : Str), x_draft)) else (bd (atI x_words (0 : Int)) fun x29 => bd (m_p_first_due (x_draft.names.has x29) false (decide ((x_draft.keepers.l.length : Int) = (16 : Int)))) fun r33 => bd (if decide (r33 = ("" : Str)) = true then (bd (atI x_words (1 : Int)) fun x46 => bd (G_FIRSTS.get? x46) fun x49 => bd (atI x_words (0 : Int)) fun x52 => bd (ck (x_draft.keepers.l.length < sizeLine)) fun _ => bd (atI x_words (0 : Int)) fun x60 => bd (ck (x_draft.names.l.length < sizeLine)) fun _ => some ((x_draft.keepers.put x52 x49), (x_draft.names.put x60 true))) else (some (x_draft.keepers, x_draft.names))) fun j43 => some (r33, (O_Draft.mk x_draft.switches j43.1 x_draft.gates x_draft.nexts x_draft.nevers x_draft.somes j43.2)))
def m_p_gate_row (x_draft : O_Draft) (x_words : List Str) : Option (Str × O_Draft) :=
  bd (if (!decide ((x_words.length : Int) = (3 : Int))) = true then some true else bd (atI x_words (0 : Int)) fun x5 => bd (m_p_is_name x5) fun r9 => bd (if (!r9) = true then some true else bd (atI x_words (1 : Int)) fun x19 => bd (m_p_is_literal x19) fun r23 => bd (if (!r23) = true then some true else bd (atI x_words (2 : Int)) fun x33 => bd (m_p_is_literal x33) fun r37 => some ((!r37))) fun j45 => some (j45)) fun j46 => some (j46)) fun j47 => if j47 = true then (some (("row" : Str), x_draft)) else (bd (atI x_words (1 : Int)) fun x55 => bd (m_p_lacks x_draft x55) fun r91 => bd (if r91 = true then some true else bd (atI x_words (2 : Int)) fun x103 => bd (m_p_lacks x_draft x103) fun r139 => some (r139)) fun j149 => bd (atI x_words (0 : Int)) fun x154 => bd (m_p_first_due (x_draft.names.has x154) j149 (decide ((x_draft.gates.length : Int) = (60 : Int)))) fun r158 => bd (if decide (r158 = ("" : Str)) = true then (bd (atI x_words (0 : Int)) fun x171 => bd (atI x_words (1 : Int)) fun x174 => bd (atI x_words (2 : Int)) fun x177 => bd (ck ((x_draft.gates).length < sizeLine)) fun _ => bd (atI x_words (0 : Int)) fun x191 => bd (ck (x_draft.names.l.length < sizeLine)) fun _ => some ((x_draft.gates ++ [(T3.mk x171 x174 x177)]), (x_draft.names.put x191 true))) else (some (x_draft.gates, x_draft.names))) fun j168 => some (r158, (O_Draft.mk x_draft.switches x_draft.keepers j168.1 x_draft.nexts x_draft.nevers x_draft.somes j168.2)))
def m_p_next_row (x_draft : O_Draft) (x_words : List Str) : Option (Str × O_Draft) :=
  bd (if (!decide ((x_words.length : Int) = (2 : Int))) = true then some true else bd (atI x_words (0 : Int)) fun x5 => bd (m_p_is_name x5) fun r9 => bd (if (!r9) = true then some true else bd (atI x_words (1 : Int)) fun x19 => bd (m_p_is_literal x19) fun r23 => some ((!r23))) fun j31 => some (j31)) fun j32 => if j32 = true then (some (("row" : Str), x_draft)) else (bd (atI x_words (0 : Int)) fun x40 => bd (if (!x_draft.keepers.has x40) = true then some true else bd (atI x_words (1 : Int)) fun x45 => bd (m_p_lacks x_draft x45) fun r81 => some (r81)) fun j91 => bd (atI x_words (0 : Int)) fun x96 => bd (m_p_first_due (x_draft.nexts.has x96) j91 false) fun r100 => bd (if decide (r100 = ("" : Str)) = true then (bd (atI x_words (1 : Int)) fun x113 => bd (atI x_words (0 : Int)) fun x116 => bd (ck (x_draft.nexts.l.length < sizeLine)) fun _ => some (x_draft.nexts.put x116 x113)) else (some x_draft.nexts)) fun j110 => some (r100, (O_Draft.mk x_draft.switches x_draft.keepers x_draft.gates j110 x_draft.nevers x_draft.somes x_draft.names)))
def m_wish_row_nevers (x_draft : O_Draft) (x_words : List Str) : Option (Str × O_Draft) :=
  bd (if (!decide ((x_words.length : Int) = (2 : Int))) = true then some true else bd (atI x_words (0 : Int)) fun x5 => bd (m_p_is_name x5) fun r9 => bd (if (!r9) = true then some true else bd (atI x_words (1 : Int)) fun x19 => bd (m_p_is_literal x19) fun r23 => some ((!r23))) fun j31 => some (j31)) fun j32 => if j32 = true then (some (("row" : Str), x_draft)) else (bd (atI x_words (0 : Int)) fun x40 => bd (if (x_draft.nevers.has x40) = true then some true else bd (atI x_words (0 : Int)) fun x45 => some ((x_draft.somes.has x45))) fun j48 => bd (some (decide (((x_draft.nevers.l.length : Int) + (x_draft.somes.l.length : Int)) = (8 : Int)))) fun x49 => bd (atI x_words (1 : Int)) fun x50 => bd (m_p_lacks x_draft x50) fun r86 => bd (m_p_first_due j48 r86 x49) fun r97 => bd (if decide (r97 = ("" : Str)) = true then (bd (atI x_words (1 : Int)) fun x110 => bd (atI x_words (0 : Int)) fun x113 => bd (ck (x_draft.nevers.l.length < sizeLine)) fun _ => some (x_draft.nevers.put x113 x110)) else (some x_draft.nevers)) fun j107 => some (r97, (O_Draft.mk x_draft.switches x_draft.keepers x_draft.gates x_draft.nexts j107 x_draft.somes x_draft.names)))
def m_wish_row_somes (x_draft : O_Draft) (x_words : List Str) : Option (Str × O_Draft) :=
  bd (if (!decide ((x_words.length : Int) = (2 : Int))) = true then some true else bd (atI x_words (0 : Int)) fun x5 => bd (m_p_is_name x5) fun r9 => bd (if (!r9) = true then some true else bd (atI x_words (1 : Int)) fun x19 => bd (m_p_is_literal x19) fun r23 => some ((!r23))) fun j31 => some (j31)) fun j32 => if j32 = true then (some (("row" : Str), x_draft)) else (bd (atI x_words (0 : Int)) fun x40 => bd (if (x_draft.nevers.has x40) = true then some true else bd (atI x_words (0 : Int)) fun x45 => some ((x_draft.somes.has x45))) fun j48 => bd (some (decide (((x_draft.nevers.l.length : Int) + (x_draft.somes.l.length : Int)) = (8 : Int)))) fun x49 => bd (atI x_words (1 : Int)) fun x50 => bd (m_p_lacks x_draft x50) fun r86 => bd (m_p_first_due j48 r86 x49) fun r97 => bd (if decide (r97 = ("" : Str)) = true then (bd (atI x_words (1 : Int)) fun x110 => bd (atI x_words (0 : Int)) fun x113 => bd (ck (x_draft.somes.l.length < sizeLine)) fun _ => some (x_draft.somes.put x113 x110)) else (some x_draft.somes)) fun j107 => some (r97, (O_Draft.mk x_draft.switches x_draft.keepers x_draft.gates x_draft.nexts x_draft.nevers j107 x_draft.names)))
def m_p_draft_row (x_draft : O_Draft) (x_words : List Str) : Option (Str × O_Draft) :=
  bd (atI x_words (0 : Int)) fun x3 => if decide (x3 = ("switch" : Str)) = true then (bd (m_p_switch_row x_draft (cutL x_words (some (1 : Int)) none)) fun r14 => some (r14.1, r14.2)) else (bd (atI x_words (0 : Int)) fun x38 => if decide (x38 = ("keep" : Str)) = true then (bd (m_p_keep_row x_draft (cutL x_words (some (1 : Int)) none)) fun r49 => some (r49.1, r49.2)) else (bd (atI x_words (0 : Int)) fun x73 => if decide (x73 = ("gate" : Str)) = true then (bd (m_p_gate_row x_draft (cutL x_words (some (1 : Int)) none)) fun r84 => some (r84.1, r84.2)) else (bd (atI x_words (0 : Int)) fun x108 => if decide (x108 = ("next" : Str)) = true then (bd (m_p_next_row x_draft (cutL x_words (some (1 : Int)) none)) fun r119 => some (r119.1, r119.2)) else (bd (atI x_words (0 : Int)) fun x143 => if decide (x143 = ("never" : Str)) = true then (bd (m_wish_row_nevers x_draft (cutL x_words (some (1 : Int)) none)) fun r154 => some (r154.1, r154.2)) else (bd (atI x_words (0 : Int)) fun x178 => if decide (x178 = ("some" : Str)) = true then (bd (m_wish_row_somes x_draft (cutL x_words (some (1 : Int)) none)) fun r189 => some (r189.1, r189.2)) else (some (("row" : Str), x_draft)))))))

def rdF (s60 : (List Str) × (Dc Str (Option Int)) × (List (T3 Str Str Str)) × (Dc Str Str) × (Dc Str Str) × (Dc Str Str) × (Dc Str Bool)) (x65 : Int × Str) : Option (Except (Int × Str) ((List Str) × (Dc Str (Option Int)) × (List (T3 Str Str Str)) × (Dc Str Str) × (Dc Str Str) × (Dc Str Str) × (Dc Str Bool))) :=
  bd (m_p_words_of x65.2) fun r95 => if decide ((0 : Int) < (r95.length : Int)) = true then (bd (m_p_draft_row (O_Draft.mk s60.1 s60.2.1 s60.2.2.1 s60.2.2.2.1 s60.2.2.2.2.1 s60.2.2.2.2.2.1 s60.2.2.2.2.2.2) r95) fun r107 => if (!decide (r107.1 = ("" : Str))) = true then (some (Except.error (x65.1, r107.1))) else (some (Except.ok (r107.2.switches, r107.2.keepers, r107.2.gates, r107.2.nexts, r107.2.nevers, r107.2.somes, r107.2.names)))) else (some (Except.ok (s60.1, s60.2.1, s60.2.2.1, s60.2.2.2.1, s60.2.2.2.2.1, s60.2.2.2.2.2.1, s60.2.2.2.2.2.2)))
def m_fault (x_text : Str) : Option (Int × Str) :=
  bd (m_Draft_init) fun r8 => bd (ck ((x_text).length + 2 ≤ sizeLine ∧ (Txt.split x_text ("\n" : Str)).length ≤ sizeLine)) fun _ => lpx rdF (r8.switches, r8.keepers, r8.gates, r8.nexts, r8.nevers, r8.somes, r8.names) (enu (Txt.split x_text ("\n" : Str)))
def sp_fault (K : PySem.W.Frag) : Sp := fun vs H Q _ => ∃ (B : Hp) (x_text : Str) (r : Int × Str), vs = [V.str x_text] ∧ Ws [] B H B H [] ∧ m_fault x_text = some r ∧ ∀ w B' H', Ws [] B H B' H' [] → Rp.R B' w r → Q w H'
def m_p_read_machine (x_text : Str) : Option O_Machine :=
  bd (m_Draft_init) fun r8 => bd (ck ((x_text).length + 2 ≤ sizeLine ∧ (Txt.split x_text ("\n" : Str)).length ≤ sizeLine)) fun _ => bd (lpn (fun (s60 : (List Str) × (Dc Str (Option Int)) × (List (T3 Str Str Str)) × (Dc Str Str) × (Dc Str Str) × (Dc Str Str) × (Dc Str Bool)) (x65 : Int × Str) => bd (m_p_words_of x65.2) fun r95 => if decide ((0 : Int) < (r95.length : Int)) = true then (bd (m_p_draft_row (O_Draft.mk s60.1 s60.2.1 s60.2.2.1 s60.2.2.2.1 s60.2.2.2.2.1 s60.2.2.2.2.2.1 s60.2.2.2.2.2.2) r95) fun r107 => if (!decide (r107.1 = ("" : Str))) = true then (none) else (some (r107.2.switches, r107.2.keepers, r107.2.gates, r107.2.nexts, r107.2.nevers, r107.2.somes, r107.2.names))) else (some (s60.1, s60.2.1, s60.2.2.1, s60.2.2.2.1, s60.2.2.2.2.1, s60.2.2.2.2.2.1, s60.2.2.2.2.2.2))) (r8.switches, r8.keepers, r8.gates, r8.nexts, r8.nevers, r8.somes, r8.names) (enu (Txt.split x_text ("\n" : Str)))) fun fin132 => bd (m_Machine_init fin132.1 fin132.2.1 fin132.2.2.1 fin132.2.2.2.1 fin132.2.2.2.2.1 fin132.2.2.2.2.2.1) fun r192 => some r192
def m_first_text (x_first : Option Int) : Option Str :=
  some ((x_first.bind (Dc.mk [((0 : Int), ("0" : Str)), ((1 : Int), ("1" : Str))] : Dc Int Str).get?).getD ("-" : Str))

def m_rows (x_m : R_m) : Option (List Str) :=
  bd (ck (x_m.switches.length ≤ sizeLine)) fun _ => bd (mapO (fun (x19 : Str) => bd (ck ((("switch " : Str)).length + (x19).length ≤ sizeLine)) fun _ => some (("switch " : Str) ++ x19)) x_m.switches) fun x35 => bd (ck (x_m.keepers.length ≤ sizeLine)) fun _ => bd (mapO (fun (x45 : Str × (Option Int)) => bd (ck ((("keep " : Str)).length + (x45.1).length ≤ sizeLine)) fun _ => bd (ck (((("keep " : Str) ++ x45.1)).length + ((" " : Str)).length ≤ sizeLine)) fun _ => bd (m_first_text x45.2) fun r66 => bd (ck ((((("keep " : Str) ++ x45.1) ++ (" " : Str))).length + (r66).length ≤ sizeLine)) fun _ => some (((("keep " : Str) ++ x45.1) ++ (" " : Str)) ++ r66)) x_m.keepers) fun x76 => bd (ck ((x35).length + (x76).length ≤ sizeLine)) fun _ => bd (some (x35 ++ x76)) fun x91 => bd (ck (x_m.gates.length ≤ sizeLine)) fun _ => bd (mapO (fun (x95 : T3 Str Str Str) => bd (ck ((List.map (fun (s : Str) => s.length) ([x95.a, x95.b, x95.c] : List Str)).sum + (([x95.a, x95.b, x95.c] : List Str)).length * ((" " : Str)).length ≤ 16777216)) fun _ => bd (ck ((("gate " : Str)).length + ((Txt.join (" " : Str) ([x95.a, x95.b, x95.c] : List Str))).length ≤ sizeLine)) fun _ => some (("gate " : Str) ++ (Txt.join (" " : Str) ([x95.a, x95.b, x95.c] : List Str)))) x_m.gates) fun x118 => bd (ck ((x91).length + (x118).length ≤ sizeLine)) fun _ => bd (some (x91 ++ x118)) fun x133 => bd (lpn (fun (s161 : (List Str)) (x164 : Str × Str) => bd (x_m.at_ x164.2) fun x181 => bd (ck (x181.length ≤ sizeLine)) fun _ => bd (mapO (fun (x188 : Str × Str) => bd (ck ((x164.1).length + ((" " : Str)).length ≤ sizeLine)) fun _ => bd (ck (((x164.1 ++ (" " : Str))).length + (x188.1).length ≤ sizeLine)) fun _ => bd (ck ((((x164.1 ++ (" " : Str)) ++ x188.1)).length + ((" " : Str)).length ≤ sizeLine)) fun _ => bd (ck (((((x164.1 ++ (" " : Str)) ++ x188.1) ++ (" " : Str))).length + (x188.2).length ≤ sizeLine)) fun _ => some ((((x164.1 ++ (" " : Str)) ++ x188.1) ++ (" " : Str)) ++ x188.2)) x181) fun x211 => bd (ck ((s161).length + (x211).length ≤ sizeLine)) fun _ => bd (some (s161 ++ x211)) fun x226 => some x226) x133 ([(("next" : Str), ("nexts" : Str)), (("never" : Str), ("nevers" : Str)), (("some" : Str), ("somes" : Str))] : List (Str × Str))) fun fin228 => some fin228
def m_odd (x_number : Int) : Option Str :=
  bd (ck ((("switch,switch A,switch a1,switch a b,switch ~a,switch 0,switch aaaaaaaaa" : Str)).length + ((",switches a,Switch a,switch -,a,0,keep,keep a,keep a 2,keep a 0 1,keep A 0" : Str)).length ≤ sizeLine)) fun _ => bd (some (("switch,switch A,switch a1,switch a b,switch ~a,switch 0,switch aaaaaaaaa" : Str) ++ (",switches a,Switch a,switch -,a,0,keep,keep a,keep a 2,keep a 0 1,keep A 0" : Str))) fun x2 => bd (ck ((x2).length + ((",keep a --,keep a 00,keep ~a 0,keep 0 a,keep aaaaaaaaa 1,keeps a 0,gate,gate a" : Str)).length ≤ sizeLine)) fun _ => bd (some (x2 ++ (",keep a --,keep a 00,keep ~a 0,keep 0 a,keep aaaaaaaaa 1,keeps a 0,gate,gate a" : Str))) fun x4 => bd (ck ((x4).length + ((",gate a 0,gate a 0 1 1,gate a ~~b 1,gate a ~0 1,gate a 1 ~1,gate a 2 1" : Str)).length ≤ sizeLine)) fun _ => bd (some (x4 ++ (",gate a 0,gate a 0 1 1,gate a ~~b 1,gate a ~0 1,gate a 1 ~1,gate a 2 1" : Str))) fun x6 => bd (ck ((x6).length + ((",gate a - 1,gate a ~ 1,gate A 0 1,gate 0 0 1,gate a B 1,gate a 1 b1,gate a 0 01" : Str)).length ≤ sizeLine)) fun _ => bd (some (x6 ++ (",gate a - 1,gate a ~ 1,gate A 0 1,gate 0 0 1,gate a B 1,gate a 1 b1,gate a 0 01" : Str))) fun x8 => bd (ck ((x8).length + ((",gate ~a 0 1,gate aaaaaaaaa 0 1,gate a 1 ~aaaaaaaaa,next,next a,next a 0 1" : Str)).length ≤ sizeLine)) fun _ => bd (some (x8 ++ (",gate ~a 0 1,gate aaaaaaaaa 0 1,gate a 1 ~aaaaaaaaa,next,next a,next a 0 1" : Str))) fun x10 => bd (ck ((x10).length + ((",next ~a 0,next a ~~a,next a 2,next 0 1,next a -,nexts a 0,next a ~1,next A 1" : Str)).length ≤ sizeLine)) fun _ => bd (some (x10 ++ (",next ~a 0,next a ~~a,next a 2,next 0 1,next a -,nexts a 0,next a ~1,next A 1" : Str))) fun x12 => bd (ck ((x12).length + ((",never,never a,never a 0 1,never A 0,never a ~~b,never a 01,never ~a 0" : Str)).length ≤ sizeLine)) fun _ => bd (some (x12 ++ (",never,never a,never a 0 1,never A 0,never a ~~b,never a 01,never ~a 0" : Str))) fun x14 => bd (ck ((x14).length + ((",nevers a 0,some,some a,some 0 1,some a ~0,some A 0,some a 0 1,some a ~~b,some a 01" : Str)).length ≤ sizeLine)) fun _ => bd (some (x14 ++ (",nevers a 0,some,some a,some 0 1,some a ~0,some A 0,some a 0 1,some a ~~b,some a 01" : Str))) fun x16 => bd (ck ((x16).length + ((",some a 2,some ~a 0,some a aaaaaaaaa,never a aaaaaaaaa,never a 2,next a aaaaaaaaa" : Str)).length ≤ sizeLine)) fun _ => bd (some (x16 ++ (",some a 2,some ~a 0,some a aaaaaaaaa,never a aaaaaaaaa,never a 2,next a aaaaaaaaa" : Str))) fun x18 => bd (ck ((x18).length + 2 ≤ sizeLine ∧ (Txt.split x18 ("," : Str)).length ≤ sizeLine)) fun _ => bd (some (Txt.split x18 ("," : Str))) fun x26 => bd (ck (0 < (x26.length : Int))) fun _ => bd (atI x26 (x_number % (x26.length : Int))) fun x29 => some x29

def m_law (x_script : Scr) : Option Bool :=
  bd (m_machine x_script (TV.mk [(3 : Int), (4 : Int), (8 : Int), (2 : Int)] : TV Int)) fun r8 => bd (m_rows r8) fun r17 => bd (ck ((([(7 : Int)] : List Int)).length + ((cutL x_script.l (some (3 : Int)) (some (40 : Int)))).length ≤ sizeLine)) fun _ => bd (lp (fun (s46 : Unit) (x54 : Int × Int) => bd (m_mix x54.2 ((400 : Int) + x54.1)) fun r70 => bd (ck (0 < ((r17.length : Int) + (1 : Int)))) fun _ => bd (some (r70 % ((r17.length : Int) + (1 : Int)))) fun x79 => bd (atI ([("" : Str), ("   " : Str)] : List Str) ((r70 / (20 : Int)) % (2 : Int))) fun x92 => bd (ck (-(2 ^ 63) ≤ (((r70 / (40 : Int)) % (3 : Int)) : Int) ∧ (((r70 / (40 : Int)) % (3 : Int)) : Int) < 2 ^ 63 ∧ (([x92] : List Str)).length * (((r70 / (40 : Int)) % (3 : Int)) : Int).toNat ≤ sizeLine)) fun _ => bd (ck (((cutL r17 none (some x79))).length + ((List.replicate (((r70 / (40 : Int)) % (3 : Int)) : Int).toNat ([x92] : List Str)).flatten).length ≤ sizeLine)) fun _ => bd (some ((cutL r17 none (some x79)) ++ (List.replicate (((r70 / (40 : Int)) % (3 : Int)) : Int).toNat ([x92] : List Str)).flatten)) fun x115 => bd (m_odd (r70 / (120 : Int))) fun r118 => bd (ck (1 ≤ (((1 : Int) + ((r70 / (7 : Int)) % (2 : Int))) : Int) ∧ (((1 : Int) + ((r70 / (7 : Int)) % (2 : Int))) : Int) ≤ 1000 ∧ 1 ≤ ((" " : Str)).length ∧ ((" " : Str)).length ≤ 1000 ∧ r118.length + (r118.length + 1) * (timesS (" " : Str) ((1 : Int) + ((r70 / (7 : Int)) % (2 : Int)))).length ≤ 16777216)) fun _ => bd (some (Txt.replace r118 (" " : Str) (timesS (" " : Str) ((1 : Int) + ((r70 / (7 : Int)) % (2 : Int)))))) fun x127 => bd (some (x115.length : Int)) fun x128 => bd (ck (0 ≤ ((r70 / (11 : Int)) % (3 : Int)) ∧ ((r70 / (11 : Int)) % (3 : Int)) ≤ 1000 ∧ 1 ≤ ((" " : Str)).length ∧ ((" " : Str)).length ≤ 1000)) fun _ => bd (ck (((timesS (" " : Str) ((r70 / (11 : Int)) % (3 : Int)))).length + (x127).length ≤ sizeLine)) fun _ => bd (ck ((x115).length + (([((timesS (" " : Str) ((r70 / (11 : Int)) % (3 : Int))) ++ x127)] : List Str)).length ≤ sizeLine)) fun _ => bd (ck (((x115 ++ ([((timesS (" " : Str) ((r70 / (11 : Int)) % (3 : Int))) ++ x127)] : List Str))).length + ((cutL r17 (some x79) none)).length ≤ sizeLine)) fun _ => bd (some ((x115 ++ ([((timesS (" " : Str) ((r70 / (11 : Int)) % (3 : Int))) ++ x127)] : List Str)) ++ (cutL r17 (some x79) none))) fun x157 => bd (ck ((x157).length + ((cutL ([("gate" : Str), ("x" : Str)] : List Str) none (some ((r70 / (13 : Int)) % (3 : Int))))).length ≤ sizeLine)) fun _ => bd (ck ((List.map (fun (s : Str) => s.length) (x157 ++ (cutL ([("gate" : Str), ("x" : Str)] : List Str) none (some ((r70 / (13 : Int)) % (3 : Int)))))).sum + ((x157 ++ (cutL ([("gate" : Str), ("x" : Str)] : List Str) none (some ((r70 / (13 : Int)) % (3 : Int)))))).length * (("\n" : Str)).length ≤ 16777216)) fun _ => bd (m_fault (Txt.join ("\n" : Str) (x157 ++ (cutL ([("gate" : Str), ("x" : Str)] : List Str) none (some ((r70 / (13 : Int)) % (3 : Int))))))) fun r182 => bd (ck (shp (r182 : Int × Str) = true ∧ shp ((x128, ("row" : Str)) : Int × Str) = true)) fun _ => if (!decide (r182 = (x128, ("row" : Str)))) = true then (some (.rt false)) else (some (.nx ()))) () (enu (([(7 : Int)] : List Int) ++ (cutL x_script.l (some (3 : Int)) (some (40 : Int)))))) fun fin203 => ctk fin203 (fun s214 => bd (ck ((List.map (fun (s : Str) => s.length) r17).sum + (r17).length * (("\n" : Str)).length ≤ 16777216)) fun _ => bd (m_p_read_machine (Txt.join ("\n" : Str) r17)) fun r224 => some true) (fun r' => some r')
end G

namespace G
open PySem L2 Pv
abbrev SZ (l : List Int) : TV Int := TV.mk l
end G

namespace G
open PySem L2 Pv

theorem cell_ok (s : Scr) {k : Int} (h : 0 ≤ k) : Ok (m_cell_at s k) fun _ => True := by
  unfold m_cell_at
  refine Ok.ite (fun c => ?_) (fun _ => Ok.ret trivial)
  exact Ok.bd (atI_ok h (of_decide_eq_true c)) fun x _ => Ok.ret trivial
theorem mix_ok (c : Int) {k : Int} (h : 0 ≤ k) (h2 : k < 2 ^ 63) : Ok (m_mix c k) fun _ => True := by
  unfold m_mix
  refine Ok.ck (.inl ⟨by omega, by omega⟩) ?_
  refine Ok.lt (Ok.ck (.inl ⟨by omega, by omega⟩) (Ok.ret trivial))
theorem rich_ok (c : Int) {k : Int} (h : 0 ≤ k) (h2 : k < 2 ^ 50) : Ok (m_rich c k) fun _ => True := by
  unfold m_rich
  refine Ok.bd (lpn_inv (fun _ => True) trivial fun s x hx _ => ?_) fun _ _ => Ok.ret trivial
  have := rng_mem hx
  refine Ok.bd (mix_ok c (by omega) (by omega)) fun _ _ => Ok.lt (Ok.ret trivial)
def LL (l : List Int) : Prop := l.length = 1 ∨ l.length = 2
theorem LL.pos {l : List Int} (h : LL l) : 0 < l.length := by rcases h with h | h <;> omega
theorem pick_ok {l : List Int} (hl : LL l) {m : Int} (h : 0 < m) (h2 : m < 1073741824) : Ok (m_pick l m) fun r => 0 ≤ r.1 ∧ r.1 < m ∧ LL r.2 := by
  have hp := hl.pos
  unfold m_pick
  refine Ok.bd (atI_ok (by decide) (by omega)) fun x _ => ?_
  refine Ok.bd (p := LL) (Ok.ite (fun c => ?_) (fun _ => Ok.ret hl)) fun j hj => ?_
  · have c2 : (1 : Int) < (l.length : Int) := of_decide_eq_true (Bool.and_eq_true _ _ ▸ c).2
    match l, hl with
    | [a, b], _ => exact Ok.is (a := b) rfl (Ok.is (a := 0) rfl (Ok.ret (.inl rfl)))
    | [a], _ => exact absurd c2 (by simp)
  · have jp := hj.pos
    refine Ok.bd (atI_ok (by decide) (by omega)) fun y _ => Ok.ck h (Ok.lt (Ok.bd (atI_ok (by decide) (by omega)) fun z _ => Ok.ck ⟨h, h2⟩ ?_))
    refine Ok.is (ixN_pos (by decide) (by omega)) (Ok.ret ⟨Int.emod_nonneg _ (by omega), Int.emod_lt_of_pos _ h, ?_⟩)
    show LL (List.set _ _ _)
    unfold LL
    rw [List.length_set]
    exact hj
def Low (s : Str) : Prop := ∀ c ∈ s.cps.toList, 97 ≤ c ∧ c ≤ 122
instance (s : Str) : Decidable (Low s) := inferInstanceAs (Decidable (∀ c ∈ s.cps.toList, 97 ≤ c ∧ c ≤ 122))
theorem Low.app {a b : Str} (h : Low a) (k : Low b) : Low (a ++ b) := fun c hc => by
  rw [Str.toL_app] at hc
  rcases List.mem_append.mp hc with h1 | h1
  · exact h c h1
  · exact k c h1
theorem Low.slice {a : Str} {l u : Option Int} (h : Low a) : Low (Txt.slice a l u) := fun c hc => by
  unfold Txt.slice at hc
  split at hc
  · exact h c hc
  · rw [List.toList_toArray] at hc
    obtain ⟨i, _, e⟩ := List.mem_filterMap.mp hc
    refine h c ?_
    have := Array.mem_of_getElem? e
    exact Array.mem_toList_iff.mpr this
theorem Low.join {sep : Str} {ts : List Str} (h : Low sep) (k : ∀ t ∈ ts, Low t) : Low (Txt.join sep ts) := fun c hc => by
  rw [show Txt.join sep ts = Str.join sep ts from StrLaws.glued_eq_join sep ts] at hc
  rcases (PyProof.Rows.mem_join sep c ts).mp hc with ⟨t, ht, hc⟩ | ⟨_, hc⟩
  · exact k t ht c hc
  · exact h c hc
theorem join_pos {sep t : Str} {ts : List Str} (h : t ∈ ts) (k : 0 < t.length) : 0 < (Txt.join sep ts).length := by
  have hl : 0 < t.cps.toList.length := by rw [Array.length_toList]; exact k
  obtain ⟨c, hc⟩ := List.exists_mem_of_length_pos hl
  have hm : c ∈ (Txt.join sep ts).cps.toList := by
    rw [show Txt.join sep ts = Str.join sep ts from StrLaws.glued_eq_join sep ts]
    exact (PyProof.Rows.mem_join sep c ts).mpr (.inl ⟨t, h, hc⟩)
  have := List.length_pos_of_mem hm
  rw [Array.length_toList] at this
  exact this
abbrev alph : Str := "abcdefghijklmnopqrstuvwxyz"
theorem signs_alph : signs alph = ([97, 98, 99, 100, 101, 102, 103, 104, 105, 106, 107, 108, 109, 110, 111, 112, 113, 114, 115, 116, 117, 118, 119, 120, 121, 122] : List Nat).map fun c => (⟨#[c]⟩ : Str) := by decide +kernel
theorem signs_26 : (signs alph).length = 26 := by rw [signs_alph]; rfl
theorem signs_asc : ∀ x ∈ signs alph, Low x ∧ x.length = 1 := by
  intro x hx
  rw [signs_alph] at hx
  obtain ⟨c, hc, rfl⟩ := List.mem_map.mp hx
  refine ⟨fun d hd => ?_, rfl⟩
  have e : d = c := by simpa using hd
  subst e
  simp at hc
  omega
theorem sAt_alph {i : Int} (h : 0 ≤ i) (h2 : i < 26) : Ok (sAt alph i) fun x => Low x ∧ x.length = 1 := by
  have hl : alph.length = 26 := by decide +kernel
  unfold sAt
  rw [if_pos (by rw [hl, size64]; omega)]
  have hl2 : alph.cps.toList.length = 26 := by decide +kernel
  obtain ⟨c, e, _, hm⟩ := atI_ok (xs := alph.cps.toList) h (by rw [hl2]; exact h2)
  rw [e]
  refine ⟨⟨#[c]⟩, rfl, fun d hd => ?_, rfl⟩
  have e : d = c := by simpa using hd
  subst e
  have ha : ∀ c ∈ alph.cps.toList, 97 ≤ c ∧ c ≤ 122 := by decide +kernel
  exact ha d hm
theorem pigeon {α : Type} [DecidableEq α] : ∀ {xs told : List α}, xs.Nodup → told.length < xs.length → ∃ x ∈ xs, x ∉ told
  | [], told, _, h => absurd h (Nat.not_lt_zero _)
  | x :: r, told, nd, h => by
    obtain ⟨h1, h2⟩ := List.nodup_cons.mp nd
    by_cases hx : x ∈ told
    · have hl : (told.erase x).length = told.length - 1 := List.length_erase_of_mem hx
      have hp : 0 < told.length := List.length_pos_of_mem hx
      obtain ⟨y, hy, hn⟩ := pigeon (xs := r) (told := told.erase x) h2 (by rw [hl]; rw [List.length_cons] at h; omega)
      refine ⟨y, List.mem_cons_of_mem _ hy, fun hm => hn ?_⟩
      have ne : y ≠ x := fun e => h1 (e ▸ hy)
      exact (List.mem_erase_of_ne ne).mpr hm
    · exact ⟨x, List.mem_cons_self .., hx⟩
theorem words_asc : ∀ x ∈ Txt.split ("switch keep gate next never some wall row step piece lasso" : Str) (" " : Str), Low x ∧ x.length ≤ 8 ∧ 0 < x.length := by decide +kernel
theorem words_len : (Txt.split ("switch keep gate next never some wall row step piece lasso" : Str) (" " : Str)).length = 11 := by decide +kernel

theorem str_ext1 {a b : Str} (h : a.cps.toList = b.cps.toList) : a = b := by
  cases a
  cases b
  congr
  exact Array.toList_inj.mp h
theorem slice_to (x : Str) (k : Nat) : (Txt.slice x none (some (k : Int))).cps.toList = x.cps.toList.take k := by
  have e : PySem.Builtin.Str.strSliceIndices none (some (k : Int)) 1 x.length = PySem.Builtin.Str.strSliceIndices (some ((0 : Nat) : Int)) (some ((min k x.length : Nat) : Int)) 1 x.length := by
    unfold PySem.Builtin.Str.strSliceIndices
    have h : ¬ ((k : Int) < 0) := by omega
    have h3 : ¬ (((min k x.length : Nat) : Int) < 0) := by omega
    have h2 : max (0 : Int) (min (k : Int) (x.length : Int)) = ((min k x.length : Nat) : Int) := by omega
    have h4 : max (0 : Int) (min ((min k x.length : Nat) : Int) (x.length : Int)) = ((min k x.length : Nat) : Int) := by omega
    have h5 : max (0 : Int) (min ((0 : Nat) : Int) (x.length : Int)) = 0 := by omega
    dsimp only
    rw [if_neg h, if_neg h3, if_neg (show ¬ (((0 : Nat) : Int) < 0) by decide)]
    simp only [show (1 : Int) > 0 from by decide, if_true]
    rw [h2, h4, h5]
  have e2 : Txt.slice x none (some (k : Int)) = Txt.slice x (some ((0 : Nat) : Int)) (some ((min k x.length : Nat) : Int)) := by
    unfold Txt.slice
    rw [e]
  have lx : x.cps.toList.length = x.length := Array.length_toList
  rw [e2, PySem.W.os_slice (Nat.zero_le _) (by omega), List.drop_zero, Nat.sub_zero]
  by_cases c : k ≤ x.length
  · rw [Nat.min_eq_left c]
  · rw [Nat.min_eq_right (by omega), List.take_of_length_le (by omega), List.take_of_length_le (by omega)]
theorem slice_to_len (x : Str) (k : Nat) : (Txt.slice x none (some (k : Int))).length ≤ k := by
  have h : (Txt.slice x none (some (k : Int))).cps.toList.length ≤ k := by rw [slice_to, List.length_take]; omega
  rwa [Array.length_toList] at h
def codes : List Nat := [97, 98, 99, 100, 101, 102, 103, 104, 105, 106, 107, 108, 109, 110, 111, 112, 113, 114, 115, 116, 117, 118, 119, 120, 121, 122]
abbrev one (c : Nat) : Str := ⟨#[c]⟩
theorem mem_one {c : Nat} (h : c ∈ codes) : one c ∈ signs alph := by rw [signs_alph]; exact List.mem_map.mpr ⟨c, h, rfl⟩
theorem one_inj {p t : Str} {c d : Nat} (h : p ++ one c ++ t = p ++ one d ++ t) : c = d := by
  have e : (p ++ one c ++ t).cps.toList = (p ++ one d ++ t).cps.toList := by rw [h]
  rw [Str.toL_app, Str.toL_app, Str.toL_app, Str.toL_app] at e
  exact (List.cons.inj (List.append_cancel_left (List.append_cancel_right e))).1
theorem nd_one {p t : Str} {cs : List Nat} (h : cs.Nodup) : (cs.map fun c => p ++ one c ++ t).Nodup := List.pairwise_map.mpr (h.imp fun ne e => ne (one_inj e))
theorem app_nil (x : Str) : x ++ ("" : Str) = x := str_ext1 (by rw [Str.toL_app]; show _ ++ [] = _; rw [List.append_nil])
def last2 (x : Str) : List Nat := x.cps.toList.reverse.take 2
theorem last2_1 (p : Str) (c d : Nat) : last2 (p ++ one c ++ one d) = [d, c] := by
  unfold last2
  rw [Str.toL_app, Str.toL_app]
  simp
theorem last2_0 (p : Str) (c : Nat) : (last2 (p ++ one c)).head? = some c := by
  unfold last2
  rw [Str.toL_app]
  simp
theorem disj {f g : Nat → Str} {cs ds : List Nat} (h : ∀ c ∈ cs, ∀ d ∈ ds, last2 (f c) ≠ last2 (g d)) : ∀ a ∈ cs.map f, ∀ b ∈ ds.map g, a ≠ b := fun a ha b hb e => by
  obtain ⟨c, hc, rfl⟩ := List.mem_map.mp ha
  obtain ⟨d, hd, rfl⟩ := List.mem_map.mp hb
  exact h c hc d hd (congrArg last2 e)
abbrev cA : List Nat := codes.filter fun c => c != 113 && c != 122
abbrev cC : List Nat := codes.filter fun c => c != 113
theorem q_one : ("q" : Str) = one 113 ∧ ("z" : Str) = one 122 := by decide +kernel
theorem qz_one : ("qz" : Str) = one 113 ++ one 122 := by decide +kernel
theorem app_assoc (a b c : Str) : a ++ b ++ c = a ++ (b ++ c) := str_ext1 (by rw [Str.toL_app, Str.toL_app, Str.toL_app, Str.toL_app, List.append_assoc])
theorem many_names (p7 p6 p5 : Str) : ∃ L : List Str, L.Nodup ∧ L.length = 101 ∧ ∀ y ∈ L, (∃ x ∈ signs alph, y = p7 ++ x) ∨ (∃ x ∈ signs alph, y = p6 ++ x ++ ("q" : Str)) ∨ (∃ x ∈ signs alph, y = p6 ++ x ++ ("z" : Str)) ∨ ∃ x ∈ signs alph, y = p5 ++ x ++ ("qz" : Str) := by
  have hA : ∀ c ∈ cA, c ∈ codes ∧ c ≠ 113 ∧ c ≠ 122 := by decide +kernel
  have hC : ∀ c ∈ cC, c ∈ codes ∧ c ≠ 113 := by decide +kernel
  have n0 : codes.Nodup := by decide +kernel
  have nA : cA.Nodup := by decide +kernel
  have nC : cC.Nodup := by decide +kernel
  have eD : ∀ c, p5 ++ one c ++ ("qz" : Str) = p5 ++ one c ++ one 113 ++ one 122 := fun c => by rw [qz_one, ← app_assoc]
  have dA := nd_one (p := p7) (t := ("" : Str)) nA
  have dB := nd_one (p := p6) (t := ("q" : Str)) n0
  have dC := nd_one (p := p6) (t := ("z" : Str)) nC
  have dD := nd_one (p := p5) (t := ("qz" : Str)) n0
  have lB : ∀ c, last2 (p6 ++ one c ++ ("q" : Str)) = [113, c] := fun c => by rw [q_one.1]; exact last2_1 _ _ _
  have lC : ∀ c, last2 (p6 ++ one c ++ ("z" : Str)) = [122, c] := fun c => by rw [q_one.2]; exact last2_1 _ _ _
  have lD : ∀ c, last2 (p5 ++ one c ++ ("qz" : Str)) = [122, 113] := fun c => by rw [eD]; exact last2_1 _ _ _
  have lA : ∀ c, (last2 (p7 ++ one c ++ ("" : Str))).head? = some c := fun c => by rw [app_nil]; exact last2_0 _ _
  refine ⟨(codes.map fun c => p6 ++ one c ++ ("q" : Str)) ++ ((cA.map fun c => p7 ++ one c ++ ("" : Str)) ++ ((cC.map fun c => p6 ++ one c ++ ("z" : Str)) ++ (codes.map fun c => p5 ++ one c ++ ("qz" : Str)))), ?_, ?_, fun y hy => ?_⟩
  · refine List.nodup_append.mpr ⟨dB, List.nodup_append.mpr ⟨dA, List.nodup_append.mpr ⟨dC, dD, disj fun c hc d hd => ?_⟩, fun a ha b hb => ?_⟩, fun a ha b hb => ?_⟩
    · rw [lC, lD]
      intro e
      exact (hC c hc).2 (List.cons.inj (List.cons.inj e).2).1
    · rcases List.mem_append.mp hb with hb | hb
      · refine disj (fun c hc d hd e => ?_) a ha b hb
        have := lA c
        rw [e, lC] at this
        exact (hA c hc).2.2 (Option.some.inj this).symm
      · refine disj (fun c hc d hd e => ?_) a ha b hb
        have := lA c
        rw [e, lD] at this
        exact (hA c hc).2.2 (Option.some.inj this).symm
    · rcases List.mem_append.mp hb with hb | hb
      · refine disj (fun c hc d hd e => ?_) a ha b hb
        have := lA d
        rw [← e, lB] at this
        exact (hA d hd).2.1 (Option.some.inj this).symm
      · rcases List.mem_append.mp hb with hb | hb
        · refine disj (fun c hc d hd e => ?_) a ha b hb
          rw [lB, lC] at e
          exact absurd (List.cons.inj e).1 (by decide)
        · refine disj (fun c hc d hd e => ?_) a ha b hb
          rw [lB, lD] at e
          exact absurd (List.cons.inj e).1 (by decide)
  · rw [List.length_append, List.length_append, List.length_append, List.length_map, List.length_map, List.length_map, List.length_map]
    decide +kernel
  · rcases List.mem_append.mp hy with h | h
    · obtain ⟨c, hc, rfl⟩ := List.mem_map.mp h
      exact .inr (.inl ⟨_, mem_one hc, rfl⟩)
    · rcases List.mem_append.mp h with h | h
      · obtain ⟨c, hc, rfl⟩ := List.mem_map.mp h
        exact .inl ⟨_, mem_one (hA c hc).1, app_nil _⟩
      · rcases List.mem_append.mp h with h | h
        · obtain ⟨c, hc, rfl⟩ := List.mem_map.mp h
          exact .inr (.inr (.inl ⟨_, mem_one (hC c hc).1, rfl⟩))
        · obtain ⟨c, hc, rfl⟩ := List.mem_map.mp h
          exact .inr (.inr (.inr ⟨_, mem_one hc, rfl⟩))
end G

namespace G
open PySem L2 Pv
theorem lit_len : (("" : Str)).length = 0 ∧ (("q" : Str)).length = 1 ∧ (("z" : Str)).length = 1 ∧ (("qz" : Str)).length = 2 := by decide +kernel
theorem lit_asc : Low ("" : Str) ∧ Low ("q" : Str) ∧ Low ("z" : Str) ∧ Low ("qz" : Str) := by decide +kernel
theorem cand {n : Str} (hn : Low n) (hl : n.length ≤ 8) {u : Option Int} {f : Str → Option Str} {g : Str → Str} (hf : ∀ x, Low x → x.length = 1 → f x = some (g x)) (hg : ∀ x, Low x → x.length = 1 → Low (g x) ∧ (g x).length ≤ 8 ∧ 0 < (g x).length) :
    mapO f (signs alph) = some ((signs alph).map g) ∧ ((signs alph).map g).length = 26 ∧ ∀ y ∈ (signs alph).map g, Low y ∧ y.length ≤ 8 ∧ 0 < y.length := by
  refine ⟨mapO_eq fun x hx => hf x (signs_asc x hx).1 (signs_asc x hx).2, by rw [List.length_map, signs_26], fun y hy => ?_⟩
  obtain ⟨x, hx, rfl⟩ := List.mem_map.mp hy
  exact hg x (signs_asc x hx).1 (signs_asc x hx).2
theorem spelt_ok {l : List Int} (hl : LL l) {told : List Str} (ht : told.length ≤ 100) : Ok (m_spelt l told) fun r => r.1 ∉ told ∧ (Low r.1 ∧ r.1.length ≤ 8 ∧ 0 < r.1.length) ∧ LL r.2 := by
  unfold m_spelt
  refine Ok.lt ?_
  refine Ok.bd (pick_ok hl (by decide) (by decide)) fun a ha => ?_
  refine Ok.lt ?_
  refine Ok.bd (pick_ok ha.2.2 (by decide) (by decide)) fun b hb => ?_
  refine Ok.bd (atI_ok hb.1 (by rw [words_len]; exact hb.2.1)) fun w hw => ?_
  obtain ⟨w1, w2⟩ := words_asc w hw.2
  refine Ok.bd (p := fun j => Low j.1 ∧ (j.1.length ≤ 8 ∧ 0 < j.1.length) ∧ LL j.2) (Ok.ite (fun c => ?_) (fun _ => Ok.ret ⟨w1, w2, hb.2.2⟩)) fun j hj => ?_
  · have c9 : 1 + a.1 < 9 := of_decide_eq_true c
    refine Ok.ck ⟨by omega, by omega⟩ (Ok.ck (by rw [rng_len, size64]; omega) ?_)
    refine Ok.bd (lcs_ok LL (fun y => Low y ∧ y.length = 1) hb.2.2 fun s x hx hs => ?_) fun r hr => ?_
    · refine Ok.bd (pick_ok hs (by decide) (by decide)) fun d hd => ?_
      exact Ok.bd (sAt_alph hd.1 hd.2.1) fun y hy => Ok.ret ⟨hd.2.2, y, rfl, hy⟩
    · have hs := sum_le (ts := r.2) (k := 1) fun t h => by have := (hr.2.2 t h).2; omega
      have hlen : r.2.length ≤ 8 := by rw [hr.2.1, rng_len]; omega
      refine Ok.ck (by rw [lit_len.1]; omega) (Ok.lt (Ok.ret ⟨Low.join lit_asc.1 fun t h => (hr.2.2 t h).1, ⟨?_, ?_⟩, hr.1⟩))
      · refine Nat.le_trans (join_len _ _) ?_
        rw [lit_len.1]
        omega
      · obtain ⟨t, ht⟩ := List.exists_mem_of_length_pos (l := r.2) (by rw [hr.2.1, rng_len]; omega)
        exact join_pos ht (by rw [(hr.2.2 t ht).2]; decide)
  · obtain ⟨j1, ⟨j2, j2p⟩, j3⟩ := hj
    obtain ⟨q0, q1, q2, q3⟩ := lit_len
    obtain ⟨z0, z1, z2, z3⟩ := lit_asc
    have sl : ∀ k : Nat, Low (Txt.slice j.1 none (some (k : Int))) ∧ (Txt.slice j.1 none (some (k : Int))).length ≤ k := fun u => ⟨j1.slice, slice_to_len _ _⟩
    obtain ⟨_, L7⟩ := sl 7
    obtain ⟨_, L6⟩ := sl 6
    obtain ⟨_, L5⟩ := sl 5
    rw [show ((7 : Nat) : Int) = 7 from rfl] at L7
    rw [show ((6 : Nat) : Int) = 6 from rfl] at L6
    rw [show ((5 : Nat) : Int) = 5 from rfl] at L5
    have s26 := signs_26
    have sz := size64
    refine Ok.ck (by rw [s26, sz]; omega) ?_
    obtain ⟨e1, l1, a1⟩ := cand j1 j2 (u := none) (f := fun (x100 : Str) => bd (ck ((j.1).length ≤ sizeLine)) fun _ => bd (ck (((Txt.slice j.1 none (some (7 : Int)))).length + (x100).length ≤ sizeLine)) fun _ => some ((Txt.slice j.1 none (some (7 : Int))) ++ x100)) (g := fun x => Txt.slice j.1 none (some (7 : Int)) ++ x)
      (fun x hx h1 => by  rw [ck_pos (by omega), bd_some, ck_pos (by omega), bd_some]) (fun x hx h1 => ⟨(sl 7).1.app hx, by  rw [Str.len_app]; omega⟩)
    refine Ok.is e1 (Ok.ck (by rw [l1]; simp only [List.length_singleton]; omega) (Ok.ck (by rw [s26, sz]; omega) ?_))
    obtain ⟨e2, l2, a2⟩ := cand j1 j2 (u := none) (f := fun (x133 : Str) => bd (ck ((j.1).length ≤ sizeLine)) fun _ => bd (ck (((Txt.slice j.1 none (some (6 : Int)))).length + (x133).length ≤ sizeLine)) fun _ => bd (ck ((((Txt.slice j.1 none (some (6 : Int))) ++ x133)).length + (("q" : Str)).length ≤ sizeLine)) fun _ => some (((Txt.slice j.1 none (some (6 : Int))) ++ x133) ++ ("q" : Str)))
      (g := fun x => Txt.slice j.1 none (some (6 : Int)) ++ x ++ ("q" : Str))
      (fun x hx h1 => by  rw [ck_pos (by omega), bd_some, ck_pos (by omega), bd_some, ck_pos (by rw [Str.len_app]; omega), bd_some]) (fun x hx h1 => ⟨((sl 6).1.app hx).app z1, by  rw [Str.len_app, Str.len_app]; omega⟩)
    refine Ok.is e2 (Ok.ck (by rw [List.length_append, l1, l2]; simp only [List.length_singleton]; omega) (Ok.lt (Ok.ck (by rw [s26, sz]; omega) ?_)))
    obtain ⟨e3, l3, a3⟩ := cand j1 j2 (u := none) (f := fun (x133 : Str) => bd (ck ((j.1).length ≤ sizeLine)) fun _ => bd (ck (((Txt.slice j.1 none (some (6 : Int)))).length + (x133).length ≤ sizeLine)) fun _ => bd (ck ((((Txt.slice j.1 none (some (6 : Int))) ++ x133)).length + (("z" : Str)).length ≤ sizeLine)) fun _ => some (((Txt.slice j.1 none (some (6 : Int))) ++ x133) ++ ("z" : Str)))
      (g := fun x => Txt.slice j.1 none (some (6 : Int)) ++ x ++ ("z" : Str))
      (fun x hx h1 => by  rw [ck_pos (by omega), bd_some, ck_pos (by omega), bd_some, ck_pos (by rw [Str.len_app]; omega), bd_some]) (fun x hx h1 => ⟨((sl 6).1.app hx).app z2, by  rw [Str.len_app, Str.len_app]; omega⟩)
    refine Ok.is e3 (Ok.ck (by rw [List.length_append, List.length_append, l1, l2, l3]; simp only [List.length_singleton]; omega) (Ok.ck (by rw [s26, sz]; omega) ?_))
    obtain ⟨e4, l4, a4⟩ := cand j1 j2 (u := none) (f := fun (x203 : Str) => bd (ck ((j.1).length ≤ sizeLine)) fun _ => bd (ck (((Txt.slice j.1 none (some (5 : Int)))).length + (x203).length ≤ sizeLine)) fun _ => bd (ck ((((Txt.slice j.1 none (some (5 : Int))) ++ x203)).length + (("qz" : Str)).length ≤ sizeLine)) fun _ => some (((Txt.slice j.1 none (some (5 : Int))) ++ x203) ++ ("qz" : Str)))
      (g := fun x => Txt.slice j.1 none (some (5 : Int)) ++ x ++ ("qz" : Str))
      (fun x hx h1 => by  rw [ck_pos (by omega), bd_some, ck_pos (by omega), bd_some, ck_pos (by rw [Str.len_app]; omega), bd_some]) (fun x hx h1 => ⟨((sl 5).1.app hx).app z3, by  rw [Str.len_app, Str.len_app]; omega⟩)
    refine Ok.is e4 (Ok.ck (by simp only [List.length_append, l1, l2, l3, l4, List.length_singleton]; omega) (Ok.lt (Ok.ck (by simp only [List.length_append, l1, l2, l3, l4, List.length_singleton]; omega) ?_)))
    rw [List.map_id']
    obtain ⟨LY, y1, y2, y3⟩ := many_names (Txt.slice j.1 none (some (7 : Int))) (Txt.slice j.1 none (some (6 : Int))) (Txt.slice j.1 none (some (5 : Int)))
    obtain ⟨y, hy, hn⟩ := pigeon (xs := LY) (told := told) y1 (by omega)
    have hA : ∀ x ∈ [j.1] ++ ((signs alph).map fun x => Txt.slice j.1 none (some (7 : Int)) ++ x) ++ ((signs alph).map fun x => Txt.slice j.1 none (some (6 : Int)) ++ x ++ ("q" : Str)) ++ ((signs alph).map fun x => Txt.slice j.1 none (some (6 : Int)) ++ x ++ ("z" : Str)) ++ ((signs alph).map fun x => Txt.slice j.1 none (some (5 : Int)) ++ x ++ ("qz" : Str)), Low x ∧ x.length ≤ 8 ∧ 0 < x.length := by
      intro x hx
      simp only [List.mem_append, List.mem_singleton] at hx
      rcases hx with (((rfl | hx) | hx) | hx) | hx
      · exact ⟨j1, by omega, j2p⟩
      · exact a1 x hx
      · exact a2 x hx
      · exact a3 x hx
      · exact a4 x hx
    have hmem : y ∈ [j.1] ++ ((signs alph).map fun x => Txt.slice j.1 none (some (7 : Int)) ++ x) ++ ((signs alph).map fun x => Txt.slice j.1 none (some (6 : Int)) ++ x ++ ("q" : Str)) ++ ((signs alph).map fun x => Txt.slice j.1 none (some (6 : Int)) ++ x ++ ("z" : Str)) ++ ((signs alph).map fun x => Txt.slice j.1 none (some (5 : Int)) ++ x ++ ("qz" : Str)) := by
      simp only [List.mem_append]
      rcases y3 y hy with ⟨x, hx, e⟩ | ⟨x, hx, e⟩ | ⟨x, hx, e⟩ | ⟨x, hx, e⟩
      · exact .inl (.inl (.inl (.inr (List.mem_map.mpr ⟨x, hx, e.symm⟩))))
      · exact .inl (.inl (.inr (List.mem_map.mpr ⟨x, hx, e.symm⟩)))
      · exact .inl (.inr (List.mem_map.mpr ⟨x, hx, e.symm⟩))
      · exact .inr (List.mem_map.mpr ⟨x, hx, e.symm⟩)
    generalize [j.1] ++ ((signs alph).map fun x => Txt.slice j.1 none (some (7 : Int)) ++ x) ++ ((signs alph).map fun x => Txt.slice j.1 none (some (6 : Int)) ++ x ++ ("q" : Str)) ++ ((signs alph).map fun x => Txt.slice j.1 none (some (6 : Int)) ++ x ++ ("z" : Str)) ++ ((signs alph).map fun x => Txt.slice j.1 none (some (5 : Int)) ++ x ++ ("qz" : Str)) = L at hA hmem ⊢
    cases e : L.filter (fun (x240 : Str) => (!decide (x240 ∈ told))) with
    | nil =>
      have := List.filter_eq_nil_iff.mp e y hmem
      simp at this
      exact absurd this hn
    | cons z r =>
      have hz : z ∈ L.filter (fun (x240 : Str) => (!decide (x240 ∈ told))) := by rw [e]; exact List.mem_cons_self ..
      obtain ⟨m1, m2⟩ := List.mem_filter.mp hz
      refine Ok.is atI_cons0 (Ok.ret ⟨?_, hA z m1, j3⟩)
      simpa using m2
end G

namespace G
open PySem L2 Pv
def Nm (x : Str) : Prop := Low x ∧ x.length ≤ 8 ∧ 0 < x.length
def LitOk (names : List Str) (l : Str) : Prop := l = "0" ∨ l = "1" ∨ ∃ x ∈ names, l = x ∨ l = ("~" : Str) ++ x
theorem LitOk.mono {a b : List Str} {l : Str} (h : LitOk a l) (k : ∀ x ∈ a, x ∈ b) : LitOk b l := by
  rcases h with h | h | ⟨x, hx, h⟩
  · exact .inl h
  · exact .inr (.inl h)
  · exact .inr (.inr ⟨x, k x hx, h⟩)
def GatesOk : List Str → List (T3 Str Str Str) → Prop
  | _, [] => True
  | told, g :: r => g.a ∉ told ∧ Nm g.a ∧ LitOk told g.b ∧ LitOk told g.c ∧ GatesOk (told ++ [g.a]) r
theorem GatesOk.mono : ∀ {gs : List (T3 Str Str Str)} {a b : List Str}, GatesOk a gs → (∀ x, x ∈ a ↔ x ∈ b) → GatesOk b gs
  | [], _, _, _, _ => trivial
  | g :: r, a, b, ⟨h1, h2, h3, h4, h5⟩, k => ⟨fun m => h1 ((k _).mpr m), h2, h3.mono fun x => (k x).mp, h4.mono fun x => (k x).mp, GatesOk.mono h5 fun x => by rw [List.mem_append, List.mem_append, k x]⟩
theorem GatesOk.snoc : ∀ {gs : List (T3 Str Str Str)} {a : List Str} {g : T3 Str Str Str}, GatesOk a gs → g.a ∉ a ++ gs.map (·.a) → Nm g.a → LitOk (a ++ gs.map (·.a)) g.b → LitOk (a ++ gs.map (·.a)) g.c → GatesOk a (gs ++ [g])
  | [], a, g, _, h1, h2, h3, h4 => by
    rw [List.map_nil, List.append_nil] at h1 h3 h4
    exact ⟨h1, h2, h3, h4, trivial⟩
  | x :: r, a, g, ⟨k1, k2, k3, k4, k5⟩, h1, h2, h3, h4 => by
    rw [List.map_cons, List.append_cons] at h1 h3 h4
    exact ⟨k1, k2, k3, k4, GatesOk.snoc k5 h1 h2 h3 h4⟩
def alln (m : R_m) : List Str := m.keepers.map (·.1) ++ m.switches ++ m.gates.map (·.a)
structure MOk (m : R_m) : Prop where
  nd : (m.keepers.map (·.1) ++ m.switches).Nodup
  nm : ∀ x ∈ m.keepers.map (·.1) ++ m.switches, Nm x
  s3 : m.switches.length ≤ 12
  k4 : m.keepers.length ≤ 16
  g10 : m.gates.length ≤ 60
  go : GatesOk (m.keepers.map (·.1) ++ m.switches) m.gates
  nx : ∀ p ∈ m.nexts, LitOk (alln m) p.2
  wn : ((m.nevers ++ m.somes).map (·.1)).Nodup
  wl : ∀ p ∈ m.nevers ++ m.somes, LitOk (alln m) p.2
  wm : ∀ p ∈ m.nevers ++ m.somes, Nm p.1
  w2 : m.nevers.length ≤ 4 ∧ m.somes.length ≤ 4
  xn : (m.nexts.map (·.1)).Nodup
  xk : ∀ p ∈ m.nexts, p.1 ∈ m.keepers.map (·.1)
  xl : m.nexts.length ≤ m.keepers.length
  kf : ∀ p ∈ m.keepers, p.2 ∈ ([some 0, some 1, none] : List (Option Int))
theorem txt1 : (("" : Str)).length ≤ 1 ∧ (("~" : Str)).length ≤ 1 := by decide +kernel
theorem nil_app (x : Str) : ("" : Str) ++ x = x := by
  have e : (("" : Str) ++ x).cps.toList = x.cps.toList := by
    rw [Str.toL_app]; rfl
  generalize ("" : Str) ++ x = y at e
  cases x
  cases y
  congr
  exact Array.toList_inj.mp e
theorem literal_ok {l : List Int} (hl : LL l) {names : List Str} (hn : names.length ≤ 100) (ha : ∀ x ∈ names, x.length ≤ 8) : Ok (m_literal l names) fun r => LitOk names r.1 ∧ LL r.2 := by
  have sz := size64
  unfold m_literal
  refine Ok.bd (pick_ok hl (by omega) (by omega)) fun r hr => Ok.ite (fun c => ?_) (fun c => ?_)
  · rcases (by omega : r.1 % 2 = 0 ∨ r.1 % 2 = 1) with e | e
    · exact Ok.is (a := ("0" : Str)) (by rw [e]; decide +kernel) (Ok.ret ⟨.inl rfl, hr.2.2⟩)
    · exact Ok.is (a := ("1" : Str)) (by rw [e]; decide +kernel) (Ok.ret ⟨.inr (.inl rfl), hr.2.2⟩)
  · have c' := of_decide_eq_false c
    rcases (by omega : r.1 % 2 = 0 ∨ r.1 % 2 = 1) with e | e
    · refine Ok.is (a := ("" : Str)) (by rw [e]; rfl) (Ok.bd (atI_ok (by omega) (by omega)) fun x hx => ?_)
      have := ha x hx.2
      refine Ok.ck (by have := txt1.1; omega) (Ok.ret ⟨.inr (.inr ⟨x, hx.2, .inl (nil_app x)⟩), hr.2.2⟩)
    · refine Ok.is (a := ("~" : Str)) (by rw [e]; rfl) (Ok.bd (atI_ok (by omega) (by omega)) fun x hx => ?_)
      have := ha x hx.2
      refine Ok.ck (by have := txt1.2; omega) (Ok.ret ⟨.inr (.inr ⟨x, hx.2, .inr rfl⟩), hr.2.2⟩)
theorem nd_snoc {xs : List Str} {y : Str} (h : xs.Nodup) (k : y ∉ xs) : (xs ++ [y]).Nodup :=
  List.nodup_append.mpr ⟨h, List.pairwise_singleton .., fun a ha b hb e => by
    have e2 : b = y := by simpa using hb
    rw [e, e2] at ha
    exact k ha⟩
theorem nm_snoc {xs : List Str} {y : Str} (h : ∀ x ∈ xs, Nm x) (k : Nm y) : ∀ x ∈ xs ++ [y], Nm x := fun x hx => by
  rcases List.mem_append.mp hx with h1 | h1
  · exact h x h1
  · have e2 : x = y := by simpa using h1
    rw [e2]; exact k
theorem all_snoc {α : Type} {P : α → Prop} {xs : List α} {y : α} (h : ∀ x ∈ xs, P x) (k : P y) : ∀ x ∈ xs ++ [y], P x := fun x hx => by
  rcases List.mem_append.mp hx with h1 | h1
  · exact h x h1
  · have e2 : x = y := by simpa using h1
    rw [e2]; exact k
theorem wishes_ok {l : List Int} (hl : LL l) {names told : List Str} (hn : names.length ≤ 100) (ha : ∀ x ∈ names, x.length ≤ 8) (ht : told.Nodup) {many : Int} (h0 : 0 ≤ many) (h1 : told.length + many ≤ 100) :
    Ok (m_wishes l names told many) fun r => (r.1.length : Int) = many ∧ LL r.2 ∧ (told ++ r.1.map (·.1)).Nodup ∧ (∀ p ∈ r.1, LitOk names p.2) ∧ ∀ p ∈ r.1, Nm p.1 := by
  have sz := size64
  unfold m_wishes
  refine Ok.lt (Ok.ck ⟨by omega, by omega⟩ ?_)
  refine Ok.bd (lpn_at (fun i s => LL s.1 ∧ s.2.length = i ∧ (told ++ s.2.map (·.1)).Nodup ∧ (∀ p ∈ s.2, LitOk names p.2) ∧ ∀ p ∈ s.2, Nm p.1) ⟨hl, rfl, by simpa using ht, (fun p h => absurd h List.not_mem_nil), fun p h => absurd h List.not_mem_nil⟩ fun i s x hx hs => ?_) fun s hs => Ok.ret ⟨?_, hs.1, hs.2.2⟩
  · have hi := (List.getElem?_eq_some_iff.mp hx).1
    rw [rng_len] at hi
    obtain ⟨s1, s2, s3, s4, s5⟩ := hs
    refine Ok.ck (by omega) (Ok.ck (by rw [List.length_map]; omega) ?_)
    refine Ok.bd (spelt_ok s1 (by rw [List.length_append, List.length_map]; omega)) fun r hr => Ok.bd (literal_ok hr.2.2 hn ha) fun q hq => ?_
    refine Ok.ck (by omega) (Ok.ret ⟨hq.2, by rw [List.length_append, s2]; rfl, ?_, all_snoc s4 hq.1, all_snoc s5 hr.2.1⟩)
    rw [List.map_append, ← List.append_assoc]
    exact nd_snoc s3 hr.1
  · rw [hs.2.1, rng_len]; omega
theorem atI_last {α : Type} {xs : List α} {a : α} : atI (xs ++ [a]) (-(1 : Int)) = some a := by
  unfold atI ixN
  rw [List.length_append, List.length_singleton, if_neg (by decide), if_pos (by omega), show (-(1 : Int) + ((xs.length + 1 : Nat) : Int)).toNat = xs.length by omega]
  show (xs ++ [a])[xs.length]? = _
  simp
end G

namespace G
open PySem L2 Pv
theorem nd_ix {α : Type} : ∀ {l : List α} {i j : Nat} {x : α}, l.Nodup → l[i]? = some x → l[j]? = some x → i = j
  | [], i, j, x, _, h, _ => by simp at h
  | a :: r, 0, 0, x, _, _, _ => rfl
  | a :: r, 0, j + 1, x, nd, h, k => by
    have e : a = x := by simpa using h
    have k' : r[j]? = some x := by simpa using k
    exact absurd (List.mem_of_getElem? k') (by rw [← e]; exact (List.nodup_cons.mp nd).1)
  | a :: r, i + 1, 0, x, nd, h, k => by
    have e : a = x := by simpa using k
    have k' : r[i]? = some x := by simpa using h
    exact absurd (List.mem_of_getElem? k') (by rw [← e]; exact (List.nodup_cons.mp nd).1)
  | a :: r, i + 1, j + 1, x, nd, h, k => by
    have h' : r[i]? = some x := by simpa using h
    have k' : r[j]? = some x := by simpa using k
    rw [nd_ix (List.nodup_cons.mp nd).2 h' k']
theorem digits_ok3 (a b c : Int) {zs zk zg zw : Int} (zs0 : 0 ≤ zs ∧ zs ≤ 12) (zk0 : 0 ≤ zk ∧ zk ≤ 16) (zg0 : 0 ≤ zg ∧ zg ≤ 60) (zw0 : 1 ≤ zw ∧ zw ≤ 4) : Ok (m_machine_digits [a, b, c] (SZ [zs, zk, zg, zw])) fun m => (MOk m ∧ m.switches.length ≤ zs.toNat ∧ m.keepers.length ≤ zk.toNat ∧ 1 ≤ m.nevers.length) ∧ (m.nevers.length : Int) ≤ zw ∧ (m.somes.length : Int) ≤ zw ∧ (m.gates.length : Int) ≤ zg := by
  have sz := size64
  unfold m_machine_digits
  refine Ok.ck (by show 3 ≤ _; omega) (Ok.bd (mapO_ok (P := fun l => l.length = 2) fun x hx => Ok.bd (rich_ok _ ?_ ?_) fun r _ => Ok.ret rfl) fun L hL => ?_)
  · have hx' : x ∈ [((0 : Int), a), (1, b), (2, c)] := hx
    simp only [List.mem_cons, List.not_mem_nil, or_false] at hx'
    rcases hx' with rfl | rfl | rfl <;> dsimp only <;> decide
  · have hx' : x ∈ [((0 : Int), a), (1, b), (2, c)] := hx
    simp only [List.mem_cons, List.not_mem_nil, or_false] at hx'
    rcases hx' with rfl | rfl | rfl <;> dsimp only <;> decide
  obtain ⟨c1, c2, c3, rfl, k1, k2, k3⟩ : ∃ c1 c2 c3, L = [c1, c2, c3] ∧ c1.length = 2 ∧ c2.length = 2 ∧ c3.length = 2 := by
    have h3 : L.length = 3 := hL.1
    match L, h3, hL.2 with
    | [u, v, w], _, h => exact ⟨u, v, w, rfl, h u (by simp), h v (by simp), h w (by simp)⟩
  refine Ok.is (a := (c1, c2, c3)) rfl (Ok.lt (Ok.is (a := zs) rfl ?_))
  refine Ok.bd (pick_ok (.inr k1) (by omega) (by omega)) fun p hp => Ok.ck ⟨by omega, by omega⟩ ?_
  refine Ok.bd (lpn_at (fun i s => LL s.1 ∧ s.2.length = i ∧ s.2.Nodup ∧ ∀ x ∈ s.2, Nm x) ⟨hp.2.2, rfl, List.Pairwise.nil, fun x h => absurd h List.not_mem_nil⟩ fun i s x hx hs => ?_) fun s1 hs1 => ?_
  · have hi := (List.getElem?_eq_some_iff.mp hx).1
    rw [rng_len] at hi
    exact Ok.bd (spelt_ok hs.1 (by omega)) fun r hr => Ok.ck (by omega) (Ok.ret ⟨hr.2.2, by rw [List.length_append, hs.2.1]; rfl, nd_snoc hs.2.2.1 hr.1, nm_snoc hs.2.2.2 hr.2.1⟩)
  rw [rng_len] at hs1
  obtain ⟨u1, u2, u3, u4⟩ := hs1
  refine Ok.lt (Ok.is (a := zk) rfl ?_)
  refine Ok.bd (pick_ok u1 (by omega) (by omega)) fun q hq => Ok.ck ⟨by omega, by omega⟩ ?_
  refine Ok.bd (lpn_at (fun i s => LL s.1 ∧ s.2.2.length = i ∧ s.2.1 = s1.2 ++ s.2.2.map (·.1) ∧ s.2.1.Nodup ∧ (∀ x ∈ s.2.1, Nm x) ∧ ∀ p ∈ s.2.2, p.2 ∈ ([some 0, some 1, none] : List (Option Int))) ⟨hq.2.2, rfl, by simp, u3, u4, fun p h => absurd h List.not_mem_nil⟩ fun i s x hx hs => ?_) fun s2 hs2 => ?_
  · have hi := (List.getElem?_eq_some_iff.mp hx).1
    rw [rng_len] at hi
    have hl : s.2.1.length = s1.2.length + i := by rw [hs.2.2.1, List.length_append, List.length_map, hs.2.1]
    refine Ok.bd (spelt_ok hs.1 (by omega)) fun r hr => Ok.ck (by omega) (Ok.is atI_last ?_)
    refine Ok.bd (pick_ok hr.2.2 (by decide) (by decide)) fun w hw => Ok.bd (atI_ok hw.1 hw.2.1) fun z hz => Ok.ck (by omega) (Ok.ret ⟨hw.2.2, by rw [List.length_append, hs.2.1]; rfl, ?_, nd_snoc hs.2.2.2.1 hr.1, nm_snoc hs.2.2.2.2.1 hr.2.1, all_snoc hs.2.2.2.2.2 hz.2⟩)
    show s.2.1 ++ [r.1] = _
    rw [hs.2.2.1, List.map_append, List.append_assoc]
    rfl
  rw [rng_len] at hs2
  obtain ⟨v1, v2, v3, v4, v5, v6⟩ := hs2
  have vl : s2.2.1.length = s1.2.length + s2.2.2.length := by rw [v3, List.length_append, List.length_map]
  refine Ok.lt (Ok.is (a := zg) rfl ?_)
  refine Ok.bd (pick_ok (.inr k2) (by omega) (by omega)) fun g hg => Ok.ck ⟨by omega, by omega⟩ ?_
  refine Ok.bd (lpn_at (fun i s => LL s.1 ∧ s.2.2.length = i ∧ s.2.1 = s2.2.1 ++ s.2.2.map (·.a) ∧ s.2.1.Nodup ∧ (∀ x ∈ s.2.1, Nm x) ∧ GatesOk s2.2.1 s.2.2) ⟨hg.2.2, rfl, by simp, v4, v5, by exact trivial⟩ fun i s x hx hs => ?_) fun s3 hs3 => ?_
  · have hi := (List.getElem?_eq_some_iff.mp hx).1
    rw [rng_len] at hi
    obtain ⟨w1, w2, w3, w4, w5, w6⟩ := hs
    have hl : s.2.1.length = s2.2.1.length + i := by rw [w3, List.length_append, List.length_map, w2]
    refine Ok.bd (spelt_ok w1 (by omega)) fun r hr => Ok.bd (literal_ok hr.2.2 (by omega) fun x hx => (w5 x hx).2.1) fun l1 hl1 => Ok.bd (literal_ok hl1.2 (by omega) fun x hx => (w5 x hx).2.1) fun l2 hl2 => ?_
    refine Ok.ck (by omega) (Ok.ck (by omega) (Ok.ret ⟨hl2.2, by rw [List.length_append, w2]; rfl, ?_, nd_snoc w4 hr.1, nm_snoc w5 hr.2.1, ?_⟩))
    · show s.2.1 ++ [r.1] = _
      rw [w3, List.map_append, List.append_assoc]
      rfl
    · refine GatesOk.snoc w6 ?_ hr.2.1 ?_ ?_
      · rw [← w3]; exact hr.1
      · rw [← w3]; exact hl1.1
      · rw [← w3]; exact hl2.1
  rw [rng_len] at hs3
  obtain ⟨w1, w2, w3, w4, w5, w6⟩ := hs3
  have wl : s3.2.1.length = s2.2.1.length + s3.2.2.length := by rw [w3, List.length_append, List.length_map]
  have ha : ∀ x ∈ s3.2.1, x.length ≤ 8 := fun x hx => (w5 x hx).2.1
  refine Ok.lt ?_
  have kget : ∀ {i j : Nat} {x y : Str × Option Int}, s2.2.2[i]? = some x → s2.2.2[j]? = some y → x.1 = y.1 → i = j := fun {i j x y} hi hj e => by
    have nd : (s2.2.2.map (·.1)).Nodup := by rw [v3] at v4; exact (List.nodup_append.mp v4).2.1
    have h1 : (s2.2.2.map (·.1))[i]? = some x.1 := by rw [List.getElem?_map, hi]; rfl
    have h2 : (s2.2.2.map (·.1))[j]? = some x.1 := by rw [List.getElem?_map, hj, e]; rfl
    exact nd_ix nd h1 h2
  refine Ok.bd (lpn_at (fun i s => LL s.1 ∧ s.2.length ≤ i ∧ (∀ p ∈ s.2, LitOk s3.2.1 p.2) ∧ (s.2.map (·.1)).Nodup ∧ ∀ p ∈ s.2, ∃ j y, j < i ∧ s2.2.2[j]? = some y ∧ y.1 = p.1) ⟨.inr k3, Nat.le_refl _, (fun p h => absurd h List.not_mem_nil), List.Pairwise.nil, fun p h => absurd h List.not_mem_nil⟩ fun i s x hx hs => ?_) fun s4 hs4 => ?_
  · have hi := (List.getElem?_eq_some_iff.mp hx).1
    obtain ⟨m1, m2, m3, m4, m5⟩ := hs
    have up : ∀ p ∈ s.2, ∃ j y, j < i + 1 ∧ s2.2.2[j]? = some y ∧ y.1 = p.1 := fun p hp => by obtain ⟨j, y, q1, q2⟩ := m5 p hp; exact ⟨j, y, by omega, q2⟩
    refine Ok.bd (pick_ok m1 (by decide) (by decide)) fun t ht => Ok.ite (fun _ => ?_) (fun _ => Ok.ret ⟨ht.2.2, by show s.2.length ≤ _; omega, m3, m4, up⟩)
    refine Ok.bd (pick_ok ht.2.2 (by omega) (by omega)) fun t2 ht2 => Ok.bd (literal_ok ht2.2.2 (by omega) ha) fun l1 hl1 => Ok.ck ⟨by omega, by omega, by omega⟩ (Ok.ret ?_)
    have hperm2 : (s.2.take (t2.1).toNat ++ [(x.1, l1.1)] ++ s.2.drop (t2.1).toNat).Perm ((x.1, l1.1) :: s.2) := by
      rw [List.append_assoc]
      refine List.perm_middle.trans ?_
      show List.Perm ((x.1, l1.1) :: (s.2.take (t2.1).toNat ++ s.2.drop (t2.1).toNat)) _
      rw [List.take_append_drop]
    refine ⟨hl1.2, ?_, fun p hp => ?_, ?_, fun p hp => ?_⟩
    · show (s.2.take _ ++ [_] ++ s.2.drop _).length ≤ _
      rw [hperm2.length_eq, List.length_cons]
      omega
    · rcases List.mem_cons.mp (hperm2.mem_iff.mp hp) with h | h
      · rw [h]; exact hl1.1
      · exact m3 p h
    · refine ((hperm2.map (·.1)).nodup_iff).mpr ?_
      rw [List.map_cons]
      refine List.nodup_cons.mpr ⟨fun hm => ?_, m4⟩
      obtain ⟨p, hp, e⟩ := List.mem_map.mp hm
      obtain ⟨j, y, q1, q2, q3⟩ := m5 p hp
      have := kget q2 hx (q3.trans e)
      omega
    · rcases List.mem_cons.mp (hperm2.mem_iff.mp hp) with h | h
      · exact ⟨i, x, by omega, hx, by rw [h]⟩
      · exact up p h
  refine Ok.is (a := zw) rfl ?_
  refine Ok.bd (pick_ok hs4.1 (by omega) (by omega)) fun e he => ?_
  refine Ok.bd (wishes_ok he.2.2 (by omega) ha List.Pairwise.nil (by omega) (by show ((0 : Nat) : Int) + _ ≤ _; omega)) fun f hf => Ok.ck (by omega) (Ok.is (a := zw) rfl ?_)
  refine Ok.bd (pick_ok hf.2.1 (by omega) (by omega)) fun e2 he2 => ?_
  refine Ok.bd (wishes_ok he2.2.2 (by omega) ha (by simpa using hf.2.2.1) (by omega) (by rw [List.length_map]; omega)) fun f2 hf2 => Ok.ret ?_
  have hperm : ∀ x, x ∈ s2.2.1 ↔ x ∈ s2.2.2.map (·.1) ++ s1.2 := fun x => by rw [v3, List.mem_append, List.mem_append, Or.comm]
  have hall : ∀ x, x ∈ s3.2.1 ↔ x ∈ s2.2.2.map (·.1) ++ s1.2 ++ s3.2.2.map (·.a) := fun x => by rw [w3, List.mem_append, List.mem_append, hperm x]
  refine ⟨⟨⟨?_, fun x hx => v5 x ((hperm x).mpr hx), by show s1.2.length ≤ 12; omega, by show s2.2.2.length ≤ 16; omega, by show s3.2.2.length ≤ 60; omega, w6.mono hperm, fun p hp => (hs4.2.2.1 p hp).mono fun x hx => (hall x).mp hx, ?_, fun p hp => ?_, fun p hp => ?_, ?_, hs4.2.2.2.1, fun p hp => ?_, hs4.2.1, v6⟩, by show s1.2.length ≤ _; omega, by show s2.2.2.length ≤ _; omega, by show 1 ≤ f.1.length; omega⟩, by show (f.1.length : Int) ≤ zw; omega, by show (f2.1.length : Int) ≤ zw; omega, by show (s3.2.2.length : Int) ≤ zg; omega⟩
  · show (s2.2.2.map (·.1) ++ s1.2).Nodup
    rw [v3] at v4
    exact (List.perm_append_comm.nodup_iff).mp v4
  · show ((f.1 ++ f2.1).map (·.1)).Nodup
    rw [List.map_append]
    exact hf2.2.2.1
  · rcases List.mem_append.mp hp with h | h
    · exact (hf.2.2.2.1 p h).mono fun x hx => (hall x).mp hx
    · exact (hf2.2.2.2.1 p h).mono fun x hx => (hall x).mp hx
  · rcases List.mem_append.mp hp with h | h
    · exact hf.2.2.2.2 p h
    · exact hf2.2.2.2.2 p h
  · refine ⟨?_, ?_⟩
    · show f.1.length ≤ 4; omega
    · show f2.1.length ≤ 4; omega
  · obtain ⟨j, y, _, h1, h2⟩ := hs4.2.2.2.2 p hp
    exact List.mem_map.mpr ⟨y, List.mem_of_getElem? h1, h2⟩
theorem machine_ok3 (s : Scr) {zs zk zg zw : Int} (zs0 : 0 ≤ zs ∧ zs ≤ 12) (zk0 : 0 ≤ zk ∧ zk ≤ 16) (zg0 : 0 ≤ zg ∧ zg ≤ 60) (zw0 : 1 ≤ zw ∧ zw ≤ 4) : Ok (m_machine s (SZ [zs, zk, zg, zw])) fun m => (MOk m ∧ m.switches.length ≤ zs.toNat ∧ m.keepers.length ≤ zk.toNat ∧ 1 ≤ m.nevers.length) ∧ (m.nevers.length : Int) ≤ zw ∧ (m.somes.length : Int) ≤ zw ∧ (m.gates.length : Int) ≤ zg := by
  have sz := size64
  unfold m_machine
  refine Ok.bd (mapO_ok (P := fun _ => True) fun x hx => Ok.bd (cell_ok s (rng_mem hx).1) fun r _ => Ok.ret trivial) fun l hl => ?_
  have h3 : l.length = 3 := by rw [hl.1, rng_len]; rfl
  match l, h3 with
  | [a, b, c], _ =>
    refine Ok.is (a := c) rfl ?_
    refine Ok.bd (p := fun j => j.length = 3) (Ok.ite (fun _ => ?_) (fun _ => Ok.ret rfl)) fun j hj => ?_
    · refine Ok.ck (by show 3 ≤ _; omega) (Ok.bd (mapO_ok (P := fun _ => True) fun x hx => Ok.bd (rich_ok _ ?_ ?_) fun r _ => Ok.ret trivial) fun l2 hl2 => Ok.ret hl2.1)
      · have hx' : x ∈ [((0 : Int), a), (1, b), (2, c)] := hx
        simp only [List.mem_cons, List.not_mem_nil, or_false] at hx'
        rcases hx' with rfl | rfl | rfl <;> dsimp only <;> decide
      · have hx' : x ∈ [((0 : Int), a), (1, b), (2, c)] := hx
        simp only [List.mem_cons, List.not_mem_nil, or_false] at hx'
        rcases hx' with rfl | rfl | rfl <;> dsimp only <;> decide
    · match j, hj with
      | [x, y, z], _ => exact Ok.is (a := x) rfl (Ok.is (a := y) rfl (Ok.is (a := z) rfl (Ok.bd (digits_ok3 _ _ _ zs0 zk0 zg0 zw0) fun m hm => Ok.ret hm)))
end G

namespace G
open PySem L2 Pv
theorem slice_none (x : Str) (a : Nat) : Txt.slice x (some (a : Int)) none = Txt.slice x (some (a : Int)) (some (x.length : Int)) := by
  have e : PySem.Builtin.Str.strSliceIndices (some (a : Int)) none 1 x.length = PySem.Builtin.Str.strSliceIndices (some (a : Int)) (some (x.length : Int)) 1 x.length := by
    unfold PySem.Builtin.Str.strSliceIndices
    have h : ¬ ((x.length : Int) < 0) := by omega
    have h2 : max (0 : Int) (min (x.length : Int) (x.length : Int)) = x.length := by omega
    simp [h, h2]
  unfold Txt.slice
  rw [e]
theorem str_ext {a b : Str} (h : a.cps.toList = b.cps.toList) : a = b := by
  cases a
  cases b
  congr
  exact Array.toList_inj.mp h
abbrev tilde : Str := "~"
theorem tilde_l : tilde.cps.toList = [126] := by decide +kernel
theorem til_cut (x : Str) : Txt.slice (tilde ++ x) (some (1 : Int)) none = x := by
  refine str_ext ?_
  have hl : (tilde ++ x).length = 1 + x.length := by rw [Str.len_app]; rfl
  rw [show (1 : Int) = ((1 : Nat) : Int) from rfl, slice_none, PySem.W.os_slice (by omega) (Nat.le_refl _), Str.toL_app, tilde_l, hl]
  have lx : x.cps.toList.length = x.length := Array.length_toList
  show List.take _ x.cps.toList = _
  rw [List.take_of_length_le (by omega)]
theorem til_starts (x : Str) : Txt.startswith (tilde ++ x) tilde = true := PySem.W.KT.starts_app _ _
theorem nm_cons {x : Str} (h : Nm x) : ∃ c r, x.cps.toList = c :: r ∧ 97 ≤ c ∧ c ≤ 122 := by
  obtain ⟨h1, _, h3⟩ := h
  have lx : x.cps.toList.length = x.length := Array.length_toList
  cases e : x.cps.toList with
  | nil => rw [e] at lx; simp at lx; omega
  | cons c r => exact ⟨c, r, rfl, h1 c (by rw [e]; exact List.mem_cons_self ..)⟩
theorem nm_starts {x : Str} (h : Nm x) : Txt.startswith x tilde = false := by
  obtain ⟨c, r, e, h1, h2⟩ := nm_cons h
  unfold Txt.startswith
  rw [Bool.and_eq_false_iff]
  right
  rw [StrLaws.subAt_eq, e, List.drop_zero, tilde_l]
  show (List.take 1 (c :: r) == [126]) = false
  rw [List.take_succ_cons, List.take_zero]
  rw [beq_eq_false_iff_ne]
  intro z
  have := (List.cons.inj z).1
  omega
theorem nm_ne {x : Str} (h : Nm x) : x ≠ "0" ∧ x ≠ "1" := by
  obtain ⟨c, r, e, h1, h2⟩ := nm_cons h
  constructor
  · intro z
    have e2 : x.cps.toList = [48] := by rw [z]; decide +kernel
    rw [e] at e2
    have := (List.cons.inj e2).1
    omega
  · intro z
    have e2 : x.cps.toList = [49] := by rw [z]; decide +kernel
    rw [e] at e2
    have := (List.cons.inj e2).1
    omega
theorem til_ne (x : Str) : tilde ++ x ≠ "0" ∧ tilde ++ x ≠ "1" := by
  constructor
  · intro z
    have e : (tilde ++ x).cps.toList = [48] := by rw [z]; decide +kernel
    rw [Str.toL_app, tilde_l] at e
    have := (List.cons.inj e).1
    omega
  · intro z
    have e : (tilde ++ x).cps.toList = [49] := by rw [z]; decide +kernel
    rw [Str.toL_app, tilde_l] at e
    have := (List.cons.inj e).1
    omega
end G

namespace G
open PySem L2 Pv
theorem get_put {κ α : Type} [DecidableEq κ] (d : Dc κ α) (k k2 : κ) (v : α) : (d.put k v).get? k2 = if k2 = k then some v else d.get? k2 := by
  obtain ⟨l⟩ := d
  unfold Dc.put Dc.get?
  dsimp only
  by_cases hc : (l.any fun p => decide (p.1 = k)) = true
  · rw [if_pos hc]
    induction l with
    | nil => simp at hc
    | cons p r ih =>
      rw [List.map_cons, List.find?_cons, List.find?_cons]
      by_cases e : p.1 = k
      · rw [if_pos e]
        by_cases e2 : k2 = k
        · subst e2
          simp [e]
        · rw [if_neg e2]
          have ne : ¬ p.1 = k2 := fun z => e2 (by rw [← z, e])
          simp only [decide_eq_false ne]
          by_cases hr : (r.any fun p => decide (p.1 = k)) = true
          · have := ih hr
            rw [if_neg e2] at this
            exact this
          · have : r.map (fun p => if p.1 = k then (p.1, v) else p) = r := by
              refine (List.map_congr_left (g := id) fun q hq => ?_).trans (List.map_id _)
              rw [if_neg]
              · rfl
              · intro z
                exact hr (List.any_eq_true.mpr ⟨q, hq, decide_eq_true z⟩)
            rw [this]
      · rw [if_neg e]
        have hr : (r.any fun p => decide (p.1 = k)) = true := by
          rw [List.any_cons, decide_eq_false e, Bool.false_or] at hc
          exact hc
        by_cases e2 : p.1 = k2
        · have ne : ¬ k2 = k := fun z => e (by rw [e2, z])
          simp [e2, ne]
        · simp only [decide_eq_false e2]
          exact ih hr
  · rw [if_neg hc, List.find?_append]
    by_cases e2 : k2 = k
    · subst e2
      have : l.find? (fun p => decide (p.1 = k2)) = none := by
        rw [List.find?_eq_none]
        intro q hq z
        exact hc (List.any_eq_true.mpr ⟨q, hq, z⟩)
      rw [this, if_pos rfl]
      simp
    · rw [if_neg e2]
      have ne : ¬ k = k2 := fun z => e2 z.symm
      simp [ne]
theorem get_mem {κ α : Type} [DecidableEq κ] {d : Dc κ α} {k : κ} : k ∈ d.keys ↔ ∃ v, d.get? k = some v := by
  unfold Dc.keys Dc.get?
  constructor
  · intro h
    obtain ⟨p, hp, rfl⟩ := List.mem_map.mp h
    cases e : d.l.find? (fun q => decide (q.1 = p.1)) with
    | none =>
      have := List.find?_eq_none.mp e p hp
      simp at this
    | some q => exact ⟨q.2, rfl⟩
  · rintro ⟨v, h⟩
    obtain ⟨p, hp, _⟩ := Option.map_eq_some_iff.mp h
    have h1 := List.mem_of_find?_eq_some hp
    have h2 := List.find?_some hp
    exact List.mem_map.mpr ⟨p, h1, of_decide_eq_true h2⟩
end G

namespace G
open PySem L2 Pv
theorem alph_l : alph.cps.toList = codes := by decide +kernel
theorem alph_mem {c : Nat} (h : 97 ≤ c) (k : c ≤ 122) : c ∈ alph.cps.toList := by
  rw [alph_l]
  unfold codes
  simp only [List.mem_cons, List.not_mem_nil, or_false]
  omega
theorem is_name_ok {x : Str} (h : Nm x) : m_p_is_name x = some true := by
  obtain ⟨h1, h2, h3⟩ := h
  have sz := size64
  refine Ok.eq ?_
  unfold m_p_is_name
  refine Ok.ck (by omega) ?_
  rw [if_neg (by rw [decide_eq_true (show (1 : Int) ≤ (x.length : Int) by omega), decide_eq_true (show (x.length : Int) ≤ 8 by omega)]; decide)]
  refine Ok.ck (by rw [signs_len]; show x.length ≤ _; omega) (Ok.ret ?_)
  refine List.all_eq_true.mpr fun b hb => ?_
  obtain ⟨y, hy, rfl⟩ := List.mem_map.mp hb
  obtain ⟨c, hc, rfl⟩ := List.mem_map.mp hy
  show subS _ _ = true
  rw [subS_one]
  exact decide_eq_true (alph_mem (h1 c hc).1 (h1 c hc).2)
theorem til_len (x : Str) : (tilde ++ x).length = 1 + x.length := by rw [Str.len_app]; rfl
theorem plain_nm {x : Str} (h : Nm x) : m_p_plain_name x = some x := by
  unfold m_p_plain_name
  rw [if_neg]
  rw [show ("~" : Str) = tilde from rfl, nm_starts h]
  exact Bool.false_ne_true
theorem plain_til {x : Str} (h : x.length ≤ 8) : m_p_plain_name (tilde ++ x) = some x := by
  have sz := size64
  unfold m_p_plain_name
  rw [if_pos (til_starts x), ck_pos (by rw [til_len]; omega), bd_some, til_cut]
theorem not01 {x : Str} (h : x ≠ "0" ∧ x ≠ "1") : decide (x ∈ (TV.mk [("0" : Str), ("1" : Str)] : TV Str).l) = false := by
  refine decide_eq_false fun m => ?_
  rcases List.mem_cons.mp m with e | m
  · exact h.1 e
  · rcases List.mem_cons.mp m with e | m
    · exact h.2 e
    · exact absurd m List.not_mem_nil
theorem is01 {x : Str} (h : x = "0" ∨ x = "1") : decide (x ∈ (TV.mk [("0" : Str), ("1" : Str)] : TV Str).l) = true := by
  refine decide_eq_true ?_
  rcases h with e | e
  · exact List.mem_cons.mpr (.inl e)
  · exact List.mem_cons.mpr (.inr (List.mem_cons.mpr (.inl e)))
theorem is_lit_ok {names : List Str} {l : Str} (hn : ∀ x ∈ names, Nm x) (h : LitOk names l) : m_p_is_literal l = some true := by
  refine Ok.eq ?_
  unfold m_p_is_literal
  have z : ∀ x, Nm x → (l = x ∨ l = tilde ++ x) → l ≠ "0" ∧ l ≠ "1" := fun x hx e => by
    rcases e with rfl | rfl
    · exact nm_ne hx
    · exact til_ne x
  rcases h with e | e | ⟨x, hx, e⟩
  · rw [if_pos (is01 (.inl e))]; exact Ok.lt (Ok.ret rfl)
  · rw [if_pos (is01 (.inr e))]; exact Ok.lt (Ok.ret rfl)
  · rw [if_neg (by rw [not01 (z x (hn x hx) e)]; exact Bool.false_ne_true)]
    refine Ok.is (a := true) (Ok.eq (Ok.is (a := x) ?_ (Ok.is (is_name_ok (hn x hx)) (Ok.ret rfl)))) (Ok.ret rfl)
    rcases e with rfl | rfl
    · exact plain_nm (hn _ hx)
    · exact plain_til (hn x hx).2.1
theorem lacks_ok {D : O_Draft} {names : List Str} {l : Str} (hn : ∀ x ∈ names, Nm x) (hD : ∀ x ∈ names, D.names.has x = true) (h : LitOk names l) : m_p_lacks D l = some false := by
  refine Ok.eq ?_
  unfold m_p_lacks
  have z : ∀ x, Nm x → (l = x ∨ l = tilde ++ x) → l ≠ "0" ∧ l ≠ "1" := fun x hx e => by
    rcases e with rfl | rfl
    · exact nm_ne hx
    · exact til_ne x
  rcases h with e | e | ⟨x, hx, e⟩
  · rw [if_neg (by rw [is01 (.inl e)]; decide)]; exact Ok.lt (Ok.ret rfl)
  · rw [if_neg (by rw [is01 (.inr e)]; decide)]; exact Ok.lt (Ok.ret rfl)
  · rw [if_pos (by rw [not01 (z x (hn x hx) e)]; rfl)]
    refine Ok.is (a := false) (Ok.eq (Ok.is (a := x) ?_ (Ok.ret (by rw [hD x hx]; rfl)))) (Ok.ret rfl)
    rcases e with rfl | rfl
    · exact plain_nm (hn _ hx)
    · exact plain_til (hn x hx).2.1
theorem cut1 {a : Str} {r : List Str} : cutL (a :: r) (some (1 : Int)) none = r := cut_from (k := 1)
theorem has_no {κ α : Type} [DecidableEq κ] {d : Dc κ α} {k : κ} (h : k ∉ d.keys) : d.has k = false := by
  unfold Dc.has
  cases e : d.get? k with
  | none => rfl
  | some v => exact absurd (get_mem.mpr ⟨v, e⟩) h
theorem has_yes {κ α : Type} [DecidableEq κ] {d : Dc κ α} {k : κ} (h : k ∈ d.keys) : d.has k = true := by
  unfold Dc.has
  obtain ⟨v, e⟩ := get_mem.mp h
  rw [e]
  rfl
theorem put_new {κ α : Type} [DecidableEq κ] {d : Dc κ α} {k : κ} (v : α) (h : k ∉ d.keys) : d.put k v = ⟨d.l ++ [(k, v)]⟩ := by
  unfold Dc.put
  rw [if_neg]
  intro z
  obtain ⟨q, hq, hz⟩ := List.any_eq_true.mp z
  exact h (List.mem_map.mpr ⟨q, hq, of_decide_eq_true hz⟩)
inductive W where
  | sw (x : Str)
  | kp (p : Str × Option Int)
  | gt (g : T3 Str Str Str)
  | nx (p : Str × Str)
  | nv (p : Str × Str)
  | sm (p : Str × Str)
namespace W
def ft : Option Int → Str
  | some i => if i = 0 then "0" else "1"
  | none => "-"
def words : W → List Str
  | sw x => ["switch", x]
  | kp p => ["keep", p.1, ft p.2]
  | gt g => ["gate", g.a, g.b, g.c]
  | nx p => ["next", p.1, p.2]
  | nv p => ["never", p.1, p.2]
  | sm p => ["some", p.1, p.2]
def aSw : W → Option Str | sw x => some x | _ => none
def aKp : W → Option (Str × Option Int) | kp p => some p | _ => none
def aGt : W → Option (T3 Str Str Str) | gt g => some g | _ => none
def aNx : W → Option (Str × Str) | nx p => some p | _ => none
def aNv : W → Option (Str × Str) | nv p => some p | _ => none
def aSm : W → Option (Str × Str) | sm p => some p | _ => none
def aNm : W → Option Str | sw x => some x | kp p => some p.1 | gt g => some g.a | _ => none
end W
def nmsW (a : List W) : List Str := a.filterMap W.aNm
def dr (a : List W) : O_Draft := O_Draft.mk (a.filterMap W.aSw) ⟨a.filterMap W.aKp⟩ (a.filterMap W.aGt) ⟨a.filterMap W.aNx⟩ ⟨a.filterMap W.aNv⟩ ⟨a.filterMap W.aSm⟩ ⟨(nmsW a).map fun x => (x, true)⟩
def Good (a : List W) (w : W) : Prop := (∀ x ∈ nmsW a, Nm x) ∧ (nmsW a).length < 100 ∧ match w with
  | .sw x => Nm x ∧ x ∉ nmsW a ∧ (a.filterMap W.aSw).length < 12
  | .kp p => Nm p.1 ∧ p.1 ∉ nmsW a ∧ (a.filterMap W.aKp).length < 16 ∧ p.2 ∈ ([some 0, some 1, none] : List (Option Int))
  | .gt g => Nm g.a ∧ g.a ∉ nmsW a ∧ (a.filterMap W.aGt).length < 60 ∧ LitOk (nmsW a) g.b ∧ LitOk (nmsW a) g.c
  | .nx p => Nm p.1 ∧ p.1 ∈ (a.filterMap W.aKp).map (·.1) ∧ p.1 ∉ (a.filterMap W.aNx).map (·.1) ∧ (a.filterMap W.aNx).length < 100 ∧ LitOk (nmsW a) p.2
  | .nv p => Nm p.1 ∧ p.1 ∉ (a.filterMap W.aNv).map (·.1) ∧ p.1 ∉ (a.filterMap W.aSm).map (·.1) ∧ (a.filterMap W.aNv).length + (a.filterMap W.aSm).length < 8 ∧ LitOk (nmsW a) p.2
  | .sm p => Nm p.1 ∧ p.1 ∉ (a.filterMap W.aNv).map (·.1) ∧ p.1 ∉ (a.filterMap W.aSm).map (·.1) ∧ (a.filterMap W.aNv).length + (a.filterMap W.aSm).length < 8 ∧ LitOk (nmsW a) p.2
theorem dr_keys (a : List W) : (dr a).names.keys = nmsW a := by
  show ((nmsW a).map fun x => (x, true)).map (·.1) = _
  rw [List.map_map]
  exact List.map_id' _
theorem dr_nl (a : List W) : (dr a).names.l.length = (nmsW a).length := List.length_map ..
theorem dr_lacks {a : List W} {l : Str} (h : ∀ x ∈ nmsW a, Nm x) (k : LitOk (nmsW a) l) : m_p_lacks (dr a) l = some false :=
  lacks_ok h (fun x hx => has_yes (by rw [dr_keys]; exact hx)) k
theorem firsts_has {o : Option Int} (h : o ∈ ([some 0, some 1, none] : List (Option Int))) : G_FIRSTS.has (W.ft o) = true ∧ G_FIRSTS.get? (W.ft o) = some o := by
  simp only [List.mem_cons, List.not_mem_nil, or_false] at h
  rcases h with rfl | rfl | rfl <;> decide +kernel
theorem dr_nms (a : List W) (w : W) (x : Str) (h : w.aNm = some x) (k : x ∉ nmsW a) : (dr a).names.put x true = ⟨(nmsW (a ++ [w])).map fun x => (x, true)⟩ := by
  rw [put_new _ (by rw [dr_keys]; exact k)]
  unfold nmsW
  rw [List.filterMap_append, List.map_append]
  show _ = Dc.mk (_ ++ List.map _ (List.filterMap _ [w]))
  rw [List.filterMap_cons, h]
  rfl
theorem dr_same (a : List W) (w : W) (h : w.aNm = none) : (dr a).names = ⟨(nmsW (a ++ [w])).map fun x => (x, true)⟩ := by
  unfold nmsW
  rw [List.filterMap_append, List.filterMap_cons, h]
  simp [dr, nmsW]
theorem fm_snoc {α β : Type} (f : α → Option β) (a : List α) (w : α) : (a ++ [w]).filterMap f = a.filterMap f ++ (match f w with | some y => [y] | none => []) := by
  rw [List.filterMap_append]
  congr 1
  rw [List.filterMap_cons]
  cases f w <;> rfl
theorem row_sw {a : List W} {x : Str} (h : Good a (.sw x)) : m_p_switch_row (dr a) [x] = some (("" : Str), dr (a ++ [.sw x])) := by
  obtain ⟨g1, g2, h1, h2, h3⟩ := h
  have sz := size64
  have hl := dr_nl a
  refine Ok.eq ?_
  unfold m_p_switch_row
  refine Ok.is (a := false) ?_ ?_
  · rw [if_neg (by simp)]
    exact Ok.eq (Ok.is rfl (Ok.is (is_name_ok h1) (Ok.ret rfl)))
  · rw [if_neg Bool.false_ne_true]
    refine Ok.is (a := x) rfl (Ok.is (a := ("" : Str)) ?_ ?_)
    · rw [has_no (by rw [dr_keys]; exact h2), decide_eq_false (show ¬ ((dr a).switches.length : Int) = 12 by show ¬ (((a.filterMap W.aSw).length : Nat) : Int) = 12; omega)]
      rfl
    · refine Ok.is (a := ((dr a).switches ++ [x], (dr a).names.put x true)) ?_ (Ok.ret ?_)
      · rw [if_pos (decide_eq_true rfl)]
        exact Ok.eq (Ok.is rfl (Ok.ck (by show (a.filterMap W.aSw).length < _; omega) (Ok.is rfl (Ok.ck (by omega) (Ok.ret rfl)))))
      · rw [dr_nms a (.sw x) x rfl h2]
        unfold dr
        simp only [fm_snoc]
        simp [W.aSw, W.aKp, W.aGt, W.aNx, W.aNv, W.aSm]
theorem row_kp {a : List W} {p : Str × Option Int} (h : Good a (.kp p)) : m_p_keep_row (dr a) [p.1, W.ft p.2] = some (("" : Str), dr (a ++ [.kp p])) := by
  obtain ⟨g1, g2, h1, h2, h3, h4⟩ := h
  have sz := size64
  have hl := dr_nl a
  obtain ⟨f1, f2⟩ := firsts_has h4
  refine Ok.eq ?_
  unfold m_p_keep_row
  refine Ok.is (a := false) ?_ ?_
  · rw [if_neg (by simp)]
    refine Ok.eq (Ok.is rfl (Ok.is (is_name_ok h1) (Ok.is (a := false) ?_ (Ok.ret rfl))))
    rw [if_neg (by decide)]
    refine Ok.eq (Ok.is (a := W.ft p.2) rfl (Ok.ret ?_))
    rw [f1]; rfl
  · rw [if_neg Bool.false_ne_true]
    refine Ok.is (a := p.1) rfl (Ok.is (a := ("" : Str)) ?_ ?_)
    · rw [has_no (by rw [dr_keys]; exact h2), decide_eq_false (show ¬ ((dr a).keepers.l.length : Int) = 16 by show ¬ (((a.filterMap W.aKp).length : Nat) : Int) = 16; omega)]
      rfl
    · have hk : p.1 ∉ (dr a).keepers.keys := fun m => by
        obtain ⟨q, hq, e⟩ := List.mem_map.mp m
        obtain ⟨w, hw, hw2⟩ := List.mem_filterMap.mp (show q ∈ a.filterMap W.aKp from hq)
        refine h2 (List.mem_filterMap.mpr ⟨w, hw, ?_⟩)
        cases w <;> simp [W.aKp] at hw2
        subst hw2
        show some _ = _
        rw [← e]
      refine Ok.is (a := ((dr a).keepers.put p.1 p.2, (dr a).names.put p.1 true)) ?_ (Ok.ret ?_)
      · rw [if_pos (decide_eq_true rfl)]
        exact Ok.eq (Ok.is (a := W.ft p.2) rfl (Ok.is f2 (Ok.is (a := p.1) rfl (Ok.ck (by show (a.filterMap W.aKp).length < _; omega) (Ok.is rfl (Ok.ck (by omega) (Ok.ret rfl)))))))
      · rw [dr_nms a (.kp p) p.1 rfl h2, put_new _ hk]
        unfold dr
        simp only [fm_snoc]
        simp [W.aSw, W.aKp, W.aGt, W.aNx, W.aNv, W.aSm]
theorem row_gt {a : List W} {g : T3 Str Str Str} (h : Good a (.gt g)) : m_p_gate_row (dr a) [g.a, g.b, g.c] = some (("" : Str), dr (a ++ [.gt g])) := by
  obtain ⟨g1, g2, h1, h2, h3, h4, h5⟩ := h
  have sz := size64
  have hl := dr_nl a
  refine Ok.eq ?_
  unfold m_p_gate_row
  refine Ok.is (a := false) ?_ ?_
  · rw [if_neg (by simp)]
    refine Ok.eq (Ok.is rfl (Ok.is (is_name_ok h1) (Ok.is (a := false) ?_ (Ok.ret rfl))))
    rw [if_neg (by decide)]
    refine Ok.eq (Ok.is (a := g.b) rfl (Ok.is (is_lit_ok g1 h4) (Ok.is (a := false) ?_ (Ok.ret rfl))))
    rw [if_neg (by decide)]
    exact Ok.eq (Ok.is (a := g.c) rfl (Ok.is (is_lit_ok g1 h5) (Ok.ret rfl)))
  · rw [if_neg Bool.false_ne_true]
    refine Ok.is (a := g.b) rfl (Ok.is (dr_lacks g1 h4) (Ok.is (a := false) ?_ (Ok.is (a := g.a) rfl (Ok.is (a := ("" : Str)) ?_ ?_))))
    · rw [if_neg Bool.false_ne_true]
      exact Ok.eq (Ok.is (a := g.c) rfl (Ok.is (dr_lacks g1 h5) (Ok.ret rfl)))
    · rw [has_no (by rw [dr_keys]; exact h2), decide_eq_false (show ¬ ((dr a).gates.length : Int) = 60 by show ¬ (((a.filterMap W.aGt).length : Nat) : Int) = 60; omega)]
      rfl
    · refine Ok.is (a := ((dr a).gates ++ [T3.mk g.a g.b g.c], (dr a).names.put g.a true)) ?_ (Ok.ret ?_)
      · rw [if_pos (decide_eq_true rfl)]
        exact Ok.eq (Ok.is (a := g.a) rfl (Ok.is (a := g.b) rfl (Ok.is (a := g.c) rfl (Ok.ck (by show (a.filterMap W.aGt).length < _; omega) (Ok.is rfl (Ok.ck (by omega) (Ok.ret rfl)))))))
      · rw [dr_nms a (.gt g) g.a rfl h2]
        unfold dr
        simp only [fm_snoc]
        simp [W.aSw, W.aKp, W.aGt, W.aNx, W.aNv, W.aSm]
theorem row_nx {a : List W} {p : Str × Str} (h : Good a (.nx p)) : m_p_next_row (dr a) [p.1, p.2] = some (("" : Str), dr (a ++ [.nx p])) := by
  obtain ⟨g1, g2, h1, h2, h3, h4, h5⟩ := h
  have sz := size64
  refine Ok.eq ?_
  unfold m_p_next_row
  refine Ok.is (a := false) ?_ ?_
  · rw [if_neg (by simp)]
    refine Ok.eq (Ok.is rfl (Ok.is (is_name_ok h1) (Ok.is (a := false) ?_ (Ok.ret rfl))))
    rw [if_neg (by decide)]
    exact Ok.eq (Ok.is (a := p.2) rfl (Ok.is (is_lit_ok g1 h5) (Ok.ret rfl)))
  · rw [if_neg Bool.false_ne_true]
    refine Ok.is (a := p.1) rfl (Ok.is (a := false) ?_ (Ok.is (a := p.1) rfl (Ok.is (a := ("" : Str)) ?_ ?_)))
    · rw [if_neg (by rw [has_yes (d := (dr a).keepers) (show p.1 ∈ (dr a).keepers.keys from h2)]; decide)]
      exact Ok.eq (Ok.is (a := p.2) rfl (Ok.is (dr_lacks g1 h5) (Ok.ret rfl)))
    · rw [has_no (show p.1 ∉ (dr a).nexts.keys from h3)]
      rfl
    · refine Ok.is (a := (dr a).nexts.put p.1 p.2) ?_ (Ok.ret ?_)
      · rw [if_pos (decide_eq_true rfl)]
        exact Ok.eq (Ok.is (a := p.2) rfl (Ok.is (a := p.1) rfl (Ok.ck (by show (a.filterMap W.aNx).length < _; omega) (Ok.ret rfl))))
      · rw [dr_same a (.nx p) rfl, put_new _ (show p.1 ∉ (dr a).nexts.keys from h3)]
        unfold dr
        simp only [fm_snoc]
        simp [W.aSw, W.aKp, W.aGt, W.aNx, W.aNv, W.aSm]
theorem row_nv {a : List W} {p : Str × Str} (h : Good a (.nv p)) : m_wish_row_nevers (dr a) [p.1, p.2] = some (("" : Str), dr (a ++ [.nv p])) := by
  obtain ⟨g1, g2, h1, h2, h3, h4, h5⟩ := h
  have sz := size64
  refine Ok.eq ?_
  unfold m_wish_row_nevers
  refine Ok.is (a := false) ?_ ?_
  · rw [if_neg (by simp)]
    refine Ok.eq (Ok.is rfl (Ok.is (is_name_ok h1) (Ok.is (a := false) ?_ (Ok.ret rfl))))
    rw [if_neg (by decide)]
    exact Ok.eq (Ok.is (a := p.2) rfl (Ok.is (is_lit_ok g1 h5) (Ok.ret rfl)))
  · rw [if_neg Bool.false_ne_true]
    refine Ok.is (a := p.1) rfl (Ok.is (a := false) ?_ (Ok.lt (Ok.is (a := p.2) rfl (Ok.is (dr_lacks g1 h5) (Ok.is (a := ("" : Str)) ?_ ?_)))))
    · rw [if_neg (by rw [has_no (show p.1 ∉ (dr a).nevers.keys from h2)]; exact Bool.false_ne_true)]
      refine Ok.eq (Ok.is (a := p.1) rfl (Ok.ret ?_))
      exact has_no (show p.1 ∉ (dr a).somes.keys from h3)
    · rw [decide_eq_false (show ¬ ((dr a).nevers.l.length : Int) + ((dr a).somes.l.length : Int) = 8 by show ¬ (((a.filterMap W.aNv).length : Nat) : Int) + (((a.filterMap W.aSm).length : Nat) : Int) = 8; omega)]
      rfl
    · refine Ok.is (a := (dr a).nevers.put p.1 p.2) ?_ (Ok.ret ?_)
      · rw [if_pos (decide_eq_true rfl)]
        exact Ok.eq (Ok.is (a := p.2) rfl (Ok.is (a := p.1) rfl (Ok.ck (by show (a.filterMap W.aNv).length < _; omega) (Ok.ret rfl))))
      · rw [dr_same a (.nv p) rfl, put_new _ (show p.1 ∉ (dr a).nevers.keys from h2)]
        unfold dr
        simp only [fm_snoc]
        simp [W.aSw, W.aKp, W.aGt, W.aNx, W.aNv, W.aSm]
theorem row_sm {a : List W} {p : Str × Str} (h : Good a (.sm p)) : m_wish_row_somes (dr a) [p.1, p.2] = some (("" : Str), dr (a ++ [.sm p])) := by
  obtain ⟨g1, g2, h1, h2, h3, h4, h5⟩ := h
  have sz := size64
  refine Ok.eq ?_
  unfold m_wish_row_somes
  refine Ok.is (a := false) ?_ ?_
  · rw [if_neg (by simp)]
    refine Ok.eq (Ok.is rfl (Ok.is (is_name_ok h1) (Ok.is (a := false) ?_ (Ok.ret rfl))))
    rw [if_neg (by decide)]
    exact Ok.eq (Ok.is (a := p.2) rfl (Ok.is (is_lit_ok g1 h5) (Ok.ret rfl)))
  · rw [if_neg Bool.false_ne_true]
    refine Ok.is (a := p.1) rfl (Ok.is (a := false) ?_ (Ok.lt (Ok.is (a := p.2) rfl (Ok.is (dr_lacks g1 h5) (Ok.is (a := ("" : Str)) ?_ ?_)))))
    · rw [if_neg (by rw [has_no (show p.1 ∉ (dr a).nevers.keys from h2)]; exact Bool.false_ne_true)]
      refine Ok.eq (Ok.is (a := p.1) rfl (Ok.ret ?_))
      exact has_no (show p.1 ∉ (dr a).somes.keys from h3)
    · rw [decide_eq_false (show ¬ ((dr a).nevers.l.length : Int) + ((dr a).somes.l.length : Int) = 8 by show ¬ (((a.filterMap W.aNv).length : Nat) : Int) + (((a.filterMap W.aSm).length : Nat) : Int) = 8; omega)]
      rfl
    · refine Ok.is (a := (dr a).somes.put p.1 p.2) ?_ (Ok.ret ?_)
      · rw [if_pos (decide_eq_true rfl)]
        exact Ok.eq (Ok.is (a := p.2) rfl (Ok.is (a := p.1) rfl (Ok.ck (by show (a.filterMap W.aSm).length < _; omega) (Ok.ret rfl))))
      · rw [dr_same a (.sm p) rfl, put_new _ (show p.1 ∉ (dr a).somes.keys from h3)]
        unfold dr
        simp only [fm_snoc]
        simp [W.aSw, W.aKp, W.aGt, W.aNx, W.aNv, W.aSm]
theorem row_ok {a : List W} {w : W} (h : Good a w) : m_p_draft_row (dr a) w.words = some (("" : Str), dr (a ++ [w])) := by
  refine Ok.eq ?_
  unfold m_p_draft_row
  cases w with
  | sw x =>
    refine Ok.is (a := ("switch" : Str)) rfl ?_
    rw [if_pos (by decide +kernel), W.words, cut1]
    exact Ok.is (row_sw h) (Ok.ret rfl)
  | kp p =>
    refine Ok.is (a := ("keep" : Str)) rfl ?_
    rw [if_neg (by decide +kernel)]
    refine Ok.is (a := ("keep" : Str)) rfl ?_
    rw [if_pos (by decide +kernel), W.words, cut1]
    exact Ok.is (row_kp h) (Ok.ret rfl)
  | gt g =>
    refine Ok.is (a := ("gate" : Str)) rfl ?_
    rw [if_neg (by decide +kernel)]
    refine Ok.is (a := ("gate" : Str)) rfl ?_
    rw [if_neg (by decide +kernel)]
    refine Ok.is (a := ("gate" : Str)) rfl ?_
    rw [if_pos (by decide +kernel), W.words, cut1]
    exact Ok.is (row_gt h) (Ok.ret rfl)
  | nx p =>
    refine Ok.is (a := ("next" : Str)) rfl ?_
    rw [if_neg (by decide +kernel)]
    refine Ok.is (a := ("next" : Str)) rfl ?_
    rw [if_neg (by decide +kernel)]
    refine Ok.is (a := ("next" : Str)) rfl ?_
    rw [if_neg (by decide +kernel)]
    refine Ok.is (a := ("next" : Str)) rfl ?_
    rw [if_pos (by decide +kernel), W.words, cut1]
    exact Ok.is (row_nx h) (Ok.ret rfl)
  | nv p =>
    refine Ok.is (a := ("never" : Str)) rfl ?_
    rw [if_neg (by decide +kernel)]
    refine Ok.is (a := ("never" : Str)) rfl ?_
    rw [if_neg (by decide +kernel)]
    refine Ok.is (a := ("never" : Str)) rfl ?_
    rw [if_neg (by decide +kernel)]
    refine Ok.is (a := ("never" : Str)) rfl ?_
    rw [if_neg (by decide +kernel)]
    refine Ok.is (a := ("never" : Str)) rfl ?_
    rw [if_pos (by decide +kernel), W.words, cut1]
    exact Ok.is (row_nv h) (Ok.ret rfl)
  | sm p =>
    refine Ok.is (a := ("some" : Str)) rfl ?_
    rw [if_neg (by decide +kernel)]
    refine Ok.is (a := ("some" : Str)) rfl ?_
    rw [if_neg (by decide +kernel)]
    refine Ok.is (a := ("some" : Str)) rfl ?_
    rw [if_neg (by decide +kernel)]
    refine Ok.is (a := ("some" : Str)) rfl ?_
    rw [if_neg (by decide +kernel)]
    refine Ok.is (a := ("some" : Str)) rfl ?_
    rw [if_neg (by decide +kernel)]
    refine Ok.is (a := ("some" : Str)) rfl ?_
    rw [if_pos (by decide +kernel), W.words, cut1]
    exact Ok.is (row_sm h) (Ok.ret rfl)
end G

namespace G
open PySem L2 Pv
@[simp] theorem fm_sw_aSw (l : List Str) : (l.map W.sw).filterMap W.aSw = l := by
  induction l with
  | nil => rfl
  | cons x r ih => rw [List.map_cons, List.filterMap_cons]; exact congrArg (x :: ·) ih
@[simp] theorem fm_sw_aKp (l : List Str) : (l.map W.sw).filterMap W.aKp = [] := by
  induction l with
  | nil => rfl
  | cons x r ih => rw [List.map_cons, List.filterMap_cons]; exact ih
@[simp] theorem fm_sw_aGt (l : List Str) : (l.map W.sw).filterMap W.aGt = [] := by
  induction l with
  | nil => rfl
  | cons x r ih => rw [List.map_cons, List.filterMap_cons]; exact ih
@[simp] theorem fm_sw_aNx (l : List Str) : (l.map W.sw).filterMap W.aNx = [] := by
  induction l with
  | nil => rfl
  | cons x r ih => rw [List.map_cons, List.filterMap_cons]; exact ih
@[simp] theorem fm_sw_aNv (l : List Str) : (l.map W.sw).filterMap W.aNv = [] := by
  induction l with
  | nil => rfl
  | cons x r ih => rw [List.map_cons, List.filterMap_cons]; exact ih
@[simp] theorem fm_sw_aSm (l : List Str) : (l.map W.sw).filterMap W.aSm = [] := by
  induction l with
  | nil => rfl
  | cons x r ih => rw [List.map_cons, List.filterMap_cons]; exact ih
@[simp] theorem fm_sw_aNm (l : List Str) : (l.map W.sw).filterMap W.aNm = l := by
  induction l with
  | nil => rfl
  | cons x r ih => rw [List.map_cons, List.filterMap_cons]; exact congrArg (_ :: ·) ih
@[simp] theorem fm_kp_aSw (l : List (Str × Option Int)) : (l.map W.kp).filterMap W.aSw = [] := by
  induction l with
  | nil => rfl
  | cons x r ih => rw [List.map_cons, List.filterMap_cons]; exact ih
@[simp] theorem fm_kp_aKp (l : List (Str × Option Int)) : (l.map W.kp).filterMap W.aKp = l := by
  induction l with
  | nil => rfl
  | cons x r ih => rw [List.map_cons, List.filterMap_cons]; exact congrArg (x :: ·) ih
@[simp] theorem fm_kp_aGt (l : List (Str × Option Int)) : (l.map W.kp).filterMap W.aGt = [] := by
  induction l with
  | nil => rfl
  | cons x r ih => rw [List.map_cons, List.filterMap_cons]; exact ih
@[simp] theorem fm_kp_aNx (l : List (Str × Option Int)) : (l.map W.kp).filterMap W.aNx = [] := by
  induction l with
  | nil => rfl
  | cons x r ih => rw [List.map_cons, List.filterMap_cons]; exact ih
@[simp] theorem fm_kp_aNv (l : List (Str × Option Int)) : (l.map W.kp).filterMap W.aNv = [] := by
  induction l with
  | nil => rfl
  | cons x r ih => rw [List.map_cons, List.filterMap_cons]; exact ih
@[simp] theorem fm_kp_aSm (l : List (Str × Option Int)) : (l.map W.kp).filterMap W.aSm = [] := by
  induction l with
  | nil => rfl
  | cons x r ih => rw [List.map_cons, List.filterMap_cons]; exact ih
@[simp] theorem fm_kp_aNm (l : List (Str × Option Int)) : (l.map W.kp).filterMap W.aNm = l.map (·.1) := by
  induction l with
  | nil => rfl
  | cons x r ih => rw [List.map_cons, List.filterMap_cons]; exact congrArg (_ :: ·) ih
@[simp] theorem fm_gt_aSw (l : List (T3 Str Str Str)) : (l.map W.gt).filterMap W.aSw = [] := by
  induction l with
  | nil => rfl
  | cons x r ih => rw [List.map_cons, List.filterMap_cons]; exact ih
@[simp] theorem fm_gt_aKp (l : List (T3 Str Str Str)) : (l.map W.gt).filterMap W.aKp = [] := by
  induction l with
  | nil => rfl
  | cons x r ih => rw [List.map_cons, List.filterMap_cons]; exact ih
@[simp] theorem fm_gt_aGt (l : List (T3 Str Str Str)) : (l.map W.gt).filterMap W.aGt = l := by
  induction l with
  | nil => rfl
  | cons x r ih => rw [List.map_cons, List.filterMap_cons]; exact congrArg (x :: ·) ih
@[simp] theorem fm_gt_aNx (l : List (T3 Str Str Str)) : (l.map W.gt).filterMap W.aNx = [] := by
  induction l with
  | nil => rfl
  | cons x r ih => rw [List.map_cons, List.filterMap_cons]; exact ih
@[simp] theorem fm_gt_aNv (l : List (T3 Str Str Str)) : (l.map W.gt).filterMap W.aNv = [] := by
  induction l with
  | nil => rfl
  | cons x r ih => rw [List.map_cons, List.filterMap_cons]; exact ih
@[simp] theorem fm_gt_aSm (l : List (T3 Str Str Str)) : (l.map W.gt).filterMap W.aSm = [] := by
  induction l with
  | nil => rfl
  | cons x r ih => rw [List.map_cons, List.filterMap_cons]; exact ih
@[simp] theorem fm_gt_aNm (l : List (T3 Str Str Str)) : (l.map W.gt).filterMap W.aNm = l.map (·.a) := by
  induction l with
  | nil => rfl
  | cons x r ih => rw [List.map_cons, List.filterMap_cons]; exact congrArg (_ :: ·) ih
@[simp] theorem fm_nx_aSw (l : List (Str × Str)) : (l.map W.nx).filterMap W.aSw = [] := by
  induction l with
  | nil => rfl
  | cons x r ih => rw [List.map_cons, List.filterMap_cons]; exact ih
@[simp] theorem fm_nx_aKp (l : List (Str × Str)) : (l.map W.nx).filterMap W.aKp = [] := by
  induction l with
  | nil => rfl
  | cons x r ih => rw [List.map_cons, List.filterMap_cons]; exact ih
@[simp] theorem fm_nx_aGt (l : List (Str × Str)) : (l.map W.nx).filterMap W.aGt = [] := by
  induction l with
  | nil => rfl
  | cons x r ih => rw [List.map_cons, List.filterMap_cons]; exact ih
@[simp] theorem fm_nx_aNx (l : List (Str × Str)) : (l.map W.nx).filterMap W.aNx = l := by
  induction l with
  | nil => rfl
  | cons x r ih => rw [List.map_cons, List.filterMap_cons]; exact congrArg (x :: ·) ih
@[simp] theorem fm_nx_aNv (l : List (Str × Str)) : (l.map W.nx).filterMap W.aNv = [] := by
  induction l with
  | nil => rfl
  | cons x r ih => rw [List.map_cons, List.filterMap_cons]; exact ih
@[simp] theorem fm_nx_aSm (l : List (Str × Str)) : (l.map W.nx).filterMap W.aSm = [] := by
  induction l with
  | nil => rfl
  | cons x r ih => rw [List.map_cons, List.filterMap_cons]; exact ih
@[simp] theorem fm_nx_aNm (l : List (Str × Str)) : (l.map W.nx).filterMap W.aNm = [] := by
  induction l with
  | nil => rfl
  | cons x r ih => rw [List.map_cons, List.filterMap_cons]; exact ih
@[simp] theorem fm_nv_aSw (l : List (Str × Str)) : (l.map W.nv).filterMap W.aSw = [] := by
  induction l with
  | nil => rfl
  | cons x r ih => rw [List.map_cons, List.filterMap_cons]; exact ih
@[simp] theorem fm_nv_aKp (l : List (Str × Str)) : (l.map W.nv).filterMap W.aKp = [] := by
  induction l with
  | nil => rfl
  | cons x r ih => rw [List.map_cons, List.filterMap_cons]; exact ih
@[simp] theorem fm_nv_aGt (l : List (Str × Str)) : (l.map W.nv).filterMap W.aGt = [] := by
  induction l with
  | nil => rfl
  | cons x r ih => rw [List.map_cons, List.filterMap_cons]; exact ih
@[simp] theorem fm_nv_aNx (l : List (Str × Str)) : (l.map W.nv).filterMap W.aNx = [] := by
  induction l with
  | nil => rfl
  | cons x r ih => rw [List.map_cons, List.filterMap_cons]; exact ih
@[simp] theorem fm_nv_aNv (l : List (Str × Str)) : (l.map W.nv).filterMap W.aNv = l := by
  induction l with
  | nil => rfl
  | cons x r ih => rw [List.map_cons, List.filterMap_cons]; exact congrArg (x :: ·) ih
@[simp] theorem fm_nv_aSm (l : List (Str × Str)) : (l.map W.nv).filterMap W.aSm = [] := by
  induction l with
  | nil => rfl
  | cons x r ih => rw [List.map_cons, List.filterMap_cons]; exact ih
@[simp] theorem fm_nv_aNm (l : List (Str × Str)) : (l.map W.nv).filterMap W.aNm = [] := by
  induction l with
  | nil => rfl
  | cons x r ih => rw [List.map_cons, List.filterMap_cons]; exact ih
@[simp] theorem fm_sm_aSw (l : List (Str × Str)) : (l.map W.sm).filterMap W.aSw = [] := by
  induction l with
  | nil => rfl
  | cons x r ih => rw [List.map_cons, List.filterMap_cons]; exact ih
@[simp] theorem fm_sm_aKp (l : List (Str × Str)) : (l.map W.sm).filterMap W.aKp = [] := by
  induction l with
  | nil => rfl
  | cons x r ih => rw [List.map_cons, List.filterMap_cons]; exact ih
@[simp] theorem fm_sm_aGt (l : List (Str × Str)) : (l.map W.sm).filterMap W.aGt = [] := by
  induction l with
  | nil => rfl
  | cons x r ih => rw [List.map_cons, List.filterMap_cons]; exact ih
@[simp] theorem fm_sm_aNx (l : List (Str × Str)) : (l.map W.sm).filterMap W.aNx = [] := by
  induction l with
  | nil => rfl
  | cons x r ih => rw [List.map_cons, List.filterMap_cons]; exact ih
@[simp] theorem fm_sm_aNv (l : List (Str × Str)) : (l.map W.sm).filterMap W.aNv = [] := by
  induction l with
  | nil => rfl
  | cons x r ih => rw [List.map_cons, List.filterMap_cons]; exact ih
@[simp] theorem fm_sm_aSm (l : List (Str × Str)) : (l.map W.sm).filterMap W.aSm = l := by
  induction l with
  | nil => rfl
  | cons x r ih => rw [List.map_cons, List.filterMap_cons]; exact congrArg (x :: ·) ih
@[simp] theorem fm_sm_aNm (l : List (Str × Str)) : (l.map W.sm).filterMap W.aNm = [] := by
  induction l with
  | nil => rfl
  | cons x r ih => rw [List.map_cons, List.filterMap_cons]; exact ih

def Wd (t : Str) : Prop := t ≠ "" ∧ 32 ∉ t.cps.toList ∧ 10 ∉ t.cps.toList ∧ t.length ≤ 9
instance (t : Str) : Decidable (Wd t) := by unfold Wd; infer_instance
theorem nm_wd {x : Str} (h : Nm x) : Wd x := by
  obtain ⟨h1, h2, h3⟩ := h
  have e0 := lit_len.1
  refine ⟨fun z => ?_, fun m => ?_, fun m => ?_, by omega⟩
  · rw [z] at h3; omega
  · have := (h1 _ m).1; omega
  · have := (h1 _ m).1; omega
theorem til_wd {x : Str} (h : Nm x) : Wd (tilde ++ x) := by
  obtain ⟨h1, h2, h3⟩ := h
  have hl := til_len x
  have e0 := lit_len.1
  have hm : ∀ c ∈ (tilde ++ x).cps.toList, c = 126 ∨ 97 ≤ c := fun c hc => by
    rw [Str.toL_app, tilde_l] at hc
    rcases List.mem_append.mp hc with h | h
    · left; simpa using h
    · right; exact (h1 c h).1
  refine ⟨fun z => ?_, fun m => ?_, fun m => ?_, by omega⟩
  · rw [z] at hl; omega
  · have := hm _ m; omega
  · have := hm _ m; omega
theorem lit_wd {names : List Str} {l : Str} (hn : ∀ x ∈ names, Nm x) (h : LitOk names l) : Wd l := by
  rcases h with rfl | rfl | ⟨x, hx, rfl | rfl⟩
  · unfold Wd; decide +kernel
  · unfold Wd; decide +kernel
  · exact nm_wd (hn _ hx)
  · exact til_wd (hn x hx)
theorem words_wd {a : List W} {w : W} (h : Good a w) : ∀ t ∈ w.words, Wd t := by
  have k : Wd "switch" ∧ Wd "keep" ∧ Wd "gate" ∧ Wd "next" ∧ Wd "never" ∧ Wd "some" ∧ Wd "0" ∧ Wd "1" ∧ Wd "-" := by decide +kernel
  obtain ⟨k1, k2, k3, k4, k5, k6, k7, k8, k9⟩ := k
  obtain ⟨hn, _, h⟩ := h
  cases w with
  | sw x => intro t ht; simp only [W.words, List.mem_cons, List.not_mem_nil, or_false] at ht; rcases ht with rfl | rfl; exact k1; exact nm_wd h.1
  | kp p =>
    intro t ht
    simp only [W.words, List.mem_cons, List.not_mem_nil, or_false] at ht
    rcases ht with rfl | rfl | rfl
    · exact k2
    · exact nm_wd h.1
    · have h4 := h.2.2.2
      simp only [List.mem_cons, List.not_mem_nil, or_false] at h4
      rcases h4 with e | e | e <;> rw [e]
      · exact k7
      · exact k8
      · exact k9
  | gt g => intro t ht; simp only [W.words, List.mem_cons, List.not_mem_nil, or_false] at ht; rcases ht with rfl | rfl | rfl | rfl; exact k3; exact nm_wd h.1; exact lit_wd hn h.2.2.2.1; exact lit_wd hn h.2.2.2.2
  | nx p => intro t ht; simp only [W.words, List.mem_cons, List.not_mem_nil, or_false] at ht; rcases ht with rfl | rfl | rfl; exact k4; exact nm_wd h.1; exact lit_wd hn h.2.2.2.2
  | nv p => intro t ht; simp only [W.words, List.mem_cons, List.not_mem_nil, or_false] at ht; rcases ht with rfl | rfl | rfl; exact k5; exact nm_wd h.1; exact lit_wd hn h.2.2.2.2
  | sm p => intro t ht; simp only [W.words, List.mem_cons, List.not_mem_nil, or_false] at ht; rcases ht with rfl | rfl | rfl; exact k6; exact nm_wd h.1; exact lit_wd hn h.2.2.2.2
theorem words_n (w : W) : w.words ≠ [] ∧ w.words.length ≤ 4 ∧ 0 < w.words.length := by cases w <;> exact ⟨by simp [W.words], by simp [W.words], by simp [W.words]⟩
theorem row_len {ws : List Str} (h : ∀ t ∈ ws, Wd t) (hl : ws.length ≤ 4) : (Txt.join (" " : Str) ws).length ≤ 40 := by
  have h1 := join_len (" " : Str) ws
  have h2 := sum_le (ts := ws) (k := 9) fun t ht => (h t ht).2.2.2
  have h3 : ((" " : Str)).length = 1 := by decide +kernel
  rw [h3] at h1
  omega
theorem words_of_ok {ws : List Str} (hne : ws ≠ []) (h : ∀ t ∈ ws, Wd t) (hl : ws.length ≤ 4) : m_p_words_of (Txt.join (" " : Str) ws) = some ws := by
  have sz := size64
  have e : Txt.split (Txt.join (" " : Str) ws) (" " : Str) = ws := TL.split_join (s := 32) (S := []) (by decide +kernel) (by decide +kernel) hne fun p hp => (h p hp).2.1
  have hr := row_len h hl
  refine Ok.eq ?_
  unfold m_p_words_of
  rw [e]
  refine Ok.ck ⟨by omega, by omega⟩ (Ok.ck (by omega) (Ok.ret ?_))
  rw [List.map_id', List.filter_eq_self.mpr]
  intro t ht
  simp [(h t ht).1]
inductive Rd : List Str → List W → Prop
  | nil : Rd [] []
  | skip {r : Str} {rs : List Str} {ws : List W} : m_p_words_of r = some [] → Rd rs ws → Rd (r :: rs) ws
  | row {r : Str} {rs : List Str} {w : W} {ws : List W} : m_p_words_of r = some w.words → Rd rs ws → Rd (r :: rs) (w :: ws)
def GoodFrom : List W → List W → Prop
  | _, [] => True
  | a, w :: r => Good a w ∧ GoodFrom (a ++ [w]) r
theorem GoodFrom.app : ∀ {r s a : List W}, GoodFrom a r → GoodFrom (a ++ r) s → GoodFrom a (r ++ s)
  | [], s, a, _, h => by rw [List.append_nil] at h; exact h
  | w :: r, s, a, ⟨h1, h2⟩, h => ⟨h1, GoodFrom.app h2 (by rw [List.append_assoc]; exact h)⟩
theorem GoodFrom.wd : ∀ {r a : List W}, GoodFrom a r → ∀ w ∈ r, ∀ t ∈ w.words, Wd t
  | [], _, _, w, h => absurd h List.not_mem_nil
  | w :: r, a, ⟨h1, h2⟩, v, hv => by
    rcases List.mem_cons.mp hv with rfl | hv
    · exact words_wd h1
    · exact GoodFrom.wd h2 v hv
abbrev S7 := List Str × Dc Str (Option Int) × List (T3 Str Str Str) × Dc Str Str × Dc Str Str × Dc Str Str × Dc Str Bool
def tup (D : O_Draft) : S7 := (D.switches, D.keepers, D.gates, D.nexts, D.nevers, D.somes, D.names)
theorem read_go {f : S7 → Int × Str → Option S7} (hs : ∀ s x, m_p_words_of x.2 = some [] → f s x = some s) (hr : ∀ a w x, Good a w → m_p_words_of x.2 = some w.words → f (tup (dr a)) x = some (tup (dr (a ++ [w])))) :
    ∀ {rows : List Str} {ws : List W}, Rd rows ws → ∀ (a : List W) (n : Nat), GoodFrom a ws → lpn f (tup (dr a)) (enuF n rows) = some (tup (dr (a ++ ws))) := by
  intro rows ws h
  induction h with
  | nil => intro a n _; rw [List.append_nil]; rfl
  | skip h1 _ ih =>
    intro a n g
    show bd (f _ _) _ = _
    rw [hs _ _ h1, bd_some]
    exact ih a (n + 1) g
  | row h1 _ ih =>
    intro a n g
    show bd (f _ _) _ = _
    rw [hr _ _ _ g.1 h1, bd_some, ih _ (n + 1) g.2, List.append_assoc]
    rfl
def mch (ws : List W) : O_Machine := O_Machine.mk (ws.filterMap W.aSw) ⟨ws.filterMap W.aKp⟩ (ws.filterMap W.aGt) ⟨ws.filterMap W.aNx⟩ ⟨ws.filterMap W.aNv⟩ ⟨ws.filterMap W.aSm⟩
theorem read_ok {text : Str} {rows : List Str} {ws : List W} (hs : Txt.split text ("\n" : Str) = rows) (hl : text.length + 2 ≤ sizeLine) (hr : rows.length ≤ sizeLine) (h : Rd rows ws) (g : GoodFrom [] ws) : m_p_read_machine text = some (mch ws) := by
  refine Ok.eq ?_
  unfold m_p_read_machine
  refine Ok.is (a := dr []) rfl (Ok.ck ⟨hl, by rw [hs]; exact hr⟩ ?_)
  rw [hs]
  refine Ok.is (a := tup (dr ws)) (read_go ?_ ?_ h [] 0 g) (Ok.is rfl (Ok.ret rfl))
  · intro s x hx
    show bd (m_p_words_of x.2) _ = _
    rw [hx, bd_some, if_neg (by decide)]
  · intro a w x ga hx
    show bd (m_p_words_of x.2) _ = _
    have hw := (words_n w).2.2
    rw [hx, bd_some, if_pos (decide_eq_true (by omega))]
    show bd (m_p_draft_row (dr a) w.words) _ = _
    rw [row_ok ga, bd_some, if_neg (by rw [decide_eq_true rfl]; decide)]
    rfl
end G

namespace G
open PySem L2 Pv
def wsOf (m : R_m) : List W := m.switches.map W.sw ++ (m.keepers.map W.kp ++ (m.gates.map W.gt ++ (m.nexts.map W.nx ++ (m.nevers.map W.nv ++ m.somes.map W.sm))))
theorem good_sw : ∀ (xs : List Str) (a : List W), (∀ x ∈ nmsW a, Nm x) → (∀ x ∈ xs, Nm x) → (nmsW a ++ xs).Nodup → (a.filterMap W.aSw).length + xs.length ≤ 12 → (nmsW a).length + xs.length ≤ 100 → GoodFrom a (xs.map W.sw)
  | [], _, _, _, _, _, _ => trivial
  | x :: r, a, h1, h2, h3, h4, h5 => by
    rw [List.length_cons] at h4 h5
    have e : nmsW (a ++ [W.sw x]) = nmsW a ++ [x] := fm_snoc W.aNm a (W.sw x)
    have e2 : (a ++ [W.sw x]).filterMap W.aSw = a.filterMap W.aSw ++ [x] := fm_snoc W.aSw a (W.sw x)
    refine ⟨⟨h1, by omega, h2 x (List.mem_cons_self ..), fun m => ?_, by omega⟩, good_sw r _ ?_ (fun y hy => h2 y (List.mem_cons_of_mem _ hy)) ?_ ?_ ?_⟩
    · exact (List.nodup_append.mp h3).2.2 _ m _ (List.mem_cons_self ..) rfl
    · rw [e]; exact nm_snoc h1 (h2 x (List.mem_cons_self ..))
    · rw [e, List.append_assoc]; exact h3
    · rw [e2, List.length_append, List.length_singleton]; omega
    · rw [e, List.length_append, List.length_singleton]; omega
theorem good_kp : ∀ (xs : List (Str × Option Int)) (a : List W), (∀ x ∈ nmsW a, Nm x) → (∀ x ∈ xs, Nm x.1 ∧ x.2 ∈ ([some 0, some 1, none] : List (Option Int))) → (nmsW a ++ xs.map (·.1)).Nodup → (a.filterMap W.aKp).length + xs.length ≤ 16 → (nmsW a).length + xs.length ≤ 100 → GoodFrom a (xs.map W.kp)
  | [], _, _, _, _, _, _ => trivial
  | x :: r, a, h1, h2, h3, h4, h5 => by
    rw [List.length_cons] at h4 h5
    have e : nmsW (a ++ [W.kp x]) = nmsW a ++ [x.1] := fm_snoc W.aNm a (W.kp x)
    have e2 : (a ++ [W.kp x]).filterMap W.aKp = a.filterMap W.aKp ++ [x] := fm_snoc W.aKp a (W.kp x)
    have hx := h2 x (List.mem_cons_self ..)
    refine ⟨⟨h1, by omega, hx.1, fun m => ?_, by omega, hx.2⟩, good_kp r _ ?_ (fun y hy => h2 y (List.mem_cons_of_mem _ hy)) ?_ ?_ ?_⟩
    · exact (List.nodup_append.mp h3).2.2 _ m _ (List.mem_cons_self ..) rfl
    · rw [e]; exact nm_snoc h1 hx.1
    · rw [e, List.append_assoc]; exact h3
    · rw [e2, List.length_append, List.length_singleton]; omega
    · rw [e, List.length_append, List.length_singleton]; omega
theorem good_gt : ∀ (xs : List (T3 Str Str Str)) (a : List W), (∀ x ∈ nmsW a, Nm x) → GatesOk (nmsW a) xs → (a.filterMap W.aGt).length + xs.length ≤ 60 → (nmsW a).length + xs.length ≤ 100 → GoodFrom a (xs.map W.gt)
  | [], _, _, _, _, _ => trivial
  | x :: r, a, h1, ⟨k1, k2, k3, k4, k5⟩, h4, h5 => by
    rw [List.length_cons] at h4 h5
    have e : nmsW (a ++ [W.gt x]) = nmsW a ++ [x.a] := fm_snoc W.aNm a (W.gt x)
    have e2 : (a ++ [W.gt x]).filterMap W.aGt = a.filterMap W.aGt ++ [x] := fm_snoc W.aGt a (W.gt x)
    refine ⟨⟨h1, by omega, k2, k1, by omega, k3, k4⟩, good_gt r _ ?_ ?_ ?_ ?_⟩
    · rw [e]; exact nm_snoc h1 k2
    · rw [e]; exact k5
    · rw [e2, List.length_append, List.length_singleton]; omega
    · rw [e, List.length_append, List.length_singleton]; omega
theorem good_nx : ∀ (xs : List (Str × Str)) (a : List W), (∀ x ∈ nmsW a, Nm x) → (nmsW a).length < 100 → (∀ p ∈ xs, Nm p.1 ∧ p.1 ∈ (a.filterMap W.aKp).map (·.1) ∧ LitOk (nmsW a) p.2) → ((a.filterMap W.aNx).map (·.1) ++ xs.map (·.1)).Nodup → (a.filterMap W.aNx).length + xs.length ≤ 100 → GoodFrom a (xs.map W.nx)
  | [], _, _, _, _, _, _ => trivial
  | x :: r, a, h1, h0, h2, h3, h4 => by
    rw [List.length_cons] at h4
    have e : nmsW (a ++ [W.nx x]) = nmsW a := (fm_snoc W.aNm a (W.nx x)).trans (List.append_nil _)
    have e3 : (a ++ [W.nx x]).filterMap W.aKp = a.filterMap W.aKp := (fm_snoc W.aKp a (W.nx x)).trans (List.append_nil _)
    have e2 : (a ++ [W.nx x]).filterMap W.aNx = a.filterMap W.aNx ++ [x] := fm_snoc W.aNx a (W.nx x)
    have hx := h2 x (List.mem_cons_self ..)
    refine ⟨⟨h1, h0, hx.1, hx.2.1, fun m => ?_, by omega, hx.2.2⟩, good_nx r _ ?_ ?_ ?_ ?_ ?_⟩
    · exact (List.nodup_append.mp h3).2.2 _ m _ (List.mem_cons_self ..) rfl
    · rw [e]; exact h1
    · rw [e]; exact h0
    · rw [e, e3]; exact fun y hy => h2 y (List.mem_cons_of_mem _ hy)
    · rw [e2, List.map_append, List.append_assoc]; exact h3
    · rw [e2, List.length_append, List.length_singleton]; omega
theorem good_nv : ∀ (xs : List (Str × Str)) (a : List W), (∀ x ∈ nmsW a, Nm x) → (nmsW a).length < 100 → (∀ p ∈ xs, Nm p.1 ∧ LitOk (nmsW a) p.2 ∧ p.1 ∉ (a.filterMap W.aSm).map (·.1)) → ((a.filterMap W.aNv).map (·.1) ++ xs.map (·.1)).Nodup → (a.filterMap W.aNv).length + (a.filterMap W.aSm).length + xs.length ≤ 8 → GoodFrom a (xs.map W.nv)
  | [], _, _, _, _, _, _ => trivial
  | x :: r, a, h1, h0, h2, h3, h4 => by
    rw [List.length_cons] at h4
    have e : nmsW (a ++ [W.nv x]) = nmsW a := (fm_snoc W.aNm a (W.nv x)).trans (List.append_nil _)
    have e3 : (a ++ [W.nv x]).filterMap W.aSm = a.filterMap W.aSm := (fm_snoc W.aSm a (W.nv x)).trans (List.append_nil _)
    have e2 : (a ++ [W.nv x]).filterMap W.aNv = a.filterMap W.aNv ++ [x] := fm_snoc W.aNv a (W.nv x)
    have hx := h2 x (List.mem_cons_self ..)
    refine ⟨⟨h1, h0, hx.1, fun m => ?_, hx.2.2, by omega, hx.2.1⟩, good_nv r _ ?_ ?_ ?_ ?_ ?_⟩
    · exact (List.nodup_append.mp h3).2.2 _ m _ (List.mem_cons_self ..) rfl
    · rw [e]; exact h1
    · rw [e]; exact h0
    · rw [e, e3]; exact fun y hy => h2 y (List.mem_cons_of_mem _ hy)
    · rw [e2, List.map_append, List.append_assoc]; exact h3
    · rw [e2, e3, List.length_append, List.length_singleton]; omega
theorem good_sm : ∀ (xs : List (Str × Str)) (a : List W), (∀ x ∈ nmsW a, Nm x) → (nmsW a).length < 100 → (∀ p ∈ xs, Nm p.1 ∧ LitOk (nmsW a) p.2 ∧ p.1 ∉ (a.filterMap W.aNv).map (·.1)) → ((a.filterMap W.aSm).map (·.1) ++ xs.map (·.1)).Nodup → (a.filterMap W.aNv).length + (a.filterMap W.aSm).length + xs.length ≤ 8 → GoodFrom a (xs.map W.sm)
  | [], _, _, _, _, _, _ => trivial
  | x :: r, a, h1, h0, h2, h3, h4 => by
    rw [List.length_cons] at h4
    have e : nmsW (a ++ [W.sm x]) = nmsW a := (fm_snoc W.aNm a (W.sm x)).trans (List.append_nil _)
    have e3 : (a ++ [W.sm x]).filterMap W.aNv = a.filterMap W.aNv := (fm_snoc W.aNv a (W.sm x)).trans (List.append_nil _)
    have e2 : (a ++ [W.sm x]).filterMap W.aSm = a.filterMap W.aSm ++ [x] := fm_snoc W.aSm a (W.sm x)
    have hx := h2 x (List.mem_cons_self ..)
    refine ⟨⟨h1, h0, hx.1, hx.2.2, fun m => ?_, by omega, hx.2.1⟩, good_sm r _ ?_ ?_ ?_ ?_ ?_⟩
    · exact (List.nodup_append.mp h3).2.2 _ m _ (List.mem_cons_self ..) rfl
    · rw [e]; exact h1
    · rw [e]; exact h0
    · rw [e, e3]; exact fun y hy => h2 y (List.mem_cons_of_mem _ hy)
    · rw [e2, List.map_append, List.append_assoc]; exact h3
    · rw [e2, e3, List.length_append, List.length_singleton]; omega
theorem gates_nm : ∀ {gs : List (T3 Str Str Str)} {told : List Str}, GatesOk told gs → ∀ g ∈ gs, Nm g.a
  | [], _, _, g, h => absurd h List.not_mem_nil
  | x :: r, told, ⟨_, h2, _, _, h5⟩, g, hg => by
    rcases List.mem_cons.mp hg with rfl | hg
    · exact h2
    · exact gates_nm h5 g hg
theorem good_ws {m : R_m} (h : MOk m) : GoodFrom [] (wsOf m) := by
  have hs := h.s3
  have hk := h.k4
  have hg := h.g10
  have hxl := h.xl
  have w2 := h.w2
  have nms : ∀ x ∈ m.switches, Nm x := fun x hx => h.nm x (List.mem_append.mpr (.inr hx))
  have nmk : ∀ x ∈ m.keepers.map (·.1), Nm x := fun x hx => h.nm x (List.mem_append.mpr (.inl hx))
  have nmg : ∀ x ∈ m.gates.map (·.a), Nm x := fun x hx => by obtain ⟨g, hg, rfl⟩ := List.mem_map.mp hx; exact gates_nm h.go g hg
  have nd : (m.switches ++ m.keepers.map (·.1)).Nodup := List.perm_append_comm.nodup_iff.mp h.nd
  have mono : ∀ {l : Str}, LitOk (alln m) l → LitOk (m.switches ++ (m.keepers.map (·.1) ++ m.gates.map (·.a))) l := fun h => h.mono fun x hx => by
    unfold alln at hx
    simp only [List.mem_append] at hx ⊢
    rcases hx with (hx | hx) | hx
    · exact .inr (.inl hx)
    · exact .inl hx
    · exact .inr (.inr hx)
  have nall : ∀ x ∈ m.switches ++ (m.keepers.map (·.1) ++ m.gates.map (·.a)), Nm x := fun x hx => by
    simp only [List.mem_append] at hx
    rcases hx with hx | hx | hx
    · exact nms x hx
    · exact nmk x hx
    · exact nmg x hx
  have wn := h.wn
  rw [List.map_append] at wn
  obtain ⟨wn1, wn2, wn3⟩ := List.nodup_append.mp wn
  unfold wsOf
  refine GoodFrom.app (good_sw _ _ ?_ nms ?_ ?_ ?_) (GoodFrom.app (good_kp _ _ ?_ ?_ ?_ ?_ ?_) (GoodFrom.app (good_gt _ _ ?_ ?_ ?_ ?_) (GoodFrom.app (good_nx _ _ ?_ ?_ ?_ ?_ ?_) (GoodFrom.app (good_nv _ _ ?_ ?_ ?_ ?_ ?_) (good_sm _ _ ?_ ?_ ?_ ?_ ?_)))))
  all_goals try simp only [nmsW, List.nil_append, List.filterMap_append, fm_sw_aSw, fm_sw_aKp, fm_sw_aGt, fm_sw_aNx, fm_sw_aNv, fm_sw_aSm, fm_sw_aNm, fm_kp_aSw, fm_kp_aKp, fm_kp_aGt, fm_kp_aNx, fm_kp_aNv, fm_kp_aSm, fm_kp_aNm, fm_gt_aSw, fm_gt_aKp, fm_gt_aGt, fm_gt_aNx, fm_gt_aNv, fm_gt_aSm, fm_gt_aNm, fm_nx_aSw, fm_nx_aKp, fm_nx_aGt, fm_nx_aNx, fm_nx_aNv, fm_nx_aSm, fm_nx_aNm, fm_nv_aSw, fm_nv_aKp, fm_nv_aGt, fm_nv_aNx, fm_nv_aNv, fm_nv_aSm, fm_nv_aNm, List.filterMap_nil, List.append_nil, List.append_assoc, List.length_append, List.length_map, List.length_nil, List.map_nil]
  · exact fun x hx => absurd hx List.not_mem_nil
  · exact (List.nodup_append.mp nd).1
  · omega
  · omega
  · exact nms
  · exact fun p hp => ⟨nmk _ (List.mem_map.mpr ⟨p, hp, rfl⟩), h.kf p hp⟩
  · exact nd
  · omega
  · omega
  · exact fun x hx => nall x (by simp only [List.mem_append] at hx ⊢; rcases hx with h | h; exact .inl h; exact .inr (.inl h))
  · exact h.go.mono fun x => by simp only [List.mem_append]; exact Or.comm
  · omega
  · omega
  · exact nall
  · omega
  · exact fun p hp => ⟨nmk _ (h.xk p hp), h.xk p hp, mono (h.nx p hp)⟩
  · exact h.xn
  · omega
  · exact nall
  · omega
  · exact fun p hp => ⟨h.wm p (List.mem_append.mpr (.inl hp)), mono (h.wl p (List.mem_append.mpr (.inl hp))), List.not_mem_nil⟩
  · exact wn1
  · omega
  · exact nall
  · omega
  · exact fun p hp => ⟨h.wm p (List.mem_append.mpr (.inr hp)), mono (h.wl p (List.mem_append.mpr (.inr hp))), fun m => wn3 _ m _ (List.mem_map.mpr ⟨p, hp, rfl⟩) rfl⟩
  · exact wn2
  · omega
theorem ws_len (m : R_m) : (wsOf m).length = m.switches.length + (m.keepers.length + (m.gates.length + (m.nexts.length + (m.nevers.length + m.somes.length)))) := by
  unfold wsOf
  simp only [List.length_append, List.length_map]
theorem ws_len_ok {m : R_m} (h : MOk m) : (wsOf m).length ≤ 112 := by
  have hs := h.s3
  have hk := h.k4
  have hg := h.g10
  have hxl := h.xl
  have w2 := h.w2
  rw [ws_len]
  omega
abbrev rowT (w : W) : Str := Txt.join (" " : Str) w.words
theorem jn2 (a b : Str) : Txt.join (" " : Str) [a, b] = a ++ (" " : Str) ++ b := by rw [TL.join_eq]; rfl
theorem jn3 (a b c : Str) : Txt.join (" " : Str) [a, b, c] = a ++ (" " : Str) ++ (b ++ (" " : Str) ++ c) := by rw [TL.join_eq]; rfl
theorem jn4 (a b c d : Str) : Txt.join (" " : Str) [a, b, c, d] = a ++ (" " : Str) ++ (b ++ (" " : Str) ++ (c ++ (" " : Str) ++ d)) := by rw [TL.join_eq]; rfl
theorem sp_lits : ("switch " : Str) = ("switch" : Str) ++ (" " : Str) ∧ ("keep " : Str) = ("keep" : Str) ++ (" " : Str) ∧ ("gate " : Str) = ("gate" : Str) ++ (" " : Str) := by decide +kernel
theorem sp_lens : ("switch " : Str).length = 7 ∧ ("keep " : Str).length = 5 ∧ ("gate " : Str).length = 5 ∧ (" " : Str).length = 1 := by decide +kernel
theorem first_ok {o : Option Int} (h : o ∈ ([some 0, some 1, none] : List (Option Int))) : m_first_text o = some (W.ft o) := by
  simp only [List.mem_cons, List.not_mem_nil, or_false] at h
  rcases h with rfl | rfl | rfl <;> decide +kernel
theorem ft_len {o : Option Int} : (W.ft o).length ≤ 1 := by
  unfold W.ft
  cases o with
  | none => decide +kernel
  | some i => dsimp only; split <;> decide +kernel
theorem ats (m : R_m) : m.at_ "nexts" = some m.nexts ∧ m.at_ "nevers" = some m.nevers ∧ m.at_ "somes" = some m.somes := by
  unfold R_m.at_
  refine ⟨?_, ?_, ?_⟩
  · rw [if_pos rfl]
  · rw [if_neg (by decide +kernel), if_pos rfl]
  · rw [if_neg (by decide +kernel), if_neg (by decide +kernel), if_pos rfl]
theorem lit_len9 {names : List Str} {l : Str} (hn : ∀ x ∈ names, Nm x) (h : LitOk names l) : l.length ≤ 9 := (lit_wd hn h).2.2.2
theorem alln_nm {m : R_m} (h : MOk m) : ∀ x ∈ alln m, Nm x := fun x hx => by
  unfold alln at hx
  rcases List.mem_append.mp hx with hx | hx
  · exact h.nm x hx
  · obtain ⟨g, hg, rfl⟩ := List.mem_map.mp hx
    exact gates_nm h.go g hg
theorem gates_len : ∀ {gs : List (T3 Str Str Str)} {told : List Str}, GatesOk told gs → (∀ x ∈ told, Nm x) → ∀ g ∈ gs, g.a.length ≤ 9 ∧ g.b.length ≤ 9 ∧ g.c.length ≤ 9
  | [], _, _, _, g, h => absurd h List.not_mem_nil
  | x :: r, told, ⟨_, h2, h3, h4, h5⟩, hn, g, hg => by
    rcases List.mem_cons.mp hg with rfl | hg
    · have := h2.2.1
      exact ⟨by omega, lit_len9 hn h3, lit_len9 hn h4⟩
    · exact gates_len h5 (nm_snoc hn h2) g hg
theorem rows_ok {m : R_m} (h : MOk m) : m_rows m = some ((wsOf m).map rowT) := by
  have sz := size64
  have hs := h.s3
  have hk := h.k4
  have hg := h.g10
  have hxl := h.xl
  have w2 := h.w2
  obtain ⟨l1, l2, l3, l4⟩ := sp_lens
  obtain ⟨t1, t2, t3⟩ := sp_lits
  obtain ⟨a1, a2, a3⟩ := ats m
  have nx2 : ∀ p ∈ m.nexts, p.1.length ≤ 8 ∧ p.2.length ≤ 9 := fun p hp => ⟨(h.nm _ (List.mem_append.mpr (.inl (h.xk p hp)))).2.1, lit_len9 (alln_nm h) (h.nx p hp)⟩
  have ws2 : ∀ p ∈ m.nevers ++ m.somes, p.1.length ≤ 8 ∧ p.2.length ≤ 9 := fun p hp => ⟨(h.wm p hp).2.1, lit_len9 (alln_nm h) (h.wl p hp)⟩
  refine Ok.eq ?_
  unfold m_rows
  refine Ok.ck (by omega) (Ok.is (mapO_eq (g := fun x => rowT (W.sw x)) fun x hx => ?_) ?_)
  · have := (h.nm x (List.mem_append.mpr (.inr hx))).2.1
    refine Ok.eq (Ok.ck (by omega) (Ok.ret ?_))
    show _ = Txt.join _ ["switch", x]
    rw [jn2, t1]
  refine Ok.ck (by omega) (Ok.is (mapO_eq (g := fun x => rowT (W.kp x)) fun x hx => ?_) ?_)
  · have := (h.nm x.1 (List.mem_append.mpr (.inl (List.mem_map.mpr ⟨x, hx, rfl⟩)))).2.1
    have hf := ft_len (o := x.2)
    refine Ok.eq (Ok.ck (by omega) (Ok.ck (by rw [Str.len_app]; omega) (Ok.is (first_ok (h.kf x hx)) (Ok.ck (by simp only [Str.len_app]; omega) (Ok.ret ?_)))))
    show _ = Txt.join _ ["keep", x.1, W.ft x.2]
    rw [jn3, t2]
    simp only [app_assoc]
  refine Ok.ck (by simp only [List.length_map]; omega) (Ok.lt ?_)
  refine Ok.ck (by omega) (Ok.is (mapO_eq (g := fun x => rowT (W.gt x)) fun x hx => ?_) ?_)
  · obtain ⟨k1, k2, k3⟩ := gates_len h.go h.nm x hx
    have hj : (Txt.join (" " : Str) [x.a, x.b, x.c]).length ≤ 30 := by rw [jn3]; simp only [Str.len_app]; omega
    refine Ok.eq (Ok.ck (by simp only [List.map_cons, List.map_nil, List.sum_cons, List.sum_nil, List.length_cons, List.length_nil]; omega) (Ok.ck (by omega) (Ok.ret ?_)))
    show _ = Txt.join _ ["gate", x.a, x.b, x.c]
    rw [jn4, jn3, t3]
  refine Ok.ck (by simp only [List.length_map, List.length_append]; omega) (Ok.lt ?_)
  have step : ∀ {k fl : Str} {ps : List (Str × Str)} (s : List Str), m.at_ fl = some ps → k.length ≤ 5 → ps.length ≤ 16 → s.length ≤ 200 → (∀ p ∈ ps, p.1.length ≤ 8 ∧ p.2.length ≤ 9) →
      (bd (m.at_ fl) fun x181 => bd (ck (x181.length ≤ sizeLine)) fun _ => bd (mapO (fun (x188 : Str × Str) => bd (ck (k.length + ((" " : Str)).length ≤ sizeLine)) fun _ => bd (ck (((k ++ (" " : Str))).length + (x188.1).length ≤ sizeLine)) fun _ => bd (ck ((((k ++ (" " : Str)) ++ x188.1)).length + ((" " : Str)).length ≤ sizeLine)) fun _ => bd (ck (((((k ++ (" " : Str)) ++ x188.1) ++ (" " : Str))).length + (x188.2).length ≤ sizeLine)) fun _ => some ((((k ++ (" " : Str)) ++ x188.1) ++ (" " : Str)) ++ x188.2)) x181) fun x211 => bd (ck (s.length + (x211).length ≤ sizeLine)) fun _ => bd (some (s ++ x211)) fun x226 => some x226) = some (s ++ ps.map fun p => Txt.join (" " : Str) [k, p.1, p.2]) := by
    intro k fl ps s ha hk hp hs hl
    refine Ok.eq (Ok.is ha (Ok.ck (by omega) (Ok.is (mapO_eq (g := fun p => Txt.join (" " : Str) [k, p.1, p.2]) fun p hp => ?_) (Ok.ck (by rw [List.length_map]; omega) (Ok.lt (Ok.ret rfl))))))
    obtain ⟨q1, q2⟩ := hl p hp
    refine Ok.eq (Ok.ck (by omega) (Ok.ck (by simp only [Str.len_app]; omega) (Ok.ck (by simp only [Str.len_app]; omega) (Ok.ck (by simp only [Str.len_app]; omega) (Ok.ret ?_)))))
    rw [jn3]
    simp only [app_assoc]
  refine Ok.is (Ok.eq (Ok.is (step _ a1 (by decide +kernel) (by omega) (by simp only [List.length_map, List.length_append]; omega) nx2) (Ok.is (step _ a2 (by decide +kernel) (by omega) (by simp only [List.length_map, List.length_append]; omega) fun p hp => ws2 p (List.mem_append.mpr (.inl hp))) (Ok.is (step _ a3 (by decide +kernel) (by omega) (by simp only [List.length_map, List.length_append]; omega) fun p hp => ws2 p (List.mem_append.mpr (.inr hp))) (Ok.ret rfl))))) (Ok.ret ?_)
  unfold wsOf
  simp only [List.map_append, List.map_map, List.append_assoc]
  rfl
theorem rowT_len {w : W} (h : ∀ t ∈ w.words, Wd t) : (rowT w).length ≤ 40 := row_len h (words_n w).2.1
theorem rowT_no10 {w : W} (h : ∀ t ∈ w.words, Wd t) : 10 ∉ (rowT w).cps.toList := fun hc => by
  unfold rowT at hc
  rw [TL.join_eq] at hc
  rcases (PyProof.Rows.mem_join (" " : Str) 10 w.words).mp hc with ⟨t, ht, hc⟩ | ⟨_, hc⟩
  · exact (h t ht).2.2.1 hc
  · have e : ((" " : Str)).cps.toList = [32] := by decide +kernel
    rw [e] at hc
    simp at hc
theorem text_sum {ws : List W} (h : ∀ w ∈ ws, ∀ t ∈ w.words, Wd t) : ((ws.map rowT).map (fun (s : Str) => s.length)).sum ≤ ws.length * 40 := by
  have := sum_le (ts := ws.map rowT) (k := 40) fun t ht => by obtain ⟨w, hw, rfl⟩ := List.mem_map.mp ht; exact rowT_len (h w hw)
  rwa [List.length_map] at this
theorem rd_rows : ∀ {ws : List W}, (∀ w ∈ ws, ∀ t ∈ w.words, Wd t) → Rd (ws.map rowT) ws
  | [], _ => .nil
  | w :: r, h => .row (words_of_ok (words_n w).1 (h w (List.mem_cons_self ..)) (words_n w).2.1) (rd_rows fun v hv => h v (List.mem_cons_of_mem _ hv))
theorem read_rows {ws : List W} (hne : ws ≠ []) (g : GoodFrom [] ws) (hl : ws.length ≤ 200) : m_p_read_machine (Txt.join ("\n" : Str) (ws.map rowT)) = some (mch ws) := by
  have sz := size64
  have wd := g.wd
  have n1 : ("\n" : Str).length = 1 := by decide +kernel
  have hj := join_len ("\n" : Str) (ws.map rowT)
  have ht := text_sum wd
  rw [List.length_map, n1] at hj
  refine read_ok (rows := ws.map rowT) (TL.split_join (s := 10) (S := []) (by decide +kernel) (by decide +kernel) (fun e => hne (List.map_eq_nil_iff.mp e)) fun p hp => ?_) (by omega) (by rw [List.length_map]; omega) (rd_rows wd) g
  obtain ⟨w, hw, rfl⟩ := List.mem_map.mp hp
  exact rowT_no10 (wd w hw)
end G

namespace G
abbrev bit (z : Int) : Prop := z = 0 ∨ z = 1
end G

namespace G
open PySem L2 Pv
abbrev Env := Str → Int
def ev (e : Env) (l : Str) : Int := if l = "0" then 0 else if l = "1" then 1 else if Txt.startswith l tilde = true then 1 - e (Txt.slice l (some (1 : Int)) none) else e l
def upd1 (e : Env) (k : Str) (v : Int) : Env := fun x => if x = k then v else e x
def Fol (told : List Str) (d : Dc Str Int) (e : Env) : Prop := ∀ x ∈ told, d.get? x = some (e x) ∧ bit (e x)
theorem Fol.put {told : List Str} {d : Dc Str Int} {e : Env} (h : Fol told d e) {k : Str} {v : Int} (hv : bit v) : Fol (told ++ [k]) (d.put k v) (upd1 e k v) := fun x hx => by
  rw [get_put]
  unfold upd1
  by_cases c : x = k
  · rw [if_pos c, if_pos c]; exact ⟨rfl, hv⟩
  · rw [if_neg c, if_neg c]
    rcases List.mem_append.mp hx with h1 | h1
    · exact h x h1
    · exact absurd (by simpa using h1) c
end G

namespace G
open PySem L2 Pv
def d0 (m : R_m) (a b : List Int) : Dc Str Int := ⟨m.switches.zip b ++ (m.keepers.map (fun p : Str × Option Int => p.1)).zip a⟩
def e0 (m : R_m) (a b : List Int) : Env := fun x => ((d0 m a b).get? x).getD 0
theorem cutL_len {α : Type} (xs : List α) (lo hi : Option Int) : (cutL xs lo hi).length ≤ xs.length := by
  unfold cutL
  rw [List.length_take, List.length_drop]
  omega
end G

namespace G
open PySem L2 Pv
theorem lp_thru_at {ρ S α : Type} {f : S → α → Option (Ct ρ S)} {xs : List α} {s : S} (I : Nat → S → Prop) (h : I 0 s) (k : ∀ j s x, xs[j]? = some x → I j s → Ok (f s x) fun c => ∃ s', c = .nx s' ∧ I (j + 1) s') : Ok (lp f s xs) fun c => ∃ s', c = .nx s' ∧ I xs.length s' := by
  refine Ok.imp (lp_at I (fun _ => False) (fun _ => False) h fun j s x hx hi => Ok.imp (k j s x hx hi) fun c hc => ?_) fun c hc => ?_
  · obtain ⟨s', rfl, h⟩ := hc; exact h
  · cases c with
    | nx s' => exact ⟨s', rfl, hc⟩
    | bk _ => exact hc.elim
    | rt _ => exact hc.elim
end G

namespace G
open PySem L2 Pv
open PySem.W in
theorem le_tv (p q : TV Int) : dataLe false (Dat.d : TV Int → PyData) p q = decide (p.l ≤ q.l) := by
  show (!dataLt (.tuple (q.l.map .int)) (.tuple (p.l.map .int))) = _
  rw [dataLt_tuple]
  show (!rowLt (q.l.map .int) (p.l.map .int)) = _
  rw [dataLt_ints]
  by_cases h : q.l < p.l
  · have h' : ¬ p.l ≤ q.l := fun r => List.not_lt.mpr r h
    simp [h, h']
  · have h' : p.l ≤ q.l := List.not_lt.mp h
    simp [h, h']
end G

namespace G
open PySem L2 Pv
end G

namespace G
open PySem L2 Pv
def Sd {α : Type} [Rp α] [DecidableEq α] [Dat α] (n : Nat) (x : α) : Prop := PyData.canLay0 (Dat.d x) = true ∧ PyData.depth (Dat.d x) ≤ n
section
variable {α β γ : Type} [Rp α] [Rp β] [Rp γ] [DecidableEq α] [DecidableEq β] [DecidableEq γ] [Dat α] [Dat β] [Dat γ] {n : Nat}
theorem Sd.shp {x : α} (h : Sd 60 x) : shp x = true := by
  show (PyData.canLay0 (Dat.d x) && decide (PyData.depth (Dat.d x) ≤ 64)) = true
  rw [Bool.and_eq_true]
  exact ⟨h.1, decide_eq_true (Nat.le_trans h.2 (by decide))⟩
theorem Sd.mono {x : α} {k : Nat} (h : Sd n x) (l : n ≤ k) : Sd k x := ⟨h.1, Nat.le_trans h.2 l⟩
theorem Sd.int (z : Int) : Sd 1 z := ⟨rfl, by show PyData.depth (.int z) ≤ 1; simp [PyData.depth]⟩
theorem Sd.str {s : Str} (h : Asc s) : Sd 1 s := ⟨by show PyData.canLay0 (.str s) = true; rw [PyData.canLay0]; exact h.ok, by show PyData.depth (.str s) ≤ 1; simp [PyData.depth]⟩
theorem sd_all : ∀ {xs : List α}, (∀ x ∈ xs, Sd n x) → PyData.canLayAll0 (xs.map Dat.d) = true ∧ PyData.depthAll (xs.map Dat.d) ≤ n
  | [], _ => ⟨by simp [PyData.canLayAll0], by simp [PyData.depthAll]⟩
  | x :: r, h => by
    obtain ⟨h1, h2⟩ := sd_all fun y hy => h y (List.mem_cons_of_mem _ hy)
    obtain ⟨k1, k2⟩ := h x (List.mem_cons_self ..)
    rw [List.map_cons, PyData.canLayAll0, PyData.depthAll, h1, k1]
    exact ⟨rfl, by omega⟩
theorem Sd.list {xs : List α} (h : ∀ x ∈ xs, Sd n x) : Sd (n + 1) xs := by
  obtain ⟨h1, h2⟩ := sd_all h
  refine ⟨by show PyData.canLay0 (.list (xs.map Dat.d)) = true; rw [PyData.canLay0]; exact h1, ?_⟩
  show PyData.depth (.list (xs.map Dat.d)) ≤ n + 1
  rw [PyData.depth]
  omega
theorem Sd.tv {t : TV α} (h : ∀ x ∈ t.l, Sd n x) : Sd (n + 1) t := by
  obtain ⟨h1, h2⟩ := sd_all h
  refine ⟨by show PyData.canLay0 (.tuple (t.l.map Dat.d)) = true; rw [PyData.canLay0]; exact h1, ?_⟩
  show PyData.depth (.tuple (t.l.map Dat.d)) ≤ n + 1
  rw [PyData.depth]
  omega
theorem Sd.pair {p : α × β} (h : Sd n p.1) (k : Sd n p.2) : Sd (n + 1) p := by
  refine ⟨?_, ?_⟩
  · show PyData.canLay0 (.tuple [Dat.d p.1, Dat.d p.2]) = true
    rw [PyData.canLay0, PyData.canLayAll0, PyData.canLayAll0, PyData.canLayAll0, h.1, k.1]
    rfl
  · show PyData.depth (.tuple [Dat.d p.1, Dat.d p.2]) ≤ n + 1
    rw [PyData.depth, PyData.depthAll, PyData.depthAll, PyData.depthAll]
    have := h.2
    have := k.2
    omega
theorem Sd.t3 {p : T3 α β γ} (h : Sd n p.a) (k : Sd n p.b) (j : Sd n p.c) : Sd (n + 1) p := by
  refine ⟨?_, ?_⟩
  · show PyData.canLay0 (.tuple [Dat.d p.a, Dat.d p.b, Dat.d p.c]) = true
    rw [PyData.canLay0, PyData.canLayAll0, PyData.canLayAll0, PyData.canLayAll0, PyData.canLayAll0, h.1, k.1, j.1]
    rfl
  · show PyData.depth (.tuple [Dat.d p.a, Dat.d p.b, Dat.d p.c]) ≤ n + 1
    rw [PyData.depth, PyData.depthAll, PyData.depthAll, PyData.depthAll, PyData.depthAll]
    have := h.2
    have := k.2
    have := j.2
    omega
end
end G

namespace G
open PySem L2 Pv
structure Sim (a b : List W) : Prop where
  nm : ∀ x, x ∈ nmsW a ↔ x ∈ nmsW b
  ln : (nmsW a).length = (nmsW b).length
  sw : a.filterMap W.aSw = b.filterMap W.aSw
  kp : a.filterMap W.aKp = b.filterMap W.aKp
  gt : a.filterMap W.aGt = b.filterMap W.aGt
  nx : a.filterMap W.aNx = b.filterMap W.aNx
  nv : a.filterMap W.aNv = b.filterMap W.aNv
  sm : a.filterMap W.aSm = b.filterMap W.aSm
theorem Sim.trans {a b c : List W} (h : Sim a b) (k : Sim b c) : Sim a c := ⟨fun x => (h.nm x).trans (k.nm x), h.ln.trans k.ln, h.sw.trans k.sw, h.kp.trans k.kp, h.gt.trans k.gt, h.nx.trans k.nx, h.nv.trans k.nv, h.sm.trans k.sm⟩
theorem Sim.app {a b : List W} (h : Sim a b) (r : List W) : Sim (a ++ r) (b ++ r) := by
  refine ⟨fun x => ?_, ?_, ?_, ?_, ?_, ?_, ?_, ?_⟩
  · unfold nmsW
    rw [List.filterMap_append, List.filterMap_append, List.mem_append, List.mem_append]
    exact or_congr (h.nm x) Iff.rfl
  · unfold nmsW
    rw [List.filterMap_append, List.filterMap_append, List.length_append, List.length_append]
    have := h.ln
    unfold nmsW at this
    rw [this]
  · rw [List.filterMap_append, List.filterMap_append, h.sw]
  · rw [List.filterMap_append, List.filterMap_append, h.kp]
  · rw [List.filterMap_append, List.filterMap_append, h.gt]
  · rw [List.filterMap_append, List.filterMap_append, h.nx]
  · rw [List.filterMap_append, List.filterMap_append, h.nv]
  · rw [List.filterMap_append, List.filterMap_append, h.sm]
theorem Good.sim {a b : List W} {w : W} (h : Sim a b) (g : Good a w) : Good b w := by
  obtain ⟨g1, g2, g3⟩ := g
  refine ⟨fun x hx => g1 x ((h.nm x).mpr hx), by rw [← h.ln]; exact g2, ?_⟩
  have li : ∀ {l : Str}, LitOk (nmsW a) l → LitOk (nmsW b) l := fun k => k.mono fun x hx => (h.nm x).mp hx
  cases w with
  | sw x => exact ⟨g3.1, fun z => g3.2.1 ((h.nm _).mpr z), by rw [← h.sw]; exact g3.2.2⟩
  | kp p => exact ⟨g3.1, fun z => g3.2.1 ((h.nm _).mpr z), by rw [← h.kp]; exact g3.2.2.1, g3.2.2.2⟩
  | gt g => exact ⟨g3.1, fun z => g3.2.1 ((h.nm _).mpr z), by rw [← h.gt]; exact g3.2.2.1, li g3.2.2.2.1, li g3.2.2.2.2⟩
  | nx p => exact ⟨g3.1, by rw [← h.kp]; exact g3.2.1, by rw [← h.nx]; exact g3.2.2.1, by rw [← h.nx]; exact g3.2.2.2.1, li g3.2.2.2.2⟩
  | nv p => exact ⟨g3.1, by rw [← h.nv]; exact g3.2.1, by rw [← h.sm]; exact g3.2.2.1, by rw [← h.nv, ← h.sm]; exact g3.2.2.2.1, li g3.2.2.2.2⟩
  | sm p => exact ⟨g3.1, by rw [← h.nv]; exact g3.2.1, by rw [← h.sm]; exact g3.2.2.1, by rw [← h.nv, ← h.sm]; exact g3.2.2.2.1, li g3.2.2.2.2⟩
theorem GoodFrom.sim : ∀ {r a b : List W}, Sim a b → GoodFrom a r → GoodFrom b r
  | [], _, _, _, _ => trivial
  | w :: r, a, b, h, ⟨g1, g2⟩ => ⟨g1.sim h, GoodFrom.sim (h.app [w]) g2⟩
theorem GoodFrom.cut : ∀ {r s a : List W}, GoodFrom a (r ++ s) → GoodFrom a r ∧ GoodFrom (a ++ r) s
  | [], s, a, h => ⟨trivial, by rw [List.append_nil]; exact h⟩
  | w :: r, s, a, ⟨h1, h2⟩ => by
    have := GoodFrom.cut h2
    exact ⟨⟨h1, this.1⟩, by rw [List.append_assoc] at this; exact this.2⟩
def W.tag : W → Str
  | .sw _ => "switch"
  | .kp _ => "keep"
  | .gt _ => "gate"
  | .nx _ => "next"
  | .nv _ => "never"
  | .sm _ => "some"
def leans (w : W) : List Str := w.words.tail.map pln0
  where pln0 (t : Str) : Str := if Txt.startswith t tilde = true then Txt.slice t (some (1 : Int)) none else t
section
variable {a : List W} {v w : W}
end
end G

namespace G
open PySem L2 Pv
theorem fault_go : ∀ {rows : List Str} {ws : List W}, Rd rows ws → ∀ (a : List W) (n : Nat), GoodFrom a ws → ∀ {row : Str} {bw : List Str} {fw : Str} {D : O_Draft} {post : List Str}, m_p_words_of row = some bw → 0 < bw.length → m_p_draft_row (dr (a ++ ws)) bw = some (fw, D) → fw ≠ "" →
    lpx rdF (tup (dr a)) (enuF n (rows ++ row :: post)) = some (((n + rows.length : Nat) : Int), fw) := by
  intro rows ws h
  induction h with
  | nil =>
    intro a n _ row bw fw D post h1 h2 h3 h4
    rw [List.append_nil] at h3
    have e : rdF (tup (dr a)) ((n : Int), row) = some (.error ((n : Int), fw)) := by
      show bd (m_p_words_of row) _ = _
      rw [h1, bd_some, if_pos (decide_eq_true (by omega))]
      show bd (m_p_draft_row (dr a) bw) _ = _
      rw [h3, bd_some, if_pos (by rw [decide_eq_false h4]; rfl)]
    show bd (rdF (tup (dr a)) ((n : Int), row)) _ = _
    rw [e]
    rfl
  | @skip r rs ws h1 _ ih =>
    intro a n g row bw fw D post k1 k2 k3 k4
    have e : rdF (tup (dr a)) ((n : Int), r) = some (.ok (tup (dr a))) := by
      show bd (m_p_words_of r) _ = _
      rw [h1, bd_some, if_neg (by decide)]
    show bd (rdF (tup (dr a)) ((n : Int), r)) _ = _
    rw [e]
    show lpx rdF (tup (dr a)) (enuF (n + 1) (rs ++ row :: post)) = _
    rw [ih a (n + 1) g k1 k2 k3 k4, List.length_cons]
    exact congrArg (fun z : Nat => some ((z : Int), fw)) (by omega)
  | @row r rs w ws h1 _ ih =>
    intro a n g row bw fw D post k1 k2 k3 k4
    have hw := (words_n w).2.2
    have e : rdF (tup (dr a)) ((n : Int), r) = some (.ok (tup (dr (a ++ [w])))) := by
      show bd (m_p_words_of r) _ = _
      rw [h1, bd_some, if_pos (decide_eq_true (by omega))]
      show bd (m_p_draft_row (dr a) w.words) _ = _
      rw [row_ok g.1, bd_some, if_neg (by rw [decide_eq_true rfl]; decide)]
      rfl
    show bd (rdF (tup (dr a)) ((n : Int), r)) _ = _
    rw [e]
    show lpx rdF (tup (dr (a ++ [w]))) (enuF (n + 1) (rs ++ row :: post)) = _
    rw [ih (a ++ [w]) (n + 1) g.2 k1 k2 (by rw [List.append_assoc]; exact k3) k4, List.length_cons]
    exact congrArg (fun z : Nat => some ((z : Int), fw)) (by omega)
theorem fault_ok {text : Str} {rows post : List Str} {ws : List W} {row : Str} {bw : List Str} {fw : Str} {D : O_Draft} (hs : Txt.split text ("\n" : Str) = rows ++ row :: post) (hl : text.length + 2 ≤ sizeLine) (hr : (rows ++ row :: post).length ≤ sizeLine)
    (h : Rd rows ws) (g : GoodFrom [] ws) (h1 : m_p_words_of row = some bw) (h2 : 0 < bw.length) (h3 : m_p_draft_row (dr ws) bw = some (fw, D)) (h4 : fw ≠ "") : m_fault text = some ((rows.length : Int), fw) := by
  refine Ok.eq ?_
  unfold m_fault
  refine Ok.is (a := dr []) rfl (Ok.ck ⟨hl, by rw [hs]; exact hr⟩ ?_)
  rw [hs]
  have e := fault_go h [] 0 g (post := post) h1 h2 h3 h4
  rw [Nat.zero_add] at e
  show Ok (lpx rdF (tup (dr [])) (enuF 0 (rows ++ row :: post))) _
  rw [e]
  exact Ok.ret rfl
end G

namespace G
open PySem L2 Pv
def odds : List Str := [("switch" : Str), ("switch A" : Str), ("switch a1" : Str), ("switch a b" : Str), ("switch ~a" : Str), ("switch 0" : Str), ("switch aaaaaaaaa" : Str), ("switches a" : Str), ("Switch a" : Str), ("switch -" : Str), ("a" : Str), ("0" : Str), ("keep" : Str), ("keep a" : Str), ("keep a 2" : Str), ("keep a 0 1" : Str), ("keep A 0" : Str), ("keep a --" : Str), ("keep a 00" : Str), ("keep ~a 0" : Str), ("keep 0 a" : Str), ("keep aaaaaaaaa 1" : Str), ("keeps a 0" : Str), ("gate" : Str), ("gate a" : Str), ("gate a 0" : Str), ("gate a 0 1 1" : Str), ("gate a ~~b 1" : Str), ("gate a ~0 1" : Str), ("gate a 1 ~1" : Str), ("gate a 2 1" : Str), ("gate a - 1" : Str), ("gate a ~ 1" : Str), ("gate A 0 1" : Str), ("gate 0 0 1" : Str), ("gate a B 1" : Str), ("gate a 1 b1" : Str), ("gate a 0 01" : Str), ("gate ~a 0 1" : Str), ("gate aaaaaaaaa 0 1" : Str), ("gate a 1 ~aaaaaaaaa" : Str), ("next" : Str), ("next a" : Str), ("next a 0 1" : Str), ("next ~a 0" : Str), ("next a ~~a" : Str), ("next a 2" : Str), ("next 0 1" : Str), ("next a -" : Str), ("nexts a 0" : Str), ("next a ~1" : Str), ("next A 1" : Str), ("never" : Str), ("never a" : Str), ("never a 0 1" : Str), ("never A 0" : Str), ("never a ~~b" : Str), ("never a 01" : Str), ("never ~a 0" : Str), ("nevers a 0" : Str), ("some" : Str), ("some a" : Str), ("some 0 1" : Str), ("some a ~0" : Str), ("some A 0" : Str), ("some a 0 1" : Str), ("some a ~~b" : Str), ("some a 01" : Str), ("some a 2" : Str), ("some ~a 0" : Str), ("some a aaaaaaaaa" : Str), ("never a aaaaaaaaa" : Str), ("never a 2" : Str), ("next a aaaaaaaaa" : Str)]
theorem odds_text : (((((((((("switch,switch A,switch a1,switch a b,switch ~a,switch 0,switch aaaaaaaaa" : Str)) ++ (",switches a,Switch a,switch -,a,0,keep,keep a,keep a 2,keep a 0 1,keep A 0" : Str)) ++ (",keep a --,keep a 00,keep ~a 0,keep 0 a,keep aaaaaaaaa 1,keeps a 0,gate,gate a" : Str)) ++ (",gate a 0,gate a 0 1 1,gate a ~~b 1,gate a ~0 1,gate a 1 ~1,gate a 2 1" : Str)) ++ (",gate a - 1,gate a ~ 1,gate A 0 1,gate 0 0 1,gate a B 1,gate a 1 b1,gate a 0 01" : Str)) ++ (",gate ~a 0 1,gate aaaaaaaaa 0 1,gate a 1 ~aaaaaaaaa,next,next a,next a 0 1" : Str)) ++ (",next ~a 0,next a ~~a,next a 2,next 0 1,next a -,nexts a 0,next a ~1,next A 1" : Str)) ++ (",never,never a,never a 0 1,never A 0,never a ~~b,never a 01,never ~a 0" : Str)) ++ (",nevers a 0,some,some a,some 0 1,some a ~0,some A 0,some a 0 1,some a ~~b,some a 01" : Str)) ++ (",some a 2,some ~a 0,some a aaaaaaaaa,never a aaaaaaaaa,never a 2,next a aaaaaaaaa" : Str) = Txt.join ("," : Str) odds := by
  refine TL.ext_tl ?_
  rw [TL.join_eq, TL.tl_join]
  simp only [TL.tl_append]
  decide +kernel
theorem odds_no : (odds.all fun s => decide (44 ∉ s.cps.toList)) = true := by decide +kernel
theorem odds_split : Txt.split ((((((((((("switch,switch A,switch a1,switch a b,switch ~a,switch 0,switch aaaaaaaaa" : Str)) ++ (",switches a,Switch a,switch -,a,0,keep,keep a,keep a 2,keep a 0 1,keep A 0" : Str)) ++ (",keep a --,keep a 00,keep ~a 0,keep 0 a,keep aaaaaaaaa 1,keeps a 0,gate,gate a" : Str)) ++ (",gate a 0,gate a 0 1 1,gate a ~~b 1,gate a ~0 1,gate a 1 ~1,gate a 2 1" : Str)) ++ (",gate a - 1,gate a ~ 1,gate A 0 1,gate 0 0 1,gate a B 1,gate a 1 b1,gate a 0 01" : Str)) ++ (",gate ~a 0 1,gate aaaaaaaaa 0 1,gate a 1 ~aaaaaaaaa,next,next a,next a 0 1" : Str)) ++ (",next ~a 0,next a ~~a,next a 2,next 0 1,next a -,nexts a 0,next a ~1,next A 1" : Str)) ++ (",never,never a,never a 0 1,never A 0,never a ~~b,never a 01,never ~a 0" : Str)) ++ (",nevers a 0,some,some a,some 0 1,some a ~0,some A 0,some a 0 1,some a ~~b,some a 01" : Str)) ++ (",some a 2,some ~a 0,some a aaaaaaaaa,never a aaaaaaaaa,never a 2,next a aaaaaaaaa" : Str)) ("," : Str) = odds := by
  rw [odds_text]
  exact TL.split_join (s := 44) (S := []) (by decide +kernel) (by decide +kernel) (by decide) fun s hs => of_decide_eq_true (List.all_eq_true.mp odds_no s hs)
theorem odds_len : odds.length = 74 := by decide +kernel
theorem odd_ok (n : Int) : Ok (m_odd n) fun s => s ∈ odds := by
  unfold m_odd
  refine Ok.ck (by decide +kernel) (Ok.lt ?_)
  refine Ok.ck (by decide +kernel) (Ok.lt ?_)
  refine Ok.ck (by decide +kernel) (Ok.lt ?_)
  refine Ok.ck (by decide +kernel) (Ok.lt ?_)
  refine Ok.ck (by decide +kernel) (Ok.lt ?_)
  refine Ok.ck (by decide +kernel) (Ok.lt ?_)
  refine Ok.ck (by decide +kernel) (Ok.lt ?_)
  refine Ok.ck (by decide +kernel) (Ok.lt ?_)
  refine Ok.ck (by decide +kernel) (Ok.lt ?_)
  refine Ok.ck ⟨by decide +kernel, by rw [odds_split, odds_len]; decide⟩ (Ok.lt ?_)
  rw [odds_split, odds_len]
  have d0 := Int.emod_nonneg n (show ((74 : Nat) : Int) ≠ 0 by omega)
  have d1 := Int.emod_lt_of_pos n (show (0 : Int) < ((74 : Nat) : Int) by omega)
  exact Ok.ck (by omega) (Ok.bd (atI_ok d0 (by rw [odds_len]; exact d1)) fun y hy => Ok.ret hy.2)
def oddR (s : Str) (a b : Nat) : Str := timesS (" " : Str) (a : Int) ++ Txt.replace s (" " : Str) (timesS (" " : Str) ((1 : Int) + (b : Int)))
def oddOk (s : Str) (a b : Nat) : Bool := decide (m_p_words_of (oddR s a b) = m_p_words_of s) && decide (10 ∉ (oddR s a b).cps.toList) && decide ((oddR s a b).length ≤ 40) && decide (s.length ≤ 40) && decide ((Txt.replace s (" " : Str) (timesS (" " : Str) ((1 : Int) + (b : Int)))).length ≤ 40)
theorem odd_all : (odds.all fun s => [0, 1, 2].all fun a => [0, 1].all fun b => oddOk s a b) = true := by decide +kernel
def oddW : List (List Str) := [[("switch" : Str)], [("switch" : Str), ("A" : Str)], [("switch" : Str), ("a1" : Str)], [("switch" : Str), ("a" : Str), ("b" : Str)], [("switch" : Str), ("~a" : Str)], [("switch" : Str), ("0" : Str)], [("switch" : Str), ("aaaaaaaaa" : Str)], [("switches" : Str), ("a" : Str)], [("Switch" : Str), ("a" : Str)], [("switch" : Str), ("-" : Str)], [("a" : Str)], [("0" : Str)], [("keep" : Str)], [("keep" : Str), ("a" : Str)], [("keep" : Str), ("a" : Str), ("2" : Str)], [("keep" : Str), ("a" : Str), ("0" : Str), ("1" : Str)], [("keep" : Str), ("A" : Str), ("0" : Str)], [("keep" : Str), ("a" : Str), ("--" : Str)], [("keep" : Str), ("a" : Str), ("00" : Str)], [("keep" : Str), ("~a" : Str), ("0" : Str)], [("keep" : Str), ("0" : Str), ("a" : Str)], [("keep" : Str), ("aaaaaaaaa" : Str), ("1" : Str)], [("keeps" : Str), ("a" : Str), ("0" : Str)], [("gate" : Str)], [("gate" : Str), ("a" : Str)], [("gate" : Str), ("a" : Str), ("0" : Str)], [("gate" : Str), ("a" : Str), ("0" : Str), ("1" : Str), ("1" : Str)], [("gate" : Str), ("a" : Str), ("~~b" : Str), ("1" : Str)], [("gate" : Str), ("a" : Str), ("~0" : Str), ("1" : Str)], [("gate" : Str), ("a" : Str), ("1" : Str), ("~1" : Str)], [("gate" : Str), ("a" : Str), ("2" : Str), ("1" : Str)], [("gate" : Str), ("a" : Str), ("-" : Str), ("1" : Str)], [("gate" : Str), ("a" : Str), ("~" : Str), ("1" : Str)], [("gate" : Str), ("A" : Str), ("0" : Str), ("1" : Str)], [("gate" : Str), ("0" : Str), ("0" : Str), ("1" : Str)], [("gate" : Str), ("a" : Str), ("B" : Str), ("1" : Str)], [("gate" : Str), ("a" : Str), ("1" : Str), ("b1" : Str)], [("gate" : Str), ("a" : Str), ("0" : Str), ("01" : Str)], [("gate" : Str), ("~a" : Str), ("0" : Str), ("1" : Str)], [("gate" : Str), ("aaaaaaaaa" : Str), ("0" : Str), ("1" : Str)], [("gate" : Str), ("a" : Str), ("1" : Str), ("~aaaaaaaaa" : Str)], [("next" : Str)], [("next" : Str), ("a" : Str)], [("next" : Str), ("a" : Str), ("0" : Str), ("1" : Str)], [("next" : Str), ("~a" : Str), ("0" : Str)], [("next" : Str), ("a" : Str), ("~~a" : Str)], [("next" : Str), ("a" : Str), ("2" : Str)], [("next" : Str), ("0" : Str), ("1" : Str)], [("next" : Str), ("a" : Str), ("-" : Str)], [("nexts" : Str), ("a" : Str), ("0" : Str)], [("next" : Str), ("a" : Str), ("~1" : Str)], [("next" : Str), ("A" : Str), ("1" : Str)], [("never" : Str)], [("never" : Str), ("a" : Str)], [("never" : Str), ("a" : Str), ("0" : Str), ("1" : Str)], [("never" : Str), ("A" : Str), ("0" : Str)], [("never" : Str), ("a" : Str), ("~~b" : Str)], [("never" : Str), ("a" : Str), ("01" : Str)], [("never" : Str), ("~a" : Str), ("0" : Str)], [("nevers" : Str), ("a" : Str), ("0" : Str)], [("some" : Str)], [("some" : Str), ("a" : Str)], [("some" : Str), ("0" : Str), ("1" : Str)], [("some" : Str), ("a" : Str), ("~0" : Str)], [("some" : Str), ("A" : Str), ("0" : Str)], [("some" : Str), ("a" : Str), ("0" : Str), ("1" : Str)], [("some" : Str), ("a" : Str), ("~~b" : Str)], [("some" : Str), ("a" : Str), ("01" : Str)], [("some" : Str), ("a" : Str), ("2" : Str)], [("some" : Str), ("~a" : Str), ("0" : Str)], [("some" : Str), ("a" : Str), ("aaaaaaaaa" : Str)], [("never" : Str), ("a" : Str), ("aaaaaaaaa" : Str)], [("never" : Str), ("a" : Str), ("2" : Str)], [("next" : Str), ("a" : Str), ("aaaaaaaaa" : Str)]]
theorem oddW_all : (odds.all fun s => (match m_p_words_of s with | some w => decide (w ∈ oddW) && decide (0 < w.length) | none => false)) = true := by decide +kernel
theorem odd_row (D : O_Draft) : oddW.map (m_p_draft_row D) = oddW.map fun _ => some (("row" : Str), D) := by kernel_rfl!
theorem odd_is {s : Str} (h : s ∈ odds) (D : O_Draft) {a b : Nat} (ha : a < 3) (hb : b < 2) : ∃ w, m_p_words_of (oddR s a b) = some w ∧ 0 < w.length ∧ m_p_draft_row D w = some (("row" : Str), D) ∧ 10 ∉ (oddR s a b).cps.toList ∧ (oddR s a b).length ≤ 40 ∧ s.length ≤ 40 ∧ (Txt.replace s (" " : Str) (timesS (" " : Str) ((1 : Int) + (b : Int)))).length ≤ 40 := by
  have h1 := List.all_eq_true.mp (List.all_eq_true.mp (List.all_eq_true.mp odd_all s h) a (by simp only [List.mem_cons, List.not_mem_nil, or_false]; omega)) b (by simp only [List.mem_cons, List.not_mem_nil, or_false]; omega)
  unfold oddOk at h1
  simp only [Bool.and_eq_true, decide_eq_true_eq] at h1
  have h2 := List.all_eq_true.mp oddW_all s h
  obtain ⟨⟨⟨⟨e1, e2⟩, e3⟩, e4⟩, e5⟩ := h1
  rw [e1]
  cases e : m_p_words_of s with
  | none => rw [e] at h2; cases h2
  | some w =>
    rw [e] at h2
    simp only [Bool.and_eq_true, decide_eq_true_eq] at h2
    obtain ⟨i, hi⟩ := List.mem_iff_getElem?.mp h2.1
    have q := congrArg (fun l : List (Option (Str × O_Draft)) => l[i]?) (odd_row D)
    simp only [List.getElem?_map, hi, Option.map_some] at q
    exact ⟨w, rfl, h2.2, Option.some.inj q, e2, e3, e4, e5⟩
theorem no_words {x : Str} (h : x ∈ [("" : Str), ("   " : Str)]) : m_p_words_of x = some [] ∧ 10 ∉ x.cps.toList ∧ x.length ≤ 40 := by
  have k : ([("" : Str), ("   " : Str)].all fun x => decide (m_p_words_of x = some []) && decide (10 ∉ x.cps.toList) && decide (x.length ≤ 40)) = true := by decide +kernel
  have := List.all_eq_true.mp k x h
  simp only [Bool.and_eq_true, decide_eq_true_eq] at this
  exact ⟨this.1.1, this.1.2, this.2⟩
theorem rd_none {x : Str} (h : m_p_words_of x = some []) : ∀ k : Nat, Rd (List.replicate k x) []
  | 0 => .nil
  | k + 1 => by rw [List.replicate_succ]; exact .skip h (rd_none h k)
theorem rd_blank {x : Str} (hx : m_p_words_of x = some []) {k : Nat} : ∀ {rows : List Str} {ws : List W}, Rd rows ws → Rd (rows ++ List.replicate k x) ws
  | _, _, .nil => rd_none hx k
  | _, _, .skip h r => .skip h (rd_blank hx r)
  | _, _, .row h r => .row h (rd_blank hx r)
theorem flat1 (x : Str) : ∀ k : Nat, (List.replicate k ([x] : List Str)).flatten = List.replicate k x
  | 0 => rfl
  | k + 1 => by rw [List.replicate_succ, List.replicate_succ, List.flatten_cons, flat1 x k]; rfl
theorem cutm {α : Type} {xs : List α} {a b : Option Int} {x : α} (h : x ∈ cutL xs a b) : x ∈ xs := by
  unfold cutL at h
  exact List.mem_of_mem_drop (List.mem_of_mem_take h)
theorem nl10 : ("\n" : Str).length = 1 ∧ (10 ∉ ("x" : Str).cps.toList) ∧ (10 ∉ ("gate" : Str).cps.toList) ∧ ("x" : Str).length = 1 ∧ ("gate" : Str).length = 4 ∧ (" " : Str).length = 1 ∧ Asc ("row" : Str) ∧ ("row" : Str) ≠ "" := by decide +kernel
theorem spl10 {xs : List Str} (h : xs ≠ []) (k : ∀ x ∈ xs, 10 ∉ x.cps.toList) : Txt.split (Txt.join ("\n" : Str) xs) ("\n" : Str) = xs := TL.split_join (s := 10) (S := []) (by decide +kernel) (by decide +kernel) h k
theorem sumc : ∀ {xs : List Str}, (∀ x ∈ xs, x.length ≤ 40) → (xs.map (fun (s : Str) => s.length)).sum ≤ xs.length * 40
  | [], _ => Nat.le_refl _
  | x :: r, h => by
    have h1 := h x List.mem_cons_self
    have ih := sumc (xs := r) fun t ht => h t (List.mem_cons_of_mem _ ht)
    rw [List.map_cons, List.sum_cons, List.length_cons]
    omega
theorem fault_row {rows post : List Str} {ws : List W} {row : Str} {bw : List Str} {D : O_Draft} (R : Rd rows ws) (g : GoodFrom [] ws) (h1 : m_p_words_of row = some bw) (h2 : 0 < bw.length) (hd : m_p_draft_row (dr ws) bw = some (("row" : Str), D)) (h10 : ∀ x ∈ rows ++ row :: post, 10 ∉ x.cps.toList) (h40 : ∀ x ∈ rows ++ row :: post, x.length ≤ 40) (hl : (rows ++ row :: post).length ≤ 1000) :
    m_fault (Txt.join ("\n" : Str) (rows ++ row :: post)) = some ((rows.length : Int), ("row" : Str)) := by
  have sz := size64
  have hj := join_len ("\n" : Str) (rows ++ row :: post)
  have hs := sumc h40
  rw [nl10.1, Nat.mul_one] at hj
  have hj2 : (Txt.join ("\n" : Str) (rows ++ row :: post)).length ≤ 41000 := by omega
  exact fault_ok (spl10 (by simp) h10) (by omega) (by omega) R g h1 h2 hd nl10.2.2.2.2.2.2.2
theorem times_len {n : Nat} (h : n < 3) : (timesS (" " : Str) (n : Int)).length ≤ 2 := by
  have k : ([0, 1, 2].all fun n : Nat => decide ((timesS (" " : Str) (n : Int)).length ≤ 2)) = true := by decide +kernel
  exact of_decide_eq_true (List.all_eq_true.mp k n (by simp only [List.mem_cons, List.not_mem_nil, or_false]; omega))
theorem law_true (ns : List Int) (h : ns.length ≤ 63) : m_law ⟨ns⟩ = some true := by
  have sz := size64
  obtain ⟨n1, n2, n3, n4, n5, n6, n7, n8⟩ := nl10
  refine Ok.eq ?_
  unfold m_law
  dsimp only
  have c1 := cutL_len ns (some (3 : Int)) (some (40 : Int))
  refine Ok.bd (machine_ok3 (zs := 3) (zk := 4) (zg := 8) (zw := 2) ⟨ns⟩ (by omega) (by omega) (by omega) (by omega)) fun m hm0 => ?_
  obtain ⟨⟨hm, a1, a2, a3⟩, a4, a5, a6⟩ := hm0
  have wl := ws_len_ok hm
  have g := good_ws hm
  have wd := g.wd
  have wne : wsOf m ≠ [] := fun e => by
    have := ws_len m
    rw [e, List.length_nil] at this
    omega
  have w10 : ∀ x ∈ (wsOf m).map rowT, 10 ∉ x.cps.toList ∧ x.length ≤ 40 := fun x hx => by
    obtain ⟨w, hw, rfl⟩ := List.mem_map.mp hx
    exact ⟨rowT_no10 (wd w hw), rowT_len (wd w hw)⟩
  have wsum := sumc fun x hx => (w10 x hx).2
  have el : (enu ([(7 : Int)] ++ cutL ns (some (3 : Int)) (some (40 : Int)))).length ≤ 64 := by show (enuF 0 _).length ≤ _; rw [enuF_len, List.length_append]; show 1 + _ ≤ _; omega
  refine Ok.is (rows_ok hm) (Ok.ck (by show 1 + _ ≤ _; omega) (Ok.bd (lp_thru_at (fun _ _ => True) trivial fun j s p hp _ => ?_) fun c hc => ?_))
  case refine_2 =>
    obtain ⟨s, e, _⟩ := hc
    rw [e]
    exact Ok.ck (by rw [n1]; rw [List.length_map] at *; omega) (Ok.is (read_rows wne g (by omega)) (Ok.ret rfl))
  have hj := (List.getElem?_eq_some_iff.mp hp).1
  have ej : p.1 = ((0 + j : Nat) : Int) := (enuF_get (n := 0) hp).1
  refine Ok.bd (mix_ok p.2 (by omega) (by omega)) fun r _ => ?_
  have hlen : ((wsOf m).map rowT).length = (wsOf m).length := List.length_map ..
  refine Ok.ck (by omega) (Ok.lt ?_)
  have x0 := Int.emod_nonneg r (show ((((wsOf m).map rowT).length : Int) + (1 : Int)) ≠ 0 by omega)
  have x1 := Int.emod_lt_of_pos r (show 0 < ((((wsOf m).map rowT).length : Int) + (1 : Int)) by omega)
  generalize r % ((((wsOf m).map rowT).length : Int) + (1 : Int)) = x at x0 x1
  obtain ⟨i, rfl⟩ : ∃ i : Nat, x = (i : Int) := ⟨x.toNat, by omega⟩
  have b0 := Int.emod_nonneg (r / 20) (show (2 : Int) ≠ 0 by omega)
  have b1 := Int.emod_lt_of_pos (r / 20) (show (0 : Int) < 2 by omega)
  refine Ok.bd (atI_ok b0 (by show _ < ((2 : Nat) : Int); omega)) fun bl hbl => ?_
  obtain ⟨bw, bl10, bl40⟩ := no_words hbl.2
  have k0 := Int.emod_nonneg (r / 40) (show (3 : Int) ≠ 0 by omega)
  have k3 := Int.emod_lt_of_pos (r / 40) (show (0 : Int) < 3 by omega)
  obtain ⟨k, hk⟩ : ∃ k : Nat, k = ((r / (40 : Int)) % (3 : Int)).toNat := ⟨_, rfl⟩
  refine Ok.ck ⟨by omega, by omega, by show 1 * _ ≤ _; omega⟩ ?_
  rw [flat1, ← hk, cut_to, cut_from]
  refine Ok.ck (by rw [List.length_take, List.length_replicate]; omega) (Ok.lt ?_)
  refine Ok.bd (odd_ok _) fun od hod => ?_
  have e0 := Int.emod_nonneg (r / 7) (show (2 : Int) ≠ 0 by omega)
  have e1 := Int.emod_lt_of_pos (r / 7) (show (0 : Int) < 2 by omega)
  obtain ⟨b, hb⟩ : ∃ b : Nat, (r / 7) % 2 = (b : Int) := ⟨((r / 7) % 2).toNat, by omega⟩
  have f0 := Int.emod_nonneg (r / 11) (show (3 : Int) ≠ 0 by omega)
  have f1 := Int.emod_lt_of_pos (r / 11) (show (0 : Int) < 3 by omega)
  obtain ⟨a, ha⟩ : ∃ a : Nat, (r / 11) % 3 = (a : Int) := ⟨((r / 11) % 3).toNat, by omega⟩
  rw [hb, ha]
  obtain ⟨ow, o1, o2, o3, o4, o5, o6, o7⟩ := odd_is hod (dr ((wsOf m).take i)) (a := a) (b := b) (by omega) (by omega)
  have tb : (timesS (" " : Str) ((1 : Int) + (b : Int))).length ≤ 2 := by
    have : ((1 : Int) + (b : Int)) = ((1 + b : Nat) : Int) := by omega
    rw [this]
    exact times_len (by omega)
  have ta : (timesS (" " : Str) (a : Int)).length ≤ 2 := times_len (by omega)
  refine Ok.ck ⟨by omega, by omega, by omega, by omega, ?_⟩ (Ok.lt (Ok.lt (Ok.ck ⟨by omega, by omega, by omega, by omega⟩ (Ok.ck (by omega) ?_))))
  · have := Nat.mul_le_mul (show od.length + 1 ≤ 41 by omega) tb
    omega
  rw [← show oddR od a b = timesS (" " : Str) (a : Int) ++ Txt.replace od (" " : Str) (timesS (" " : Str) ((1 : Int) + (b : Int))) from rfl]
  have R : Rd (List.take i ((wsOf m).map rowT) ++ List.replicate k bl) ((wsOf m).take i) := by
    rw [← List.map_take]
    exact rd_blank bw (rd_rows fun w hw => wd w (List.mem_of_mem_take hw))
  have gi : GoodFrom [] ((wsOf m).take i) := (GoodFrom.cut (s := (wsOf m).drop i) (by rw [List.take_append_drop]; exact g)).1
  have A : ∀ x ∈ List.take i ((wsOf m).map rowT) ++ List.replicate k bl, 10 ∉ x.cps.toList ∧ x.length ≤ 40 := fun x hx => by
    rcases List.mem_append.mp hx with hx | hx
    · exact w10 x (List.mem_of_mem_take hx)
    · rw [List.eq_of_mem_replicate hx]
      exact ⟨bl10, bl40⟩
  have Al : (List.take i ((wsOf m).map rowT) ++ List.replicate k bl).length ≤ 120 := by rw [List.length_append, List.length_take, List.length_replicate]; omega
  have C : ∀ x ∈ List.drop i ((wsOf m).map rowT), 10 ∉ x.cps.toList ∧ x.length ≤ 40 := fun x hx => w10 x (List.mem_of_mem_drop hx)
  have Cl : (List.drop i ((wsOf m).map rowT)).length ≤ 120 := by rw [List.length_drop]; omega
  generalize List.take i ((wsOf m).map rowT) ++ List.replicate k bl = X at R A Al
  generalize List.drop i ((wsOf m).map rowT) = Z at C Cl
  have pl := cutL_len ([("gate" : Str), ("x" : Str)]) none (some ((r / (13 : Int)) % (3 : Int)))
  have pm : ∀ x ∈ cutL ([("gate" : Str), ("x" : Str)]) none (some ((r / (13 : Int)) % (3 : Int))), 10 ∉ x.cps.toList ∧ x.length ≤ 40 := fun x hx => by
    have := cutm hx
    simp only [List.mem_cons, List.not_mem_nil, or_false] at this
    rcases this with rfl | rfl
    · exact ⟨n3, by omega⟩
    · exact ⟨n2, by omega⟩
  generalize cutL ([("gate" : Str), ("x" : Str)]) none (some ((r / (13 : Int)) % (3 : Int))) = Y at pl pm
  have pl : Y.length ≤ 2 := pl
  have eX : X ++ [oddR od a b] ++ Z ++ Y = X ++ oddR od a b :: (Z ++ Y) := by rw [List.append_assoc, List.append_assoc]; rfl
  have B : ∀ x ∈ X ++ oddR od a b :: (Z ++ Y), 10 ∉ x.cps.toList ∧ x.length ≤ 40 := fun x hx => by
    rcases List.mem_append.mp hx with hx | hx
    · exact A x hx
    · rcases List.mem_cons.mp hx with rfl | hx
      · exact ⟨o4, o5⟩
      · rcases List.mem_append.mp hx with hx | hx
        · exact C x hx
        · exact pm x hx
  have Bl : (X ++ oddR od a b :: (Z ++ Y)).length ≤ 300 := by rw [List.length_append, List.length_cons, List.length_append]; omega
  have Bs := sumc fun x hx => (B x hx).2
  refine Ok.ck (by show _ + 1 ≤ _; omega) (Ok.ck (by rw [List.length_append]; show _ + 1 + _ ≤ _; omega) (Ok.lt (Ok.ck (by rw [List.length_append, List.length_append]; show _ + 1 + _ + _ ≤ _; omega) ?_)))
  have sp2 : ∀ (n : Int), shp ((n, ("row" : Str)) : Int × Str) = true := fun n => (Sd.mono (Sd.pair (Sd.int n) (Sd.str n7)) (by decide)).shp
  rw [eX]
  refine Ok.ck (by rw [n1]; omega) (Ok.is (fault_row R gi o1 o2 o3 (fun x hx => (B x hx).1) (fun x hx => (B x hx).2) (by omega)) (Ok.ck ⟨sp2 _, sp2 _⟩ ?_))
  rw [if_neg (by rw [decide_eq_true rfl]; decide)]
  exact Ok.ret ⟨(), rfl, trivial⟩
end G

namespace G
open PySem L2 Pv
def top (i : Nat) : Stmt := PySem.Challenge.pw_everguard_k03_rows_of_no_form.main.body.getD i (.Pass ⟨0, 0, 0, 0⟩)
structure Tx [Cs] (w : World) (K : PySem.W.Frag) (mg : Str → Option Value) : Prop where
  cls_Machine : Cls K Cs.c_Machine
  na_Machine_switches : NoAttr K Cs.c_Machine "switches"
  na_Machine_keepers : NoAttr K Cs.c_Machine "keepers"
  na_Machine_gates : NoAttr K Cs.c_Machine "gates"
  na_Machine_nexts : NoAttr K Cs.c_Machine "nexts"
  na_Machine_nevers : NoAttr K Cs.c_Machine "nevers"
  na_Machine_somes : NoAttr K Cs.c_Machine "somes"
  cls_Draft : Cls K Cs.c_Draft
  na_Draft_switches : NoAttr K Cs.c_Draft "switches"
  na_Draft_keepers : NoAttr K Cs.c_Draft "keepers"
  na_Draft_gates : NoAttr K Cs.c_Draft "gates"
  na_Draft_nexts : NoAttr K Cs.c_Draft "nexts"
  na_Draft_nevers : NoAttr K Cs.c_Draft "nevers"
  na_Draft_somes : NoAttr K Cs.c_Draft "somes"
  na_Draft_names : NoAttr K Cs.c_Draft "names"
  b_all : mg "all" = none
  b_dict : mg "dict" = none
  b_enumerate : mg "enumerate" = none
  b_len : mg "len" = none
  b_list : mg "list" = none
  b_range : mg "range" = none
  g_LETTERS : ∃ u, mg "LETTERS" = some u ∧ RelV (.str ("abcdefghijklmnopqrstuvwxyz" : Str)) u
  g_MOST_GATES : ∃ u, mg "MOST_GATES" = some u ∧ RelV (.int 60) u
  g_MOST_KEEPERS : ∃ u, mg "MOST_KEEPERS" = some u ∧ RelV (.int 16) u
  g_MOST_SWITCHES : ∃ u, mg "MOST_SWITCHES" = some u ∧ RelV (.int 12) u
  g_MOST_WISHES : ∃ u, mg "MOST_WISHES" = some u ∧ RelV (.int 8) u
  gk_FIRSTS : ∃ u, mg "FIRSTS" = some u ∧ RelV (.ref Cs.k_FIRSTS) u
  kd_FIRSTS : KDc K w Cs.k_FIRSTS G_FIRSTS
section
variable {P : Program} {w : World} {K : PySem.W.Frag} {mg : Str → Option Value} {base : Heap}

def sp_cell_at [Cs] (K : PySem.W.Frag) : Sp := fun vs H Q _ => ∃ (B : Hp) (v_script : V) (x_script : Scr) (x_k : Int) (r : Int), vs = [v_script, V.int x_k] ∧ Ws [] B H B H [] ∧ RC K B v_script x_script ∧ m_cell_at x_script x_k = some r ∧ ∀ w B' H', Ws [] B H B' H' [] → Rp.R B' w r → Q w H'
abbrev s_cell_at : Stmt := top 29
theorem sc_cell_at : FnScope ["_law_script", "_law_k"] ["_law_script", "_law_k"] (C8.fnScope s_cell_at) := C8.fnScope_by (by decide +kernel)
theorem ok_cell_at [Cs] (T : Tx w K mg) {f : Addr} {fd : FuncData} (F : C8.Def K mg "_law_cell_at" s_cell_at f fd) (b : Binds K fd ["_law_script", "_law_k"] []) : C8.Cal P w K mg base 1 "_law_cell_at" (sp_cell_at K) [] := by
  refine C8.cal0 F b .nil sc_cell_at (fun vs H Q E h => ?_) (fun cdv A outer s H vs Q E hr h => ?_)
  · obtain ⟨B, v_script, x_script, x_k, r, rfl, _⟩ := h
    rfl
  obtain ⟨B, v_script, x_script, x_k, r, rfl, W, r_script, h, k⟩ := h
  refine ⟨_, (pss_cons (ps_if (pt_cmpR op_lt (pv 1) (pe_callB (k_len (K := K)) (by rfl) T.b_len (by decide +kernel) (pa_cons (pv 0) pa_nil)) (nomark _)) (pss_one (ps_ret (pe_ix (k_ixL (K := K)) (pv 0) (pv 1) (fun _ _ => rfl)))) pss_nil) (pss_one (ps_ret pe_int))), ?_⟩
  refine st_ (σ' := [some v_script, some (V.int x_k)]) rfl ?_
  unfold m_cell_at at h
  refine seq_ ?_
  refine if_ (fun v' H' => v' = (decide (x_k < (x_script.l.length : Int))) ∧ H = H') (fun Q1 kk2 => ?_) (fun Hq hw => ?_) (fun Hq hw => ?_)
  · refine tst_ ?_
    refine op_ ?_
    refine var_ rfl ?_
    refine cb_ ?_
    refine tcons_ ?_
    refine var_ rfl ?_
    refine tnil_ ?_
    refine lenC_ W r_script ?_
    refine i0_ ?_
    refine ⟨_, rfl, ?_⟩
    exact kk2 _ _ ⟨rfl, rfl⟩
  · obtain ⟨c3, rfl⟩ := hw
    have c3 := c3.symm
    have h := opT c3 h
    obtain ⟨x4, ex4, h⟩ := bs h
    refine ret_ ?_
    refine op_ ?_
    refine var_ rfl ?_
    refine var_ rfl ?_
    refine ixC_ W r_script ex4 ?_
    rw [← Option.some.inj h] at k
    have W' : Ws [] B H B H [] := W
    exact k (V.int x4) B H W' rfl
  · obtain ⟨c3, rfl⟩ := hw
    have c3 := c3.symm
    have h := opF c3 h
    refine next_ ?_
    refine nx_ ?_
    refine ret_ ?_
    refine cst_ ?_
    rw [← Option.some.inj h] at k
    have W' : Ws [] B H B H [] := W
    exact k (V.int (0 : Int)) B H W' rfl

def sp_mix [Cs] (K : PySem.W.Frag) : Sp := fun vs H Q _ => ∃ (B : Hp) (x_cell : Int) (x_k : Int) (r : Int), vs = [V.int x_cell, V.int x_k] ∧ Ws [] B H B H [] ∧ m_mix x_cell x_k = some r ∧ ∀ w B' H', Ws [] B H B' H' [] → Rp.R B' w r → Q w H'
abbrev s_mix : Stmt := top 30
theorem sc_mix : FnScope ["_law_cell", "_law_k", "_law_m"] ["_law_cell", "_law_k"] (C8.fnScope s_mix) := C8.fnScope_by (by decide +kernel)
theorem ok_mix [Cs] (T : Tx w K mg) {f : Addr} {fd : FuncData} (F : C8.Def K mg "_law_mix" s_mix f fd) (b : Binds K fd ["_law_cell", "_law_k"] []) : C8.Cal P w K mg base 1 "_law_mix" (sp_mix K) [] := by
  refine C8.cal0 F b .nil sc_mix (fun vs H Q E h => ?_) (fun cdv A outer s H vs Q E hr h => ?_)
  · obtain ⟨B, x_cell, x_k, r, rfl, _⟩ := h
    rfl
  obtain ⟨B, x_cell, x_k, r, rfl, W, h, k⟩ := h
  refine ⟨_, (pss_cons (ps_set (i := 2) sc_mix.nd rfl (Or.inl rfl) (pe_op op_mod (pe_op op_mul (pe_op op_add (pe_op op_add (pe_op op_mod (pv 0) pe_int) (pe_op op_mul (pe_op op_mul (pv 1) (pv 1)) pe_int)) pe_int) pe_int) pe_int)) (pss_one (ps_ret (pe_op op_mod (pe_op op_mul (pv 2) (pv 2)) pe_int)))), ?_⟩
  refine st_ (σ' := [some (V.int x_cell), some (V.int x_k), none]) rfl ?_
  unfold m_mix at h
  obtain ⟨q1, h⟩ := cks h
  obtain ⟨x2, ex2, h⟩ := bs h
  refine seq_ ?_
  refine asg_ ?_
  refine op_ ?_
  refine op_ ?_
  refine op_ ?_
  refine op_ ?_
  refine op_ ?_
  refine var_ rfl ?_
  refine cst_ ?_
  refine iC_ (by show (0 : Int) < 2147483629; decide) ?_
  refine op_ ?_
  refine op_ ?_
  refine var_ rfl ?_
  refine var_ rfl ?_
  refine iC_ q1 ?_
  refine cst_ ?_
  refine iC_ (.inr ⟨by decide, by decide⟩) ?_
  refine i0_ ?_
  refine cst_ ?_
  refine i0_ ?_
  refine cst_ ?_
  refine iC_ (.inr ⟨by decide, by decide⟩) ?_
  refine cst_ ?_
  refine iC_ (by show (0 : Int) < 2147483647; decide) ?_
  refine gas_ (V.int x2) (congrArg V.int (Option.some.inj ex2)) (σ' := [some (V.int x_cell), some (V.int x_k), some (V.int x2)]) rfl ?_
  refine nx_ ?_
  obtain ⟨q3, h⟩ := cks h
  refine ret_ ?_
  refine op_ ?_
  refine op_ ?_
  refine var_ rfl ?_
  refine var_ rfl ?_
  refine iC_ q3 ?_
  refine cst_ ?_
  refine iC_ (by show (0 : Int) < 1999999973; decide) ?_
  rw [← Option.some.inj h] at k
  have W' : Ws [] B H B H [] := W
  exact k (V.int ((x2 * x2) % (1999999973 : Int))) B H W' rfl

def sp_rich [Cs] (K : PySem.W.Frag) : Sp := fun vs H Q _ => ∃ (B : Hp) (x_cell : Int) (x_k : Int) (r : Int), vs = [V.int x_cell, V.int x_k] ∧ Ws [] B H B H [] ∧ m_rich x_cell x_k = some r ∧ ∀ w B' H', Ws [] B H B' H' [] → Rp.R B' w r → Q w H'
abbrev s_rich : Stmt := top 31
theorem sc_rich : FnScope ["_law_cell", "_law_k", "_law_number", "_law_j"] ["_law_cell", "_law_k"] (C8.fnScope s_rich) := C8.fnScope_by (by decide +kernel)
theorem ok_rich [Cs] (T : Tx w K mg) (c_mix : C8.Cal P w K mg base 1 "_law_mix" (sp_mix K) []) {f : Addr} {fd : FuncData} (F : C8.Def K mg "_law_rich" s_rich f fd) (b : Binds K fd ["_law_cell", "_law_k"] []) : C8.Cal P w K mg base 2 "_law_rich" (sp_rich K) [] := by
  refine C8.cal0 F b .nil sc_rich (fun vs H Q E h => ?_) (fun cdv A outer s H vs Q E hr h => ?_)
  · obtain ⟨B, x_cell, x_k, r, rfl, _⟩ := h
    rfl
  obtain ⟨B, x_cell, x_k, r, rfl, W, h, k⟩ := h
  refine ⟨_, (pss_cons (ps_set (i := 2) sc_rich.nd rfl (Or.inl rfl) pe_int) (pss_cons (ps_for PassesOwn.never rfl (pi_range1 (by rfl) T.b_range (pa_cons pe_int pa_nil)) (pg_name (i := 3) sc_rich.nd rfl (Or.inl rfl)) (pss_one (ps_set (i := 2) sc_rich.nd rfl (Or.inl rfl) (pe_op op_add (pe_op op_mul (pv 2) pe_int) (C8.pe_c c_mix hr (by omega) (by rfl) (pa_cons (pv 0) (pa_cons (pe_op op_add (pe_op op_mul pe_int (pv 1)) (pv 3)) pa_nil))))))) (pss_one (ps_ret (pv 2))))), ?_⟩
  refine st_ (σ' := [some (V.int x_cell), some (V.int x_k), none, none]) rfl ?_
  unfold m_rich at h
  refine seq_ ?_
  refine asg_ ?_
  refine cst_ ?_
  refine gset_ (σ' := [some (V.int x_cell), some (V.int x_k), some (V.int (0 : Int)), none]) rfl ?_
  refine nx_ ?_
  obtain ⟨fin25, hx27, h⟩ := bs h
  refine seq_ ?_
  refine for_ ?_
  refine irng1_ ?_
  refine tcons_ ?_
  refine cst_ ?_
  refine tnil_ ?_
  refine itR1 W (by decide) fun tw1 => ?_
  refine for_n W tw1 _ hx27 (fun s σ O B => ∃ (u0' : Option V), σ = [some (V.int x_cell), some (V.int x_k), some (V.int s), u0'] ∧ O = []) (by rintro _ _ _ _ _ m' ⟨e0', a', b'⟩; exact ⟨e0', a', b'⟩) ⟨none, rfl, rfl⟩ (fun s2 x4 c30 v5 σ' O8 B6 H7 l10 W9 i' r11 hs12 => ?_) ?_
  · obtain ⟨u3, rfl, rfl⟩ := i'
    have W9 : Ws [] B H B6 H7 [] := W9
    obtain rfl : v5 = V.int x4 := r11
    refine gset_ (σ' := [some (V.int x_cell), some (V.int x_k), some (V.int s2), some (V.int x4)]) rfl ?_
    obtain ⟨r16, er16, hs12⟩ := bs hs12
    obtain ⟨x24, ex24, hs12⟩ := bs hs12
    refine asg_ ?_
    refine op_ ?_
    refine op_ ?_
    refine var_ rfl ?_
    refine cst_ ?_
    refine iC_ (.inr ⟨by decide, by decide⟩) ?_
    refine call_ ?_
    refine tcons_ ?_
    refine var_ rfl ?_
    refine tcons_ ?_
    refine op_ ?_
    refine op_ ?_
    refine cst_ ?_
    refine var_ rfl ?_
    refine iC_ (.inl ⟨by decide, by decide⟩) ?_
    refine var_ rfl ?_
    refine i0_ ?_
    refine tnil_ ?_
    have L15 := Ws.ln (O1 := []) (O := []) (O2 := []) W9
    refine ⟨B6, x_cell, (((20 : Int) * x_k) + x4), r16, rfl, Ln.call (O1 := []) (O := []) (O2 := []) L15 W9, er16, fun v17 B18 H19 V20 q21 => ?_⟩
    have W22 := Ws.back (O1 := []) (O := []) (O2 := []) W9 (O' := []) V20
    have l23 := (Ws.bb V20)
    have W22 : Ws [] B H B18 H19 [] := W22
    obtain rfl : v17 = V.int r16 := q21
    refine i0_ ?_
    refine gas_ (V.int x24) (congrArg V.int (Option.some.inj ex24)) (σ' := [some (V.int x_cell), some (V.int x_k), some (V.int x24), some (V.int x4)]) rfl ?_
    refine nx_ ?_
    rw [← Option.some.inj hs12]
    exact ⟨_, B18, (l10.tr l23), W22, ⟨(some (V.int x4)), rfl, rfl⟩⟩
  rintro σ' O35 B31 H32 l34 W33 ⟨u36, rfl, rfl⟩
  refine nx_ ?_
  refine ret_ ?_
  refine var_ rfl ?_
  rw [← Option.some.inj h] at k
  have W33' : Ws [] B H B31 H32 [] := W33
  exact k (V.int fin25) B31 H32 W33' rfl

def sp_pick [Cs] (K : PySem.W.Frag) : Sp := fun vs H Q _ => ∃ (B : Hp) (a_left : Addr) (l_left : List V) (x_left : List Int) (x_many : Int) (r : Int × (List Int)), vs = [V.ref a_left, V.int x_many] ∧ Ws [a_left] B H B H [(a_left, .lst l_left)] ∧ Ow B l_left x_left ∧ m_pick x_left x_many = some r ∧ ∀ w B' H' l_left', Ws [a_left] B H B' H' [(a_left, .lst l_left')] → Rp.R B' w r.1 → Ow B' l_left' r.2 → Q w H'
abbrev s_pick : Stmt := top 32
theorem sc_pick : FnScope ["_law_left", "_law_many", "_law_digit"] ["_law_left", "_law_many"] (C8.fnScope s_pick) := C8.fnScope_by (by decide +kernel)
theorem ok_pick [Cs] (T : Tx w K mg) {f : Addr} {fd : FuncData} (F : C8.Def K mg "_law_pick" s_pick f fd) (b : Binds K fd ["_law_left", "_law_many"] []) : C8.Cal P w K mg base 1 "_law_pick" (sp_pick K) [] := by
  refine C8.cal0 F b .nil sc_pick (fun vs H Q E h => ?_) (fun cdv A outer s H vs Q E hr h => ?_)
  · obtain ⟨B, a_left, l_left, x_left, x_many, r, rfl, _⟩ := h
    rfl
  obtain ⟨B, a_left, l_left, x_left, x_many, r, rfl, W, o_left, h, k⟩ := h
  refine ⟨_, (C8.pss_cut (ps_if (PW.pt (pw_and (pt_cmpR (k_in (K := K)) (pe_ix (k_ixL (K := K)) (pv 0) pe_int (fun _ _ => rfl)) (pe_tup (pa_cons pe_int (pa_cons (pe_un un_neg pe_int) pa_nil))) (by rfl)) (pw_and1 (pt_cmpR op_gt (pe_callB (k_len (K := K)) (by rfl) T.b_len (by decide +kernel) (pa_cons (pv 0) pa_nil)) pe_int (nomark _))))) (pss_one (ps_asg (k_bm0 (K := K) PySem.F.plainAttrs_list PySem.F.slot_list_pop PySem.F.type_list_pop mt_pop (pv 0)) (pg_sub (pv 0) pe_int set_list))) pss_nil) (pss_cons (ps_set (i := 2) sc_pick.nd rfl (Or.inl rfl) (pe_op op_mod (pe_ix (k_ixL (K := K)) (pv 0) pe_int (fun _ _ => rfl)) (pv 1))) (pss_cons (ps_asg (pe_op op_fdiv (pe_ix (k_ixL (K := K)) (pv 0) pe_int (fun _ _ => rfl)) (pv 1)) (pg_sub (pv 0) pe_int set_list)) (pss_one (ps_ret (pv 2)))))), ?_⟩
  refine st_ (σ' := [some (V.ref a_left), some (V.int x_many), none]) rfl ?_
  unfold m_pick at h
  obtain ⟨x3, ex3, h⟩ := bs h
  obtain ⟨j18, hj19, h⟩ := bs h
  refine cut_ (fun σ' H' => ∃ (B' : Hp) (l0' : List V), σ' = [some (V.ref a_left), some (V.int x_many), none] ∧ Le B B' ∧ Ws [a_left] B H B' H' [(a_left, .lst l0')] ∧ Ow B' l0' j18) ?_ ?_
  · refine if_ (fun v' H' => ∃ B', v' = (((decide (x3 ∈ (TV.mk [(0 : Int), (-(1 : Int))] : TV Int).l)) && (decide ((1 : Int) < (x_left.length : Int))))) ∧ Le B B' ∧ Ws [a_left] B H B' H' [(a_left, .lst l_left)]) (fun Q1 kk2 => ?_) (fun H15 hw => ?_) (fun H15 hw => ?_)
    · refine tand_ ?_
      refine tst_ ?_
      refine op_ ?_
      refine op_ ?_
      refine var_ rfl ?_
      refine cst_ ?_
      refine oIx W 0 rfl o_left ex3 fun v4 r5 => ?_
      obtain rfl : v4 = V.int x3 := r5
      refine tup_ ?_
      refine tcons_ ?_
      refine cst_ ?_
      refine tcons_ ?_
      refine un_ ?_
      refine cst_ ?_
      refine iU_ ?_
      refine tnil_ ?_
      refine mkV W (.cons (show Rp.R B (V.int (0 : Int)) ((0 : Int) : Int) from rfl) (.cons (show Rp.R B (V.int (-(1 : Int))) ((-(1 : Int)) : Int) from rfl) .nil)) (by show 2 ≤ sizeLine; decide) fun v6 B7 H8 W9 l10 r11 => ?_
      refine inIV_ W9 r11 ?_
      refine ⟨_, rfl, ?_⟩
      refine br_ (fun c12 => ?_) (fun c12 => ?_)
      · refine tst_ ?_
        refine op_ ?_
        refine cb_ ?_
        refine tcons_ ?_
        refine var_ rfl ?_
        refine tnil_ ?_
        refine oLen W9 0 rfl (Ow.mono l10 o_left) ?_
        refine cst_ ?_
        refine i0_ ?_
        refine ⟨_, rfl, ?_⟩
        exact kk2 _ _ ⟨B7, (andT c12), l10, W9⟩
      · exact kk2 _ _ ⟨B7, (andF c12), l10, W9⟩
    · obtain ⟨B14, c20, l17, W16⟩ := hw
      have c20 := c20.symm
      have hj19 := opT c20 hj19
      obtain ⟨x21, ex21, hj19⟩ := bs hj19
      obtain ⟨x28, ex28, hj19⟩ := bs hj19
      refine asg_ ?_
      refine bm0_ ?_
      refine var_ rfl ?_
      refine tyL_ W16 0 rfl ?_
      refine oPop W16 0 rfl (Ow.mono l17 o_left) ex21 fun v22 H23 l24 W25 r26 o27 => ?_
      have W25 : Ws [a_left] B H B14 H23 [(a_left, .lst l24)] := W25
      obtain rfl : v22 = V.int x21 := r26
      refine gsub_ ?_
      refine var_ rfl ?_
      refine cst_ ?_
      refine oSet W25 0 rfl o27 (show Rp.R B14 (V.int x21) (x21 : Int) from rfl) ex28 fun H29 l30 W31 o32 => ?_
      have W31 : Ws [a_left] B H B14 H29 [(a_left, .lst l30)] := W31
      refine nx_ ?_
      rw [← Option.some.inj hj19]; exact ⟨B14, l30, rfl, l17, W31, o32⟩
    · obtain ⟨B14, c20, l17, W16⟩ := hw
      have c20 := c20.symm
      have hj19 := opF c20 hj19
      refine next_ ?_
      refine nx_ ?_
      rw [← Option.some.inj hj19]; exact ⟨B14, l_left, rfl, l17, W16, (Ow.mono l17 o_left)⟩
  rintro _ H34 ⟨B33, l37, rfl, l36, W35, o38⟩
  obtain ⟨x39, ex39, h⟩ := bs h
  obtain ⟨q42, h⟩ := cks h
  obtain ⟨x43, ex43, h⟩ := bs h
  refine seq_ ?_
  refine asg_ ?_
  refine op_ ?_
  refine op_ ?_
  refine var_ rfl ?_
  refine cst_ ?_
  refine oIx W35 0 rfl o38 ex39 fun v40 r41 => ?_
  obtain rfl : v40 = V.int x39 := r41
  refine var_ rfl ?_
  refine iC_ q42 ?_
  refine gas_ (V.int x43) (congrArg V.int (Option.some.inj ex43)) (σ' := [some (V.ref a_left), some (V.int x_many), some (V.int x43)]) rfl ?_
  refine nx_ ?_
  obtain ⟨x44, ex44, h⟩ := bs h
  obtain ⟨q47, h⟩ := cks h
  obtain ⟨x48, ex48, h⟩ := bs h
  refine seq_ ?_
  refine asg_ ?_
  refine op_ ?_
  refine op_ ?_
  refine var_ rfl ?_
  refine cst_ ?_
  refine oIx W35 0 rfl o38 ex44 fun v45 r46 => ?_
  obtain rfl : v45 = V.int x44 := r46
  refine var_ rfl ?_
  refine iC_ q47 ?_
  refine gsub_ ?_
  refine var_ rfl ?_
  refine cst_ ?_
  refine oSet W35 0 rfl o38 (show Rp.R B33 (V.int (x44 / x_many)) ((x44 / x_many) : Int) from rfl) ex48 fun H49 l50 W51 o52 => ?_
  have W51 : Ws [a_left] B H B33 H49 [(a_left, .lst l50)] := W51
  refine nx_ ?_
  refine ret_ ?_
  refine var_ rfl ?_
  rw [← Option.some.inj h] at k
  have W51' : Ws [a_left] B H B33 H49 [(a_left, .lst l50)] := W51
  exact k (V.int x43) B33 H49 l50 W51' rfl o52

def sp_spelt [Cs] (K : PySem.W.Frag) : Sp := fun vs H Q _ => ∃ (B : Hp) (a_left : Addr) (l_left : List V) (x_left : List Int) (v_told : V) (x_told : List Str) (r : Str × (List Int)), vs = [V.ref a_left, v_told] ∧ Ws [a_left] B H B H [(a_left, .lst l_left)] ∧ Ow B l_left x_left ∧ Rp.R B v_told x_told ∧ m_spelt x_left x_told = some r ∧ ∀ w B' H' l_left', Ws [a_left] B H B' H' [(a_left, .lst l_left')] → Rp.R B' w r.1 → Ow B' l_left' r.2 → Q w H'
abbrev s_spelt : Stmt := top 33
theorem sc_spelt : FnScope ["_law_left", "_law_told", "_law_letters", "_law_words", "_law_size", "_law_name", "_law_some", "_law_one", "_law_k"] ["_law_left", "_law_told"] (C8.fnScope s_spelt) := C8.fnScope_by (by decide +kernel)
theorem ok_spelt [Cs] (T : Tx w K mg) (c_pick : C8.Cal P w K mg base 1 "_law_pick" (sp_pick K) []) {f : Addr} {fd : FuncData} (F : C8.Def K mg "_law_spelt" s_spelt f fd) (b : Binds K fd ["_law_left", "_law_told"] []) : C8.Cal P w K mg base 2 "_law_spelt" (sp_spelt K) [] := by
  refine C8.cal0 F b .nil sc_spelt (fun vs H Q E h => ?_) (fun cdv A outer s H vs Q E hr h => ?_)
  · obtain ⟨B, a_left, l_left, x_left, v_told, x_told, r, rfl, _⟩ := h
    rfl
  obtain ⟨B, a_left, l_left, x_left, v_told, x_told, r, rfl, W, o_left, r_told, h, k⟩ := h
  refine ⟨_, (pss_cons (ps_set (i := 2) sc_spelt.nd rfl (Or.inr rfl) pe_str) (pss_cons (ps_set (i := 3) sc_spelt.nd rfl (Or.inl rfl) (pe_m1 PySem.F.slot_str_split PySem.F.type_str_split k_split pe_str pe_str)) (pss_cons (ps_set (i := 4) sc_spelt.nd rfl (Or.inl rfl) (pe_op op_add pe_int (C8.pe_c c_pick hr (by omega) (by rfl) (pa_cons (pv 0) (pa_cons pe_int pa_nil))))) (pss_cons (ps_set (i := 5) sc_spelt.nd rfl (Or.inr rfl) (pe_ix (k_ixL (K := K)) (pv 3) (C8.pe_c c_pick hr (by omega) (by rfl) (pa_cons (pv 0) (pa_cons pe_int pa_nil))) (fun _ _ => rfl))) (C8.pss_cut (ps_if (pt_cmpR op_lt (pv 4) pe_int (nomark _)) (pss_one (ps_set (i := 5) sc_spelt.nd rfl (Or.inr rfl) (pe_m1 PySem.F.slot_str_join PySem.F.type_str_join (k_join (K := K)) pe_str (pe_lc (own := [("_law_k", 8)]) (g := (gName 8)) (tt := tYes) (by rfl) sc_spelt.nd (pi_range1 (by rfl) T.b_range (pa_cons (pv 4) pa_nil)) (blkOk_by (own := [("_law_k", 8)]) (N := ["_law_left", "_law_told", "_law_letters", "_law_words", "_law_size", "_law_name", "_law_some", "_law_one", "_law_k"]) (sc := C8.fnScope s_spelt) (by decide +kernel)) (fun _ _ _ _ _ => (pg_name (i := 8) sc_spelt.nd rfl (Or.inl rfl))) (fun _ _ _ _ _ => pts_nil) (fun _ _ _ _ _ => (pe_ix ix_str (pv 2) (C8.pe_c c_pick hr (by omega) (by rfl) (pa_cons (pv 0) (pa_cons pe_int pa_nil))) (fun _ _ => rfl))))))) pss_nil) (pss_cons (ps_set (i := 6) sc_spelt.nd rfl (Or.inl rfl) (pe_op op_cat (pe_op op_cat (pe_lst (pa_cons (pv 5) pa_nil)) (pe_lc (own := [("_law_one", 7)]) (g := (gName 7)) (tt := tYes) (by rfl) sc_spelt.nd (pi_str (pv 2)) (blkOk_by (own := [("_law_one", 7)]) (N := ["_law_left", "_law_told", "_law_letters", "_law_words", "_law_size", "_law_name", "_law_some", "_law_one", "_law_k"]) (sc := C8.fnScope s_spelt) (by decide +kernel)) (fun _ _ _ _ _ => (pg_name (i := 7) sc_spelt.nd rfl (Or.inl rfl))) (fun _ _ _ _ _ => pts_nil) (fun _ _ _ _ _ => (pe_op k_addS (pe_slice C8.sl_txt (pv 5) po_none (po_some pe_int)) (pv 7))))) (pe_lc (own := [("_law_one", 7)]) (g := (gName 7)) (tt := tYes) (by rfl) sc_spelt.nd (pi_str (pv 2)) (blkOk_by (own := [("_law_one", 7)]) (N := ["_law_left", "_law_told", "_law_letters", "_law_words", "_law_size", "_law_name", "_law_some", "_law_one", "_law_k"]) (sc := C8.fnScope s_spelt) (by decide +kernel)) (fun _ _ _ _ _ => (pg_name (i := 7) sc_spelt.nd rfl (Or.inl rfl))) (fun _ _ _ _ _ => pts_nil) (fun _ _ _ _ _ => (pe_op k_addS (pe_op k_addS (pe_slice C8.sl_txt (pv 5) po_none (po_some pe_int)) (pv 7)) pe_str))))) (pss_cons (ps_set (i := 6) sc_spelt.nd rfl (Or.inl rfl) (pe_op op_cat (pe_op op_cat (pv 6) (pe_lc (own := [("_law_one", 7)]) (g := (gName 7)) (tt := tYes) (by rfl) sc_spelt.nd (pi_str (pv 2)) (blkOk_by (own := [("_law_one", 7)]) (N := ["_law_left", "_law_told", "_law_letters", "_law_words", "_law_size", "_law_name", "_law_some", "_law_one", "_law_k"]) (sc := C8.fnScope s_spelt) (by decide +kernel)) (fun _ _ _ _ _ => (pg_name (i := 7) sc_spelt.nd rfl (Or.inl rfl))) (fun _ _ _ _ _ => pts_nil) (fun _ _ _ _ _ => (pe_op k_addS (pe_op k_addS (pe_slice C8.sl_txt (pv 5) po_none (po_some pe_int)) (pv 7)) pe_str)))) (pe_lc (own := [("_law_one", 7)]) (g := (gName 7)) (tt := tYes) (by rfl) sc_spelt.nd (pi_str (pv 2)) (blkOk_by (own := [("_law_one", 7)]) (N := ["_law_left", "_law_told", "_law_letters", "_law_words", "_law_size", "_law_name", "_law_some", "_law_one", "_law_k"]) (sc := C8.fnScope s_spelt) (by decide +kernel)) (fun _ _ _ _ _ => (pg_name (i := 7) sc_spelt.nd rfl (Or.inl rfl))) (fun _ _ _ _ _ => pts_nil) (fun _ _ _ _ _ => (pe_op k_addS (pe_op k_addS (pe_slice C8.sl_txt (pv 5) po_none (po_some pe_int)) (pv 7)) pe_str))))) (pss_one (ps_ret (pe_ix (k_ixL (K := K)) (pe_lc (own := [("_law_one", 7)]) (g := (gName 7)) (by rfl) sc_spelt.nd (k_pil (K := K) (pv 6)) (blkOk_by (own := [("_law_one", 7)]) (N := ["_law_left", "_law_told", "_law_letters", "_law_words", "_law_size", "_law_name", "_law_some", "_law_one", "_law_k"]) (sc := C8.fnScope s_spelt) (by decide +kernel)) (fun _ _ _ _ _ => (pg_name (i := 7) sc_spelt.nd rfl (Or.inl rfl))) (fun _ _ _ _ _ => (pts_one (pt_cmpR (k_nin (K := K)) (pv 7) (pv 1) (by rfl)))) (fun _ _ _ _ _ => (pv 7))) pe_int (fun _ _ => rfl))))))))))), ?_⟩
  refine st_ (σ' := [some (V.ref a_left), some v_told, none, none, none, none, none, none, none]) rfl ?_
  unfold m_spelt at h
  refine seq_ ?_
  refine asg_ ?_
  refine cst_ ?_
  refine gset_ (σ' := [some (V.ref a_left), some v_told, some (V.str ("abcdefghijklmnopqrstuvwxyz" : Str)), none, none, none, none, none, none]) rfl ?_
  refine nx_ ?_
  obtain ⟨x7, ex7, h⟩ := bs h
  refine seq_ ?_
  refine asg_ ?_
  refine m1_ ?_
  refine cst_ ?_
  refine isS_ ?_
  refine cst_ ?_
  refine split_ (a := ("switch keep gate next never some wall row step piece lasso" : Str)) (b := (" " : Str)) (by decide +kernel) (by decide +kernel) (by decide +kernel) W fun v1 B2 H3 W4 l5 r6 => ?_
  have r8 : Rp.R B2 v1 (x7 : List Str) := Option.some.inj ex7 ▸ r6
  refine gset_ (σ' := [some (V.ref a_left), some v_told, some (V.str ("abcdefghijklmnopqrstuvwxyz" : Str)), some v1, none, none, none, none, none]) rfl ?_
  refine nx_ ?_
  obtain ⟨r10, er10, h⟩ := bs h
  obtain ⟨x20, ex20, h⟩ := bs h
  refine seq_ ?_
  refine asg_ ?_
  refine op_ ?_
  refine cst_ ?_
  refine call_ ?_
  refine tcons_ ?_
  refine var_ rfl ?_
  refine tcons_ ?_
  refine cst_ ?_
  refine tnil_ ?_
  have L9 := Ws.ln (O1 := []) (O := [(a_left, .lst l_left)]) (O2 := []) W4
  refine ⟨B2, a_left, l_left, x_left, (9 : Int), r10, rfl, Ln.call (O1 := []) (O := [(a_left, .lst l_left)]) (O2 := []) L9 W4, (Ow.mono l5 o_left), er10, fun v11 B12 H13 l16 V14 q15 o17 => ?_⟩
  have W18 := Ws.back (O1 := []) (O := [(a_left, .lst l_left)]) (O2 := []) W4 (O' := [(a_left, .lst l16)]) V14
  have l19 := (Ws.bb V14)
  have W18 : Ws [a_left] B H B12 H13 [(a_left, .lst l16)] := W18
  obtain rfl : v11 = V.int r10.1 := q15
  refine i0_ ?_
  refine gas_ (V.int x20) (congrArg V.int (Option.some.inj ex20)) (σ' := [some (V.ref a_left), some v_told, some (V.str ("abcdefghijklmnopqrstuvwxyz" : Str)), some v1, some (V.int x20), none, none, none, none]) rfl ?_
  refine nx_ ?_
  obtain ⟨r22, er22, h⟩ := bs h
  obtain ⟨x32, ex32, h⟩ := bs h
  refine seq_ ?_
  refine asg_ ?_
  refine op_ ?_
  refine var_ rfl ?_
  refine call_ ?_
  refine tcons_ ?_
  refine var_ rfl ?_
  refine tcons_ ?_
  refine cst_ ?_
  refine tnil_ ?_
  have L21 := Ws.ln (O1 := []) (O := [(a_left, .lst l16)]) (O2 := []) W18
  refine ⟨B12, a_left, l16, r10.2, (11 : Int), r22, rfl, Ln.call (O1 := []) (O := [(a_left, .lst l16)]) (O2 := []) L21 W18, o17, er22, fun v23 B24 H25 l28 V26 q27 o29 => ?_⟩
  have W30 := Ws.back (O1 := []) (O := [(a_left, .lst l16)]) (O2 := []) W18 (O' := [(a_left, .lst l28)]) V26
  have l31 := (Ws.bb V26)
  have W30 : Ws [a_left] B H B24 H25 [(a_left, .lst l28)] := W30
  obtain rfl : v23 = V.int r22.1 := q27
  refine ixL_ W30 (Rp.mono (l19.tr l31) r8) ex32 fun v33 r34 => ?_
  obtain rfl : v33 = V.str x32 := r34
  refine gset_ (σ' := [some (V.ref a_left), some v_told, some (V.str ("abcdefghijklmnopqrstuvwxyz" : Str)), some v1, some (V.int x20), some (V.str x32), none, none, none]) rfl ?_
  refine nx_ ?_
  obtain ⟨j37, hj38, h⟩ := bs h
  refine cut_ (fun σ' H' => ∃ (B' : Hp) (l0' : List V), σ' = [some (V.ref a_left), some v_told, some (V.str ("abcdefghijklmnopqrstuvwxyz" : Str)), some v1, some (V.int x20), some (V.str j37.1), none, none, none] ∧ Le B24 B' ∧ Ws [a_left] B H B' H' [(a_left, .lst l0')] ∧ Ow B' l0' j37.2) ?_ ?_
  · refine if_ (fun v' H' => v' = (decide (x20 < (9 : Int))) ∧ H25 = H') (fun Q35 kk36 => ?_) (fun H25q hw => ?_) (fun H25q hw => ?_)
    · refine tst_ ?_
      refine op_ ?_
      refine var_ rfl ?_
      refine cst_ ?_
      refine i0_ ?_
      refine ⟨_, rfl, ?_⟩
      exact kk36 _ _ ⟨rfl, rfl⟩
    · obtain ⟨c39, rfl⟩ := hw
      have c39 := c39.symm
      have hj38 := opT c39 hj38
      obtain ⟨q41, hj38⟩ := cks hj38
      obtain ⟨q70, hj38⟩ := cks hj38
      obtain ⟨x71, ex71, hj38⟩ := bs hj38
      have ex71' : lcs (fun (s53 : (List Int)) (x42 : Int) => bd (m_pick s53 (26 : Int)) fun r59 => bd (sAt ("abcdefghijklmnopqrstuvwxyz" : Str) r59.1) fun x69 => some (r59.2, some x69)) r22.2 (rng 0 (x20 : Int).toNat) = some (x71.1, x71.2) := ex71
      obtain ⟨q85, hj38⟩ := cks hj38
      obtain ⟨x86, ex86, hj38⟩ := bs hj38
      refine asg_ ?_
      refine m1_ ?_
      refine cst_ ?_
      refine isS_ ?_
      refine lc_ ?_
      refine irng1_ ?_
      refine tcons_ ?_
      refine var_ rfl ?_
      refine tnil_ ?_
      refine itR1 W30 q41 fun tw40 => ?_
      refine lc_s W30 tw40 q70 (fun (s53 : (List Int)) (x42 : Int) => bd (m_pick s53 (26 : Int)) fun r59 => bd (sAt ("abcdefghijklmnopqrstuvwxyz" : Str) r59.1) fun x69 => some (r59.2, some x69)) ex71' (fun s O B => ∃ l0', O = [(a_left, .lst l0')] ∧ Ow B l0' s) (by rintro _ _ _ _ l' ⟨m0', e', w0'⟩; exact ⟨m0', e', Ow.mono l' w0'⟩) ⟨l28, rfl, o29⟩ (fun s53 x42 s74 z72 v44 O75 B45 H46 D47 acc48 Nx49 l50 W51 i' r52 hs43 k56 k57 => ?_) ?_
      · obtain ⟨l54, rfl, o55⟩ := i'
        obtain ⟨r59, er59, hs43⟩ := bs hs43
        obtain ⟨x69, ex69, hs43⟩ := bs hs43
        obtain ⟨e1', e2'⟩ := Prod.mk.inj (Option.some.inj hs43)
        subst e1'
        subst e2'
        have W51 : Ws [a_left] B H B45 H46 [(a_left, .lst l54), (D47, .lst acc48)] := W51
        obtain rfl : v44 = V.int x42 := r52
        refine gset_ (σ' := [some (V.ref a_left), some v_told, some (V.str ("abcdefghijklmnopqrstuvwxyz" : Str)), some v1, some (V.int x20), some (V.str x32), none, none, some (V.int x42)]) rfl ?_
        refine ⟨rfl, ?_⟩
        refine yes_ ?_
        refine ifT rfl ?_
        refine op_ ?_
        refine var_ rfl ?_
        refine call_ ?_
        refine tcons_ ?_
        refine var_ rfl ?_
        refine tcons_ ?_
        refine cst_ ?_
        refine tnil_ ?_
        have L58 := Ws.ln (O1 := []) (O := [(a_left, .lst l54)]) (O2 := [(D47, .lst acc48)]) W51
        refine ⟨B45, a_left, l54, s53, (26 : Int), r59, rfl, Ln.call (O1 := []) (O := [(a_left, .lst l54)]) (O2 := [(D47, .lst acc48)]) L58 W51, o55, er59, fun v60 B61 H62 l65 V63 q64 o66 => ?_⟩
        have W67 := Ws.back (O1 := []) (O := [(a_left, .lst l54)]) (O2 := [(D47, .lst acc48)]) W51 (O' := [(a_left, .lst l65)]) V63
        have l68 := (Ws.bb V63)
        have W67 : Ws [a_left] B H B61 H62 [(a_left, .lst l65), (D47, .lst acc48)] := W67
        obtain rfl : v60 = V.int r59.1 := q64
        refine ixS_ ex69 ?_
        exact k56 _ _ _ _ _ rfl l68 (show Ws [a_left] B H B61 H62 ([(a_left, .lst l65)] ++ [(D47, .lst acc48)]) from W67) ⟨l65, rfl, o66⟩ (show Rp.R B61 (V.str x69) (x69 : Str) from rfl)
      rintro v76 O82 B77 H78 l79 W80 ⟨l83, rfl, o84⟩ r81
      refine join_ W80 r81 q85 ?_
      refine gas_ (V.str x86) (congrArg V.str (Option.some.inj ex86)) (σ' := [some (V.ref a_left), some v_told, some (V.str ("abcdefghijklmnopqrstuvwxyz" : Str)), some v1, some (V.int x20), some (V.str x86), none, none, none]) rfl ?_
      refine nx_ ?_
      rw [← Option.some.inj hj38]; exact ⟨B77, l83, rfl, l79, W80, o84⟩
    · obtain ⟨c39, rfl⟩ := hw
      have c39 := c39.symm
      have hj38 := opF c39 hj38
      refine next_ ?_
      refine nx_ ?_
      rw [← Option.some.inj hj38]; exact ⟨B24, l28, rfl, (Le.refl _), W30, o29⟩
  rintro _ H88 ⟨B87, l91, rfl, l90, W89, o92⟩
  obtain ⟨q116, h⟩ := cks h
  obtain ⟨x117, ex117, h⟩ := bs h
  obtain ⟨q125, h⟩ := cks h
  obtain ⟨q150, h⟩ := cks h
  obtain ⟨x151, ex151, h⟩ := bs h
  obtain ⟨q159, h⟩ := cks h
  obtain ⟨x166, ex166, h⟩ := bs h
  refine seq_ ?_
  refine asg_ ?_
  refine op_ ?_
  refine op_ ?_
  refine lst_ ?_
  refine tcons_ ?_
  refine var_ rfl ?_
  refine tnil_ ?_
  refine mkL (xs := ([j37.1] : List Str)) W89 (.cons (show Rp.R B87 (V.str j37.1) (j37.1 : Str) from rfl) .nil) (by show 1 ≤ sizeLine; decide) fun v93 B94 H95 W96 l97 r98 => ?_
  refine lc_ ?_
  refine istr_ ?_
  refine var_ rfl ?_
  refine itS W96 fun tw99 => ?_
  refine lc_o W96 tw99 q116 (fun (x100 : Str) => bd (ck ((j37.1).length ≤ sizeLine)) fun _ => bd (ck (((Txt.slice j37.1 none (some (7 : Int)))).length + (x100).length ≤ sizeLine)) fun _ => some ((Txt.slice j37.1 none (some (7 : Int))) ++ x100)) ex117 (fun x100 z118 v102 B103 H104 D105 acc106 Nx107 l108 W109 r110 hs101 k112 => ?_) ?_
  · obtain ⟨q114, hs101⟩ := cks hs101
    obtain ⟨q115, hs101⟩ := cks hs101
    obtain rfl := Option.some.inj hs101
    obtain rfl : v102 = V.str x100 := r110
    refine gset_ (σ' := [some (V.ref a_left), some v_told, some (V.str ("abcdefghijklmnopqrstuvwxyz" : Str)), some v1, some (V.int x20), some (V.str j37.1), none, some (V.str x100), none]) rfl ?_
    refine ⟨rfl, ?_⟩
    refine op_ ?_
    refine sl_ ?_
    refine var_ rfl ?_
    refine nopart_ ?_
    refine part_ ?_
    refine cst_ ?_
    refine ⟨_, rfl, ?_⟩
    refine slS_ q114 ?_
    refine var_ rfl ?_
    refine addS_ q115 ?_
    exact k112 _ _ _ (Le.refl _) W109 (show Rp.R B103 (V.str ((Txt.slice j37.1 none (some (7 : Int))) ++ x100)) (((Txt.slice j37.1 none (some (7 : Int))) ++ x100) : Str) from rfl)
  intro v119 B120 H121 l122 W123 r124
  refine cat_ W123 (Rp.mono l122 r98) r124 q125 fun v126 B127 H128 W129 l130 r131 => ?_
  refine lc_ ?_
  refine istr_ ?_
  refine var_ rfl ?_
  refine itS W129 fun tw132 => ?_
  refine lc_o W129 tw132 q150 (fun (x133 : Str) => bd (ck ((j37.1).length ≤ sizeLine)) fun _ => bd (ck (((Txt.slice j37.1 none (some (6 : Int)))).length + (x133).length ≤ sizeLine)) fun _ => bd (ck ((((Txt.slice j37.1 none (some (6 : Int))) ++ x133)).length + (("q" : Str)).length ≤ sizeLine)) fun _ => some (((Txt.slice j37.1 none (some (6 : Int))) ++ x133) ++ ("q" : Str))) ex151 (fun x133 z152 v135 B136 H137 D138 acc139 Nx140 l141 W142 r143 hs134 k145 => ?_) ?_
  · obtain ⟨q147, hs134⟩ := cks hs134
    obtain ⟨q148, hs134⟩ := cks hs134
    obtain ⟨q149, hs134⟩ := cks hs134
    obtain rfl := Option.some.inj hs134
    obtain rfl : v135 = V.str x133 := r143
    refine gset_ (σ' := [some (V.ref a_left), some v_told, some (V.str ("abcdefghijklmnopqrstuvwxyz" : Str)), some v1, some (V.int x20), some (V.str j37.1), none, some (V.str x133), none]) rfl ?_
    refine ⟨rfl, ?_⟩
    refine op_ ?_
    refine op_ ?_
    refine sl_ ?_
    refine var_ rfl ?_
    refine nopart_ ?_
    refine part_ ?_
    refine cst_ ?_
    refine ⟨_, rfl, ?_⟩
    refine slS_ q147 ?_
    refine var_ rfl ?_
    refine addS_ q148 ?_
    refine cst_ ?_
    refine addS_ q149 ?_
    exact k145 _ _ _ (Le.refl _) W142 (show Rp.R B136 (V.str (((Txt.slice j37.1 none (some (6 : Int))) ++ x133) ++ ("q" : Str))) ((((Txt.slice j37.1 none (some (6 : Int))) ++ x133) ++ ("q" : Str)) : Str) from rfl)
  intro v153 B154 H155 l156 W157 r158
  refine cat_ W157 (Rp.mono l156 r131) r158 q159 fun v160 B161 H162 W163 l164 r165 => ?_
  have r167 : Rp.R B161 v160 (x166 : List Str) := Option.some.inj ex166 ▸ r165
  refine gset_ (σ' := [some (V.ref a_left), some v_told, some (V.str ("abcdefghijklmnopqrstuvwxyz" : Str)), some v1, some (V.int x20), some (V.str j37.1), some v160, none, none]) rfl ?_
  refine nx_ ?_
  obtain ⟨q186, h⟩ := cks h
  obtain ⟨x187, ex187, h⟩ := bs h
  obtain ⟨q195, h⟩ := cks h
  obtain ⟨q220, h⟩ := cks h
  obtain ⟨x221, ex221, h⟩ := bs h
  obtain ⟨q229, h⟩ := cks h
  obtain ⟨x236, ex236, h⟩ := bs h
  refine seq_ ?_
  refine asg_ ?_
  refine op_ ?_
  refine op_ ?_
  refine var_ rfl ?_
  refine lc_ ?_
  refine istr_ ?_
  refine var_ rfl ?_
  refine itS W163 fun tw168 => ?_
  refine lc_o W163 tw168 q186 (fun (x169 : Str) => bd (ck ((j37.1).length ≤ sizeLine)) fun _ => bd (ck (((Txt.slice j37.1 none (some (6 : Int)))).length + (x169).length ≤ sizeLine)) fun _ => bd (ck ((((Txt.slice j37.1 none (some (6 : Int))) ++ x169)).length + (("z" : Str)).length ≤ sizeLine)) fun _ => some (((Txt.slice j37.1 none (some (6 : Int))) ++ x169) ++ ("z" : Str))) ex187 (fun x169 z188 v171 B172 H173 D174 acc175 Nx176 l177 W178 r179 hs170 k181 => ?_) ?_
  · obtain ⟨q183, hs170⟩ := cks hs170
    obtain ⟨q184, hs170⟩ := cks hs170
    obtain ⟨q185, hs170⟩ := cks hs170
    obtain rfl := Option.some.inj hs170
    obtain rfl : v171 = V.str x169 := r179
    refine gset_ (σ' := [some (V.ref a_left), some v_told, some (V.str ("abcdefghijklmnopqrstuvwxyz" : Str)), some v1, some (V.int x20), some (V.str j37.1), some v160, some (V.str x169), none]) rfl ?_
    refine ⟨rfl, ?_⟩
    refine op_ ?_
    refine op_ ?_
    refine sl_ ?_
    refine var_ rfl ?_
    refine nopart_ ?_
    refine part_ ?_
    refine cst_ ?_
    refine ⟨_, rfl, ?_⟩
    refine slS_ q183 ?_
    refine var_ rfl ?_
    refine addS_ q184 ?_
    refine cst_ ?_
    refine addS_ q185 ?_
    exact k181 _ _ _ (Le.refl _) W178 (show Rp.R B172 (V.str (((Txt.slice j37.1 none (some (6 : Int))) ++ x169) ++ ("z" : Str))) ((((Txt.slice j37.1 none (some (6 : Int))) ++ x169) ++ ("z" : Str)) : Str) from rfl)
  intro v189 B190 H191 l192 W193 r194
  refine cat_ W193 (Rp.mono l192 r167) r194 q195 fun v196 B197 H198 W199 l200 r201 => ?_
  refine lc_ ?_
  refine istr_ ?_
  refine var_ rfl ?_
  refine itS W199 fun tw202 => ?_
  refine lc_o W199 tw202 q220 (fun (x203 : Str) => bd (ck ((j37.1).length ≤ sizeLine)) fun _ => bd (ck (((Txt.slice j37.1 none (some (5 : Int)))).length + (x203).length ≤ sizeLine)) fun _ => bd (ck ((((Txt.slice j37.1 none (some (5 : Int))) ++ x203)).length + (("qz" : Str)).length ≤ sizeLine)) fun _ => some (((Txt.slice j37.1 none (some (5 : Int))) ++ x203) ++ ("qz" : Str))) ex221 (fun x203 z222 v205 B206 H207 D208 acc209 Nx210 l211 W212 r213 hs204 k215 => ?_) ?_
  · obtain ⟨q217, hs204⟩ := cks hs204
    obtain ⟨q218, hs204⟩ := cks hs204
    obtain ⟨q219, hs204⟩ := cks hs204
    obtain rfl := Option.some.inj hs204
    obtain rfl : v205 = V.str x203 := r213
    refine gset_ (σ' := [some (V.ref a_left), some v_told, some (V.str ("abcdefghijklmnopqrstuvwxyz" : Str)), some v1, some (V.int x20), some (V.str j37.1), some v160, some (V.str x203), none]) rfl ?_
    refine ⟨rfl, ?_⟩
    refine op_ ?_
    refine op_ ?_
    refine sl_ ?_
    refine var_ rfl ?_
    refine nopart_ ?_
    refine part_ ?_
    refine cst_ ?_
    refine ⟨_, rfl, ?_⟩
    refine slS_ q217 ?_
    refine var_ rfl ?_
    refine addS_ q218 ?_
    refine cst_ ?_
    refine addS_ q219 ?_
    exact k215 _ _ _ (Le.refl _) W212 (show Rp.R B206 (V.str (((Txt.slice j37.1 none (some (5 : Int))) ++ x203) ++ ("qz" : Str))) ((((Txt.slice j37.1 none (some (5 : Int))) ++ x203) ++ ("qz" : Str)) : Str) from rfl)
  intro v223 B224 H225 l226 W227 r228
  refine cat_ W227 (Rp.mono l226 r201) r228 q229 fun v230 B231 H232 W233 l234 r235 => ?_
  have r237 : Rp.R B231 v230 (x236 : List Str) := Option.some.inj ex236 ▸ r235
  refine gset_ (σ' := [some (V.ref a_left), some v_told, some (V.str ("abcdefghijklmnopqrstuvwxyz" : Str)), some v1, some (V.int x20), some (V.str j37.1), some v230, none, none]) rfl ?_
  refine nx_ ?_
  obtain ⟨q258, h⟩ := cks h
  obtain ⟨x265, ex265, h⟩ := bs h
  refine ret_ ?_
  refine op_ ?_
  refine lc_ ?_
  refine ilist_ ?_
  refine var_ rfl ?_
  refine itL W233 r237 fun a238 tw239 => ?_
  refine lc_fm W233 tw239 q258 (fun (x240 : Str) => (!decide (x240 ∈ x_told))) (fun (x240 : Str) => x240) (fun x240 v242 B243 H244 D245 acc246 Nx247 l248 W249 r250 k252 k253 => ?_) ?_
  · obtain rfl : v242 = V.str x240 := r250
    refine gset_ (σ' := [some (V.ref a_left), some v_told, some (V.str ("abcdefghijklmnopqrstuvwxyz" : Str)), some v1, some (V.int x20), some (V.str j37.1), some v230, some (V.str x240), none]) rfl ?_
    refine ⟨rfl, ?_⟩
    refine tx_ (fun v' H' => v' = ((!decide (x240 ∈ x_told))) ∧ H244 = H') ?_ ?_
    · intro Q254 kk255
      refine tst_ ?_
      refine op_ ?_
      refine var_ rfl ?_
      refine var_ rfl ?_
      refine inS_ W249 (Rp.mono (l5.tr (l19.tr (l31.tr (l90.tr (l97.tr (l122.tr (l130.tr (l156.tr (l164.tr (l192.tr (l200.tr (l226.tr (l234.tr l248))))))))))))) r_told) ?_
      refine ⟨_, rfl, ?_⟩
      exact kk255 _ _ ⟨rfl, rfl⟩
    rintro b' H244q hw
    cases b' with
    | true =>
      refine ifT rfl ?_
      obtain ⟨c257, rfl⟩ := hw
      have c257 := c257.symm
      refine var_ rfl ?_
      exact k252 _ _ _ c257 (Le.refl _) W249 (show Rp.R B243 (V.str x240) (x240 : Str) from rfl)
    | false =>
      refine ifF rfl ?_
      obtain ⟨c257, rfl⟩ := hw
      have c257 := c257.symm
      exact k253 _ _ c257 (Le.refl _) W249
  intro v259 B260 H261 l262 W263 r264
  refine cst_ ?_
  refine ixL_ W263 r264 ex265 fun v266 r267 => ?_
  obtain rfl : v266 = V.str x265 := r267
  rw [← Option.some.inj h] at k
  have W263' : Ws [a_left] B H B260 H261 [(a_left, .lst l91)] := W263
  exact k (V.str x265) B260 H261 l91 W263' rfl (Ow.mono (l97.tr (l122.tr (l130.tr (l156.tr (l164.tr (l192.tr (l200.tr (l226.tr (l234.tr l262))))))))) o92)

def sp_Machine_init [Cs] (K : PySem.W.Frag) : Sp := fun vs H Q _ => ∃ (B : Hp) (a_self : Addr) (d_self : Addr) (v_switches : V) (x_switches : List Str) (v_keepers : V) (x_keepers : Dc Str (Option Int)) (v_gates : V) (x_gates : List (T3 Str Str Str)) (v_nexts : V) (x_nexts : Dc Str Str) (v_nevers : V) (x_nevers : Dc Str Str) (v_somes : V) (x_somes : Dc Str Str) (r : O_Machine), vs = [V.ref a_self, v_switches, v_keepers, v_gates, v_nexts, v_nevers, v_somes] ∧ Ws [d_self, a_self] B H B H [(d_self, .own a_self), (a_self, .ins Cs.c_Machine d_self [])] ∧ Rp.R B v_switches x_switches ∧ Rp.R B v_keepers x_keepers ∧ Rp.R B v_gates x_gates ∧ Rp.R B v_nexts x_nexts ∧ Rp.R B v_nevers x_nevers ∧ Rp.R B v_somes x_somes ∧ m_Machine_init x_switches x_keepers x_gates x_nexts x_nevers x_somes = some r ∧ ∀ B' H' v_self_switches' v_self_keepers' v_self_gates' v_self_nexts' v_self_nevers' v_self_somes', Ws [d_self, a_self] B H B' H' [(d_self, .own a_self), (a_self, .ins Cs.c_Machine d_self [("switches", v_self_switches'), ("keepers", v_self_keepers'), ("gates", v_self_gates'), ("nexts", v_self_nexts'), ("nevers", v_self_nevers'), ("somes", v_self_somes')])] → Rp.R B' v_self_switches' r.switches → Rp.R B' v_self_keepers' r.keepers → Rp.R B' v_self_gates' r.gates → Rp.R B' v_self_nexts' r.nexts → Rp.R B' v_self_nevers' r.nevers → Rp.R B' v_self_somes' r.somes → Q V.non H'
abbrev s_Machine_init : Stmt := (C8.clsBody (top 6)).getD 0 (.Pass ⟨0, 0, 0, 0⟩)
theorem sc_Machine_init : FnScope ["self", "switches", "keepers", "gates", "nexts", "nevers", "somes"] ["self", "switches", "keepers", "gates", "nexts", "nevers", "somes"] (C8.fnScope s_Machine_init) := C8.fnScope_by (by decide +kernel)
theorem ok_Machine_init [Cs] (T : Tx w K mg) {f : Addr} {fd : FuncData} (M : Mk K Cs.c_Machine f) (hm : mg "Machine" = some (.ref Cs.c_Machine)) (F : C8.Fun K "__init__" "Machine.__init__" s_Machine_init f fd) (b : Binds K fd ["self", "switches", "keepers", "gates", "nexts", "nevers", "somes"] []) : C8.Mak P w K mg base 1 "Machine" Cs.c_Machine (sp_Machine_init K) [] := by
  refine C8.mak0 M hm F b .nil sc_Machine_init (fun vs H Q E h => ?_) (fun cdv A outer s H vs Q E hr h => ?_)
  · obtain ⟨B, a_self, d_self, v_switches, x_switches, v_keepers, x_keepers, v_gates, x_gates, v_nexts, x_nexts, v_nevers, x_nevers, v_somes, x_somes, r, rfl, _⟩ := h
    rfl
  obtain ⟨B, a_self, d_self, v_switches, x_switches, v_keepers, x_keepers, v_gates, x_gates, v_nexts, x_nexts, v_nevers, x_nevers, v_somes, x_somes, r, rfl, W, r_switches, r_keepers, r_gates, r_nexts, r_nevers, r_somes, h, k⟩ := h
  refine ⟨_, (pss_cons (k_fst (K := K) (pv 0) (pe_callTy (k_list (K := K)) (by rfl) T.b_list (by decide +kernel) (pa_cons (pv 1) pa_nil))) (pss_cons (k_fst (K := K) (pv 0) (pe_callTy k_dictD (by rfl) T.b_dict (by decide +kernel) (pa_cons (pv 2) pa_nil))) (pss_cons (k_fst (K := K) (pv 0) (pe_callTy (k_list (K := K)) (by rfl) T.b_list (by decide +kernel) (pa_cons (pv 3) pa_nil))) (pss_cons (k_fst (K := K) (pv 0) (pe_callTy k_dictD (by rfl) T.b_dict (by decide +kernel) (pa_cons (pv 4) pa_nil))) (pss_cons (k_fst (K := K) (pv 0) (pe_callTy k_dictD (by rfl) T.b_dict (by decide +kernel) (pa_cons (pv 5) pa_nil))) (pss_one (k_fst (K := K) (pv 0) (pe_callTy k_dictD (by rfl) T.b_dict (by decide +kernel) (pa_cons (pv 6) pa_nil))))))))), ?_⟩
  refine st_ (σ' := [some (V.ref a_self), some v_switches, some v_keepers, some v_gates, some v_nexts, some v_nevers, some v_somes]) rfl ?_
  unfold m_Machine_init at h
  refine seq_ ?_
  refine fst_ ?_
  refine cb_ ?_
  refine tcons_ ?_
  refine var_ rfl ?_
  refine tnil_ ?_
  refine listL_ W r_switches fun v1 B2 H3 W4 l5 r6 => ?_
  refine var_ rfl ?_
  refine fstN (ns := ([] : List Str)) W4 1 rfl T.cls_Machine T.na_Machine_switches rfl (by decide +kernel) (by decide) fun H7 W8 => ?_
  have W8 : Ws [d_self, a_self] B H B2 H7 [(d_self, .own a_self), (a_self, .ins Cs.c_Machine d_self [("switches", v1)])] := W8
  refine nx_ ?_
  refine seq_ ?_
  refine fst_ ?_
  refine cb_ ?_
  refine tcons_ ?_
  refine var_ rfl ?_
  refine tnil_ ?_
  refine copyS W8 (Rp.mono l5 r_keepers) fun a9 H10 l11 n12 W13 o14 => ?_
  have W13 : Ws [d_self, a_self] B H B2 H10 [(d_self, .own a_self), (a_self, .ins Cs.c_Machine d_self [("switches", v1)]), (a9, .dK l11)] := W13
  refine var_ rfl ?_
  refine fzD W13 2 rfl n12 o14 fun B15 W16 l17 r18 => ?_
  have W16 : Ws [d_self, a_self] B H B15 H10 [(d_self, .own a_self), (a_self, .ins Cs.c_Machine d_self [("switches", v1)])] := W16
  refine fstN (ns := (["switches"] : List Str)) W16 1 rfl T.cls_Machine T.na_Machine_keepers rfl (by decide +kernel) (by decide) fun H19 W20 => ?_
  have W20 : Ws [d_self, a_self] B H B15 H19 [(d_self, .own a_self), (a_self, .ins Cs.c_Machine d_self [("switches", v1), ("keepers", (V.ref a9))])] := W20
  refine nx_ ?_
  refine seq_ ?_
  refine fst_ ?_
  refine cb_ ?_
  refine tcons_ ?_
  refine var_ rfl ?_
  refine tnil_ ?_
  refine listL_ W20 (Rp.mono (l5.tr l17) r_gates) fun v21 B22 H23 W24 l25 r26 => ?_
  refine var_ rfl ?_
  refine fstN (ns := (["switches", "keepers"] : List Str)) W24 1 rfl T.cls_Machine T.na_Machine_gates rfl (by decide +kernel) (by decide) fun H27 W28 => ?_
  have W28 : Ws [d_self, a_self] B H B22 H27 [(d_self, .own a_self), (a_self, .ins Cs.c_Machine d_self [("switches", v1), ("keepers", (V.ref a9)), ("gates", v21)])] := W28
  refine nx_ ?_
  refine seq_ ?_
  refine fst_ ?_
  refine cb_ ?_
  refine tcons_ ?_
  refine var_ rfl ?_
  refine tnil_ ?_
  refine copyS W28 (Rp.mono (l5.tr (l17.tr l25)) r_nexts) fun a29 H30 l31 n32 W33 o34 => ?_
  have W33 : Ws [d_self, a_self] B H B22 H30 [(d_self, .own a_self), (a_self, .ins Cs.c_Machine d_self [("switches", v1), ("keepers", (V.ref a9)), ("gates", v21)]), (a29, .dK l31)] := W33
  refine var_ rfl ?_
  refine fzD W33 2 rfl n32 o34 fun B35 W36 l37 r38 => ?_
  have W36 : Ws [d_self, a_self] B H B35 H30 [(d_self, .own a_self), (a_self, .ins Cs.c_Machine d_self [("switches", v1), ("keepers", (V.ref a9)), ("gates", v21)])] := W36
  refine fstN (ns := (["switches", "keepers", "gates"] : List Str)) W36 1 rfl T.cls_Machine T.na_Machine_nexts rfl (by decide +kernel) (by decide) fun H39 W40 => ?_
  have W40 : Ws [d_self, a_self] B H B35 H39 [(d_self, .own a_self), (a_self, .ins Cs.c_Machine d_self [("switches", v1), ("keepers", (V.ref a9)), ("gates", v21), ("nexts", (V.ref a29))])] := W40
  refine nx_ ?_
  refine seq_ ?_
  refine fst_ ?_
  refine cb_ ?_
  refine tcons_ ?_
  refine var_ rfl ?_
  refine tnil_ ?_
  refine copyS W40 (Rp.mono (l5.tr (l17.tr (l25.tr l37))) r_nevers) fun a41 H42 l43 n44 W45 o46 => ?_
  have W45 : Ws [d_self, a_self] B H B35 H42 [(d_self, .own a_self), (a_self, .ins Cs.c_Machine d_self [("switches", v1), ("keepers", (V.ref a9)), ("gates", v21), ("nexts", (V.ref a29))]), (a41, .dK l43)] := W45
  refine var_ rfl ?_
  refine fzD W45 2 rfl n44 o46 fun B47 W48 l49 r50 => ?_
  have W48 : Ws [d_self, a_self] B H B47 H42 [(d_self, .own a_self), (a_self, .ins Cs.c_Machine d_self [("switches", v1), ("keepers", (V.ref a9)), ("gates", v21), ("nexts", (V.ref a29))])] := W48
  refine fstN (ns := (["switches", "keepers", "gates", "nexts"] : List Str)) W48 1 rfl T.cls_Machine T.na_Machine_nevers rfl (by decide +kernel) (by decide) fun H51 W52 => ?_
  have W52 : Ws [d_self, a_self] B H B47 H51 [(d_self, .own a_self), (a_self, .ins Cs.c_Machine d_self [("switches", v1), ("keepers", (V.ref a9)), ("gates", v21), ("nexts", (V.ref a29)), ("nevers", (V.ref a41))])] := W52
  refine nx_ ?_
  refine fst_ ?_
  refine cb_ ?_
  refine tcons_ ?_
  refine var_ rfl ?_
  refine tnil_ ?_
  refine copyS W52 (Rp.mono (l5.tr (l17.tr (l25.tr (l37.tr l49)))) r_somes) fun a53 H54 l55 n56 W57 o58 => ?_
  have W57 : Ws [d_self, a_self] B H B47 H54 [(d_self, .own a_self), (a_self, .ins Cs.c_Machine d_self [("switches", v1), ("keepers", (V.ref a9)), ("gates", v21), ("nexts", (V.ref a29)), ("nevers", (V.ref a41))]), (a53, .dK l55)] := W57
  refine var_ rfl ?_
  refine fzD W57 2 rfl n56 o58 fun B59 W60 l61 r62 => ?_
  have W60 : Ws [d_self, a_self] B H B59 H54 [(d_self, .own a_self), (a_self, .ins Cs.c_Machine d_self [("switches", v1), ("keepers", (V.ref a9)), ("gates", v21), ("nexts", (V.ref a29)), ("nevers", (V.ref a41))])] := W60
  refine fstN (ns := (["switches", "keepers", "gates", "nexts", "nevers"] : List Str)) W60 1 rfl T.cls_Machine T.na_Machine_somes rfl (by decide +kernel) (by decide) fun H63 W64 => ?_
  have W64 : Ws [d_self, a_self] B H B59 H63 [(d_self, .own a_self), (a_self, .ins Cs.c_Machine d_self [("switches", v1), ("keepers", (V.ref a9)), ("gates", v21), ("nexts", (V.ref a29)), ("nevers", (V.ref a41)), ("somes", (V.ref a53))])] := W64
  rw [← Option.some.inj h] at k
  have W64' : Ws [d_self, a_self] B H B59 H63 [(d_self, .own a_self), (a_self, .ins Cs.c_Machine d_self [("switches", v1), ("keepers", (V.ref a9)), ("gates", v21), ("nexts", (V.ref a29)), ("nevers", (V.ref a41)), ("somes", (V.ref a53))])] := W64
  exact k B59 H63 v1 (V.ref a9) v21 (V.ref a29) (V.ref a41) (V.ref a53) W64' (Rp.mono (l17.tr (l25.tr (l37.tr (l49.tr l61)))) r6) (Rp.mono (l25.tr (l37.tr (l49.tr l61))) r18) (Rp.mono (l37.tr (l49.tr l61)) r26) (Rp.mono (l49.tr l61) r38) (Rp.mono l61 r50) r62

def sp_p_plain_name [Cs] (K : PySem.W.Frag) : Sp := fun vs H Q _ => ∃ (B : Hp) (x_literal : Str) (r : Str), vs = [V.str x_literal] ∧ Ws [] B H B H [] ∧ m_p_plain_name x_literal = some r ∧ ∀ w B' H', Ws [] B H B' H' [] → Rp.R B' w r → Q w H'
abbrev s_p_plain_name : Stmt := top 7
theorem sc_p_plain_name : FnScope ["literal"] ["literal"] (C8.fnScope s_p_plain_name) := C8.fnScope_by (by decide +kernel)
theorem ok_p_plain_name [Cs] (T : Tx w K mg) {f : Addr} {fd : FuncData} (F : C8.Def K mg "plain_name" s_p_plain_name f fd) (b : Binds K fd ["literal"] []) : C8.Cal P w K mg base 1 "plain_name" (sp_p_plain_name K) [] := by
  refine C8.cal0 F b .nil sc_p_plain_name (fun vs H Q E h => ?_) (fun cdv A outer s H vs Q E hr h => ?_)
  · obtain ⟨B, x_literal, r, rfl, _⟩ := h
    rfl
  obtain ⟨B, x_literal, r, rfl, W, h, k⟩ := h
  refine ⟨_, (pss_cons (ps_if (pt_val (pe_m1 PySem.F.slot_str_startswith PySem.F.type_str_startswith k_starts (pv 0) pe_str)) (pss_one (ps_ret (pe_slice C8.sl_txt (pv 0) (po_some pe_int) po_none))) pss_nil) (pss_one (ps_ret (pv 0)))), ?_⟩
  refine st_ (σ' := [some (V.str x_literal)]) rfl ?_
  unfold m_p_plain_name at h
  refine seq_ ?_
  refine if_ (fun v' H' => v' = ((Txt.startswith x_literal ("~" : Str))) ∧ H = H') (fun Q1 kk2 => ?_) (fun Hq hw => ?_) (fun Hq hw => ?_)
  · refine tB_ ?_
    refine m1_ ?_
    refine var_ rfl ?_
    refine isS_ ?_
    refine cst_ ?_
    refine starts_ ?_
    refine ⟨_, rfl, ?_⟩
    exact kk2 _ _ ⟨rfl, rfl⟩
  · obtain ⟨c3, rfl⟩ := hw
    have c3 := c3.symm
    have h := opT c3 h
    obtain ⟨q4, h⟩ := cks h
    refine ret_ ?_
    refine sl_ ?_
    refine var_ rfl ?_
    refine part_ ?_
    refine cst_ ?_
    refine ⟨_, rfl, ?_⟩
    refine nopart_ ?_
    refine slS_ q4 ?_
    rw [← Option.some.inj h] at k
    have W' : Ws [] B H B H [] := W
    exact k (V.str (Txt.slice x_literal (some (1 : Int)) none)) B H W' rfl
  · obtain ⟨c3, rfl⟩ := hw
    have c3 := c3.symm
    have h := opF c3 h
    refine next_ ?_
    refine nx_ ?_
    refine ret_ ?_
    refine var_ rfl ?_
    rw [← Option.some.inj h] at k
    have W' : Ws [] B H B H [] := W
    exact k (V.str x_literal) B H W' rfl

def sp_literal [Cs] (K : PySem.W.Frag) : Sp := fun vs H Q _ => ∃ (B : Hp) (a_left : Addr) (l_left : List V) (x_left : List Int) (v_names : V) (x_names : List Str) (r : Str × (List Int)), vs = [V.ref a_left, v_names] ∧ Ws [a_left] B H B H [(a_left, .lst l_left)] ∧ Ow B l_left x_left ∧ Rp.R B v_names x_names ∧ m_literal x_left x_names = some r ∧ ∀ w B' H' l_left', Ws [a_left] B H B' H' [(a_left, .lst l_left')] → Rp.R B' w r.1 → Ow B' l_left' r.2 → Q w H'
abbrev s_literal : Stmt := top 34
theorem sc_literal : FnScope ["_law_left", "_law_names", "_law_spot"] ["_law_left", "_law_names"] (C8.fnScope s_literal) := C8.fnScope_by (by decide +kernel)
theorem ok_literal [Cs] (T : Tx w K mg) (c_pick : C8.Cal P w K mg base 1 "_law_pick" (sp_pick K) []) {f : Addr} {fd : FuncData} (F : C8.Def K mg "_law_literal" s_literal f fd) (b : Binds K fd ["_law_left", "_law_names"] []) : C8.Cal P w K mg base 2 "_law_literal" (sp_literal K) [] := by
  refine C8.cal0 F b .nil sc_literal (fun vs H Q E h => ?_) (fun cdv A outer s H vs Q E hr h => ?_)
  · obtain ⟨B, a_left, l_left, x_left, v_names, x_names, r, rfl, _⟩ := h
    rfl
  obtain ⟨B, a_left, l_left, x_left, v_names, x_names, r, rfl, W, o_left, r_names, h, k⟩ := h
  refine ⟨_, (pss_cons (ps_set (i := 2) sc_literal.nd rfl (Or.inl rfl) (C8.pe_c c_pick hr (by omega) (by rfl) (pa_cons (pv 0) (pa_cons (pe_op op_add (pe_op op_mul pe_int (pe_callB (k_len (K := K)) (by rfl) T.b_len (by decide +kernel) (pa_cons (pv 1) pa_nil))) pe_int) pa_nil)))) (pss_cons (ps_if (pt_cmpR op_gt (pv 2) (pe_op op_sub (pe_op op_mul pe_int (pe_callB (k_len (K := K)) (by rfl) T.b_len (by decide +kernel) (pa_cons (pv 1) pa_nil))) pe_int) (nomark _)) (pss_one (ps_ret (pe_ix ix_str pe_str (pe_op op_mod (pv 2) pe_int) (fun _ _ => rfl)))) pss_nil) (pss_one (ps_ret (pe_op k_addS (pe_ix (k_ixL (K := K)) (pe_lst (pa_cons pe_str (pa_cons pe_str pa_nil))) (pe_op op_mod (pv 2) pe_int) (fun _ _ => rfl)) (pe_ix (k_ixL (K := K)) (pv 1) (pe_op op_fdiv (pv 2) pe_int) (fun _ _ => rfl))))))), ?_⟩
  refine st_ (σ' := [some (V.ref a_left), some v_names, none]) rfl ?_
  unfold m_literal at h
  obtain ⟨r2, er2, h⟩ := bs h
  refine seq_ ?_
  refine asg_ ?_
  refine call_ ?_
  refine tcons_ ?_
  refine var_ rfl ?_
  refine tcons_ ?_
  refine op_ ?_
  refine op_ ?_
  refine cst_ ?_
  refine cb_ ?_
  refine tcons_ ?_
  refine var_ rfl ?_
  refine tnil_ ?_
  refine lenL_ W r_names ?_
  refine iC_ (.inl ⟨by decide, by decide⟩) ?_
  refine cst_ ?_
  refine i0_ ?_
  refine tnil_ ?_
  have L1 := Ws.ln (O1 := []) (O := [(a_left, .lst l_left)]) (O2 := []) W
  refine ⟨B, a_left, l_left, x_left, (((2 : Int) * (x_names.length : Int)) + (2 : Int)), r2, rfl, Ln.call (O1 := []) (O := [(a_left, .lst l_left)]) (O2 := []) L1 W, o_left, er2, fun v3 B4 H5 l8 V6 q7 o9 => ?_⟩
  have W10 := Ws.back (O1 := []) (O := [(a_left, .lst l_left)]) (O2 := []) W (O' := [(a_left, .lst l8)]) V6
  have l11 := (Ws.bb V6)
  have W10 : Ws [a_left] B H B4 H5 [(a_left, .lst l8)] := W10
  obtain rfl : v3 = V.int r2.1 := q7
  refine gset_ (σ' := [some (V.ref a_left), some v_names, some (V.int r2.1)]) rfl ?_
  refine nx_ ?_
  refine seq_ ?_
  refine if_ (fun v' H' => v' = (decide ((((2 : Int) * (x_names.length : Int)) - (1 : Int)) < r2.1)) ∧ H5 = H') (fun Q12 kk13 => ?_) (fun H5q hw => ?_) (fun H5q hw => ?_)
  · refine tst_ ?_
    refine op_ ?_
    refine var_ rfl ?_
    refine op_ ?_
    refine op_ ?_
    refine cst_ ?_
    refine cb_ ?_
    refine tcons_ ?_
    refine var_ rfl ?_
    refine tnil_ ?_
    refine lenL_ W10 (Rp.mono l11 r_names) ?_
    refine iC_ (.inl ⟨by decide, by decide⟩) ?_
    refine cst_ ?_
    refine i0_ ?_
    refine i0_ ?_
    refine ⟨_, rfl, ?_⟩
    exact kk13 _ _ ⟨rfl, rfl⟩
  · obtain ⟨c14, rfl⟩ := hw
    have c14 := c14.symm
    have h := opT c14 h
    obtain ⟨x15, ex15, h⟩ := bs h
    refine ret_ ?_
    refine op_ ?_
    refine cst_ ?_
    refine op_ ?_
    refine var_ rfl ?_
    refine cst_ ?_
    refine iC_ (by show (0 : Int) < 2; decide) ?_
    refine ixS_ ex15 ?_
    rw [← Option.some.inj h] at k
    have W10' : Ws [a_left] B H B4 H5 [(a_left, .lst l8)] := W10
    exact k (V.str x15) B4 H5 l8 W10' rfl o9
  · obtain ⟨c14, rfl⟩ := hw
    have c14 := c14.symm
    have h := opF c14 h
    refine next_ ?_
    refine nx_ ?_
    obtain ⟨x22, ex22, h⟩ := bs h
    obtain ⟨x25, ex25, h⟩ := bs h
    obtain ⟨q28, h⟩ := cks h
    refine ret_ ?_
    refine op_ ?_
    refine op_ ?_
    refine lst_ ?_
    refine tcons_ ?_
    refine cst_ ?_
    refine tcons_ ?_
    refine cst_ ?_
    refine tnil_ ?_
    refine mkL (xs := ([("" : Str), ("~" : Str)] : List Str)) W10 (.cons (show Rp.R B4 (V.str ("" : Str)) (("" : Str) : Str) from rfl) (.cons (show Rp.R B4 (V.str ("~" : Str)) (("~" : Str) : Str) from rfl) .nil)) (by show 2 ≤ sizeLine; decide) fun v16 B17 H18 W19 l20 r21 => ?_
    refine op_ ?_
    refine var_ rfl ?_
    refine cst_ ?_
    refine iC_ (by show (0 : Int) < 2; decide) ?_
    refine ixL_ W19 r21 ex22 fun v23 r24 => ?_
    obtain rfl : v23 = V.str x22 := r24
    refine op_ ?_
    refine var_ rfl ?_
    refine op_ ?_
    refine var_ rfl ?_
    refine cst_ ?_
    refine iC_ ⟨by decide, by decide⟩ ?_
    refine ixL_ W19 (Rp.mono (l11.tr l20) r_names) ex25 fun v26 r27 => ?_
    obtain rfl : v26 = V.str x25 := r27
    refine addS_ q28 ?_
    rw [← Option.some.inj h] at k
    have W19' : Ws [a_left] B H B17 H18 [(a_left, .lst l8)] := W19
    exact k (V.str (x22 ++ x25)) B17 H18 l8 W19' rfl (Ow.mono l20 o9)

def sp_wishes [Cs] (K : PySem.W.Frag) : Sp := fun vs H Q _ => ∃ (B : Hp) (a_left : Addr) (l_left : List V) (x_left : List Int) (v_names : V) (x_names : List Str) (v_told : V) (x_told : List Str) (x_many : Int) (r : (List (Str × Str)) × (List Int)), vs = [V.ref a_left, v_names, v_told, V.int x_many] ∧ Ws [a_left] B H B H [(a_left, .lst l_left)] ∧ Ow B l_left x_left ∧ Rp.R B v_names x_names ∧ Rp.R B v_told x_told ∧ m_wishes x_left x_names x_told x_many = some r ∧ ∀ p B' H' lp l_left', Ws [a_left] B H B' H' [(a_left, .lst l_left'), (p, .lst lp)] → H p = none → Ow B' lp r.1 → Ow B' l_left' r.2 → Q (V.ref p) H'
abbrev s_wishes : Stmt := top 35
theorem sc_wishes : FnScope ["_law_left", "_law_names", "_law_told", "_law_many", "_law_found", "_law_k", "_law_wish", "_law_one"] ["_law_left", "_law_names", "_law_told", "_law_many"] (C8.fnScope s_wishes) := C8.fnScope_by (by decide +kernel)
theorem ok_wishes [Cs] (T : Tx w K mg) (c_spelt : C8.Cal P w K mg base 2 "_law_spelt" (sp_spelt K) []) (c_literal : C8.Cal P w K mg base 2 "_law_literal" (sp_literal K) []) {f : Addr} {fd : FuncData} (F : C8.Def K mg "_law_wishes" s_wishes f fd) (b : Binds K fd ["_law_left", "_law_names", "_law_told", "_law_many"] []) : C8.Cal P w K mg base 3 "_law_wishes" (sp_wishes K) [] := by
  refine C8.cal0 F b .nil sc_wishes (fun vs H Q E h => ?_) (fun cdv A outer s H vs Q E hr h => ?_)
  · obtain ⟨B, a_left, l_left, x_left, v_names, x_names, v_told, x_told, x_many, r, rfl, _⟩ := h
    rfl
  obtain ⟨B, a_left, l_left, x_left, v_names, x_names, v_told, x_told, x_many, r, rfl, W, o_left, r_names, r_told, h, k⟩ := h
  refine ⟨_, (pss_cons (ps_set (i := 4) sc_wishes.nd rfl (Or.inl rfl) (pe_lst pa_nil)) (pss_cons (ps_for PassesOwn.never rfl (pi_range1 (by rfl) T.b_range (pa_cons (pv 3) pa_nil)) (pg_name (i := 5) sc_wishes.nd rfl (Or.inl rfl)) (pss_cons (ps_set (i := 6) sc_wishes.nd rfl (Or.inl rfl) (C8.pe_c c_spelt hr (by omega) (by rfl) (pa_cons (pv 0) (pa_cons (pe_op op_cat (pv 2) (pe_lc (own := [("_law_one", 7)]) (g := (gName 7)) (tt := tYes) (by rfl) sc_wishes.nd (k_pil (K := K) (pv 4)) (blkOk_by (own := [("_law_one", 7)]) (N := ["_law_left", "_law_names", "_law_told", "_law_many", "_law_found", "_law_k", "_law_wish", "_law_one"]) (sc := C8.fnScope s_wishes) (by decide +kernel)) (fun _ _ _ _ _ => (pg_name (i := 7) sc_wishes.nd rfl (Or.inl rfl))) (fun _ _ _ _ _ => pts_nil) (fun _ _ _ _ _ => (pe_ix (k_ixT (K := K)) (pv 7) pe_int (fun _ _ => rfl))))) pa_nil)))) (pss_one (ps_expr (k_bm (K := K) PySem.F.plainAttrs_list PySem.F.slot_list_append PySem.F.type_list_append mt_append (pv 4) (pa_cons (pe_tup (pa_cons (pv 6) (pa_cons (C8.pe_c c_literal hr (by omega) (by rfl) (pa_cons (pv 0) (pa_cons (pv 1) pa_nil))) pa_nil))) pa_nil)))))) (pss_one (ps_ret (pv 4))))), ?_⟩
  refine st_ (σ' := [some (V.ref a_left), some v_names, some v_told, some (V.int x_many), none, none, none, none]) rfl ?_
  unfold m_wishes at h
  obtain ⟨x7, ex7, h⟩ := bs h
  refine seq_ ?_
  refine asg_ ?_
  refine lst_ ?_
  refine tnil_ ?_
  refine oMk (xs := ([] : List (Str × Str))) W .nil (by show 0 ≤ sizeLine; decide) fun a1 H2 l3 n4 W5 o6 => ?_
  have W5 : Ws [a_left] B H B H2 [(a_left, .lst l_left), (a1, .lst l3)] := W5
  have o6' : Ow B l3 x7 := Option.some.inj ex7 ▸ o6
  refine gset_ (σ' := [some (V.ref a_left), some v_names, some v_told, some (V.int x_many), some (V.ref a1), none, none, none]) rfl ?_
  refine nx_ ?_
  obtain ⟨q9, h⟩ := cks h
  obtain ⟨fin111, hx113, h⟩ := bs h
  refine seq_ ?_
  refine for_ ?_
  refine irng1_ ?_
  refine tcons_ ?_
  refine var_ rfl ?_
  refine tnil_ ?_
  refine itR1 W5 q9 fun tw8 => ?_
  refine for_n W5 tw8 _ hx113 (fun s σ O B => ∃ (u0' : Option V) (u1' : Option V) (l0' : List V) (l1' : List V), σ = [some (V.ref a_left), some v_names, some v_told, some (V.int x_many), some (V.ref a1), u0', u1', none] ∧ O = [(a_left, .lst l0'), (a1, .lst l1')] ∧ Ow B l0' s.1 ∧ Ow B l1' s.2) (by rintro _ _ _ _ _ m' ⟨e0', e1', e2', e3', a', b', f0', f1'⟩; exact ⟨e0', e1', e2', e3', a', b', Ow.mono m' f0', Ow.mono m' f1'⟩) ⟨none, none, l_left, l3, rfl, rfl, o_left, o6'⟩ (fun s10 x13 c116 v14 σ' O17 B15 H16 l19 W18 i' r20 hs21 => ?_) ?_
  · obtain ⟨u11, u12, l24, l26, rfl, rfl, o25, o27⟩ := i'
    have W18 : Ws [a_left] B H B15 H16 [(a_left, .lst l24), (a1, .lst l26)] := W18
    obtain rfl : v14 = V.int x13 := r20
    refine gset_ (σ' := [some (V.ref a_left), some v_names, some v_told, some (V.int x_many), some (V.ref a1), some (V.int x13), u12, none]) rfl ?_
    obtain ⟨q52, hs21⟩ := cks hs21
    obtain ⟨q71, hs21⟩ := cks hs21
    obtain ⟨r79, er79, hs21⟩ := bs hs21
    refine seq_ ?_
    refine asg_ ?_
    refine call_ ?_
    refine tcons_ ?_
    refine var_ rfl ?_
    refine tcons_ ?_
    refine op_ ?_
    refine var_ rfl ?_
    refine lc_ ?_
    have L28 := Ws.ln (O1 := []) (O := [(a_left, .lst l24)]) (O2 := [(a1, .lst l26)]) W18
    obtain ⟨B29, L30, l31, r32⟩ := Ln.add (O1 := []) (O := [(a_left, .lst l24)]) (O2 := [(a1, .lst l26)]) L28 W18 0 rfl o27
    have V33 : Ws [a_left] B29 H16 B29 H16 [(a_left, .lst l24)] := Ln.call (O1 := []) (O := [(a_left, .lst l24)]) (O2 := [(a1, .lst l26)]) L30 W18
    refine ilist_ ?_
    refine var_ rfl ?_
    refine itL V33 r32 fun a34 tw35 => ?_
    refine lc_mw V33 tw35 q52 (fun (x36 : Str × Str) => x36.1) (fun x36 v38 B39 H40 D41 acc42 Nx43 l44 W45 r46 k48 => ?_) ?_
    · refine gset_ (σ' := [some (V.ref a_left), some v_names, some v_told, some (V.int x_many), some (V.ref a1), some (V.int x13), u12, some v38]) rfl ?_
      refine ⟨rfl, ?_⟩
      refine op_ ?_
      refine var_ rfl ?_
      refine cst_ ?_
      refine ixP0_ W45 r46 fun v50 r51 => ?_
      obtain rfl : v50 = V.str x36.1 := r51
      exact k48 _ _ _ (Le.refl _) W45 (show Rp.R B39 (V.str x36.1) (x36.1 : Str) from rfl)
    intro a53 l54 B55 H56 n57 l58 W59 o60
    have W59 : Ws [a_left] B29 H16 B55 H56 [(a_left, .lst l24), (a53, .lst l54)] := W59
    obtain ⟨B61, W62, l63, t64⟩ := Ln.backT (O1 := []) (O := [(a_left, .lst l24)]) (O2 := [(a1, .lst l26)]) L30 W18 (O' := [(a_left, .lst l24), (a53, .lst l54)]) W59 rfl
    have o65 : Ow B61 l54 (List.map (fun (x36 : Str × Str) => x36.1) s10.2) := Ow.tp t64 o60
    have n66 := Ws.old W18 n57
    have W62 : Ws [a_left] B H B61 H56 [(a_left, .lst l24), (a53, .lst l54), (a1, .lst l26)] := W62
    refine oFz W62 1 rfl n66 o65 fun B67 W68 l69 r70 => ?_
    have W68 : Ws [a_left] B H B67 H56 [(a_left, .lst l24), (a1, .lst l26)] := W68
    refine cat_ W68 (Rp.mono (l19.tr (l63.tr l69)) r_told) r70 q71 fun v72 B73 H74 W75 l76 r77 => ?_
    refine tnil_ ?_
    have L78 := Ws.ln (O1 := []) (O := [(a_left, .lst l24)]) (O2 := [(a1, .lst l26)]) W75
    refine ⟨B73, a_left, l24, s10.1, v72, (x_told ++ (List.map (fun (x36 : Str × Str) => x36.1) s10.2)), r79, rfl, Ln.call (O1 := []) (O := [(a_left, .lst l24)]) (O2 := [(a1, .lst l26)]) L78 W75, (Ow.mono (l63.tr (l69.tr l76)) o25), r77, er79, fun v80 B81 H82 l85 V83 q84 o86 => ?_⟩
    have W87 := Ws.back (O1 := []) (O := [(a_left, .lst l24)]) (O2 := [(a1, .lst l26)]) W75 (O' := [(a_left, .lst l85)]) V83
    have l88 := (Ws.bb V83)
    have W87 : Ws [a_left] B H B81 H82 [(a_left, .lst l85), (a1, .lst l26)] := W87
    obtain rfl : v80 = V.str r79.1 := q84
    refine gset_ (σ' := [some (V.ref a_left), some v_names, some v_told, some (V.int x_many), some (V.ref a1), some (V.int x13), some (V.str r79.1), none]) rfl ?_
    refine nx_ ?_
    obtain ⟨r90, er90, hs21⟩ := bs hs21
    obtain ⟨q106, hs21⟩ := cks hs21
    refine drop_ ?_
    refine bm_ ?_
    refine var_ rfl ?_
    refine tyL_ W87 1 rfl ?_
    refine tcons_ ?_
    refine tup_ ?_
    refine tcons_ ?_
    refine var_ rfl ?_
    refine tcons_ ?_
    refine call_ ?_
    refine tcons_ ?_
    refine var_ rfl ?_
    refine tcons_ ?_
    refine var_ rfl ?_
    refine tnil_ ?_
    have L89 := Ws.ln (O1 := []) (O := [(a_left, .lst l85)]) (O2 := [(a1, .lst l26)]) W87
    refine ⟨B81, a_left, l85, r79.2, v_names, x_names, r90, rfl, Ln.call (O1 := []) (O := [(a_left, .lst l85)]) (O2 := [(a1, .lst l26)]) L89 W87, o86, (Rp.mono (l19.tr (l63.tr (l69.tr (l76.tr l88)))) r_names), er90, fun v91 B92 H93 l96 V94 q95 o97 => ?_⟩
    have W98 := Ws.back (O1 := []) (O := [(a_left, .lst l85)]) (O2 := [(a1, .lst l26)]) W87 (O' := [(a_left, .lst l96)]) V94
    have l99 := (Ws.bb V94)
    have W98 : Ws [a_left] B H B92 H93 [(a_left, .lst l96), (a1, .lst l26)] := W98
    obtain rfl : v91 = V.str r90.1 := q95
    refine tnil_ ?_
    refine mk2 W98 (show Rp.R B92 (V.str r79.1) (r79.1 : Str) from rfl) (show Rp.R B92 (V.str r90.1) (r90.1 : Str) from rfl) fun v100 B101 H102 W103 l104 r105 => ?_
    refine tnil_ ?_
    refine oApp W103 1 rfl (Ow.mono (l63.tr (l69.tr (l76.tr (l88.tr (l99.tr l104))))) o27) r105 q106 fun H107 l108 W109 o110 => ?_
    have W109 : Ws [a_left] B H B101 H107 [(a_left, .lst l96), (a1, .lst l108)] := W109
    refine nx_ ?_
    rw [← Option.some.inj hs21]
    exact ⟨_, B101, (l19.tr (l63.tr (l69.tr (l76.tr (l88.tr (l99.tr l104)))))), W109, ⟨(some (V.int x13)), (some (V.str r79.1)), l96, l108, rfl, rfl, (Ow.mono l104 o97), o110⟩⟩
  rintro σ' O121 B117 H118 l120 W119 ⟨u122, u123, l124, l126, rfl, rfl, o125, o127⟩
  refine nx_ ?_
  refine ret_ ?_
  refine var_ rfl ?_
  rw [← Option.some.inj h] at k
  have W119' : Ws [a_left] B H B117 H118 [(a_left, .lst l124), (a1, .lst l126)] := W119
  exact k a1 B117 H118 l126 l124 W119' n4 o127 o125

end
end G

namespace G
open PySem L2 Pv
section
variable {P : Program} {w : World} {K : PySem.W.Frag} {mg : Str → Option Value} {base : Heap}

def sp_machine_digits [Cs] (K : PySem.W.Frag) : Sp := fun vs H Q _ => ∃ (B : Hp) (v_cells : V) (x_cells : List Int) (v_sizes : V) (x_sizes : TV Int) (r : R_m), vs = [v_cells, v_sizes] ∧ Ws [] B H B H [] ∧ Rp.R B v_cells x_cells ∧ Rp.R B v_sizes x_sizes ∧ m_machine_digits x_cells x_sizes = some r ∧ ∀ w B' H', Ws [] B H B' H' [] → Rp.R B' w r → Q w H'
abbrev s_machine_digits : Stmt := top 36
theorem sc_machine_digits : FnScope ["_law_cells", "_law_sizes", "_law_names", "_law_k", "_law_switches", "_law_keepers", "_law_gates", "_law_nexts", "_law_nevers", "_law_somes", "_law_made", "_law_a", "_law_b", "_law_c", "_law_name", "_law_keeper", "_law_first", "_law_cell", "_law_one"] ["_law_cells", "_law_sizes"] (C8.fnScope s_machine_digits) := C8.fnScope_by (by decide +kernel)
theorem ok_machine_digits [Cs] (T : Tx w K mg) (c_rich : C8.Cal P w K mg base 2 "_law_rich" (sp_rich K) []) (c_pick : C8.Cal P w K mg base 1 "_law_pick" (sp_pick K) []) (c_spelt : C8.Cal P w K mg base 2 "_law_spelt" (sp_spelt K) []) (c_literal : C8.Cal P w K mg base 2 "_law_literal" (sp_literal K) []) (c_wishes : C8.Cal P w K mg base 3 "_law_wishes" (sp_wishes K) []) {f : Addr} {fd : FuncData} (F : C8.Def K mg "_law_machine_digits" s_machine_digits f fd) (b : Binds K fd ["_law_cells", "_law_sizes"] []) : C8.Cal P w K mg base 4 "_law_machine_digits" (sp_machine_digits K) [] := by
  refine C8.cal0 F b .nil sc_machine_digits (fun vs H Q E h => ?_) (fun cdv A outer s H vs Q E hr h => ?_)
  · obtain ⟨B, v_cells, x_cells, v_sizes, x_sizes, r, rfl, _⟩ := h
    rfl
  obtain ⟨B, v_cells, x_cells, v_sizes, x_sizes, r, rfl, W, r_cells, r_sizes, h, k⟩ := h
  refine ⟨_, (pss_cons (ps_asg (pe_lc (own := [("_law_k", 3), ("_law_cell", 17)]) (g := (gTup K 2 (gCons (gName 3) (gCons (gName 17) gNil)))) (tt := tYes) (by rfl) sc_machine_digits.nd (k_pie (K := K) (by rfl) T.b_enumerate (pa_cons (pv 0) pa_nil)) (blkOk_by (own := [("_law_k", 3), ("_law_cell", 17)]) (N := ["_law_cells", "_law_sizes", "_law_names", "_law_k", "_law_switches", "_law_keepers", "_law_gates", "_law_nexts", "_law_nevers", "_law_somes", "_law_made", "_law_a", "_law_b", "_law_c", "_law_name", "_law_keeper", "_law_first", "_law_cell", "_law_one"]) (sc := C8.fnScope s_machine_digits) (by decide +kernel)) (fun _ _ _ _ _ => (k_gtup (K := K) rfl (pgs_cons (pg_name (i := 3) sc_machine_digits.nd rfl (Or.inl rfl)) (pgs_cons (pg_name (i := 17) sc_machine_digits.nd rfl (Or.inl rfl)) pgs_nil)))) (fun _ _ _ _ _ => pts_nil) (fun _ _ _ _ _ => (pe_lst (pa_cons (pv 17) (pa_cons (C8.pe_c c_rich hr (by omega) (by rfl) (pa_cons (pv 17) (pa_cons (pe_op op_add pe_int (pv 3)) pa_nil))) pa_nil))))) (k_glst (K := K) rfl (pgs_cons (pg_name (i := 11) sc_machine_digits.nd rfl (Or.inl rfl)) (pgs_cons (pg_name (i := 12) sc_machine_digits.nd rfl (Or.inl rfl)) (pgs_cons (pg_name (i := 13) sc_machine_digits.nd rfl (Or.inl rfl)) pgs_nil))))) (pss_cons (ps_set (i := 2) sc_machine_digits.nd rfl (Or.inl rfl) (pe_lst pa_nil)) (pss_cons (ps_for PassesOwn.never rfl (pi_range1 (by rfl) T.b_range (pa_cons (C8.pe_c c_pick hr (by omega) (by rfl) (pa_cons (pv 11) (pa_cons (pe_op op_add (pe_ix (k_ixT (K := K)) (pv 1) pe_int (fun _ _ => rfl)) pe_int) pa_nil))) pa_nil)) (pg_name (i := 3) sc_machine_digits.nd rfl (Or.inl rfl)) (pss_one (ps_expr (k_bm (K := K) PySem.F.plainAttrs_list PySem.F.slot_list_append PySem.F.type_list_append mt_append (pv 2) (pa_cons (C8.pe_c c_spelt hr (by omega) (by rfl) (pa_cons (pv 11) (pa_cons (pv 2) pa_nil))) pa_nil))))) (pss_cons (ps_set (i := 4) sc_machine_digits.nd rfl (Or.inl rfl) (pe_callTy (k_list (K := K)) (by rfl) T.b_list (by decide +kernel) (pa_cons (pv 2) pa_nil))) (pss_cons (ps_set (i := 5) sc_machine_digits.nd rfl (Or.inl rfl) (pe_lst pa_nil)) (pss_cons (ps_for PassesOwn.never rfl (pi_range1 (by rfl) T.b_range (pa_cons (C8.pe_c c_pick hr (by omega) (by rfl) (pa_cons (pv 11) (pa_cons (pe_op op_add (pe_ix (k_ixT (K := K)) (pv 1) pe_int (fun _ _ => rfl)) pe_int) pa_nil))) pa_nil)) (pg_name (i := 3) sc_machine_digits.nd rfl (Or.inl rfl)) (pss_cons (ps_expr (k_bm (K := K) PySem.F.plainAttrs_list PySem.F.slot_list_append PySem.F.type_list_append mt_append (pv 2) (pa_cons (C8.pe_c c_spelt hr (by omega) (by rfl) (pa_cons (pv 11) (pa_cons (pv 2) pa_nil))) pa_nil))) (pss_one (ps_expr (k_bm (K := K) PySem.F.plainAttrs_list PySem.F.slot_list_append PySem.F.type_list_append mt_append (pv 5) (pa_cons (pe_tup (pa_cons (pe_ix (k_ixL (K := K)) (pv 2) (pe_un un_neg pe_int) (fun _ _ => rfl)) (pa_cons (pe_ix (k_ixL (K := K)) (pe_lst (pa_cons pe_int (pa_cons pe_int (pa_cons pe_non pa_nil)))) (C8.pe_c c_pick hr (by omega) (by rfl) (pa_cons (pv 11) (pa_cons pe_int pa_nil))) (fun _ _ => rfl)) pa_nil))) pa_nil)))))) (pss_cons (ps_set (i := 6) sc_machine_digits.nd rfl (Or.inl rfl) (pe_lst pa_nil)) (pss_cons (ps_for PassesOwn.never rfl (pi_range1 (by rfl) T.b_range (pa_cons (C8.pe_c c_pick hr (by omega) (by rfl) (pa_cons (pv 12) (pa_cons (pe_op op_add (pe_ix (k_ixT (K := K)) (pv 1) pe_int (fun _ _ => rfl)) pe_int) pa_nil))) pa_nil)) (pg_name (i := 3) sc_machine_digits.nd rfl (Or.inl rfl)) (pss_cons (ps_set (i := 14) sc_machine_digits.nd rfl (Or.inl rfl) (C8.pe_c c_spelt hr (by omega) (by rfl) (pa_cons (pv 12) (pa_cons (pv 2) pa_nil)))) (pss_cons (ps_expr (k_bm (K := K) PySem.F.plainAttrs_list PySem.F.slot_list_append PySem.F.type_list_append mt_append (pv 6) (pa_cons (pe_tup (pa_cons (pv 14) (pa_cons (C8.pe_c c_literal hr (by omega) (by rfl) (pa_cons (pv 12) (pa_cons (pv 2) pa_nil))) (pa_cons (C8.pe_c c_literal hr (by omega) (by rfl) (pa_cons (pv 12) (pa_cons (pv 2) pa_nil))) pa_nil)))) pa_nil))) (pss_one (ps_expr (k_bm (K := K) PySem.F.plainAttrs_list PySem.F.slot_list_append PySem.F.type_list_append mt_append (pv 2) (pa_cons (pv 14) pa_nil))))))) (pss_cons (ps_set (i := 7) sc_machine_digits.nd rfl (Or.inl rfl) (pe_lst pa_nil)) (pss_cons (ps_for PassesOwn.never rfl (k_pil (K := K) (pv 5)) (k_gtup (K := K) rfl (pgs_cons (pg_name (i := 15) sc_machine_digits.nd rfl (Or.inl rfl)) (pgs_cons (pg_name (i := 16) sc_machine_digits.nd rfl (Or.inl rfl)) pgs_nil))) (pss_one (ps_if (pt_cmpR op_gt (C8.pe_c c_pick hr (by omega) (by rfl) (pa_cons (pv 13) (pa_cons pe_int pa_nil))) pe_int (nomark _)) (pss_one (ps_expr (k_bm (K := K) PySem.F.plainAttrs_list PySem.F.slot_list_insert PySem.F.type_list_insert k_ins (pv 7) (pa_cons (C8.pe_c c_pick hr (by omega) (by rfl) (pa_cons (pv 13) (pa_cons (pe_op op_add (pe_callB (k_len (K := K)) (by rfl) T.b_len (by decide +kernel) (pa_cons (pv 7) pa_nil)) pe_int) pa_nil))) (pa_cons (pe_tup (pa_cons (pv 15) (pa_cons (C8.pe_c c_literal hr (by omega) (by rfl) (pa_cons (pv 13) (pa_cons (pv 2) pa_nil))) pa_nil))) pa_nil))))) pss_nil))) (pss_cons (ps_set (i := 8) sc_machine_digits.nd rfl (Or.inl rfl) (C8.pe_c c_wishes hr (by omega) (by rfl) (pa_cons (pv 13) (pa_cons (pv 2) (pa_cons (pe_lst pa_nil) (pa_cons (pe_op op_add pe_int (C8.pe_c c_pick hr (by omega) (by rfl) (pa_cons (pv 13) (pa_cons (pe_ix (k_ixT (K := K)) (pv 1) pe_int (fun _ _ => rfl)) pa_nil)))) pa_nil)))))) (pss_cons (ps_set (i := 9) sc_machine_digits.nd rfl (Or.inl rfl) (C8.pe_c c_wishes hr (by omega) (by rfl) (pa_cons (pv 13) (pa_cons (pv 2) (pa_cons (pe_lc (own := [("_law_one", 18)]) (g := (gName 18)) (tt := tYes) (by rfl) sc_machine_digits.nd (k_pil (K := K) (pv 8)) (blkOk_by (own := [("_law_one", 18)]) (N := ["_law_cells", "_law_sizes", "_law_names", "_law_k", "_law_switches", "_law_keepers", "_law_gates", "_law_nexts", "_law_nevers", "_law_somes", "_law_made", "_law_a", "_law_b", "_law_c", "_law_name", "_law_keeper", "_law_first", "_law_cell", "_law_one"]) (sc := C8.fnScope s_machine_digits) (by decide +kernel)) (fun _ _ _ _ _ => (pg_name (i := 18) sc_machine_digits.nd rfl (Or.inl rfl))) (fun _ _ _ _ _ => pts_nil) (fun _ _ _ _ _ => (pe_ix (k_ixT (K := K)) (pv 18) pe_int (fun _ _ => rfl)))) (pa_cons (C8.pe_c c_pick hr (by omega) (by rfl) (pa_cons (pv 13) (pa_cons (pe_op op_add (pe_ix (k_ixT (K := K)) (pv 1) pe_int (fun _ _ => rfl)) pe_int) pa_nil))) pa_nil)))))) (pss_cons (ps_set (i := 10) sc_machine_digits.nd rfl (Or.inl rfl) (pe_disp (pps_cons pe_str (pv 4) (pps_cons pe_str (pv 5) (pps_cons pe_str (pv 6) (pps_cons pe_str (pv 7) pps_nil)))) (by rfl) (by rfl) (by simp) (by decide))) (pss_cons (ps_dput (units1 hr) (pv 10) pe_str (pv 8) (by rfl)) (pss_cons (ps_dput (units1 hr) (pv 10) pe_str (pv 9) (by rfl)) (pss_one (ps_ret (pv 10)))))))))))))))))), ?_⟩
  refine st_ (σ' := [some v_cells, some v_sizes, none, none, none, none, none, none, none, none, none, none, none, none, none, none, none, none, none]) rfl ?_
  unfold m_machine_digits at h
  obtain ⟨q35, h⟩ := cks h
  obtain ⟨x36, ex36, h⟩ := bs h
  obtain ⟨x37, ex37, h⟩ := bs h
  refine seq_ ?_
  refine asg_ ?_
  refine lc_ ?_
  refine ienum_ ?_
  refine tcons_ ?_
  refine var_ rfl ?_
  refine tnil_ ?_
  refine itE W r_cells fun a1 tw2 => ?_
  refine lc_Ow W tw2 q35 (fun (x3 : Int × Int) => bd (m_rich x3.2 ((40 : Int) + x3.1)) fun r21 => some ([x3.2, r21] : List Int)) ex36 (fun x3 z38 v5 B6 H7 D8 acc9 T10 Nx11 l12 W13 r14 hs4 k15 => ?_) ?_
  · obtain ⟨r21, er21, hs4⟩ := bs hs4
    obtain rfl := Option.some.inj hs4
    have W13 : Ws [] B H B6 H7 ((D8, HO.lst acc9) :: T10) := W13
    refine gP_ W13 r14 fun v16 v17 r18 r19 => ?_
    obtain rfl : v16 = V.int x3.1 := r18
    refine gcons_ ?_
    refine gset_ (σ' := [some v_cells, some v_sizes, none, some (V.int x3.1), none, none, none, none, none, none, none, none, none, none, none, none, none, none, none]) rfl ?_
    obtain rfl : v17 = V.int x3.2 := r19
    refine gcons_ ?_
    refine gset_ (σ' := [some v_cells, some v_sizes, none, some (V.int x3.1), none, none, none, none, none, none, none, none, none, none, none, none, none, some (V.int x3.2), none]) rfl ?_
    refine gnil_ ?_
    refine ⟨rfl, ?_⟩
    refine lst_ ?_
    refine tcons_ ?_
    refine var_ rfl ?_
    refine tcons_ ?_
    refine call_ ?_
    refine tcons_ ?_
    refine var_ rfl ?_
    refine tcons_ ?_
    refine op_ ?_
    refine cst_ ?_
    refine var_ rfl ?_
    refine i0_ ?_
    refine tnil_ ?_
    have L20 := Ws.ln (O1 := []) (O := []) (O2 := ((D8, HO.lst acc9) :: T10)) W13
    refine ⟨B6, x3.2, ((40 : Int) + x3.1), r21, rfl, Ln.call (O1 := []) (O := []) (O2 := ((D8, HO.lst acc9) :: T10)) L20 W13, er21, fun v22 B23 H24 V25 q26 => ?_⟩
    have W27 := Ws.back (O1 := []) (O := []) (O2 := ((D8, HO.lst acc9) :: T10)) W13 (O' := []) V25
    have l28 := (Ws.bb V25)
    have W27 : Ws [] B H B23 H24 ((D8, HO.lst acc9) :: T10) := W27
    obtain rfl : v22 = V.int r21 := q26
    refine tnil_ ?_
    refine oMk (xs := ([x3.2, r21] : List Int)) W27 (.cons (show Rp.R B23 (V.int x3.2) (x3.2 : Int) from rfl) (.cons (show Rp.R B23 (V.int r21) (r21 : Int) from rfl) .nil)) (by show 2 ≤ sizeLine; decide) fun a29 H30 l31 n32 W33 o34 => ?_
    exact k15 _ _ a29 l31 l28 n32 W33 o34
  intro D39 l40 T41 B42 H43 n44 l45 W46 o47
  obtain ⟨a48, l49, a52, l53, a56, l57, rfl, rfl, n50, n54, n58, o51, o55, o59⟩ := o47.three ex37
  have W46 : Ws [] B H B42 H43 [(D39, .lst [V.ref a48, V.ref a52, V.ref a56]), (a48, .lst l49), (a52, .lst l53), (a56, .lst l57)] := W46
  refine ⟨D39, _, rfl, SqL.of (Ws.at_ W46 0 rfl), rfl, ?_⟩
  refine gcons_ ?_
  refine gset_ (σ' := [some v_cells, some v_sizes, none, none, none, none, none, none, none, none, none, some (V.ref a48), none, none, none, none, none, none, none]) rfl ?_
  refine gcons_ ?_
  refine gset_ (σ' := [some v_cells, some v_sizes, none, none, none, none, none, none, none, none, none, some (V.ref a48), some (V.ref a52), none, none, none, none, none, none]) rfl ?_
  refine gcons_ ?_
  refine gset_ (σ' := [some v_cells, some v_sizes, none, none, none, none, none, none, none, none, none, some (V.ref a48), some (V.ref a52), some (V.ref a56), none, none, none, none, none]) rfl ?_
  refine gnil_ ?_
  have W60 := Ws.drop W46 0
  have W60 : Ws [] B H B42 H43 [(a48, .lst l49), (a52, .lst l53), (a56, .lst l57)] := W60
  refine nx_ ?_
  obtain ⟨x67, ex67, h⟩ := bs h
  refine seq_ ?_
  refine asg_ ?_
  refine lst_ ?_
  refine tnil_ ?_
  refine oMk (xs := ([] : List Str)) W60 .nil (by show 0 ≤ sizeLine; decide) fun a61 H62 l63 n64 W65 o66 => ?_
  have W65 : Ws [] B H B42 H62 [(a48, .lst l49), (a52, .lst l53), (a56, .lst l57), (a61, .lst l63)] := W65
  have o66' : Ow B42 l63 x67 := Option.some.inj ex67 ▸ o66
  refine gset_ (σ' := [some v_cells, some v_sizes, some (V.ref a61), none, none, none, none, none, none, none, none, some (V.ref a48), some (V.ref a52), some (V.ref a56), none, none, none, none, none]) rfl ?_
  refine nx_ ?_
  obtain ⟨x68, ex68, h⟩ := bs h
  obtain ⟨r72, er72, h⟩ := bs h
  obtain ⟨q83, h⟩ := cks h
  obtain ⟨fin124, hx126, h⟩ := bs h
  refine seq_ ?_
  refine for_ ?_
  refine irng1_ ?_
  refine tcons_ ?_
  refine call_ ?_
  refine tcons_ ?_
  refine var_ rfl ?_
  refine tcons_ ?_
  refine op_ ?_
  refine op_ ?_
  refine var_ rfl ?_
  refine cst_ ?_
  refine ixV_ W65 (Rp.mono l45 r_sizes) ex68 fun v69 r70 => ?_
  obtain rfl : v69 = V.int x68 := r70
  refine cst_ ?_
  refine i0_ ?_
  refine tnil_ ?_
  have L71 := Ws.ln (O1 := []) (O := [(a48, .lst l49)]) (O2 := [(a52, .lst l53), (a56, .lst l57), (a61, .lst l63)]) W65
  refine ⟨B42, a48, l49, x37.1, (x68 + (1 : Int)), r72, rfl, Ln.call (O1 := []) (O := [(a48, .lst l49)]) (O2 := [(a52, .lst l53), (a56, .lst l57), (a61, .lst l63)]) L71 W65, o51, er72, fun v73 B74 H75 l78 V76 q77 o79 => ?_⟩
  have W80 := Ws.back (O1 := []) (O := [(a48, .lst l49)]) (O2 := [(a52, .lst l53), (a56, .lst l57), (a61, .lst l63)]) W65 (O' := [(a48, .lst l78)]) V76
  have l81 := (Ws.bb V76)
  have W80 : Ws [] B H B74 H75 [(a48, .lst l78), (a52, .lst l53), (a56, .lst l57), (a61, .lst l63)] := W80
  obtain rfl : v73 = V.int r72.1 := q77
  refine tnil_ ?_
  refine itR1 W80 q83 fun tw82 => ?_
  refine for_n W80 tw82 _ hx126 (fun s σ O B => ∃ (u0' : Option V) (l0' : List V) (l1' : List V), σ = [some v_cells, some v_sizes, some (V.ref a61), u0', none, none, none, none, none, none, none, some (V.ref a48), some (V.ref a52), some (V.ref a56), none, none, none, none, none] ∧ O = [(a48, .lst l0'), (a52, .lst l53), (a56, .lst l57), (a61, .lst l1')] ∧ Ow B l0' s.1 ∧ Ow B l1' s.2) (by rintro _ _ _ _ _ m' ⟨e0', e1', e2', a', b', f0', f1'⟩; exact ⟨e0', e1', e2', a', b', Ow.mono m' f0', Ow.mono m' f1'⟩) ⟨none, l78, l63, rfl, rfl, o79, (Ow.mono l81 o66')⟩ (fun s84 x86 c129 v87 σ' O90 B88 H89 l92 W91 i' r93 hs94 => ?_) ?_
  · obtain ⟨u85, l97, l99, rfl, rfl, o98, o100⟩ := i'
    have W91 : Ws [] B H B88 H89 [(a48, .lst l97), (a52, .lst l53), (a56, .lst l57), (a61, .lst l99)] := W91
    obtain rfl : v87 = V.int x86 := r93
    refine gset_ (σ' := [some v_cells, some v_sizes, some (V.ref a61), some (V.int x86), none, none, none, none, none, none, none, some (V.ref a48), some (V.ref a52), some (V.ref a56), none, none, none, none, none]) rfl ?_
    obtain ⟨r106, er106, hs94⟩ := bs hs94
    obtain ⟨q119, hs94⟩ := cks hs94
    refine drop_ ?_
    refine bm_ ?_
    refine var_ rfl ?_
    refine tyL_ W91 3 rfl ?_
    refine tcons_ ?_
    refine call_ ?_
    refine tcons_ ?_
    refine var_ rfl ?_
    refine tcons_ ?_
    refine var_ rfl ?_
    refine tnil_ ?_
    have L101 := Ws.ln (O1 := []) (O := [(a48, .lst l97)]) (O2 := [(a52, .lst l53), (a56, .lst l57), (a61, .lst l99)]) W91
    obtain ⟨B102, L103, l104, r105⟩ := Ln.add (O1 := []) (O := [(a48, .lst l97)]) (O2 := [(a52, .lst l53), (a56, .lst l57), (a61, .lst l99)]) L101 W91 2 rfl o100
    refine ⟨B102, a48, l97, s84.1, (V.ref a61), s84.2, r106, rfl, Ln.call (O1 := []) (O := [(a48, .lst l97)]) (O2 := [(a52, .lst l53), (a56, .lst l57), (a61, .lst l99)]) L103 W91, (Ow.mono L103.le o98), r105, er106, fun v107 B108 H109 l112 V110 q111 o113 => ?_⟩
    obtain ⟨B116, W114, l115, t117⟩ := Ln.backT (O1 := []) (O := [(a48, .lst l97)]) (O2 := [(a52, .lst l53), (a56, .lst l57), (a61, .lst l99)]) L103 W91 (O' := [(a48, .lst l112)]) V110 rfl
    have o118 : Ow B116 l112 r106.2 := Ow.tp t117 o113
    have W114 : Ws [] B H B116 H109 [(a48, .lst l112), (a52, .lst l53), (a56, .lst l57), (a61, .lst l99)] := W114
    obtain rfl : v107 = V.str r106.1 := q111
    refine tnil_ ?_
    refine oApp W114 3 rfl (Ow.mono l115 o100) (show Rp.R B116 (V.str r106.1) (r106.1 : Str) from rfl) q119 fun H120 l121 W122 o123 => ?_
    have W122 : Ws [] B H B116 H120 [(a48, .lst l112), (a52, .lst l53), (a56, .lst l57), (a61, .lst l121)] := W122
    refine nx_ ?_
    rw [← Option.some.inj hs94]
    exact ⟨_, B116, (l92.tr l115), W122, ⟨(some (V.int x86)), l112, l121, rfl, rfl, o118, o123⟩⟩
  rintro σ' O134 B130 H131 l133 W132 ⟨u135, l136, l138, rfl, rfl, o137, o139⟩
  refine nx_ ?_
  refine seq_ ?_
  refine asg_ ?_
  refine cb_ ?_
  refine tcons_ ?_
  refine var_ rfl ?_
  refine tnil_ ?_
  refine listLo_ W132 3 rfl o139.len o139.rs fun v140 B141 H142 W143 l144 r145 => ?_
  refine gset_ (σ' := [some v_cells, some v_sizes, some (V.ref a61), u135, some v140, none, none, none, none, none, none, some (V.ref a48), some (V.ref a52), some (V.ref a56), none, none, none, none, none]) rfl ?_
  refine nx_ ?_
  obtain ⟨x152, ex152, h⟩ := bs h
  refine seq_ ?_
  refine asg_ ?_
  refine lst_ ?_
  refine tnil_ ?_
  refine oMk (xs := ([] : List (Str × (Option Int)))) W143 .nil (by show 0 ≤ sizeLine; decide) fun a146 H147 l148 n149 W150 o151 => ?_
  have W150 : Ws [] B H B141 H147 [(a48, .lst l136), (a52, .lst l53), (a56, .lst l57), (a61, .lst l138), (a146, .lst l148)] := W150
  have o151' : Ow B141 l148 x152 := Option.some.inj ex152 ▸ o151
  refine gset_ (σ' := [some v_cells, some v_sizes, some (V.ref a61), u135, some v140, some (V.ref a146), none, none, none, none, none, some (V.ref a48), some (V.ref a52), some (V.ref a56), none, none, none, none, none]) rfl ?_
  refine nx_ ?_
  obtain ⟨x153, ex153, h⟩ := bs h
  obtain ⟨r157, er157, h⟩ := bs h
  obtain ⟨q168, h⟩ := cks h
  obtain ⟨fin245, hx247, h⟩ := bs h
  refine seq_ ?_
  refine for_ ?_
  refine irng1_ ?_
  refine tcons_ ?_
  refine call_ ?_
  refine tcons_ ?_
  refine var_ rfl ?_
  refine tcons_ ?_
  refine op_ ?_
  refine op_ ?_
  refine var_ rfl ?_
  refine cst_ ?_
  refine ixV_ W150 (Rp.mono (l45.tr (l81.tr (l133.tr l144))) r_sizes) ex153 fun v154 r155 => ?_
  obtain rfl : v154 = V.int x153 := r155
  refine cst_ ?_
  refine i0_ ?_
  refine tnil_ ?_
  have L156 := Ws.ln (O1 := []) (O := [(a48, .lst l136)]) (O2 := [(a52, .lst l53), (a56, .lst l57), (a61, .lst l138), (a146, .lst l148)]) W150
  refine ⟨B141, a48, l136, fin124.1, (x153 + (1 : Int)), r157, rfl, Ln.call (O1 := []) (O := [(a48, .lst l136)]) (O2 := [(a52, .lst l53), (a56, .lst l57), (a61, .lst l138), (a146, .lst l148)]) L156 W150, (Ow.mono l144 o137), er157, fun v158 B159 H160 l163 V161 q162 o164 => ?_⟩
  have W165 := Ws.back (O1 := []) (O := [(a48, .lst l136)]) (O2 := [(a52, .lst l53), (a56, .lst l57), (a61, .lst l138), (a146, .lst l148)]) W150 (O' := [(a48, .lst l163)]) V161
  have l166 := (Ws.bb V161)
  have W165 : Ws [] B H B159 H160 [(a48, .lst l163), (a52, .lst l53), (a56, .lst l57), (a61, .lst l138), (a146, .lst l148)] := W165
  obtain rfl : v158 = V.int r157.1 := q162
  refine tnil_ ?_
  refine itR1 W165 q168 fun tw167 => ?_
  refine for_n W165 tw167 _ hx247 (fun s σ O B => ∃ (u0' : Option V) (l0' : List V) (l1' : List V) (l2' : List V), σ = [some v_cells, some v_sizes, some (V.ref a61), u0', some v140, some (V.ref a146), none, none, none, none, none, some (V.ref a48), some (V.ref a52), some (V.ref a56), none, none, none, none, none] ∧ O = [(a48, .lst l0'), (a52, .lst l53), (a56, .lst l57), (a61, .lst l1'), (a146, .lst l2')] ∧ Ow B l0' s.1 ∧ Ow B l1' s.2.1 ∧ Ow B l2' s.2.2) (by rintro _ _ _ _ _ m' ⟨e0', e1', e2', e3', a', b', f0', f1', f2'⟩; exact ⟨e0', e1', e2', e3', a', b', Ow.mono m' f0', Ow.mono m' f1', Ow.mono m' f2'⟩) ⟨u135, l163, l138, l148, rfl, rfl, o164, (Ow.mono (l144.tr l166) o139), (Ow.mono l166 o151')⟩ (fun s169 x171 c250 v172 σ' O175 B173 H174 l177 W176 i' r178 hs179 => ?_) ?_
  · obtain ⟨u170, l182, l184, l186, rfl, rfl, o183, o185, o187⟩ := i'
    have W176 : Ws [] B H B173 H174 [(a48, .lst l182), (a52, .lst l53), (a56, .lst l57), (a61, .lst l184), (a146, .lst l186)] := W176
    obtain rfl : v172 = V.int x171 := r178
    refine gset_ (σ' := [some v_cells, some v_sizes, some (V.ref a61), some (V.int x171), some v140, some (V.ref a146), none, none, none, none, none, some (V.ref a48), some (V.ref a52), some (V.ref a56), none, none, none, none, none]) rfl ?_
    obtain ⟨r193, er193, hs179⟩ := bs hs179
    obtain ⟨q206, hs179⟩ := cks hs179
    refine seq_ ?_
    refine drop_ ?_
    refine bm_ ?_
    refine var_ rfl ?_
    refine tyL_ W176 3 rfl ?_
    refine tcons_ ?_
    refine call_ ?_
    refine tcons_ ?_
    refine var_ rfl ?_
    refine tcons_ ?_
    refine var_ rfl ?_
    refine tnil_ ?_
    have L188 := Ws.ln (O1 := []) (O := [(a48, .lst l182)]) (O2 := [(a52, .lst l53), (a56, .lst l57), (a61, .lst l184), (a146, .lst l186)]) W176
    obtain ⟨B189, L190, l191, r192⟩ := Ln.add (O1 := []) (O := [(a48, .lst l182)]) (O2 := [(a52, .lst l53), (a56, .lst l57), (a61, .lst l184), (a146, .lst l186)]) L188 W176 2 rfl o185
    refine ⟨B189, a48, l182, s169.1, (V.ref a61), s169.2.1, r193, rfl, Ln.call (O1 := []) (O := [(a48, .lst l182)]) (O2 := [(a52, .lst l53), (a56, .lst l57), (a61, .lst l184), (a146, .lst l186)]) L190 W176, (Ow.mono L190.le o183), r192, er193, fun v194 B195 H196 l199 V197 q198 o200 => ?_⟩
    obtain ⟨B203, W201, l202, t204⟩ := Ln.backT (O1 := []) (O := [(a48, .lst l182)]) (O2 := [(a52, .lst l53), (a56, .lst l57), (a61, .lst l184), (a146, .lst l186)]) L190 W176 (O' := [(a48, .lst l199)]) V197 rfl
    have o205 : Ow B203 l199 r193.2 := Ow.tp t204 o200
    have W201 : Ws [] B H B203 H196 [(a48, .lst l199), (a52, .lst l53), (a56, .lst l57), (a61, .lst l184), (a146, .lst l186)] := W201
    obtain rfl : v194 = V.str r193.1 := q198
    refine tnil_ ?_
    refine oApp W201 3 rfl (Ow.mono l202 o185) (show Rp.R B203 (V.str r193.1) (r193.1 : Str) from rfl) q206 fun H207 l208 W209 o210 => ?_
    have W209 : Ws [] B H B203 H207 [(a48, .lst l199), (a52, .lst l53), (a56, .lst l57), (a61, .lst l208), (a146, .lst l186)] := W209
    refine nx_ ?_
    obtain ⟨x211, ex211, hs179⟩ := bs hs179
    obtain ⟨r221, er221, hs179⟩ := bs hs179
    obtain ⟨x231, ex231, hs179⟩ := bs hs179
    obtain ⟨q240, hs179⟩ := cks hs179
    refine drop_ ?_
    refine bm_ ?_
    refine var_ rfl ?_
    refine tyL_ W209 4 rfl ?_
    refine tcons_ ?_
    refine tup_ ?_
    refine tcons_ ?_
    refine op_ ?_
    refine var_ rfl ?_
    refine un_ ?_
    refine cst_ ?_
    refine iU_ ?_
    refine oIx W209 3 rfl o210 ex211 fun v212 r213 => ?_
    obtain rfl : v212 = V.str x211 := r213
    refine tcons_ ?_
    refine op_ ?_
    refine lst_ ?_
    refine tcons_ ?_
    refine cst_ ?_
    refine tcons_ ?_
    refine cst_ ?_
    refine tcons_ ?_
    refine cst_ ?_
    refine tnil_ ?_
    refine mkL (xs := ([(some (0 : Int)), (some (1 : Int)), none] : List (Option Int))) W209 (.cons (show Rp.R B203 (V.int (0 : Int)) ((some (0 : Int)) : Option Int) from rfl) (.cons (show Rp.R B203 (V.int (1 : Int)) ((some (1 : Int)) : Option Int) from rfl) (.cons (show Rp.R B203 V.non (none : Option Int) from rfl) .nil))) (by show 3 ≤ sizeLine; decide) fun v214 B215 H216 W217 l218 r219 => ?_
    refine call_ ?_
    refine tcons_ ?_
    refine var_ rfl ?_
    refine tcons_ ?_
    refine cst_ ?_
    refine tnil_ ?_
    have L220 := Ws.ln (O1 := []) (O := [(a48, .lst l199)]) (O2 := [(a52, .lst l53), (a56, .lst l57), (a61, .lst l208), (a146, .lst l186)]) W217
    refine ⟨B215, a48, l199, r193.2, (3 : Int), r221, rfl, Ln.call (O1 := []) (O := [(a48, .lst l199)]) (O2 := [(a52, .lst l53), (a56, .lst l57), (a61, .lst l208), (a146, .lst l186)]) L220 W217, (Ow.mono l218 o205), er221, fun v222 B223 H224 l227 V225 q226 o228 => ?_⟩
    have W229 := Ws.back (O1 := []) (O := [(a48, .lst l199)]) (O2 := [(a52, .lst l53), (a56, .lst l57), (a61, .lst l208), (a146, .lst l186)]) W217 (O' := [(a48, .lst l227)]) V225
    have l230 := (Ws.bb V225)
    have W229 : Ws [] B H B223 H224 [(a48, .lst l227), (a52, .lst l53), (a56, .lst l57), (a61, .lst l208), (a146, .lst l186)] := W229
    obtain rfl : v222 = V.int r221.1 := q226
    refine ixL_ W229 (Rp.mono l230 r219) ex231 fun v232 r233 => ?_
    refine tnil_ ?_
    refine mk2 W229 (show Rp.R B223 (V.str x211) (x211 : Str) from rfl) r233 fun v234 B235 H236 W237 l238 r239 => ?_
    refine tnil_ ?_
    refine oApp W237 4 rfl (Ow.mono (l202.tr (l218.tr (l230.tr l238))) o187) r239 q240 fun H241 l242 W243 o244 => ?_
    have W243 : Ws [] B H B235 H241 [(a48, .lst l227), (a52, .lst l53), (a56, .lst l57), (a61, .lst l208), (a146, .lst l242)] := W243
    refine nx_ ?_
    rw [← Option.some.inj hs179]
    exact ⟨_, B235, (l177.tr (l202.tr (l218.tr (l230.tr l238)))), W243, ⟨(some (V.int x171)), l227, l208, l242, rfl, rfl, (Ow.mono l238 o228), (Ow.mono (l218.tr (l230.tr l238)) o210), o244⟩⟩
  rintro σ' O255 B251 H252 l254 W253 ⟨u256, l257, l259, l261, rfl, rfl, o258, o260, o262⟩
  refine nx_ ?_
  obtain ⟨x269, ex269, h⟩ := bs h
  refine seq_ ?_
  refine asg_ ?_
  refine lst_ ?_
  refine tnil_ ?_
  refine oMk (xs := ([] : List (T3 Str Str Str))) W253 .nil (by show 0 ≤ sizeLine; decide) fun a263 H264 l265 n266 W267 o268 => ?_
  have W267 : Ws [] B H B251 H264 [(a48, .lst l257), (a52, .lst l53), (a56, .lst l57), (a61, .lst l259), (a146, .lst l261), (a263, .lst l265)] := W267
  have o268' : Ow B251 l265 x269 := Option.some.inj ex269 ▸ o268
  refine gset_ (σ' := [some v_cells, some v_sizes, some (V.ref a61), u256, some v140, some (V.ref a146), some (V.ref a263), none, none, none, none, some (V.ref a48), some (V.ref a52), some (V.ref a56), none, none, none, none, none]) rfl ?_
  refine nx_ ?_
  obtain ⟨x270, ex270, h⟩ := bs h
  obtain ⟨r274, er274, h⟩ := bs h
  obtain ⟨q285, h⟩ := cks h
  obtain ⟨fin376, hx378, h⟩ := bs h
  refine seq_ ?_
  refine for_ ?_
  refine irng1_ ?_
  refine tcons_ ?_
  refine call_ ?_
  refine tcons_ ?_
  refine var_ rfl ?_
  refine tcons_ ?_
  refine op_ ?_
  refine op_ ?_
  refine var_ rfl ?_
  refine cst_ ?_
  refine ixV_ W267 (Rp.mono (l45.tr (l81.tr (l133.tr (l144.tr (l166.tr l254))))) r_sizes) ex270 fun v271 r272 => ?_
  obtain rfl : v271 = V.int x270 := r272
  refine cst_ ?_
  refine i0_ ?_
  refine tnil_ ?_
  have L273 := Ws.ln (O1 := [(a48, .lst l257)]) (O := [(a52, .lst l53)]) (O2 := [(a56, .lst l57), (a61, .lst l259), (a146, .lst l261), (a263, .lst l265)]) W267
  refine ⟨B251, a52, l53, x37.2.1, (x270 + (1 : Int)), r274, rfl, Ln.call (O1 := [(a48, .lst l257)]) (O := [(a52, .lst l53)]) (O2 := [(a56, .lst l57), (a61, .lst l259), (a146, .lst l261), (a263, .lst l265)]) L273 W267, (Ow.mono (l81.tr (l133.tr (l144.tr (l166.tr l254)))) o55), er274, fun v275 B276 H277 l280 V278 q279 o281 => ?_⟩
  have W282 := Ws.back (O1 := [(a48, .lst l257)]) (O := [(a52, .lst l53)]) (O2 := [(a56, .lst l57), (a61, .lst l259), (a146, .lst l261), (a263, .lst l265)]) W267 (O' := [(a52, .lst l280)]) V278
  have l283 := (Ws.bb V278)
  have W282 : Ws [] B H B276 H277 [(a48, .lst l257), (a52, .lst l280), (a56, .lst l57), (a61, .lst l259), (a146, .lst l261), (a263, .lst l265)] := W282
  obtain rfl : v275 = V.int r274.1 := q279
  refine tnil_ ?_
  refine itR1 W282 q285 fun tw284 => ?_
  refine for_n W282 tw284 _ hx378 (fun s σ O B => ∃ (u0' : Option V) (u1' : Option V) (l0' : List V) (l1' : List V) (l2' : List V), σ = [some v_cells, some v_sizes, some (V.ref a61), u0', some v140, some (V.ref a146), some (V.ref a263), none, none, none, none, some (V.ref a48), some (V.ref a52), some (V.ref a56), u1', none, none, none, none] ∧ O = [(a48, .lst l257), (a52, .lst l0'), (a56, .lst l57), (a61, .lst l1'), (a146, .lst l261), (a263, .lst l2')] ∧ Ow B l0' s.1 ∧ Ow B l1' s.2.1 ∧ Ow B l2' s.2.2) (by rintro _ _ _ _ _ m' ⟨e0', e1', e2', e3', e4', a', b', f0', f1', f2'⟩; exact ⟨e0', e1', e2', e3', e4', a', b', Ow.mono m' f0', Ow.mono m' f1', Ow.mono m' f2'⟩) ⟨u256, none, l280, l259, l265, rfl, rfl, o281, (Ow.mono l283 o260), (Ow.mono l283 o268')⟩ (fun s286 x289 c381 v290 σ' O293 B291 H292 l295 W294 i' r296 hs297 => ?_) ?_
  · obtain ⟨u287, u288, l300, l302, l304, rfl, rfl, o301, o303, o305⟩ := i'
    have W294 : Ws [] B H B291 H292 [(a48, .lst l257), (a52, .lst l300), (a56, .lst l57), (a61, .lst l302), (a146, .lst l261), (a263, .lst l304)] := W294
    obtain rfl : v290 = V.int x289 := r296
    refine gset_ (σ' := [some v_cells, some v_sizes, some (V.ref a61), some (V.int x289), some v140, some (V.ref a146), some (V.ref a263), none, none, none, none, some (V.ref a48), some (V.ref a52), some (V.ref a56), u288, none, none, none, none]) rfl ?_
    obtain ⟨r311, er311, hs297⟩ := bs hs297
    refine seq_ ?_
    refine asg_ ?_
    refine call_ ?_
    refine tcons_ ?_
    refine var_ rfl ?_
    refine tcons_ ?_
    refine var_ rfl ?_
    refine tnil_ ?_
    have L306 := Ws.ln (O1 := [(a48, .lst l257)]) (O := [(a52, .lst l300)]) (O2 := [(a56, .lst l57), (a61, .lst l302), (a146, .lst l261), (a263, .lst l304)]) W294
    obtain ⟨B307, L308, l309, r310⟩ := Ln.add (O1 := [(a48, .lst l257)]) (O := [(a52, .lst l300)]) (O2 := [(a56, .lst l57), (a61, .lst l302), (a146, .lst l261), (a263, .lst l304)]) L306 W294 2 rfl o303
    refine ⟨B307, a52, l300, s286.1, (V.ref a61), s286.2.1, r311, rfl, Ln.call (O1 := [(a48, .lst l257)]) (O := [(a52, .lst l300)]) (O2 := [(a56, .lst l57), (a61, .lst l302), (a146, .lst l261), (a263, .lst l304)]) L308 W294, (Ow.mono L308.le o301), r310, er311, fun v312 B313 H314 l317 V315 q316 o318 => ?_⟩
    obtain ⟨B321, W319, l320, t322⟩ := Ln.backT (O1 := [(a48, .lst l257)]) (O := [(a52, .lst l300)]) (O2 := [(a56, .lst l57), (a61, .lst l302), (a146, .lst l261), (a263, .lst l304)]) L308 W294 (O' := [(a52, .lst l317)]) V315 rfl
    have o323 : Ow B321 l317 r311.2 := Ow.tp t322 o318
    have W319 : Ws [] B H B321 H314 [(a48, .lst l257), (a52, .lst l317), (a56, .lst l57), (a61, .lst l302), (a146, .lst l261), (a263, .lst l304)] := W319
    obtain rfl : v312 = V.str r311.1 := q316
    refine gset_ (σ' := [some v_cells, some v_sizes, some (V.ref a61), some (V.int x289), some v140, some (V.ref a146), some (V.ref a263), none, none, none, none, some (V.ref a48), some (V.ref a52), some (V.ref a56), some (V.str r311.1), none, none, none, none]) rfl ?_
    refine nx_ ?_
    obtain ⟨r329, er329, hs297⟩ := bs hs297
    obtain ⟨r347, er347, hs297⟩ := bs hs297
    obtain ⟨q366, hs297⟩ := cks hs297
    refine seq_ ?_
    refine drop_ ?_
    refine bm_ ?_
    refine var_ rfl ?_
    refine tyL_ W319 5 rfl ?_
    refine tcons_ ?_
    refine tup_ ?_
    refine tcons_ ?_
    refine var_ rfl ?_
    refine tcons_ ?_
    refine call_ ?_
    refine tcons_ ?_
    refine var_ rfl ?_
    refine tcons_ ?_
    refine var_ rfl ?_
    refine tnil_ ?_
    have L324 := Ws.ln (O1 := [(a48, .lst l257)]) (O := [(a52, .lst l317)]) (O2 := [(a56, .lst l57), (a61, .lst l302), (a146, .lst l261), (a263, .lst l304)]) W319
    obtain ⟨B325, L326, l327, r328⟩ := Ln.add (O1 := [(a48, .lst l257)]) (O := [(a52, .lst l317)]) (O2 := [(a56, .lst l57), (a61, .lst l302), (a146, .lst l261), (a263, .lst l304)]) L324 W319 2 rfl (Ow.mono l320 o303)
    refine ⟨B325, a52, l317, r311.2, (V.ref a61), s286.2.1, r329, rfl, Ln.call (O1 := [(a48, .lst l257)]) (O := [(a52, .lst l317)]) (O2 := [(a56, .lst l57), (a61, .lst l302), (a146, .lst l261), (a263, .lst l304)]) L326 W319, (Ow.mono L326.le o323), r328, er329, fun v330 B331 H332 l335 V333 q334 o336 => ?_⟩
    obtain ⟨B339, W337, l338, t340⟩ := Ln.backT (O1 := [(a48, .lst l257)]) (O := [(a52, .lst l317)]) (O2 := [(a56, .lst l57), (a61, .lst l302), (a146, .lst l261), (a263, .lst l304)]) L326 W319 (O' := [(a52, .lst l335)]) V333 rfl
    have o341 : Ow B339 l335 r329.2 := Ow.tp t340 o336
    have W337 : Ws [] B H B339 H332 [(a48, .lst l257), (a52, .lst l335), (a56, .lst l57), (a61, .lst l302), (a146, .lst l261), (a263, .lst l304)] := W337
    obtain rfl : v330 = V.str r329.1 := q334
    refine tcons_ ?_
    refine call_ ?_
    refine tcons_ ?_
    refine var_ rfl ?_
    refine tcons_ ?_
    refine var_ rfl ?_
    refine tnil_ ?_
    have L342 := Ws.ln (O1 := [(a48, .lst l257)]) (O := [(a52, .lst l335)]) (O2 := [(a56, .lst l57), (a61, .lst l302), (a146, .lst l261), (a263, .lst l304)]) W337
    obtain ⟨B343, L344, l345, r346⟩ := Ln.add (O1 := [(a48, .lst l257)]) (O := [(a52, .lst l335)]) (O2 := [(a56, .lst l57), (a61, .lst l302), (a146, .lst l261), (a263, .lst l304)]) L342 W337 2 rfl (Ow.mono (l320.tr l338) o303)
    refine ⟨B343, a52, l335, r329.2, (V.ref a61), s286.2.1, r347, rfl, Ln.call (O1 := [(a48, .lst l257)]) (O := [(a52, .lst l335)]) (O2 := [(a56, .lst l57), (a61, .lst l302), (a146, .lst l261), (a263, .lst l304)]) L344 W337, (Ow.mono L344.le o341), r346, er347, fun v348 B349 H350 l353 V351 q352 o354 => ?_⟩
    obtain ⟨B357, W355, l356, t358⟩ := Ln.backT (O1 := [(a48, .lst l257)]) (O := [(a52, .lst l335)]) (O2 := [(a56, .lst l57), (a61, .lst l302), (a146, .lst l261), (a263, .lst l304)]) L344 W337 (O' := [(a52, .lst l353)]) V351 rfl
    have o359 : Ow B357 l353 r347.2 := Ow.tp t358 o354
    have W355 : Ws [] B H B357 H350 [(a48, .lst l257), (a52, .lst l353), (a56, .lst l57), (a61, .lst l302), (a146, .lst l261), (a263, .lst l304)] := W355
    obtain rfl : v348 = V.str r347.1 := q352
    refine tnil_ ?_
    refine mk3 W355 (show Rp.R B357 (V.str r311.1) (r311.1 : Str) from rfl) (show Rp.R B357 (V.str r329.1) (r329.1 : Str) from rfl) (show Rp.R B357 (V.str r347.1) (r347.1 : Str) from rfl) fun v360 B361 H362 W363 l364 r365 => ?_
    refine tnil_ ?_
    refine oApp W363 5 rfl (Ow.mono (l320.tr (l338.tr (l356.tr l364))) o305) r365 q366 fun H367 l368 W369 o370 => ?_
    have W369 : Ws [] B H B361 H367 [(a48, .lst l257), (a52, .lst l353), (a56, .lst l57), (a61, .lst l302), (a146, .lst l261), (a263, .lst l368)] := W369
    refine nx_ ?_
    obtain ⟨q371, hs297⟩ := cks hs297
    refine drop_ ?_
    refine bm_ ?_
    refine var_ rfl ?_
    refine tyL_ W369 3 rfl ?_
    refine tcons_ ?_
    refine var_ rfl ?_
    refine tnil_ ?_
    refine oApp W369 3 rfl (Ow.mono (l320.tr (l338.tr (l356.tr l364))) o303) (show Rp.R B361 (V.str r311.1) (r311.1 : Str) from rfl) q371 fun H372 l373 W374 o375 => ?_
    have W374 : Ws [] B H B361 H372 [(a48, .lst l257), (a52, .lst l353), (a56, .lst l57), (a61, .lst l373), (a146, .lst l261), (a263, .lst l368)] := W374
    refine nx_ ?_
    rw [← Option.some.inj hs297]
    exact ⟨_, B361, (l295.tr (l320.tr (l338.tr (l356.tr l364)))), W374, ⟨(some (V.int x289)), (some (V.str r311.1)), l353, l373, l368, rfl, rfl, (Ow.mono l364 o359), o375, o370⟩⟩
  rintro σ' O386 B382 H383 l385 W384 ⟨u387, u388, l389, l391, l393, rfl, rfl, o390, o392, o394⟩
  refine nx_ ?_
  obtain ⟨x401, ex401, h⟩ := bs h
  refine seq_ ?_
  refine asg_ ?_
  refine lst_ ?_
  refine tnil_ ?_
  refine oMk (xs := ([] : List (Str × Str))) W384 .nil (by show 0 ≤ sizeLine; decide) fun a395 H396 l397 n398 W399 o400 => ?_
  have W399 : Ws [] B H B382 H396 [(a48, .lst l257), (a52, .lst l389), (a56, .lst l57), (a61, .lst l391), (a146, .lst l261), (a263, .lst l393), (a395, .lst l397)] := W399
  have o400' : Ow B382 l397 x401 := Option.some.inj ex401 ▸ o400
  refine gset_ (σ' := [some v_cells, some v_sizes, some (V.ref a61), u387, some v140, some (V.ref a146), some (V.ref a263), some (V.ref a395), none, none, none, some (V.ref a48), some (V.ref a52), some (V.ref a56), u388, none, none, none, none]) rfl ?_
  refine nx_ ?_
  obtain ⟨fin491, hx493, h⟩ := bs h
  refine seq_ ?_
  refine for_ ?_
  refine ilist_ ?_
  refine var_ rfl ?_
  refine oFz W399 4 rfl n149 (Ow.mono (l283.tr l385) o262) fun B404 W405 l406 r407 => ?_
  have W405 : Ws [] B H B404 H396 [(a48, .lst l257), (a52, .lst l389), (a56, .lst l57), (a61, .lst l391), (a263, .lst l393), (a395, .lst l397)] := W405
  refine itL W405 r407 fun a402 tw403 => ?_
  refine for_n W405 tw403 _ hx493 (fun s σ O B => ∃ (u0' : Option V) (u1' : Option V) (l0' : List V) (l1' : List V), σ = [some v_cells, some v_sizes, some (V.ref a61), u387, some v140, some (V.ref a146), some (V.ref a263), some (V.ref a395), none, none, none, some (V.ref a48), some (V.ref a52), some (V.ref a56), u388, u0', u1', none, none] ∧ O = [(a48, .lst l257), (a52, .lst l389), (a56, .lst l0'), (a61, .lst l391), (a263, .lst l393), (a395, .lst l1')] ∧ Ow B l0' s.1 ∧ Ow B l1' s.2) (by rintro _ _ _ _ _ m' ⟨e0', e1', e2', e3', a', b', f0', f1'⟩; exact ⟨e0', e1', e2', e3', a', b', Ow.mono m' f0', Ow.mono m' f1'⟩) ⟨none, none, l57, l397, rfl, rfl, (Ow.mono (l81.tr (l133.tr (l144.tr (l166.tr (l254.tr (l283.tr (l385.tr l406))))))) o59), (Ow.mono l406 o400')⟩ (fun s408 x411 c496 v412 σ' O415 B413 H414 l417 W416 i' r418 hs419 => ?_) ?_
  · obtain ⟨u409, u410, l422, l424, rfl, rfl, o423, o425⟩ := i'
    have W416 : Ws [] B H B413 H414 [(a48, .lst l257), (a52, .lst l389), (a56, .lst l422), (a61, .lst l391), (a263, .lst l393), (a395, .lst l424)] := W416
    refine gP_ W416 r418 fun v426 v427 r428 r429 => ?_
    obtain rfl : v426 = V.str x411.1 := r428
    refine gcons_ ?_
    refine gset_ (σ' := [some v_cells, some v_sizes, some (V.ref a61), u387, some v140, some (V.ref a146), some (V.ref a263), some (V.ref a395), none, none, none, some (V.ref a48), some (V.ref a52), some (V.ref a56), u388, some (V.str x411.1), u410, none, none]) rfl ?_
    refine gcons_ ?_
    refine gset_ (σ' := [some v_cells, some v_sizes, some (V.ref a61), u387, some v140, some (V.ref a146), some (V.ref a263), some (V.ref a395), none, none, none, some (V.ref a48), some (V.ref a52), some (V.ref a56), u388, some (V.str x411.1), some v427, none, none]) rfl ?_
    refine gnil_ ?_
    obtain ⟨r433, er433, hs419⟩ := bs hs419
    refine if_ (fun v' H' => ∃ B', ∃ l443, v' = (decide ((0 : Int) < r433.1)) ∧ Le B413 B' ∧ Ws [] B H B' H' [(a48, .lst l257), (a52, .lst l389), (a56, .lst l443), (a61, .lst l391), (a263, .lst l393), (a395, .lst l424)] ∧ Ow B' l443 r433.2) (fun Q430 kk431 => ?_) (fun H447 hw => ?_) (fun H447 hw => ?_)
    · refine tst_ ?_
      refine op_ ?_
      refine call_ ?_
      refine tcons_ ?_
      refine var_ rfl ?_
      refine tcons_ ?_
      refine cst_ ?_
      refine tnil_ ?_
      have L432 := Ws.ln (O1 := [(a48, .lst l257), (a52, .lst l389)]) (O := [(a56, .lst l422)]) (O2 := [(a61, .lst l391), (a263, .lst l393), (a395, .lst l424)]) W416
      refine ⟨B413, a56, l422, s408.1, (5 : Int), r433, rfl, Ln.call (O1 := [(a48, .lst l257), (a52, .lst l389)]) (O := [(a56, .lst l422)]) (O2 := [(a61, .lst l391), (a263, .lst l393), (a395, .lst l424)]) L432 W416, o423, er433, fun v434 B435 H436 l439 V437 q438 o440 => ?_⟩
      have W441 := Ws.back (O1 := [(a48, .lst l257), (a52, .lst l389)]) (O := [(a56, .lst l422)]) (O2 := [(a61, .lst l391), (a263, .lst l393), (a395, .lst l424)]) W416 (O' := [(a56, .lst l439)]) V437
      have l442 := (Ws.bb V437)
      have W441 : Ws [] B H B435 H436 [(a48, .lst l257), (a52, .lst l389), (a56, .lst l439), (a61, .lst l391), (a263, .lst l393), (a395, .lst l424)] := W441
      obtain rfl : v434 = V.int r433.1 := q438
      refine cst_ ?_
      refine i0_ ?_
      refine ⟨_, rfl, ?_⟩
      exact kk431 _ _ ⟨B435, l439, rfl, l442, W441, o440⟩
    · obtain ⟨B446, l444, c450, l449, W448, o445⟩ := hw
      have c450 := c450.symm
      have hs419 := opT c450 hs419
      obtain ⟨r452, er452, hs419⟩ := bs hs419
      obtain ⟨r467, er467, hs419⟩ := bs hs419
      obtain ⟨q486, hs419⟩ := cks hs419
      refine drop_ ?_
      refine bm_ ?_
      refine var_ rfl ?_
      refine tyL_ W448 5 rfl ?_
      refine tcons_ ?_
      refine call_ ?_
      refine tcons_ ?_
      refine var_ rfl ?_
      refine tcons_ ?_
      refine op_ ?_
      refine cb_ ?_
      refine tcons_ ?_
      refine var_ rfl ?_
      refine tnil_ ?_
      refine oLen W448 5 rfl (Ow.mono l449 o425) ?_
      refine cst_ ?_
      refine i0_ ?_
      refine tnil_ ?_
      have L451 := Ws.ln (O1 := [(a48, .lst l257), (a52, .lst l389)]) (O := [(a56, .lst l444)]) (O2 := [(a61, .lst l391), (a263, .lst l393), (a395, .lst l424)]) W448
      refine ⟨B446, a56, l444, r433.2, ((s408.2.length : Int) + (1 : Int)), r452, rfl, Ln.call (O1 := [(a48, .lst l257), (a52, .lst l389)]) (O := [(a56, .lst l444)]) (O2 := [(a61, .lst l391), (a263, .lst l393), (a395, .lst l424)]) L451 W448, o445, er452, fun v453 B454 H455 l458 V456 q457 o459 => ?_⟩
      have W460 := Ws.back (O1 := [(a48, .lst l257), (a52, .lst l389)]) (O := [(a56, .lst l444)]) (O2 := [(a61, .lst l391), (a263, .lst l393), (a395, .lst l424)]) W448 (O' := [(a56, .lst l458)]) V456
      have l461 := (Ws.bb V456)
      have W460 : Ws [] B H B454 H455 [(a48, .lst l257), (a52, .lst l389), (a56, .lst l458), (a61, .lst l391), (a263, .lst l393), (a395, .lst l424)] := W460
      obtain rfl : v453 = V.int r452.1 := q457
      refine tcons_ ?_
      refine tup_ ?_
      refine tcons_ ?_
      refine var_ rfl ?_
      refine tcons_ ?_
      refine call_ ?_
      refine tcons_ ?_
      refine var_ rfl ?_
      refine tcons_ ?_
      refine var_ rfl ?_
      refine tnil_ ?_
      have L462 := Ws.ln (O1 := [(a48, .lst l257), (a52, .lst l389)]) (O := [(a56, .lst l458)]) (O2 := [(a61, .lst l391), (a263, .lst l393), (a395, .lst l424)]) W460
      obtain ⟨B463, L464, l465, r466⟩ := Ln.add (O1 := [(a48, .lst l257), (a52, .lst l389)]) (O := [(a56, .lst l458)]) (O2 := [(a61, .lst l391), (a263, .lst l393), (a395, .lst l424)]) L462 W460 2 rfl (Ow.mono (l406.tr (l417.tr (l449.tr l461))) o392)
      refine ⟨B463, a56, l458, r452.2, (V.ref a61), fin376.2.1, r467, rfl, Ln.call (O1 := [(a48, .lst l257), (a52, .lst l389)]) (O := [(a56, .lst l458)]) (O2 := [(a61, .lst l391), (a263, .lst l393), (a395, .lst l424)]) L464 W460, (Ow.mono L464.le o459), r466, er467, fun v468 B469 H470 l473 V471 q472 o474 => ?_⟩
      obtain ⟨B477, W475, l476, t478⟩ := Ln.backT (O1 := [(a48, .lst l257), (a52, .lst l389)]) (O := [(a56, .lst l458)]) (O2 := [(a61, .lst l391), (a263, .lst l393), (a395, .lst l424)]) L464 W460 (O' := [(a56, .lst l473)]) V471 rfl
      have o479 : Ow B477 l473 r467.2 := Ow.tp t478 o474
      have W475 : Ws [] B H B477 H470 [(a48, .lst l257), (a52, .lst l389), (a56, .lst l473), (a61, .lst l391), (a263, .lst l393), (a395, .lst l424)] := W475
      obtain rfl : v468 = V.str r467.1 := q472
      refine tnil_ ?_
      refine mk2 W475 (show Rp.R B477 (V.str x411.1) (x411.1 : Str) from rfl) (show Rp.R B477 (V.str r467.1) (r467.1 : Str) from rfl) fun v480 B481 H482 W483 l484 r485 => ?_
      refine tnil_ ?_
      refine oIns W483 5 rfl (Ow.mono (l449.tr (l461.tr (l476.tr l484))) o425) r485 q486 fun H487 l488 W489 o490 => ?_
      have W489 : Ws [] B H B481 H487 [(a48, .lst l257), (a52, .lst l389), (a56, .lst l473), (a61, .lst l391), (a263, .lst l393), (a395, .lst l488)] := W489
      refine nx_ ?_
      rw [← Option.some.inj hs419]
      exact ⟨_, B481, (l417.tr (l449.tr (l461.tr (l476.tr l484)))), W489, ⟨(some (V.str x411.1)), (some v427), l473, l488, rfl, rfl, (Ow.mono l484 o479), o490⟩⟩
    · obtain ⟨B446, l444, c450, l449, W448, o445⟩ := hw
      have c450 := c450.symm
      have hs419 := opF c450 hs419
      refine next_ ?_
      refine nx_ ?_
      rw [← Option.some.inj hs419]
      exact ⟨_, B446, (l417.tr l449), W448, ⟨(some (V.str x411.1)), (some v427), l444, l424, rfl, rfl, o445, (Ow.mono l449 o425)⟩⟩
  rintro σ' O501 B497 H498 l500 W499 ⟨u502, u503, l504, l506, rfl, rfl, o505, o507⟩
  refine nx_ ?_
  obtain ⟨x514, ex514, h⟩ := bs h
  obtain ⟨r518, er518, h⟩ := bs h
  obtain ⟨r533, er533, h⟩ := bs h
  refine seq_ ?_
  refine asg_ ?_
  refine call_ ?_
  refine tcons_ ?_
  refine var_ rfl ?_
  refine tcons_ ?_
  refine var_ rfl ?_
  refine tcons_ ?_
  refine lst_ ?_
  refine tnil_ ?_
  refine mkL (xs := ([] : List Str)) W499 .nil (by show 0 ≤ sizeLine; decide) fun v508 B509 H510 W511 l512 r513 => ?_
  refine tcons_ ?_
  refine op_ ?_
  refine cst_ ?_
  refine call_ ?_
  refine tcons_ ?_
  refine var_ rfl ?_
  refine tcons_ ?_
  refine op_ ?_
  refine var_ rfl ?_
  refine cst_ ?_
  refine ixV_ W511 (Rp.mono (l45.tr (l81.tr (l133.tr (l144.tr (l166.tr (l254.tr (l283.tr (l385.tr (l406.tr (l500.tr l512)))))))))) r_sizes) ex514 fun v515 r516 => ?_
  obtain rfl : v515 = V.int x514 := r516
  refine tnil_ ?_
  have L517 := Ws.ln (O1 := [(a48, .lst l257), (a52, .lst l389)]) (O := [(a56, .lst l504)]) (O2 := [(a61, .lst l391), (a263, .lst l393), (a395, .lst l506)]) W511
  refine ⟨B509, a56, l504, fin491.1, x514, r518, rfl, Ln.call (O1 := [(a48, .lst l257), (a52, .lst l389)]) (O := [(a56, .lst l504)]) (O2 := [(a61, .lst l391), (a263, .lst l393), (a395, .lst l506)]) L517 W511, (Ow.mono l512 o505), er518, fun v519 B520 H521 l524 V522 q523 o525 => ?_⟩
  have W526 := Ws.back (O1 := [(a48, .lst l257), (a52, .lst l389)]) (O := [(a56, .lst l504)]) (O2 := [(a61, .lst l391), (a263, .lst l393), (a395, .lst l506)]) W511 (O' := [(a56, .lst l524)]) V522
  have l527 := (Ws.bb V522)
  have W526 : Ws [] B H B520 H521 [(a48, .lst l257), (a52, .lst l389), (a56, .lst l524), (a61, .lst l391), (a263, .lst l393), (a395, .lst l506)] := W526
  obtain rfl : v519 = V.int r518.1 := q523
  refine i0_ ?_
  refine tnil_ ?_
  have L528 := Ws.ln (O1 := [(a48, .lst l257), (a52, .lst l389)]) (O := [(a56, .lst l524)]) (O2 := [(a61, .lst l391), (a263, .lst l393), (a395, .lst l506)]) W526
  obtain ⟨B529, L530, l531, r532⟩ := Ln.add (O1 := [(a48, .lst l257), (a52, .lst l389)]) (O := [(a56, .lst l524)]) (O2 := [(a61, .lst l391), (a263, .lst l393), (a395, .lst l506)]) L528 W526 2 rfl (Ow.mono (l406.tr (l500.tr (l512.tr l527))) o392)
  refine ⟨B529, a56, l524, r518.2, (V.ref a61), fin376.2.1, v508, ([] : List Str), ((1 : Int) + r518.1), r533, rfl, Ln.call (O1 := [(a48, .lst l257), (a52, .lst l389)]) (O := [(a56, .lst l524)]) (O2 := [(a61, .lst l391), (a263, .lst l393), (a395, .lst l506)]) L530 W526, (Ow.mono L530.le o525), r532, (Rp.mono L530.le (Rp.mono l527 r513)), er533, fun a541 B535 H536 l542 l539 V537 n543 o544 o540 => ?_⟩
  obtain ⟨B547, W545, l546, t548⟩ := Ln.backT (O1 := [(a48, .lst l257), (a52, .lst l389)]) (O := [(a56, .lst l524)]) (O2 := [(a61, .lst l391), (a263, .lst l393), (a395, .lst l506)]) L530 W526 (O' := [(a56, .lst l539), (a541, .lst l542)]) V537 rfl
  have o549 : Ow B547 l539 r533.2 := Ow.tp t548 o540
  have o550 : Ow B547 l542 r533.1 := Ow.tp t548 o544
  have W545 : Ws [] B H B547 H536 [(a48, .lst l257), (a52, .lst l389), (a56, .lst l539), (a541, .lst l542), (a61, .lst l391), (a263, .lst l393), (a395, .lst l506)] := W545
  have n551 := Ws.old W526 n543
  refine gset_ (σ' := [some v_cells, some v_sizes, some (V.ref a61), u387, some v140, some (V.ref a146), some (V.ref a263), some (V.ref a395), some (V.ref a541), none, none, some (V.ref a48), some (V.ref a52), some (V.ref a56), u388, u502, u503, none, none]) rfl ?_
  refine nx_ ?_
  obtain ⟨q574, h⟩ := cks h
  obtain ⟨x581, ex581, h⟩ := bs h
  obtain ⟨r585, er585, h⟩ := bs h
  obtain ⟨r600, er600, h⟩ := bs h
  refine seq_ ?_
  refine asg_ ?_
  refine call_ ?_
  refine tcons_ ?_
  refine var_ rfl ?_
  refine tcons_ ?_
  refine var_ rfl ?_
  refine tcons_ ?_
  refine lc_ ?_
  refine ilist_ ?_
  refine var_ rfl ?_
  refine oFz W545 3 rfl n551 o550 fun B554 W555 l556 r557 => ?_
  have W555 : Ws [] B H B554 H536 [(a48, .lst l257), (a52, .lst l389), (a56, .lst l539), (a61, .lst l391), (a263, .lst l393), (a395, .lst l506)] := W555
  refine itL W555 r557 fun a552 tw553 => ?_
  refine lc_m W555 tw553 q574 (fun (x558 : Str × Str) => x558.1) (fun x558 v560 B561 H562 D563 acc564 Nx565 l566 W567 r568 k570 => ?_) ?_
  · refine gset_ (σ' := [some v_cells, some v_sizes, some (V.ref a61), u387, some v140, some (V.ref a146), some (V.ref a263), some (V.ref a395), some (V.ref a541), none, none, some (V.ref a48), some (V.ref a52), some (V.ref a56), u388, u502, u503, none, some v560]) rfl ?_
    refine ⟨rfl, ?_⟩
    refine op_ ?_
    refine var_ rfl ?_
    refine cst_ ?_
    refine ixP0_ W567 r568 fun v572 r573 => ?_
    obtain rfl : v572 = V.str x558.1 := r573
    exact k570 _ _ _ (Le.refl _) W567 (show Rp.R B561 (V.str x558.1) (x558.1 : Str) from rfl)
  intro v575 B576 H577 l578 W579 r580
  refine tcons_ ?_
  refine call_ ?_
  refine tcons_ ?_
  refine var_ rfl ?_
  refine tcons_ ?_
  refine op_ ?_
  refine op_ ?_
  refine var_ rfl ?_
  refine cst_ ?_
  refine ixV_ W579 (Rp.mono (l45.tr (l81.tr (l133.tr (l144.tr (l166.tr (l254.tr (l283.tr (l385.tr (l406.tr (l500.tr (l512.tr (l527.tr (l546.tr (l556.tr l578)))))))))))))) r_sizes) ex581 fun v582 r583 => ?_
  obtain rfl : v582 = V.int x581 := r583
  refine cst_ ?_
  refine i0_ ?_
  refine tnil_ ?_
  have L584 := Ws.ln (O1 := [(a48, .lst l257), (a52, .lst l389)]) (O := [(a56, .lst l539)]) (O2 := [(a61, .lst l391), (a263, .lst l393), (a395, .lst l506)]) W579
  refine ⟨B576, a56, l539, r533.2, (x581 + (1 : Int)), r585, rfl, Ln.call (O1 := [(a48, .lst l257), (a52, .lst l389)]) (O := [(a56, .lst l539)]) (O2 := [(a61, .lst l391), (a263, .lst l393), (a395, .lst l506)]) L584 W579, (Ow.mono (l556.tr l578) o549), er585, fun v586 B587 H588 l591 V589 q590 o592 => ?_⟩
  have W593 := Ws.back (O1 := [(a48, .lst l257), (a52, .lst l389)]) (O := [(a56, .lst l539)]) (O2 := [(a61, .lst l391), (a263, .lst l393), (a395, .lst l506)]) W579 (O' := [(a56, .lst l591)]) V589
  have l594 := (Ws.bb V589)
  have W593 : Ws [] B H B587 H588 [(a48, .lst l257), (a52, .lst l389), (a56, .lst l591), (a61, .lst l391), (a263, .lst l393), (a395, .lst l506)] := W593
  obtain rfl : v586 = V.int r585.1 := q590
  refine tnil_ ?_
  have L595 := Ws.ln (O1 := [(a48, .lst l257), (a52, .lst l389)]) (O := [(a56, .lst l591)]) (O2 := [(a61, .lst l391), (a263, .lst l393), (a395, .lst l506)]) W593
  obtain ⟨B596, L597, l598, r599⟩ := Ln.add (O1 := [(a48, .lst l257), (a52, .lst l389)]) (O := [(a56, .lst l591)]) (O2 := [(a61, .lst l391), (a263, .lst l393), (a395, .lst l506)]) L595 W593 2 rfl (Ow.mono (l406.tr (l500.tr (l512.tr (l527.tr (l546.tr (l556.tr (l578.tr l594))))))) o392)
  refine ⟨B596, a56, l591, r585.2, (V.ref a61), fin376.2.1, v575, (List.map (fun (x558 : Str × Str) => x558.1) r533.1), r585.1, r600, rfl, Ln.call (O1 := [(a48, .lst l257), (a52, .lst l389)]) (O := [(a56, .lst l591)]) (O2 := [(a61, .lst l391), (a263, .lst l393), (a395, .lst l506)]) L597 W593, (Ow.mono L597.le o592), r599, (Rp.mono L597.le (Rp.mono l594 r580)), er600, fun a608 B602 H603 l609 l606 V604 n610 o611 o607 => ?_⟩
  obtain ⟨B614, W612, l613, t615⟩ := Ln.backT (O1 := [(a48, .lst l257), (a52, .lst l389)]) (O := [(a56, .lst l591)]) (O2 := [(a61, .lst l391), (a263, .lst l393), (a395, .lst l506)]) L597 W593 (O' := [(a56, .lst l606), (a608, .lst l609)]) V604 rfl
  have o616 : Ow B614 l606 r600.2 := Ow.tp t615 o607
  have o617 : Ow B614 l609 r600.1 := Ow.tp t615 o611
  have W612 : Ws [] B H B614 H603 [(a48, .lst l257), (a52, .lst l389), (a56, .lst l606), (a608, .lst l609), (a61, .lst l391), (a263, .lst l393), (a395, .lst l506)] := W612
  have n618 := Ws.old W593 n610
  refine gset_ (σ' := [some v_cells, some v_sizes, some (V.ref a61), u387, some v140, some (V.ref a146), some (V.ref a263), some (V.ref a395), some (V.ref a541), some (V.ref a608), none, some (V.ref a48), some (V.ref a52), some (V.ref a56), u388, u502, u503, none, none]) rfl ?_
  refine nx_ ?_
  refine seq_ ?_
  refine asg_ ?_
  refine dispO W612 fun a619 H620 n621 W622 => ?_
  have W622 : Ws [] B H B614 H620 [(a48, .lst l257), (a52, .lst l389), (a56, .lst l606), (a608, .lst l609), (a61, .lst l391), (a263, .lst l393), (a395, .lst l506), (a619, .dK [])] := W622
  refine tp_ ?_
  refine cst_ ?_
  refine var_ rfl ?_
  refine tp_ ?_
  refine cst_ ?_
  refine var_ rfl ?_
  refine tp_ ?_
  refine cst_ ?_
  refine var_ rfl ?_
  refine oFz W622 5 rfl n266 (Ow.mono (l406.tr (l500.tr (l512.tr (l527.tr (l546.tr (l556.tr (l578.tr (l594.tr l613)))))))) o394) fun B623 W624 l625 r626 => ?_
  have W624 : Ws [] B H B623 H620 [(a48, .lst l257), (a52, .lst l389), (a56, .lst l606), (a608, .lst l609), (a61, .lst l391), (a395, .lst l506), (a619, .dK [])] := W624
  refine tp_ ?_
  refine cst_ ?_
  refine var_ rfl ?_
  refine oFz W624 5 rfl n398 (Ow.mono (l512.tr (l527.tr (l546.tr (l556.tr (l578.tr (l594.tr (l613.tr l625))))))) o507) fun B627 W628 l629 r630 => ?_
  have W628 : Ws [] B H B627 H620 [(a48, .lst l257), (a52, .lst l389), (a56, .lst l606), (a608, .lst l609), (a61, .lst l391), (a619, .dK [])] := W628
  refine tpn_ ?_
  refine pq_ ?_
  refine pq_ ?_
  refine pq_ ?_
  refine pq_ ?_
  refine dispE W628 5 rfl [(.inr "switches", v140), (.inr "keepers", (V.ref a146)), (.inr "gates", (V.ref a263)), (.inr "nexts", (V.ref a395))] (ks := ([(.inr "switches"), (.inr "keepers"), (.inr "gates"), (.inr "nexts")] : List Key)) rfl (by decide +kernel) (by decide) rfl fun H631 W632 => ?_
  have W632 : Ws [] B H B627 H631 [(a48, .lst l257), (a52, .lst l389), (a56, .lst l606), (a608, .lst l609), (a61, .lst l391), (a619, .dK [(.inr "switches", v140), (.inr "keepers", (V.ref a146)), (.inr "gates", (V.ref a263)), (.inr "nexts", (V.ref a395))])] := W632
  refine gset_ (σ' := [some v_cells, some v_sizes, some (V.ref a61), u387, some v140, some (V.ref a146), some (V.ref a263), some (V.ref a395), some (V.ref a541), some (V.ref a608), some (V.ref a619), some (V.ref a48), some (V.ref a52), some (V.ref a56), u388, u502, u503, none, none]) rfl ?_
  refine nx_ ?_
  refine seq_ ?_
  refine dput_ ?_
  refine var_ rfl ?_
  refine var_ rfl ?_
  refine cst_ ?_
  refine recPutN (k := .inr "nevers") (ks := ([(.inr "switches"), (.inr "keepers"), (.inr "gates"), (.inr "nexts")] : List Key)) W632 5 rfl rfl (List.nodup_cons.1 (by decide +kernel)).1 (by decide) fun H633 W634 => ?_
  have W634 : Ws [] B H B627 H633 [(a48, .lst l257), (a52, .lst l389), (a56, .lst l606), (a608, .lst l609), (a61, .lst l391), (a619, .dK [(.inr "switches", v140), (.inr "keepers", (V.ref a146)), (.inr "gates", (V.ref a263)), (.inr "nexts", (V.ref a395)), (.inr "nevers", (V.ref a541))])] := W634
  refine nx_ ?_
  refine seq_ ?_
  refine dput_ ?_
  refine var_ rfl ?_
  refine var_ rfl ?_
  refine cst_ ?_
  refine oFz W634 3 rfl n618 (Ow.mono (l625.tr l629) o617) fun B635 W636 l637 r638 => ?_
  have W636 : Ws [] B H B635 H633 [(a48, .lst l257), (a52, .lst l389), (a56, .lst l606), (a61, .lst l391), (a619, .dK [(.inr "switches", v140), (.inr "keepers", (V.ref a146)), (.inr "gates", (V.ref a263)), (.inr "nexts", (V.ref a395)), (.inr "nevers", (V.ref a541))])] := W636
  refine recPutN (k := .inr "somes") (ks := ([(.inr "switches"), (.inr "keepers"), (.inr "gates"), (.inr "nexts"), (.inr "nevers")] : List Key)) W636 4 rfl rfl (List.nodup_cons.1 (by decide +kernel)).1 (by decide) fun H639 W640 => ?_
  have W640 : Ws [] B H B635 H639 [(a48, .lst l257), (a52, .lst l389), (a56, .lst l606), (a61, .lst l391), (a619, .dK [(.inr "switches", v140), (.inr "keepers", (V.ref a146)), (.inr "gates", (V.ref a263)), (.inr "nexts", (V.ref a395)), (.inr "nevers", (V.ref a541)), (.inr "somes", (V.ref a608))])] := W640
  refine nx_ ?_
  refine ret_ ?_
  refine var_ rfl ?_
  refine fz0 W640 4 rfl n621 fun B641 W642 l643 h644 => ?_
  have W642 : Ws [] B H B641 H639 [(a48, .lst l257), (a52, .lst l389), (a56, .lst l606), (a61, .lst l391)] := W642
  have r645 : Rp.R B641 (V.ref a619) (R_m.mk fin124.2 fin245.2.2 fin376.2.2 fin491.2 r533.1 r600.1) := ⟨a619, v140, (V.ref a146), (V.ref a263), (V.ref a395), (V.ref a541), (V.ref a608), rfl, dkOf h644, (Rp.mono (l166.tr (l254.tr (l283.tr (l385.tr (l406.tr (l500.tr (l512.tr (l527.tr (l546.tr (l556.tr (l578.tr (l594.tr (l613.tr (l625.tr (l629.tr (l637.tr l643)))))))))))))))) r145), (Rp.mono (l500.tr (l512.tr (l527.tr (l546.tr (l556.tr (l578.tr (l594.tr (l613.tr (l625.tr (l629.tr (l637.tr l643))))))))))) r407), (Rp.mono (l629.tr (l637.tr l643)) r626), (Rp.mono (l637.tr l643) r630), (Rp.mono (l578.tr (l594.tr (l613.tr (l625.tr (l629.tr (l637.tr l643)))))) r557), (Rp.mono l643 r638)⟩
  rw [← Option.some.inj h] at k
  have W646 := Ws.drop W642 0
  have W647 := Ws.drop W646 0
  have W648 := Ws.drop W647 0
  have W649 := Ws.drop W648 0
  have W649' : Ws [] B H B641 H639 [] := W649
  exact k (V.ref a619) B641 H639 W649' r645

def sp_machine [Cs] (K : PySem.W.Frag) : Sp := fun vs H Q _ => ∃ (B : Hp) (v_script : V) (x_script : Scr) (v_sizes : V) (x_sizes : TV Int) (r : R_m), vs = [v_script, v_sizes] ∧ Ws [] B H B H [] ∧ RC K B v_script x_script ∧ Rp.R B v_sizes x_sizes ∧ m_machine x_script x_sizes = some r ∧ ∀ w B' H', Ws [] B H B' H' [] → Rp.R B' w r → Q w H'
abbrev s_machine : Stmt := top 37
theorem sc_machine : FnScope ["_law_script", "_law_sizes", "_law_cells", "_law_k", "_law_cell"] ["_law_script", "_law_sizes"] (C8.fnScope s_machine) := C8.fnScope_by (by decide +kernel)
theorem ok_machine [Cs] (T : Tx w K mg) (c_cell_at : C8.Cal P w K mg base 1 "_law_cell_at" (sp_cell_at K) []) (c_rich : C8.Cal P w K mg base 2 "_law_rich" (sp_rich K) []) (c_machine_digits : C8.Cal P w K mg base 4 "_law_machine_digits" (sp_machine_digits K) []) {f : Addr} {fd : FuncData} (F : C8.Def K mg "_law_machine" s_machine f fd) (b : Binds K fd ["_law_script", "_law_sizes"] []) : C8.Cal P w K mg base 5 "_law_machine" (sp_machine K) [] := by
  refine C8.cal0 F b .nil sc_machine (fun vs H Q E h => ?_) (fun cdv A outer s H vs Q E hr h => ?_)
  · obtain ⟨B, v_script, x_script, v_sizes, x_sizes, r, rfl, _⟩ := h
    rfl
  obtain ⟨B, v_script, x_script, v_sizes, x_sizes, r, rfl, W, r_script, r_sizes, h, k⟩ := h
  refine ⟨_, (pss_cons (ps_setLc (i := 2) (own := [("_law_k", 3)]) (g := (gName 3)) (tt := tYes) (by rfl) sc_machine.nd rfl rfl (sw_true rfl rfl rfl (by decide +kernel)) (pi_range1 (by rfl) T.b_range (pa_cons pe_int pa_nil)) (blkOk_by (own := [("_law_k", 3)]) (N := ["_law_script", "_law_sizes", "_law_cells", "_law_k", "_law_cell"]) (sc := C8.fnScope s_machine) (by decide +kernel)) (fun _ _ _ _ _ => (pg_name (i := 3) sc_machine.nd rfl (Or.inl rfl))) (fun _ _ _ _ _ => pts_nil) (fun _ _ _ _ _ => (C8.pe_c c_cell_at hr (by omega) (by rfl) (pa_cons (pv 0) (pa_cons (pv 3) pa_nil))))) (C8.pss_cut (ps_if (pt_cmpR op_eq (pe_op op_mod (pe_ix (k_ixL (K := K)) (pv 2) pe_int (fun _ _ => rfl)) pe_int) pe_int (nomark _)) (pss_one (ps_setLc (i := 2) (own := [("_law_k", 3), ("_law_cell", 4)]) (g := (gTup K 2 (gCons (gName 3) (gCons (gName 4) gNil)))) (tt := tYes) (by rfl) sc_machine.nd rfl rfl (sw_true rfl rfl rfl (by decide +kernel)) (k_pie (K := K) (by rfl) T.b_enumerate (pa_cons (pv 2) pa_nil)) (blkOk_by (own := [("_law_k", 3), ("_law_cell", 4)]) (N := ["_law_script", "_law_sizes", "_law_cells", "_law_k", "_law_cell"]) (sc := C8.fnScope s_machine) (by decide +kernel)) (fun _ _ _ _ _ => (k_gtup (K := K) rfl (pgs_cons (pg_name (i := 3) sc_machine.nd rfl (Or.inl rfl)) (pgs_cons (pg_name (i := 4) sc_machine.nd rfl (Or.inl rfl)) pgs_nil)))) (fun _ _ _ _ _ => pts_nil) (fun _ _ _ _ _ => (C8.pe_c c_rich hr (by omega) (by rfl) (pa_cons (pv 4) (pa_cons (pv 3) pa_nil)))))) pss_nil) (pss_one (ps_ret (C8.pe_c c_machine_digits hr (by omega) (by rfl) (pa_cons (pe_lst (pa_cons (pe_ix (k_ixL (K := K)) (pv 2) pe_int (fun _ _ => rfl)) (pa_cons (pe_ix (k_ixL (K := K)) (pv 2) pe_int (fun _ _ => rfl)) (pa_cons (pe_op op_fdiv (pe_ix (k_ixL (K := K)) (pv 2) pe_int (fun _ _ => rfl)) pe_int) pa_nil)))) (pa_cons (pv 1) pa_nil))))))), ?_⟩
  refine st_ (σ' := [some v_script, some v_sizes, none, none, none]) rfl ?_
  unfold m_machine at h
  obtain ⟨x25, ex25, h⟩ := bs h
  refine seq_ ?_
  refine asg_ ?_
  refine lc_ ?_
  refine irng1_ ?_
  refine tcons_ ?_
  refine cst_ ?_
  refine tnil_ ?_
  refine itR1 W (by decide) fun tw1 => ?_
  refine lc_o W tw1 (by rw [rng_len]; decide) (fun (x2 : Int) => bd (m_cell_at x_script x2) fun r17 => some r17) ex25 (fun x2 z26 v4 B5 H6 D7 acc8 Nx9 l10 W11 r12 hs3 k14 => ?_) ?_
  · obtain ⟨r17, er17, hs3⟩ := bs hs3
    obtain rfl := Option.some.inj hs3
    obtain rfl : v4 = V.int x2 := r12
    refine gset_ (σ' := [some v_script, some v_sizes, none, some (V.int x2), none]) rfl ?_
    refine ⟨rfl, ?_⟩
    refine call_ ?_
    refine tcons_ ?_
    refine var_ rfl ?_
    refine tcons_ ?_
    refine var_ rfl ?_
    refine tnil_ ?_
    have L16 := Ws.ln (O1 := []) (O := []) (O2 := [(D7, .lst acc8)]) W11
    refine ⟨B5, v_script, x_script, x2, r17, rfl, Ln.call (O1 := []) (O := []) (O2 := [(D7, .lst acc8)]) L16 W11, (RC.mono l10 r_script), er17, fun v18 B19 H20 V21 q22 => ?_⟩
    have W23 := Ws.back (O1 := []) (O := []) (O2 := [(D7, .lst acc8)]) W11 (O' := []) V21
    have l24 := (Ws.bb V21)
    have W23 : Ws [] B H B19 H20 [(D7, .lst acc8)] := W23
    obtain rfl : v18 = V.int r17 := q22
    exact k14 _ _ _ l24 W23 (show Rp.R B19 (V.int r17) (r17 : Int) from rfl)
  intro v27 B28 H29 l30 W31 r32
  refine gset_ (σ' := [some v_script, some v_sizes, some v27, none, none]) rfl ?_
  refine nx_ ?_
  obtain ⟨x35, ex35, h⟩ := bs h
  obtain ⟨j38, hj39, h⟩ := bs h
  refine cut_ (fun σ' H' => ∃ (B' : Hp) (w0' : V), σ' = [some v_script, some v_sizes, some w0', none, none] ∧ Le B28 B' ∧ Ws [] B H B' H' [] ∧ Rp.R B' w0' (j38 : List Int)) ?_ ?_
  · refine if_ (fun v' H' => v' = (decide ((x35 % (2 : Int)) = (0 : Int))) ∧ H29 = H') (fun Q33 kk34 => ?_) (fun H29q hw => ?_) (fun H29q hw => ?_)
    · refine tst_ ?_
      refine op_ ?_
      refine op_ ?_
      refine op_ ?_
      refine var_ rfl ?_
      refine cst_ ?_
      refine ixL_ W31 r32 ex35 fun v36 r37 => ?_
      obtain rfl : v36 = V.int x35 := r37
      refine cst_ ?_
      refine iC_ (by show (0 : Int) < 2; decide) ?_
      refine cst_ ?_
      refine eqI_ ?_
      refine ⟨_, rfl, ?_⟩
      exact kk34 _ _ ⟨rfl, rfl⟩
    · obtain ⟨c40, rfl⟩ := hw
      have c40 := c40.symm
      have hj39 := opT c40 hj39
      obtain ⟨q70, hj39⟩ := cks hj39
      obtain ⟨x71, ex71, hj39⟩ := bs hj39
      refine asg_ ?_
      refine lc_ ?_
      refine ienum_ ?_
      refine tcons_ ?_
      refine var_ rfl ?_
      refine tnil_ ?_
      refine itE W31 r32 fun a41 tw42 => ?_
      refine lc_o W31 tw42 q70 (fun (x43 : Int × Int) => bd (m_rich x43.2 x43.1) fun r62 => some r62) ex71 (fun x43 z72 v45 B46 H47 D48 acc49 Nx50 l51 W52 r53 hs44 k59 => ?_) ?_
      · obtain ⟨r62, er62, hs44⟩ := bs hs44
        obtain rfl := Option.some.inj hs44
        refine gP_ W52 r53 fun v55 v56 r57 r58 => ?_
        obtain rfl : v55 = V.int x43.1 := r57
        refine gcons_ ?_
        refine gset_ (σ' := [some v_script, some v_sizes, some v27, some (V.int x43.1), none]) rfl ?_
        obtain rfl : v56 = V.int x43.2 := r58
        refine gcons_ ?_
        refine gset_ (σ' := [some v_script, some v_sizes, some v27, some (V.int x43.1), some (V.int x43.2)]) rfl ?_
        refine gnil_ ?_
        refine ⟨rfl, ?_⟩
        refine call_ ?_
        refine tcons_ ?_
        refine var_ rfl ?_
        refine tcons_ ?_
        refine var_ rfl ?_
        refine tnil_ ?_
        have L61 := Ws.ln (O1 := []) (O := []) (O2 := [(D48, .lst acc49)]) W52
        refine ⟨B46, x43.2, x43.1, r62, rfl, Ln.call (O1 := []) (O := []) (O2 := [(D48, .lst acc49)]) L61 W52, er62, fun v63 B64 H65 V66 q67 => ?_⟩
        have W68 := Ws.back (O1 := []) (O := []) (O2 := [(D48, .lst acc49)]) W52 (O' := []) V66
        have l69 := (Ws.bb V66)
        have W68 : Ws [] B H B64 H65 [(D48, .lst acc49)] := W68
        obtain rfl : v63 = V.int r62 := q67
        exact k59 _ _ _ l69 W68 (show Rp.R B64 (V.int r62) (r62 : Int) from rfl)
      intro v73 B74 H75 l76 W77 r78
      refine gset_ (σ' := [some v_script, some v_sizes, some v73, none, none]) rfl ?_
      refine nx_ ?_
      rw [← Option.some.inj hj39]; exact ⟨B74, v73, rfl, l76, W77, r78⟩
    · obtain ⟨c40, rfl⟩ := hw
      have c40 := c40.symm
      have hj39 := opF c40 hj39
      refine next_ ?_
      refine nx_ ?_
      rw [← Option.some.inj hj39]; exact ⟨B28, v27, rfl, (Le.refl _), W31, r32⟩
  rintro _ H80 ⟨B79, v83, rfl, l82, W81, r84⟩
  obtain ⟨x85, ex85, h⟩ := bs h
  obtain ⟨x88, ex88, h⟩ := bs h
  obtain ⟨x91, ex91, h⟩ := bs h
  obtain ⟨r101, er101, h⟩ := bs h
  refine ret_ ?_
  refine call_ ?_
  refine tcons_ ?_
  refine lst_ ?_
  refine tcons_ ?_
  refine op_ ?_
  refine var_ rfl ?_
  refine cst_ ?_
  refine ixL_ W81 r84 ex85 fun v86 r87 => ?_
  obtain rfl : v86 = V.int x85 := r87
  refine tcons_ ?_
  refine op_ ?_
  refine var_ rfl ?_
  refine cst_ ?_
  refine ixL_ W81 r84 ex88 fun v89 r90 => ?_
  obtain rfl : v89 = V.int x88 := r90
  refine tcons_ ?_
  refine op_ ?_
  refine op_ ?_
  refine var_ rfl ?_
  refine cst_ ?_
  refine ixL_ W81 r84 ex91 fun v92 r93 => ?_
  obtain rfl : v92 = V.int x91 := r93
  refine cst_ ?_
  refine iC_ ⟨by decide, by decide⟩ ?_
  refine tnil_ ?_
  refine mkL (xs := ([x85, x88, (x91 / (2 : Int))] : List Int)) W81 (.cons (show Rp.R B79 (V.int x85) (x85 : Int) from rfl) (.cons (show Rp.R B79 (V.int x88) (x88 : Int) from rfl) (.cons (show Rp.R B79 (V.int (x91 / (2 : Int))) ((x91 / (2 : Int)) : Int) from rfl) .nil))) (by show 3 ≤ sizeLine; decide) fun v94 B95 H96 W97 l98 r99 => ?_
  refine tcons_ ?_
  refine var_ rfl ?_
  refine tnil_ ?_
  have L100 := Ws.ln (O1 := []) (O := []) (O2 := []) W97
  refine ⟨B95, v94, ([x85, x88, (x91 / (2 : Int))] : List Int), v_sizes, x_sizes, r101, rfl, Ln.call (O1 := []) (O := []) (O2 := []) L100 W97, r99, (Rp.mono (l30.tr (l82.tr l98)) r_sizes), er101, fun v102 B103 H104 V105 q106 => ?_⟩
  have W107 := Ws.back (O1 := []) (O := []) (O2 := []) W97 (O' := []) V105
  have l108 := (Ws.bb V105)
  have W107 : Ws [] B H B103 H104 [] := W107
  rw [← Option.some.inj h] at k
  have W107' : Ws [] B H B103 H104 [] := W107
  exact k v102 B103 H104 W107' q106

def sp_Draft_init [Cs] (K : PySem.W.Frag) : Sp := fun vs H Q _ => ∃ (B : Hp) (a_self : Addr) (d_self : Addr) (r : O_Draft), vs = [V.ref a_self] ∧ Ws [d_self, a_self] B H B H [(d_self, .own a_self), (a_self, .ins Cs.c_Draft d_self [])] ∧ m_Draft_init = some r ∧ ∀ B' H' a_self_switches' l_self_switches' a_self_keepers' l_self_keepers' a_self_gates' l_self_gates' a_self_nexts' l_self_nexts' a_self_nevers' l_self_nevers' a_self_somes' l_self_somes' a_self_names' l_self_names', Ws [d_self, a_self] B H B' H' [(d_self, .own a_self), (a_self, .ins Cs.c_Draft d_self [("switches", V.ref a_self_switches'), ("keepers", V.ref a_self_keepers'), ("gates", V.ref a_self_gates'), ("nexts", V.ref a_self_nexts'), ("nevers", V.ref a_self_nevers'), ("somes", V.ref a_self_somes'), ("names", V.ref a_self_names')]), (a_self_switches', .lst l_self_switches'), (a_self_keepers', .dK l_self_keepers'), (a_self_gates', .lst l_self_gates'), (a_self_nexts', .dK l_self_nexts'), (a_self_nevers', .dK l_self_nevers'), (a_self_somes', .dK l_self_somes'), (a_self_names', .dK l_self_names')] → H a_self_switches' = none → H a_self_keepers' = none → H a_self_gates' = none → H a_self_nexts' = none → H a_self_nevers' = none → H a_self_somes' = none → H a_self_names' = none → Ow B' l_self_switches' r.switches → Od B' l_self_keepers' r.keepers → Ow B' l_self_gates' r.gates → Od B' l_self_nexts' r.nexts → Od B' l_self_nevers' r.nevers → Od B' l_self_somes' r.somes → Od B' l_self_names' r.names → Q V.non H'
abbrev s_Draft_init : Stmt := (C8.clsBody (top 15)).getD 0 (.Pass ⟨0, 0, 0, 0⟩)
theorem sc_Draft_init : FnScope ["self"] ["self"] (C8.fnScope s_Draft_init) := C8.fnScope_by (by decide +kernel)
theorem ok_Draft_init [Cs] (T : Tx w K mg) {f : Addr} {fd : FuncData} (M : Mk K Cs.c_Draft f) (hm : mg "Draft" = some (.ref Cs.c_Draft)) (F : C8.Fun K "__init__" "Draft.__init__" s_Draft_init f fd) (b : Binds K fd ["self"] []) : C8.Mak P w K mg base 1 "Draft" Cs.c_Draft (sp_Draft_init K) [] := by
  refine C8.mak0 M hm F b .nil sc_Draft_init (fun vs H Q E h => ?_) (fun cdv A outer s H vs Q E hr h => ?_)
  · obtain ⟨B, a_self, d_self, r, rfl, _⟩ := h
    rfl
  obtain ⟨B, a_self, d_self, r, rfl, W, h, k⟩ := h
  refine ⟨_, (pss_cons (k_fst (K := K) (pv 0) (pe_lst pa_nil)) (pss_cons (k_fst (K := K) (pv 0) pe_dnewK) (pss_cons (k_fst (K := K) (pv 0) (pe_lst pa_nil)) (pss_cons (k_fst (K := K) (pv 0) pe_dnewK) (pss_cons (k_fst (K := K) (pv 0) pe_dnewK) (pss_cons (k_fst (K := K) (pv 0) pe_dnewK) (pss_one (k_fst (K := K) (pv 0) pe_dnewK)))))))), ?_⟩
  refine st_ (σ' := [some (V.ref a_self)]) rfl ?_
  unfold m_Draft_init at h
  refine seq_ ?_
  refine fst_ ?_
  refine lst_ ?_
  refine tnil_ ?_
  refine oMk (xs := ([] : List Str)) W .nil (by show 0 ≤ sizeLine; decide) fun a1 H2 l3 n4 W5 o6 => ?_
  have W5 : Ws [d_self, a_self] B H B H2 [(d_self, .own a_self), (a_self, .ins Cs.c_Draft d_self []), (a1, .lst l3)] := W5
  refine var_ rfl ?_
  refine fstN (ns := ([] : List Str)) W5 1 rfl T.cls_Draft T.na_Draft_switches rfl (by decide +kernel) (by decide) fun H7 W8 => ?_
  have W8 : Ws [d_self, a_self] B H B H7 [(d_self, .own a_self), (a_self, .ins Cs.c_Draft d_self [("switches", V.ref a1)]), (a1, .lst l3)] := W8
  refine nx_ ?_
  refine seq_ ?_
  refine fst_ ?_
  refine dnewK_ ?_
  refine newD (κ := Str) (α := (Option Int)) W8 fun a9 H10 l11 n12 W13 o14 => ?_
  have W13 : Ws [d_self, a_self] B H B H10 [(d_self, .own a_self), (a_self, .ins Cs.c_Draft d_self [("switches", V.ref a1)]), (a1, .lst l3), (a9, .dK l11)] := W13
  refine var_ rfl ?_
  refine fstN (ns := (["switches"] : List Str)) W13 1 rfl T.cls_Draft T.na_Draft_keepers rfl (by decide +kernel) (by decide) fun H15 W16 => ?_
  have W16 : Ws [d_self, a_self] B H B H15 [(d_self, .own a_self), (a_self, .ins Cs.c_Draft d_self [("switches", V.ref a1), ("keepers", V.ref a9)]), (a1, .lst l3), (a9, .dK l11)] := W16
  refine nx_ ?_
  refine seq_ ?_
  refine fst_ ?_
  refine lst_ ?_
  refine tnil_ ?_
  refine oMk (xs := ([] : List (T3 Str Str Str))) W16 .nil (by show 0 ≤ sizeLine; decide) fun a17 H18 l19 n20 W21 o22 => ?_
  have W21 : Ws [d_self, a_self] B H B H18 [(d_self, .own a_self), (a_self, .ins Cs.c_Draft d_self [("switches", V.ref a1), ("keepers", V.ref a9)]), (a1, .lst l3), (a9, .dK l11), (a17, .lst l19)] := W21
  refine var_ rfl ?_
  refine fstN (ns := (["switches", "keepers"] : List Str)) W21 1 rfl T.cls_Draft T.na_Draft_gates rfl (by decide +kernel) (by decide) fun H23 W24 => ?_
  have W24 : Ws [d_self, a_self] B H B H23 [(d_self, .own a_self), (a_self, .ins Cs.c_Draft d_self [("switches", V.ref a1), ("keepers", V.ref a9), ("gates", V.ref a17)]), (a1, .lst l3), (a9, .dK l11), (a17, .lst l19)] := W24
  refine nx_ ?_
  refine seq_ ?_
  refine fst_ ?_
  refine dnewK_ ?_
  refine newD (κ := Str) (α := Str) W24 fun a25 H26 l27 n28 W29 o30 => ?_
  have W29 : Ws [d_self, a_self] B H B H26 [(d_self, .own a_self), (a_self, .ins Cs.c_Draft d_self [("switches", V.ref a1), ("keepers", V.ref a9), ("gates", V.ref a17)]), (a1, .lst l3), (a9, .dK l11), (a17, .lst l19), (a25, .dK l27)] := W29
  refine var_ rfl ?_
  refine fstN (ns := (["switches", "keepers", "gates"] : List Str)) W29 1 rfl T.cls_Draft T.na_Draft_nexts rfl (by decide +kernel) (by decide) fun H31 W32 => ?_
  have W32 : Ws [d_self, a_self] B H B H31 [(d_self, .own a_self), (a_self, .ins Cs.c_Draft d_self [("switches", V.ref a1), ("keepers", V.ref a9), ("gates", V.ref a17), ("nexts", V.ref a25)]), (a1, .lst l3), (a9, .dK l11), (a17, .lst l19), (a25, .dK l27)] := W32
  refine nx_ ?_
  refine seq_ ?_
  refine fst_ ?_
  refine dnewK_ ?_
  refine newD (κ := Str) (α := Str) W32 fun a33 H34 l35 n36 W37 o38 => ?_
  have W37 : Ws [d_self, a_self] B H B H34 [(d_self, .own a_self), (a_self, .ins Cs.c_Draft d_self [("switches", V.ref a1), ("keepers", V.ref a9), ("gates", V.ref a17), ("nexts", V.ref a25)]), (a1, .lst l3), (a9, .dK l11), (a17, .lst l19), (a25, .dK l27), (a33, .dK l35)] := W37
  refine var_ rfl ?_
  refine fstN (ns := (["switches", "keepers", "gates", "nexts"] : List Str)) W37 1 rfl T.cls_Draft T.na_Draft_nevers rfl (by decide +kernel) (by decide) fun H39 W40 => ?_
  have W40 : Ws [d_self, a_self] B H B H39 [(d_self, .own a_self), (a_self, .ins Cs.c_Draft d_self [("switches", V.ref a1), ("keepers", V.ref a9), ("gates", V.ref a17), ("nexts", V.ref a25), ("nevers", V.ref a33)]), (a1, .lst l3), (a9, .dK l11), (a17, .lst l19), (a25, .dK l27), (a33, .dK l35)] := W40
  refine nx_ ?_
  refine seq_ ?_
  refine fst_ ?_
  refine dnewK_ ?_
  refine newD (κ := Str) (α := Str) W40 fun a41 H42 l43 n44 W45 o46 => ?_
  have W45 : Ws [d_self, a_self] B H B H42 [(d_self, .own a_self), (a_self, .ins Cs.c_Draft d_self [("switches", V.ref a1), ("keepers", V.ref a9), ("gates", V.ref a17), ("nexts", V.ref a25), ("nevers", V.ref a33)]), (a1, .lst l3), (a9, .dK l11), (a17, .lst l19), (a25, .dK l27), (a33, .dK l35), (a41, .dK l43)] := W45
  refine var_ rfl ?_
  refine fstN (ns := (["switches", "keepers", "gates", "nexts", "nevers"] : List Str)) W45 1 rfl T.cls_Draft T.na_Draft_somes rfl (by decide +kernel) (by decide) fun H47 W48 => ?_
  have W48 : Ws [d_self, a_self] B H B H47 [(d_self, .own a_self), (a_self, .ins Cs.c_Draft d_self [("switches", V.ref a1), ("keepers", V.ref a9), ("gates", V.ref a17), ("nexts", V.ref a25), ("nevers", V.ref a33), ("somes", V.ref a41)]), (a1, .lst l3), (a9, .dK l11), (a17, .lst l19), (a25, .dK l27), (a33, .dK l35), (a41, .dK l43)] := W48
  refine nx_ ?_
  refine fst_ ?_
  refine dnewK_ ?_
  refine newD (κ := Str) (α := Bool) W48 fun a49 H50 l51 n52 W53 o54 => ?_
  have W53 : Ws [d_self, a_self] B H B H50 [(d_self, .own a_self), (a_self, .ins Cs.c_Draft d_self [("switches", V.ref a1), ("keepers", V.ref a9), ("gates", V.ref a17), ("nexts", V.ref a25), ("nevers", V.ref a33), ("somes", V.ref a41)]), (a1, .lst l3), (a9, .dK l11), (a17, .lst l19), (a25, .dK l27), (a33, .dK l35), (a41, .dK l43), (a49, .dK l51)] := W53
  refine var_ rfl ?_
  refine fstN (ns := (["switches", "keepers", "gates", "nexts", "nevers", "somes"] : List Str)) W53 1 rfl T.cls_Draft T.na_Draft_names rfl (by decide +kernel) (by decide) fun H55 W56 => ?_
  have W56 : Ws [d_self, a_self] B H B H55 [(d_self, .own a_self), (a_self, .ins Cs.c_Draft d_self [("switches", V.ref a1), ("keepers", V.ref a9), ("gates", V.ref a17), ("nexts", V.ref a25), ("nevers", V.ref a33), ("somes", V.ref a41), ("names", V.ref a49)]), (a1, .lst l3), (a9, .dK l11), (a17, .lst l19), (a25, .dK l27), (a33, .dK l35), (a41, .dK l43), (a49, .dK l51)] := W56
  rw [← Option.some.inj h] at k
  have W56' : Ws [d_self, a_self] B H B H55 [(d_self, .own a_self), (a_self, .ins Cs.c_Draft d_self [("switches", V.ref a1), ("keepers", V.ref a9), ("gates", V.ref a17), ("nexts", V.ref a25), ("nevers", V.ref a33), ("somes", V.ref a41), ("names", V.ref a49)]), (a1, .lst l3), (a9, .dK l11), (a17, .lst l19), (a25, .dK l27), (a33, .dK l35), (a41, .dK l43), (a49, .dK l51)] := W56
  exact k B H55 a1 l3 a9 l11 a17 l19 a25 l27 a33 l35 a41 l43 a49 l51 W56' n4 n12 n20 n28 n36 n44 n52 o6 o14 o22 o30 o38 o46 o54

def sp_p_words_of [Cs] (K : PySem.W.Frag) : Sp := fun vs H Q _ => ∃ (B : Hp) (x_row : Str) (r : List Str), vs = [V.str x_row] ∧ Ws [] B H B H [] ∧ m_p_words_of x_row = some r ∧ ∀ w B' H', Ws [] B H B' H' [] → Rp.R B' w r → Q w H'
abbrev s_p_words_of : Stmt := top 16
theorem sc_p_words_of : FnScope ["row", "word"] ["row"] (C8.fnScope s_p_words_of) := C8.fnScope_by (by decide +kernel)
theorem ok_p_words_of [Cs] (T : Tx w K mg) {f : Addr} {fd : FuncData} (F : C8.Def K mg "words_of" s_p_words_of f fd) (b : Binds K fd ["row"] []) : C8.Cal P w K mg base 1 "words_of" (sp_p_words_of K) [] := by
  refine C8.cal0 F b .nil sc_p_words_of (fun vs H Q E h => ?_) (fun cdv A outer s H vs Q E hr h => ?_)
  · obtain ⟨B, x_row, r, rfl, _⟩ := h
    rfl
  obtain ⟨B, x_row, r, rfl, W, h, k⟩ := h
  refine ⟨_, (pss_one (ps_ret (pe_lc (own := [("word", 1)]) (g := (gName 1)) (by rfl) sc_p_words_of.nd (k_pil (K := K) (pe_m1 PySem.F.slot_str_split PySem.F.type_str_split k_split (pv 0) pe_str)) (blkOk_by (own := [("word", 1)]) (N := ["row", "word"]) (sc := C8.fnScope s_p_words_of) (by decide +kernel)) (fun _ _ _ _ _ => (pg_name (i := 1) sc_p_words_of.nd rfl (Or.inl rfl))) (fun _ _ _ _ _ => (pts_one (pt_cmpR op_ne (pv 1) pe_str (nomark _)))) (fun _ _ _ _ _ => (pv 1))))), ?_⟩
  refine st_ (σ' := [some (V.str x_row), none]) rfl ?_
  unfold m_p_words_of at h
  obtain ⟨q1, h⟩ := cks h
  obtain ⟨q28, h⟩ := cks h
  refine ret_ ?_
  refine lc_ ?_
  refine ilist_ ?_
  refine m1_ ?_
  refine var_ rfl ?_
  refine isS_ ?_
  refine cst_ ?_
  refine split_ (by decide +kernel) q1.1 q1.2 W fun v2 B3 H4 W5 l6 r7 => ?_
  refine itL W5 r7 fun a8 tw9 => ?_
  refine lc_fm W5 tw9 q28 (fun (x10 : Str) => (!decide (x10 = ("" : Str)))) (fun (x10 : Str) => x10) (fun x10 v12 B13 H14 D15 acc16 Nx17 l18 W19 r20 k22 k23 => ?_) ?_
  · obtain rfl : v12 = V.str x10 := r20
    refine gset_ (σ' := [some (V.str x_row), some (V.str x10)]) rfl ?_
    refine ⟨rfl, ?_⟩
    refine tx_ (fun v' H' => v' = ((!decide (x10 = ("" : Str)))) ∧ H14 = H') ?_ ?_
    · intro Q24 kk25
      refine tst_ ?_
      refine op_ ?_
      refine var_ rfl ?_
      refine cst_ ?_
      refine neS_ ?_
      refine ⟨_, rfl, ?_⟩
      exact kk25 _ _ ⟨rfl, rfl⟩
    rintro b' H14q hw
    cases b' with
    | true =>
      refine ifT rfl ?_
      obtain ⟨c27, rfl⟩ := hw
      have c27 := c27.symm
      refine var_ rfl ?_
      exact k22 _ _ _ c27 (Le.refl _) W19 (show Rp.R B13 (V.str x10) (x10 : Str) from rfl)
    | false =>
      refine ifF rfl ?_
      obtain ⟨c27, rfl⟩ := hw
      have c27 := c27.symm
      exact k23 _ _ c27 (Le.refl _) W19
  intro v29 B30 H31 l32 W33 r34
  rw [← Option.some.inj h] at k
  have W33' : Ws [] B H B30 H31 [] := W33
  exact k v29 B30 H31 W33' r34

def sp_p_is_name [Cs] (K : PySem.W.Frag) : Sp := fun vs H Q _ => ∃ (B : Hp) (x_word : Str) (r : Bool), vs = [V.str x_word] ∧ Ws [] B H B H [] ∧ m_p_is_name x_word = some r ∧ ∀ w B' H', Ws [] B H B' H' [] → Rp.R B' w r → Q w H'
abbrev s_p_is_name : Stmt := top 17
theorem sc_p_is_name : FnScope ["word", "sign"] ["word"] (C8.fnScope s_p_is_name) := C8.fnScope_by (by decide +kernel)
theorem ok_p_is_name [Cs] (T : Tx w K mg) {f : Addr} {fd : FuncData} (F : C8.Def K mg "is_name" s_p_is_name f fd) (b : Binds K fd ["word"] []) : C8.Cal P w K mg base 1 "is_name" (sp_p_is_name K) [] := by
  refine C8.cal0 F b .nil sc_p_is_name (fun vs H Q E h => ?_) (fun cdv A outer s H vs Q E hr h => ?_)
  · obtain ⟨B, x_word, r, rfl, _⟩ := h
    rfl
  obtain ⟨B, x_word, r, rfl, W, h, k⟩ := h
  refine ⟨_, (pss_cons (ps_if (pt_not (pt_chain op_le op_le pe_int (pe_callB k_lenS (by rfl) T.b_len (by decide +kernel) (pa_cons (pv 0) pa_nil)) pe_int)) (pss_one (ps_ret pe_bl)) pss_nil) (pss_one (ps_ret (pe_callB (k_all (K := K) rfl) (by rfl) T.b_all (by decide +kernel) (pa_cons (pe_lc (own := [("sign", 1)]) (g := (gName 1)) (tt := tYes) (by rfl) sc_p_is_name.nd (pi_str (pv 0)) (blkOk_by (own := [("sign", 1)]) (N := ["word", "sign"]) (sc := C8.fnScope s_p_is_name) (by decide +kernel)) (fun _ _ _ _ _ => (pg_name (i := 1) sc_p_is_name.nd rfl (Or.inl rfl))) (fun _ _ _ _ _ => pts_nil) (fun _ _ _ _ _ => (pe_cmpR k_sub (pv 1) (C8.pe_gc (by rfl) T.g_LETTERS) (by rfl)))) pa_nil))))), ?_⟩
  refine st_ (σ' := [some (V.str x_word), none]) rfl ?_
  unfold m_p_is_name at h
  obtain ⟨q5, h⟩ := cks h
  refine seq_ ?_
  refine if_ (fun v' H' => v' = ((!((decide ((1 : Int) ≤ ((x_word).length : Int))) && (decide (((x_word).length : Int) ≤ (8 : Int)))))) ∧ H = H') (fun Q1 kk2 => ?_) (fun Hq hw => ?_) (fun Hq hw => ?_)
  · refine tnot_ ?_
    refine tx_ (fun v' H' => v' = (((decide ((1 : Int) ≤ ((x_word).length : Int))) && (decide (((x_word).length : Int) ≤ (8 : Int))))) ∧ H = H') (fun Q3 kk4 => ?_) ?_
    · refine tst_ ?_
      refine tchain_ ?_
      refine cst_ ?_
      refine cb_ ?_
      refine tcons_ ?_
      refine var_ rfl ?_
      refine tnil_ ?_
      refine lenS_ q5 ?_
      refine i0_ ?_
      refine ⟨_, rfl, ?_⟩
      refine br_ (fun c6 => ?_) (fun c6 => ?_)
      · refine cst_ ?_
        refine i0_ ?_
        refine ⟨_, rfl, ?_⟩
        exact kk4 _ _ ⟨(andT c6), rfl⟩
      · refine ⟨_, rfl, ?_⟩
        exact kk4 _ _ ⟨(andF c6), rfl⟩
    rintro _ _ ⟨rfl, rfl⟩
    exact kk2 _ _ ⟨rfl, rfl⟩
  · obtain ⟨c8, rfl⟩ := hw
    have c8 := c8.symm
    have h := opT c8 h
    refine ret_ ?_
    refine cst_ ?_
    rw [← Option.some.inj h] at k
    have W' : Ws [] B H B H [] := W
    exact k (V.bl false) B H W' rfl
  · obtain ⟨c8, rfl⟩ := hw
    have c8 := c8.symm
    have h := opF c8 h
    refine next_ ?_
    refine nx_ ?_
    obtain ⟨q24, h⟩ := cks h
    refine ret_ ?_
    refine cb_ ?_
    refine tcons_ ?_
    refine lc_ ?_
    refine istr_ ?_
    refine var_ rfl ?_
    refine itS W fun tw9 => ?_
    refine lc_m W tw9 q24 (fun (x10 : Str) => (subS x10 ("abcdefghijklmnopqrstuvwxyz" : Str))) (fun x10 v12 B13 H14 D15 acc16 Nx17 l18 W19 r20 k22 => ?_) ?_
    · obtain rfl : v12 = V.str x10 := r20
      refine gset_ (σ' := [some (V.str x_word), some (V.str x10)]) rfl ?_
      refine ⟨rfl, ?_⟩
      refine op_ ?_
      refine var_ rfl ?_
      refine cst_ ?_
      refine sub_ ?_
      exact k22 _ _ _ (Le.refl _) W19 (show Rp.R B13 (V.bl (subS x10 ("abcdefghijklmnopqrstuvwxyz" : Str))) ((subS x10 ("abcdefghijklmnopqrstuvwxyz" : Str)) : Bool) from rfl)
    intro v25 B26 H27 l28 W29 r30
    refine tnil_ ?_
    refine all_ W29 r30 ?_
    rw [← Option.some.inj h] at k
    have W29' : Ws [] B H B26 H27 [] := W29
    exact k (V.bl ((List.map (fun (x10 : Str) => (subS x10 ("abcdefghijklmnopqrstuvwxyz" : Str))) (signs x_word)).all id)) B26 H27 W29' rfl

def sp_p_is_literal [Cs] (K : PySem.W.Frag) : Sp := fun vs H Q _ => ∃ (B : Hp) (x_word : Str) (r : Bool), vs = [V.str x_word] ∧ Ws [] B H B H [] ∧ m_p_is_literal x_word = some r ∧ ∀ w B' H', Ws [] B H B' H' [] → Rp.R B' w r → Q w H'
abbrev s_p_is_literal : Stmt := top 18
theorem sc_p_is_literal : FnScope ["word"] ["word"] (C8.fnScope s_p_is_literal) := C8.fnScope_by (by decide +kernel)
theorem ok_p_is_literal [Cs] (T : Tx w K mg) (c_p_plain_name : C8.Cal P w K mg base 1 "plain_name" (sp_p_plain_name K) []) (c_p_is_name : C8.Cal P w K mg base 1 "is_name" (sp_p_is_name K) []) {f : Addr} {fd : FuncData} (F : C8.Def K mg "is_literal" s_p_is_literal f fd) (b : Binds K fd ["word"] []) : C8.Cal P w K mg base 2 "is_literal" (sp_p_is_literal K) [] := by
  refine C8.cal0 F b .nil sc_p_is_literal (fun vs H Q E h => ?_) (fun cdv A outer s H vs Q E hr h => ?_)
  · obtain ⟨B, x_word, r, rfl, _⟩ := h
    rfl
  obtain ⟨B, x_word, r, rfl, W, h, k⟩ := h
  refine ⟨_, (pss_one (ps_ret (pe_or (pe_cmpR (k_in (K := K)) (pv 0) (pe_tup (pa_cons pe_str (pa_cons pe_str pa_nil))) (by rfl)) (pe_one (C8.pe_c c_p_is_name hr (by omega) (by rfl) (pa_cons (C8.pe_c c_p_plain_name hr (by omega) (by rfl) (pa_cons (pv 0) pa_nil)) pa_nil)))))), ?_⟩
  refine st_ (σ' := [some (V.str x_word)]) rfl ?_
  unfold m_p_is_literal at h
  obtain ⟨j29, hj10_, h⟩ := bs h
  refine ret_ ?_
  refine ex_ (fun v' H' => ∃ B', v' = V.bl (j29) ∧ Le B B' ∧ Ws [] B H B' H' []) (fun Q1 kk2 => ?_) ?_
  · refine torV_ ?_
    refine op_ ?_
    refine var_ rfl ?_
    refine tup_ ?_
    refine tcons_ ?_
    refine cst_ ?_
    refine tcons_ ?_
    refine cst_ ?_
    refine tnil_ ?_
    refine mkV W (.cons (show Rp.R B (V.str ("0" : Str)) (("0" : Str) : Str) from rfl) (.cons (show Rp.R B (V.str ("1" : Str)) (("1" : Str) : Str) from rfl) .nil)) (by show 2 ≤ sizeLine; decide) fun v3 B4 H5 W6 l7 r8 => ?_
    refine inSV_ W6 r8 ?_
    refine ⟨_, rfl, ?_⟩
    refine br_ (fun c9 => ?_) (fun c9 => ?_)
    · exact kk2 _ _ ⟨B4, (congrArg V.bl (Option.some.inj (opT c9 hj10_))), l7, W6⟩
    · have hj10 := opF c9 hj10_
      obtain ⟨r12, er12, hj10⟩ := bs hj10
      obtain ⟨r21, er21, hj10⟩ := bs hj10
      refine call_ ?_
      refine tcons_ ?_
      refine call_ ?_
      refine tcons_ ?_
      refine var_ rfl ?_
      refine tnil_ ?_
      have L11 := Ws.ln (O1 := []) (O := []) (O2 := []) W6
      refine ⟨B4, x_word, r12, rfl, Ln.call (O1 := []) (O := []) (O2 := []) L11 W6, er12, fun v13 B14 H15 V16 q17 => ?_⟩
      have W18 := Ws.back (O1 := []) (O := []) (O2 := []) W6 (O' := []) V16
      have l19 := (Ws.bb V16)
      have W18 : Ws [] B H B14 H15 [] := W18
      obtain rfl : v13 = V.str r12 := q17
      refine tnil_ ?_
      have L20 := Ws.ln (O1 := []) (O := []) (O2 := []) W18
      refine ⟨B14, r12, r21, rfl, Ln.call (O1 := []) (O := []) (O2 := []) L20 W18, er21, fun v22 B23 H24 V25 q26 => ?_⟩
      have W27 := Ws.back (O1 := []) (O := []) (O2 := []) W18 (O' := []) V25
      have l28 := (Ws.bb V25)
      have W27 : Ws [] B H B23 H24 [] := W27
      obtain rfl : v22 = V.bl r21 := q26
      exact kk2 _ _ ⟨B23, (congrArg V.bl (Option.some.inj hj10)), (l7.tr (l19.tr l28)), W27⟩
  rintro _ H31 ⟨B30, rfl, l33, W32⟩
  rw [← Option.some.inj h] at k
  have W32' : Ws [] B H B30 H31 [] := W32
  exact k (V.bl j29) B30 H31 W32' rfl

def sp_p_lacks [Cs] (K : PySem.W.Frag) : Sp := fun vs H Q _ => ∃ (B : Hp) (v_draft : V) (x_draft : O_Draft) (x_literal : Str) (r : Bool), vs = [v_draft, V.str x_literal] ∧ Ws [] B H B H [] ∧ Rp.R B v_draft x_draft ∧ m_p_lacks x_draft x_literal = some r ∧ ∀ w B' H', Ws [] B H B' H' [] → Rp.R B' w r → Q w H'
abbrev s_p_lacks : Stmt := top 19
theorem sc_p_lacks : FnScope ["draft", "literal"] ["draft", "literal"] (C8.fnScope s_p_lacks) := C8.fnScope_by (by decide +kernel)
theorem ok_p_lacks [Cs] (T : Tx w K mg) (c_p_plain_name : C8.Cal P w K mg base 1 "plain_name" (sp_p_plain_name K) []) {f : Addr} {fd : FuncData} (F : C8.Def K mg "lacks" s_p_lacks f fd) (b : Binds K fd ["draft", "literal"] []) : C8.Cal P w K mg base 2 "lacks" (sp_p_lacks K) [] := by
  refine C8.cal0 F b .nil sc_p_lacks (fun vs H Q E h => ?_) (fun cdv A outer s H vs Q E hr h => ?_)
  · obtain ⟨B, v_draft, x_draft, x_literal, r, rfl, _⟩ := h
    rfl
  obtain ⟨B, v_draft, x_draft, x_literal, r, rfl, W, r_draft, h, k⟩ := h
  refine ⟨_, (pss_one (ps_ret (pe_and (pe_cmpR (k_nin (K := K)) (pv 1) (pe_tup (pa_cons pe_str (pa_cons pe_str pa_nil))) (by rfl)) (pe_one (pe_cmp (pc_dnotin (units1 hr) (C8.pe_c c_p_plain_name hr (by omega) (by rfl) (pa_cons (pv 1) pa_nil)) (k_fld (K := K) (pv 0))) rfl))))), ?_⟩
  refine st_ (σ' := [some v_draft, some (V.str x_literal)]) rfl ?_
  unfold m_p_lacks at h
  obtain ⟨j38, hj10_, h⟩ := bs h
  refine ret_ ?_
  refine ex_ (fun v' H' => ∃ B', v' = V.bl (j38) ∧ Le B B' ∧ Ws [] B H B' H' []) (fun Q1 kk2 => ?_) ?_
  · refine tandV_ ?_
    refine op_ ?_
    refine var_ rfl ?_
    refine tup_ ?_
    refine tcons_ ?_
    refine cst_ ?_
    refine tcons_ ?_
    refine cst_ ?_
    refine tnil_ ?_
    refine mkV W (.cons (show Rp.R B (V.str ("0" : Str)) (("0" : Str) : Str) from rfl) (.cons (show Rp.R B (V.str ("1" : Str)) (("1" : Str) : Str) from rfl) .nil)) (by show 2 ≤ sizeLine; decide) fun v3 B4 H5 W6 l7 r8 => ?_
    refine inSV_ W6 r8 ?_
    refine ⟨_, rfl, ?_⟩
    refine br_ (fun c9 => ?_) (fun c9 => ?_)
    · have hj10 := opT c9 hj10_
      obtain ⟨r12, er12, hj10⟩ := bs hj10
      refine dnin_ ?_
      refine call_ ?_
      refine tcons_ ?_
      refine var_ rfl ?_
      refine tnil_ ?_
      have L11 := Ws.ln (O1 := []) (O := []) (O2 := []) W6
      refine ⟨B4, x_literal, r12, rfl, Ln.call (O1 := []) (O := []) (O2 := []) L11 W6, er12, fun v13 B14 H15 V16 q17 => ?_⟩
      have W18 := Ws.back (O1 := []) (O := []) (O2 := []) W6 (O' := []) V16
      have l19 := (Ws.bb V16)
      have W18 : Ws [] B H B14 H15 [] := W18
      obtain rfl : v13 = V.str r12 := q17
      refine fld_ ?_
      refine var_ rfl ?_
      obtain ⟨p20, d21, u24, u25, u26, u27, u28, u29, u30, e22, h23, r31, r32, r33, r34, r35, r36, r37⟩ := (show Rp.R B14 v_draft (x_draft : O_Draft) from (Rp.mono (l7.tr l19) r_draft))
      refine fldS (ns := (["switches", "keepers", "gates", "nexts", "nevers", "somes", "names"] : List Str)) e22 W18 h23 T.cls_Draft T.na_Draft_names rfl (by decide +kernel) 6 rfl ?_
      refine dninS (k := r12) W18 r37 ?_
      exact kk2 _ _ ⟨B14, (congrArg V.bl (Option.some.inj hj10)), (l7.tr l19), W18⟩
    · exact kk2 _ _ ⟨B4, (congrArg V.bl (Option.some.inj (opF c9 hj10_))), l7, W6⟩
  rintro _ H40 ⟨B39, rfl, l42, W41⟩
  rw [← Option.some.inj h] at k
  have W41' : Ws [] B H B39 H40 [] := W41
  exact k (V.bl j38) B39 H40 W41' rfl

end
end G

namespace G
open PySem L2 Pv
section
variable {P : Program} {w : World} {K : PySem.W.Frag} {mg : Str → Option Value} {base : Heap}

def sp_p_first_due [Cs] (K : PySem.W.Frag) : Sp := fun vs H Q _ => ∃ (B : Hp) (x_twice : Bool) (x_lacking : Bool) (x_many : Bool) (r : Str), vs = [V.bl x_twice, V.bl x_lacking, V.bl x_many] ∧ Ws [] B H B H [] ∧ m_p_first_due x_twice x_lacking x_many = some r ∧ ∀ w B' H', Ws [] B H B' H' [] → Rp.R B' w r → Q w H'
abbrev s_p_first_due : Stmt := top 20
theorem sc_p_first_due : FnScope ["twice", "lacking", "many"] ["twice", "lacking", "many"] (C8.fnScope s_p_first_due) := C8.fnScope_by (by decide +kernel)
theorem ok_p_first_due [Cs] (T : Tx w K mg) {f : Addr} {fd : FuncData} (F : C8.Def K mg "first_due" s_p_first_due f fd) (b : Binds K fd ["twice", "lacking", "many"] []) : C8.Cal P w K mg base 1 "first_due" (sp_p_first_due K) [] := by
  refine C8.cal0 F b .nil sc_p_first_due (fun vs H Q E h => ?_) (fun cdv A outer s H vs Q E hr h => ?_)
  · obtain ⟨B, x_twice, x_lacking, x_many, r, rfl, _⟩ := h
    rfl
  obtain ⟨B, x_twice, x_lacking, x_many, r, rfl, W, h, k⟩ := h
  refine ⟨_, (pss_cons (ps_if (pt_val (pv 0)) (pss_one (ps_ret pe_str)) pss_nil) (pss_cons (ps_if (pt_val (pv 1)) (pss_one (ps_ret pe_str)) pss_nil) (pss_cons (ps_if (pt_val (pv 2)) (pss_one (ps_ret pe_str)) pss_nil) (pss_one (ps_ret pe_str))))), ?_⟩
  refine st_ (σ' := [some (V.bl x_twice), some (V.bl x_lacking), some (V.bl x_many)]) rfl ?_
  unfold m_p_first_due at h
  refine seq_ ?_
  refine if_ (fun v' H' => v' = (x_twice) ∧ H = H') (fun Q1 kk2 => ?_) (fun Hq hw => ?_) (fun Hq hw => ?_)
  · refine tB_ ?_
    refine var_ rfl ?_
    refine ⟨_, rfl, ?_⟩
    exact kk2 _ _ ⟨rfl, rfl⟩
  · obtain ⟨c3, rfl⟩ := hw
    have c3 := c3.symm
    have h := opT c3 h
    refine ret_ ?_
    refine cst_ ?_
    rw [← Option.some.inj h] at k
    have W' : Ws [] B H B H [] := W
    exact k (V.str ("twice" : Str)) B H W' rfl
  · obtain ⟨c3, rfl⟩ := hw
    have c3 := c3.symm
    have h := opF c3 h
    refine next_ ?_
    refine nx_ ?_
    refine seq_ ?_
    refine if_ (fun v' H' => v' = (x_lacking) ∧ H = H') (fun Q4 kk5 => ?_) (fun Hq hw => ?_) (fun Hq hw => ?_)
    · refine tB_ ?_
      refine var_ rfl ?_
      refine ⟨_, rfl, ?_⟩
      exact kk5 _ _ ⟨rfl, rfl⟩
    · obtain ⟨c6, rfl⟩ := hw
      have c6 := c6.symm
      have h := opT c6 h
      refine ret_ ?_
      refine cst_ ?_
      rw [← Option.some.inj h] at k
      have W' : Ws [] B H B H [] := W
      exact k (V.str ("name" : Str)) B H W' rfl
    · obtain ⟨c6, rfl⟩ := hw
      have c6 := c6.symm
      have h := opF c6 h
      refine next_ ?_
      refine nx_ ?_
      refine seq_ ?_
      refine if_ (fun v' H' => v' = (x_many) ∧ H = H') (fun Q7 kk8 => ?_) (fun Hq hw => ?_) (fun Hq hw => ?_)
      · refine tB_ ?_
        refine var_ rfl ?_
        refine ⟨_, rfl, ?_⟩
        exact kk8 _ _ ⟨rfl, rfl⟩
      · obtain ⟨c9, rfl⟩ := hw
        have c9 := c9.symm
        have h := opT c9 h
        refine ret_ ?_
        refine cst_ ?_
        rw [← Option.some.inj h] at k
        have W' : Ws [] B H B H [] := W
        exact k (V.str ("many" : Str)) B H W' rfl
      · obtain ⟨c9, rfl⟩ := hw
        have c9 := c9.symm
        have h := opF c9 h
        refine next_ ?_
        refine nx_ ?_
        refine ret_ ?_
        refine cst_ ?_
        rw [← Option.some.inj h] at k
        have W' : Ws [] B H B H [] := W
        exact k (V.str ("" : Str)) B H W' rfl

def sp_p_switch_row [Cs] (K : PySem.W.Frag) : Sp := fun vs H Q _ => ∃ (B : Hp) (a_draft : Addr) (d_draft : Addr) (a_draft_switches : Addr) (l_draft_switches : List V) (a_draft_keepers : Addr) (l_draft_keepers : List (Key × V)) (a_draft_gates : Addr) (l_draft_gates : List V) (a_draft_nexts : Addr) (l_draft_nexts : List (Key × V)) (a_draft_nevers : Addr) (l_draft_nevers : List (Key × V)) (a_draft_somes : Addr) (l_draft_somes : List (Key × V)) (a_draft_names : Addr) (l_draft_names : List (Key × V)) (x_draft : O_Draft) (v_words : V) (x_words : List Str) (r : Str × O_Draft), vs = [V.ref a_draft, v_words] ∧ Ws [d_draft, a_draft, a_draft_switches, a_draft_keepers, a_draft_gates, a_draft_nexts, a_draft_nevers, a_draft_somes, a_draft_names] B H B H [(d_draft, .own a_draft), (a_draft, .ins Cs.c_Draft d_draft [("switches", V.ref a_draft_switches), ("keepers", V.ref a_draft_keepers), ("gates", V.ref a_draft_gates), ("nexts", V.ref a_draft_nexts), ("nevers", V.ref a_draft_nevers), ("somes", V.ref a_draft_somes), ("names", V.ref a_draft_names)]), (a_draft_switches, .lst l_draft_switches), (a_draft_keepers, .dK l_draft_keepers), (a_draft_gates, .lst l_draft_gates), (a_draft_nexts, .dK l_draft_nexts), (a_draft_nevers, .dK l_draft_nevers), (a_draft_somes, .dK l_draft_somes), (a_draft_names, .dK l_draft_names)] ∧ Ow B l_draft_switches x_draft.switches ∧ Od B l_draft_keepers x_draft.keepers ∧ Ow B l_draft_gates x_draft.gates ∧ Od B l_draft_nexts x_draft.nexts ∧ Od B l_draft_nevers x_draft.nevers ∧ Od B l_draft_somes x_draft.somes ∧ Od B l_draft_names x_draft.names ∧ Rp.R B v_words x_words ∧ m_p_switch_row x_draft x_words = some r ∧ ∀ w B' H' l_draft_switches' l_draft_keepers' l_draft_gates' l_draft_nexts' l_draft_nevers' l_draft_somes' l_draft_names', Ws [d_draft, a_draft, a_draft_switches, a_draft_keepers, a_draft_gates, a_draft_nexts, a_draft_nevers, a_draft_somes, a_draft_names] B H B' H' [(d_draft, .own a_draft), (a_draft, .ins Cs.c_Draft d_draft [("switches", V.ref a_draft_switches), ("keepers", V.ref a_draft_keepers), ("gates", V.ref a_draft_gates), ("nexts", V.ref a_draft_nexts), ("nevers", V.ref a_draft_nevers), ("somes", V.ref a_draft_somes), ("names", V.ref a_draft_names)]), (a_draft_switches, .lst l_draft_switches'), (a_draft_keepers, .dK l_draft_keepers'), (a_draft_gates, .lst l_draft_gates'), (a_draft_nexts, .dK l_draft_nexts'), (a_draft_nevers, .dK l_draft_nevers'), (a_draft_somes, .dK l_draft_somes'), (a_draft_names, .dK l_draft_names')] → Rp.R B' w r.1 → Ow B' l_draft_switches' r.2.switches → Od B' l_draft_keepers' r.2.keepers → Ow B' l_draft_gates' r.2.gates → Od B' l_draft_nexts' r.2.nexts → Od B' l_draft_nevers' r.2.nevers → Od B' l_draft_somes' r.2.somes → Od B' l_draft_names' r.2.names → Q w H'
abbrev s_p_switch_row : Stmt := top 21
theorem sc_p_switch_row : FnScope ["draft", "words", "fault"] ["draft", "words"] (C8.fnScope s_p_switch_row) := C8.fnScope_by (by decide +kernel)
theorem ok_p_switch_row [Cs] (T : Tx w K mg) (c_p_is_name : C8.Cal P w K mg base 1 "is_name" (sp_p_is_name K) []) (c_p_first_due : C8.Cal P w K mg base 1 "first_due" (sp_p_first_due K) []) {f : Addr} {fd : FuncData} (F : C8.Def K mg "switch_row" s_p_switch_row f fd) (b : Binds K fd ["draft", "words"] []) : C8.Cal P w K mg base 2 "switch_row" (sp_p_switch_row K) [] := by
  refine C8.cal0 F b .nil sc_p_switch_row (fun vs H Q E h => ?_) (fun cdv A outer s H vs Q E hr h => ?_)
  · obtain ⟨B, a_draft, d_draft, a_draft_switches, l_draft_switches, a_draft_keepers, l_draft_keepers, a_draft_gates, l_draft_gates, a_draft_nexts, l_draft_nexts, a_draft_nevers, l_draft_nevers, a_draft_somes, l_draft_somes, a_draft_names, l_draft_names, x_draft, v_words, x_words, r, rfl, _⟩ := h
    rfl
  obtain ⟨B, a_draft, d_draft, a_draft_switches, l_draft_switches, a_draft_keepers, l_draft_keepers, a_draft_gates, l_draft_gates, a_draft_nexts, l_draft_nexts, a_draft_nevers, l_draft_nevers, a_draft_somes, l_draft_somes, a_draft_names, l_draft_names, x_draft, v_words, x_words, r, rfl, W, o_draft_switches, o_draft_keepers, o_draft_gates, o_draft_nexts, o_draft_nevers, o_draft_somes, o_draft_names, r_words, h, k⟩ := h
  refine ⟨_, (pss_cons (ps_if (PW.pt (pw_or (pt_cmpR op_ne (pe_callB (k_len (K := K)) (by rfl) T.b_len (by decide +kernel) (pa_cons (pv 1) pa_nil)) pe_int (nomark _)) (pw_or1 (pt_not (pt_val (C8.pe_c c_p_is_name hr (by omega) (by rfl) (pa_cons (pe_ix (k_ixL (K := K)) (pv 1) pe_int (fun _ _ => rfl)) pa_nil))))))) (pss_one (ps_ret pe_str)) pss_nil) (pss_cons (ps_set (i := 2) sc_p_switch_row.nd rfl (Or.inl rfl) (C8.pe_c c_p_first_due hr (by omega) (by rfl) (pa_cons (pe_cmp (pc_din (units1 hr) (pe_ix (k_ixL (K := K)) (pv 1) pe_int (fun _ _ => rfl)) (k_fld (K := K) (pv 0))) rfl) (pa_cons pe_bl (pa_cons (pe_cmpR op_eq (pe_callB (k_len (K := K)) (by rfl) T.b_len (by decide +kernel) (pa_cons (k_fld (K := K) (pv 0)) pa_nil)) (C8.pe_gc (by rfl) T.g_MOST_SWITCHES) (nomark _)) pa_nil))))) (C8.pss_cut (ps_if (pt_cmpR op_eq (pv 2) pe_str (nomark _)) (pss_cons (ps_expr (k_bm (K := K) PySem.F.plainAttrs_list PySem.F.slot_list_append PySem.F.type_list_append mt_append (k_fld (K := K) (pv 0)) (pa_cons (pe_ix (k_ixL (K := K)) (pv 1) pe_int (fun _ _ => rfl)) pa_nil))) (pss_one (ps_dput (units1 hr) (k_fld (K := K) (pv 0)) (pe_ix (k_ixL (K := K)) (pv 1) pe_int (fun _ _ => rfl)) pe_bl (by rfl)))) pss_nil) (pss_one (ps_ret (pv 2)))))), ?_⟩
  refine st_ (σ' := [some (V.ref a_draft), some v_words, none]) rfl ?_
  unfold m_p_switch_row at h
  obtain ⟨j17, hj4_, h⟩ := bs h
  refine seq_ ?_
  refine if_ (fun v' H' => ∃ B', v' = (j17) ∧ Le B B' ∧ Ws [d_draft, a_draft, a_draft_switches, a_draft_keepers, a_draft_gates, a_draft_nexts, a_draft_nevers, a_draft_somes, a_draft_names] B H B' H' [(d_draft, .own a_draft), (a_draft, .ins Cs.c_Draft d_draft [("switches", V.ref a_draft_switches), ("keepers", V.ref a_draft_keepers), ("gates", V.ref a_draft_gates), ("nexts", V.ref a_draft_nexts), ("nevers", V.ref a_draft_nevers), ("somes", V.ref a_draft_somes), ("names", V.ref a_draft_names)]), (a_draft_switches, .lst l_draft_switches), (a_draft_keepers, .dK l_draft_keepers), (a_draft_gates, .lst l_draft_gates), (a_draft_nexts, .dK l_draft_nexts), (a_draft_nevers, .dK l_draft_nevers), (a_draft_somes, .dK l_draft_somes), (a_draft_names, .dK l_draft_names)]) (fun Q1 kk2 => ?_) (fun H19 hw => ?_) (fun H19 hw => ?_)
  · refine tor_ ?_
    refine tst_ ?_
    refine op_ ?_
    refine cb_ ?_
    refine tcons_ ?_
    refine var_ rfl ?_
    refine tnil_ ?_
    refine lenL_ W r_words ?_
    refine cst_ ?_
    refine neI_ ?_
    refine ⟨_, rfl, ?_⟩
    refine br_ (fun c3 => ?_) (fun c3 => ?_)
    · exact kk2 _ _ ⟨B, (Option.some.inj (opT c3 hj4_)), (Le.refl _), W⟩
    · have hj4 := opF c3 hj4_
      obtain ⟨x5, ex5, hj4⟩ := bs hj4
      obtain ⟨r9, er9, hj4⟩ := bs hj4
      refine tnot_ ?_
      refine tB_ ?_
      refine call_ ?_
      refine tcons_ ?_
      refine op_ ?_
      refine var_ rfl ?_
      refine cst_ ?_
      refine ixL_ W r_words ex5 fun v6 r7 => ?_
      obtain rfl : v6 = V.str x5 := r7
      refine tnil_ ?_
      have L8 := Ws.ln (O1 := [(d_draft, .own a_draft), (a_draft, .ins Cs.c_Draft d_draft [("switches", V.ref a_draft_switches), ("keepers", V.ref a_draft_keepers), ("gates", V.ref a_draft_gates), ("nexts", V.ref a_draft_nexts), ("nevers", V.ref a_draft_nevers), ("somes", V.ref a_draft_somes), ("names", V.ref a_draft_names)]), (a_draft_switches, .lst l_draft_switches), (a_draft_keepers, .dK l_draft_keepers), (a_draft_gates, .lst l_draft_gates), (a_draft_nexts, .dK l_draft_nexts), (a_draft_nevers, .dK l_draft_nevers), (a_draft_somes, .dK l_draft_somes), (a_draft_names, .dK l_draft_names)]) (O := []) (O2 := []) W
      refine ⟨B, x5, r9, rfl, Ln.call (O1 := [(d_draft, .own a_draft), (a_draft, .ins Cs.c_Draft d_draft [("switches", V.ref a_draft_switches), ("keepers", V.ref a_draft_keepers), ("gates", V.ref a_draft_gates), ("nexts", V.ref a_draft_nexts), ("nevers", V.ref a_draft_nevers), ("somes", V.ref a_draft_somes), ("names", V.ref a_draft_names)]), (a_draft_switches, .lst l_draft_switches), (a_draft_keepers, .dK l_draft_keepers), (a_draft_gates, .lst l_draft_gates), (a_draft_nexts, .dK l_draft_nexts), (a_draft_nevers, .dK l_draft_nevers), (a_draft_somes, .dK l_draft_somes), (a_draft_names, .dK l_draft_names)]) (O := []) (O2 := []) L8 W, er9, fun v10 B11 H12 V13 q14 => ?_⟩
      have W15 := Ws.back (O1 := [(d_draft, .own a_draft), (a_draft, .ins Cs.c_Draft d_draft [("switches", V.ref a_draft_switches), ("keepers", V.ref a_draft_keepers), ("gates", V.ref a_draft_gates), ("nexts", V.ref a_draft_nexts), ("nevers", V.ref a_draft_nevers), ("somes", V.ref a_draft_somes), ("names", V.ref a_draft_names)]), (a_draft_switches, .lst l_draft_switches), (a_draft_keepers, .dK l_draft_keepers), (a_draft_gates, .lst l_draft_gates), (a_draft_nexts, .dK l_draft_nexts), (a_draft_nevers, .dK l_draft_nevers), (a_draft_somes, .dK l_draft_somes), (a_draft_names, .dK l_draft_names)]) (O := []) (O2 := []) W (O' := []) V13
      have l16 := (Ws.bb V13)
      have W15 : Ws [d_draft, a_draft, a_draft_switches, a_draft_keepers, a_draft_gates, a_draft_nexts, a_draft_nevers, a_draft_somes, a_draft_names] B H B11 H12 [(d_draft, .own a_draft), (a_draft, .ins Cs.c_Draft d_draft [("switches", V.ref a_draft_switches), ("keepers", V.ref a_draft_keepers), ("gates", V.ref a_draft_gates), ("nexts", V.ref a_draft_nexts), ("nevers", V.ref a_draft_nevers), ("somes", V.ref a_draft_somes), ("names", V.ref a_draft_names)]), (a_draft_switches, .lst l_draft_switches), (a_draft_keepers, .dK l_draft_keepers), (a_draft_gates, .lst l_draft_gates), (a_draft_nexts, .dK l_draft_nexts), (a_draft_nevers, .dK l_draft_nevers), (a_draft_somes, .dK l_draft_somes), (a_draft_names, .dK l_draft_names)] := W15
      obtain rfl : v10 = V.bl r9 := q14
      refine ⟨_, rfl, ?_⟩
      exact kk2 _ _ ⟨B11, (Option.some.inj hj4), l16, W15⟩
  · obtain ⟨B18, c22, l21, W20⟩ := hw
    have c22 := c22.symm
    have h := opT c22 h
    refine ret_ ?_
    refine cst_ ?_
    rw [← Option.some.inj h] at k
    have W20' : Ws [d_draft, a_draft, a_draft_switches, a_draft_keepers, a_draft_gates, a_draft_nexts, a_draft_nevers, a_draft_somes, a_draft_names] B H B18 H19 [(d_draft, .own a_draft), (a_draft, .ins Cs.c_Draft d_draft [("switches", V.ref a_draft_switches), ("keepers", V.ref a_draft_keepers), ("gates", V.ref a_draft_gates), ("nexts", V.ref a_draft_nexts), ("nevers", V.ref a_draft_nevers), ("somes", V.ref a_draft_somes), ("names", V.ref a_draft_names)]), (a_draft_switches, .lst l_draft_switches), (a_draft_keepers, .dK l_draft_keepers), (a_draft_gates, .lst l_draft_gates), (a_draft_nexts, .dK l_draft_nexts), (a_draft_nevers, .dK l_draft_nevers), (a_draft_somes, .dK l_draft_somes), (a_draft_names, .dK l_draft_names)] := W20
    exact k (V.str ("row" : Str)) B18 H19 l_draft_switches l_draft_keepers l_draft_gates l_draft_nexts l_draft_nevers l_draft_somes l_draft_names W20' rfl (Ow.mono l21 o_draft_switches) (Od.mono l21 o_draft_keepers) (Ow.mono l21 o_draft_gates) (Od.mono l21 o_draft_nexts) (Od.mono l21 o_draft_nevers) (Od.mono l21 o_draft_somes) (Od.mono l21 o_draft_names)
  · obtain ⟨B18, c22, l21, W20⟩ := hw
    have c22 := c22.symm
    have h := opF c22 h
    refine next_ ?_
    refine nx_ ?_
    obtain ⟨x23, ex23, h⟩ := bs h
    obtain ⟨r27, er27, h⟩ := bs h
    refine seq_ ?_
    refine asg_ ?_
    refine call_ ?_
    refine tcons_ ?_
    refine din_ ?_
    refine op_ ?_
    refine var_ rfl ?_
    refine cst_ ?_
    refine ixL_ W20 (Rp.mono l21 r_words) ex23 fun v24 r25 => ?_
    obtain rfl : v24 = V.str x23 := r25
    refine fld_ ?_
    refine var_ rfl ?_
    refine fldO (ns := (["switches", "keepers", "gates", "nexts", "nevers", "somes", "names"] : List Str)) W20 1 rfl T.cls_Draft T.na_Draft_names rfl (by decide +kernel) 6 rfl ?_
    refine dinO (k := x23) W20 8 rfl (Od.mono l21 o_draft_names) ?_
    refine tcons_ ?_
    refine cst_ ?_
    refine tcons_ ?_
    refine op_ ?_
    refine cb_ ?_
    refine tcons_ ?_
    refine fld_ ?_
    refine var_ rfl ?_
    refine fldO (ns := (["switches", "keepers", "gates", "nexts", "nevers", "somes", "names"] : List Str)) W20 1 rfl T.cls_Draft T.na_Draft_switches rfl (by decide +kernel) 0 rfl ?_
    refine tnil_ ?_
    refine oLen W20 2 rfl (Ow.mono l21 o_draft_switches) ?_
    refine cst_ ?_
    refine eqI_ ?_
    refine tnil_ ?_
    have L26 := Ws.ln (O1 := [(d_draft, .own a_draft), (a_draft, .ins Cs.c_Draft d_draft [("switches", V.ref a_draft_switches), ("keepers", V.ref a_draft_keepers), ("gates", V.ref a_draft_gates), ("nexts", V.ref a_draft_nexts), ("nevers", V.ref a_draft_nevers), ("somes", V.ref a_draft_somes), ("names", V.ref a_draft_names)]), (a_draft_switches, .lst l_draft_switches), (a_draft_keepers, .dK l_draft_keepers), (a_draft_gates, .lst l_draft_gates), (a_draft_nexts, .dK l_draft_nexts), (a_draft_nevers, .dK l_draft_nevers), (a_draft_somes, .dK l_draft_somes), (a_draft_names, .dK l_draft_names)]) (O := []) (O2 := []) W20
    refine ⟨B18, (x_draft.names.has x23), false, decide ((x_draft.switches.length : Int) = (12 : Int)), r27, rfl, Ln.call (O1 := [(d_draft, .own a_draft), (a_draft, .ins Cs.c_Draft d_draft [("switches", V.ref a_draft_switches), ("keepers", V.ref a_draft_keepers), ("gates", V.ref a_draft_gates), ("nexts", V.ref a_draft_nexts), ("nevers", V.ref a_draft_nevers), ("somes", V.ref a_draft_somes), ("names", V.ref a_draft_names)]), (a_draft_switches, .lst l_draft_switches), (a_draft_keepers, .dK l_draft_keepers), (a_draft_gates, .lst l_draft_gates), (a_draft_nexts, .dK l_draft_nexts), (a_draft_nevers, .dK l_draft_nevers), (a_draft_somes, .dK l_draft_somes), (a_draft_names, .dK l_draft_names)]) (O := []) (O2 := []) L26 W20, er27, fun v28 B29 H30 V31 q32 => ?_⟩
    have W33 := Ws.back (O1 := [(d_draft, .own a_draft), (a_draft, .ins Cs.c_Draft d_draft [("switches", V.ref a_draft_switches), ("keepers", V.ref a_draft_keepers), ("gates", V.ref a_draft_gates), ("nexts", V.ref a_draft_nexts), ("nevers", V.ref a_draft_nevers), ("somes", V.ref a_draft_somes), ("names", V.ref a_draft_names)]), (a_draft_switches, .lst l_draft_switches), (a_draft_keepers, .dK l_draft_keepers), (a_draft_gates, .lst l_draft_gates), (a_draft_nexts, .dK l_draft_nexts), (a_draft_nevers, .dK l_draft_nevers), (a_draft_somes, .dK l_draft_somes), (a_draft_names, .dK l_draft_names)]) (O := []) (O2 := []) W20 (O' := []) V31
    have l34 := (Ws.bb V31)
    have W33 : Ws [d_draft, a_draft, a_draft_switches, a_draft_keepers, a_draft_gates, a_draft_nexts, a_draft_nevers, a_draft_somes, a_draft_names] B H B29 H30 [(d_draft, .own a_draft), (a_draft, .ins Cs.c_Draft d_draft [("switches", V.ref a_draft_switches), ("keepers", V.ref a_draft_keepers), ("gates", V.ref a_draft_gates), ("nexts", V.ref a_draft_nexts), ("nevers", V.ref a_draft_nevers), ("somes", V.ref a_draft_somes), ("names", V.ref a_draft_names)]), (a_draft_switches, .lst l_draft_switches), (a_draft_keepers, .dK l_draft_keepers), (a_draft_gates, .lst l_draft_gates), (a_draft_nexts, .dK l_draft_nexts), (a_draft_nevers, .dK l_draft_nevers), (a_draft_somes, .dK l_draft_somes), (a_draft_names, .dK l_draft_names)] := W33
    obtain rfl : v28 = V.str r27 := q32
    refine gset_ (σ' := [some (V.ref a_draft), some v_words, some (V.str r27)]) rfl ?_
    refine nx_ ?_
    obtain ⟨j37, hj38, h⟩ := bs h
    refine cut_ (fun σ' H' => ∃ (B' : Hp) (l0' : List V) (l1' : List (Key × V)), σ' = [some (V.ref a_draft), some v_words, some (V.str r27)] ∧ Le B29 B' ∧ Ws [d_draft, a_draft, a_draft_switches, a_draft_keepers, a_draft_gates, a_draft_nexts, a_draft_nevers, a_draft_somes, a_draft_names] B H B' H' [(d_draft, .own a_draft), (a_draft, .ins Cs.c_Draft d_draft [("switches", V.ref a_draft_switches), ("keepers", V.ref a_draft_keepers), ("gates", V.ref a_draft_gates), ("nexts", V.ref a_draft_nexts), ("nevers", V.ref a_draft_nevers), ("somes", V.ref a_draft_somes), ("names", V.ref a_draft_names)]), (a_draft_switches, .lst l0'), (a_draft_keepers, .dK l_draft_keepers), (a_draft_gates, .lst l_draft_gates), (a_draft_nexts, .dK l_draft_nexts), (a_draft_nevers, .dK l_draft_nevers), (a_draft_somes, .dK l_draft_somes), (a_draft_names, .dK l1')] ∧ Ow B' l0' j37.1 ∧ Od B' l1' j37.2) ?_ ?_
    · refine if_ (fun v' H' => v' = (decide (r27 = ("" : Str))) ∧ H30 = H') (fun Q35 kk36 => ?_) (fun H30q hw => ?_) (fun H30q hw => ?_)
      · refine tst_ ?_
        refine op_ ?_
        refine var_ rfl ?_
        refine cst_ ?_
        refine eqS_ ?_
        refine ⟨_, rfl, ?_⟩
        exact kk36 _ _ ⟨rfl, rfl⟩
      · obtain ⟨c39, rfl⟩ := hw
        have c39 := c39.symm
        have hj38 := opT c39 hj38
        obtain ⟨x40, ex40, hj38⟩ := bs hj38
        obtain ⟨q43, hj38⟩ := cks hj38
        refine seq_ ?_
        refine drop_ ?_
        refine bm_ ?_
        refine fld_ ?_
        refine var_ rfl ?_
        refine fldO (ns := (["switches", "keepers", "gates", "nexts", "nevers", "somes", "names"] : List Str)) W33 1 rfl T.cls_Draft T.na_Draft_switches rfl (by decide +kernel) 0 rfl ?_
        refine tyL_ W33 2 rfl ?_
        refine tcons_ ?_
        refine op_ ?_
        refine var_ rfl ?_
        refine cst_ ?_
        refine ixL_ W33 (Rp.mono (l21.tr l34) r_words) ex40 fun v41 r42 => ?_
        obtain rfl : v41 = V.str x40 := r42
        refine tnil_ ?_
        refine oApp W33 2 rfl (Ow.mono (l21.tr l34) o_draft_switches) (show Rp.R B29 (V.str x40) (x40 : Str) from rfl) q43 fun H44 l45 W46 o47 => ?_
        have W46 : Ws [d_draft, a_draft, a_draft_switches, a_draft_keepers, a_draft_gates, a_draft_nexts, a_draft_nevers, a_draft_somes, a_draft_names] B H B29 H44 [(d_draft, .own a_draft), (a_draft, .ins Cs.c_Draft d_draft [("switches", V.ref a_draft_switches), ("keepers", V.ref a_draft_keepers), ("gates", V.ref a_draft_gates), ("nexts", V.ref a_draft_nexts), ("nevers", V.ref a_draft_nevers), ("somes", V.ref a_draft_somes), ("names", V.ref a_draft_names)]), (a_draft_switches, .lst l45), (a_draft_keepers, .dK l_draft_keepers), (a_draft_gates, .lst l_draft_gates), (a_draft_nexts, .dK l_draft_nexts), (a_draft_nevers, .dK l_draft_nevers), (a_draft_somes, .dK l_draft_somes), (a_draft_names, .dK l_draft_names)] := W46
        refine nx_ ?_
        obtain ⟨x48, ex48, hj38⟩ := bs hj38
        obtain ⟨q51, hj38⟩ := cks hj38
        refine dput_ ?_
        refine cst_ ?_
        refine fld_ ?_
        refine var_ rfl ?_
        refine fldO (ns := (["switches", "keepers", "gates", "nexts", "nevers", "somes", "names"] : List Str)) W46 1 rfl T.cls_Draft T.na_Draft_names rfl (by decide +kernel) 6 rfl ?_
        refine op_ ?_
        refine var_ rfl ?_
        refine cst_ ?_
        refine ixL_ W46 (Rp.mono (l21.tr l34) r_words) ex48 fun v49 r50 => ?_
        obtain rfl : v49 = V.str x48 := r50
        refine putO (k := x48) W46 8 rfl (Od.mono (l21.tr l34) o_draft_names) (show Rp.R B29 (V.bl true) (true : Bool) from rfl) q51 fun H52 l53 W54 o55 => ?_
        have W54 : Ws [d_draft, a_draft, a_draft_switches, a_draft_keepers, a_draft_gates, a_draft_nexts, a_draft_nevers, a_draft_somes, a_draft_names] B H B29 H52 [(d_draft, .own a_draft), (a_draft, .ins Cs.c_Draft d_draft [("switches", V.ref a_draft_switches), ("keepers", V.ref a_draft_keepers), ("gates", V.ref a_draft_gates), ("nexts", V.ref a_draft_nexts), ("nevers", V.ref a_draft_nevers), ("somes", V.ref a_draft_somes), ("names", V.ref a_draft_names)]), (a_draft_switches, .lst l45), (a_draft_keepers, .dK l_draft_keepers), (a_draft_gates, .lst l_draft_gates), (a_draft_nexts, .dK l_draft_nexts), (a_draft_nevers, .dK l_draft_nevers), (a_draft_somes, .dK l_draft_somes), (a_draft_names, .dK l53)] := W54
        refine nx_ ?_
        rw [← Option.some.inj hj38]; exact ⟨B29, l45, l53, rfl, (Le.refl _), W54, o47, o55⟩
      · obtain ⟨c39, rfl⟩ := hw
        have c39 := c39.symm
        have hj38 := opF c39 hj38
        refine next_ ?_
        refine nx_ ?_
        rw [← Option.some.inj hj38]; exact ⟨B29, l_draft_switches, l_draft_names, rfl, (Le.refl _), W33, (Ow.mono (l21.tr l34) o_draft_switches), (Od.mono (l21.tr l34) o_draft_names)⟩
    rintro _ H57 ⟨B56, l60, l62, rfl, l59, W58, o61, o63⟩
    refine ret_ ?_
    refine var_ rfl ?_
    rw [← Option.some.inj h] at k
    have W58' : Ws [d_draft, a_draft, a_draft_switches, a_draft_keepers, a_draft_gates, a_draft_nexts, a_draft_nevers, a_draft_somes, a_draft_names] B H B56 H57 [(d_draft, .own a_draft), (a_draft, .ins Cs.c_Draft d_draft [("switches", V.ref a_draft_switches), ("keepers", V.ref a_draft_keepers), ("gates", V.ref a_draft_gates), ("nexts", V.ref a_draft_nexts), ("nevers", V.ref a_draft_nevers), ("somes", V.ref a_draft_somes), ("names", V.ref a_draft_names)]), (a_draft_switches, .lst l60), (a_draft_keepers, .dK l_draft_keepers), (a_draft_gates, .lst l_draft_gates), (a_draft_nexts, .dK l_draft_nexts), (a_draft_nevers, .dK l_draft_nevers), (a_draft_somes, .dK l_draft_somes), (a_draft_names, .dK l62)] := W58
    exact k (V.str r27) B56 H57 l60 l_draft_keepers l_draft_gates l_draft_nexts l_draft_nevers l_draft_somes l62 W58' rfl o61 (Od.mono (l21.tr (l34.tr l59)) o_draft_keepers) (Ow.mono (l21.tr (l34.tr l59)) o_draft_gates) (Od.mono (l21.tr (l34.tr l59)) o_draft_nexts) (Od.mono (l21.tr (l34.tr l59)) o_draft_nevers) (Od.mono (l21.tr (l34.tr l59)) o_draft_somes) o63

def sp_p_keep_row [Cs] (K : PySem.W.Frag) : Sp := fun vs H Q _ => ∃ (B : Hp) (a_draft : Addr) (d_draft : Addr) (a_draft_switches : Addr) (l_draft_switches : List V) (a_draft_keepers : Addr) (l_draft_keepers : List (Key × V)) (a_draft_gates : Addr) (l_draft_gates : List V) (a_draft_nexts : Addr) (l_draft_nexts : List (Key × V)) (a_draft_nevers : Addr) (l_draft_nevers : List (Key × V)) (a_draft_somes : Addr) (l_draft_somes : List (Key × V)) (a_draft_names : Addr) (l_draft_names : List (Key × V)) (x_draft : O_Draft) (v_words : V) (x_words : List Str) (r : Str × O_Draft), vs = [V.ref a_draft, v_words] ∧ Ws [d_draft, a_draft, a_draft_switches, a_draft_keepers, a_draft_gates, a_draft_nexts, a_draft_nevers, a_draft_somes, a_draft_names] B H B H [(d_draft, .own a_draft), (a_draft, .ins Cs.c_Draft d_draft [("switches", V.ref a_draft_switches), ("keepers", V.ref a_draft_keepers), ("gates", V.ref a_draft_gates), ("nexts", V.ref a_draft_nexts), ("nevers", V.ref a_draft_nevers), ("somes", V.ref a_draft_somes), ("names", V.ref a_draft_names)]), (a_draft_switches, .lst l_draft_switches), (a_draft_keepers, .dK l_draft_keepers), (a_draft_gates, .lst l_draft_gates), (a_draft_nexts, .dK l_draft_nexts), (a_draft_nevers, .dK l_draft_nevers), (a_draft_somes, .dK l_draft_somes), (a_draft_names, .dK l_draft_names)] ∧ Ow B l_draft_switches x_draft.switches ∧ Od B l_draft_keepers x_draft.keepers ∧ Ow B l_draft_gates x_draft.gates ∧ Od B l_draft_nexts x_draft.nexts ∧ Od B l_draft_nevers x_draft.nevers ∧ Od B l_draft_somes x_draft.somes ∧ Od B l_draft_names x_draft.names ∧ Rp.R B v_words x_words ∧ m_p_keep_row x_draft x_words = some r ∧ ∀ w B' H' l_draft_switches' l_draft_keepers' l_draft_gates' l_draft_nexts' l_draft_nevers' l_draft_somes' l_draft_names', Ws [d_draft, a_draft, a_draft_switches, a_draft_keepers, a_draft_gates, a_draft_nexts, a_draft_nevers, a_draft_somes, a_draft_names] B H B' H' [(d_draft, .own a_draft), (a_draft, .ins Cs.c_Draft d_draft [("switches", V.ref a_draft_switches), ("keepers", V.ref a_draft_keepers), ("gates", V.ref a_draft_gates), ("nexts", V.ref a_draft_nexts), ("nevers", V.ref a_draft_nevers), ("somes", V.ref a_draft_somes), ("names", V.ref a_draft_names)]), (a_draft_switches, .lst l_draft_switches'), (a_draft_keepers, .dK l_draft_keepers'), (a_draft_gates, .lst l_draft_gates'), (a_draft_nexts, .dK l_draft_nexts'), (a_draft_nevers, .dK l_draft_nevers'), (a_draft_somes, .dK l_draft_somes'), (a_draft_names, .dK l_draft_names')] → Rp.R B' w r.1 → Ow B' l_draft_switches' r.2.switches → Od B' l_draft_keepers' r.2.keepers → Ow B' l_draft_gates' r.2.gates → Od B' l_draft_nexts' r.2.nexts → Od B' l_draft_nevers' r.2.nevers → Od B' l_draft_somes' r.2.somes → Od B' l_draft_names' r.2.names → Q w H'
abbrev s_p_keep_row : Stmt := top 22
theorem sc_p_keep_row : FnScope ["draft", "words", "fault"] ["draft", "words"] (C8.fnScope s_p_keep_row) := C8.fnScope_by (by decide +kernel)
theorem ok_p_keep_row [Cs] (T : Tx w K mg) (c_p_is_name : C8.Cal P w K mg base 1 "is_name" (sp_p_is_name K) []) (c_p_first_due : C8.Cal P w K mg base 1 "first_due" (sp_p_first_due K) []) {f : Addr} {fd : FuncData} (F : C8.Def K mg "keep_row" s_p_keep_row f fd) (b : Binds K fd ["draft", "words"] []) : C8.Cal P w K mg base 2 "keep_row" (sp_p_keep_row K) [] := by
  refine C8.cal0 F b .nil sc_p_keep_row (fun vs H Q E h => ?_) (fun cdv A outer s H vs Q E hr h => ?_)
  · obtain ⟨B, a_draft, d_draft, a_draft_switches, l_draft_switches, a_draft_keepers, l_draft_keepers, a_draft_gates, l_draft_gates, a_draft_nexts, l_draft_nexts, a_draft_nevers, l_draft_nevers, a_draft_somes, l_draft_somes, a_draft_names, l_draft_names, x_draft, v_words, x_words, r, rfl, _⟩ := h
    rfl
  obtain ⟨B, a_draft, d_draft, a_draft_switches, l_draft_switches, a_draft_keepers, l_draft_keepers, a_draft_gates, l_draft_gates, a_draft_nexts, l_draft_nexts, a_draft_nevers, l_draft_nevers, a_draft_somes, l_draft_somes, a_draft_names, l_draft_names, x_draft, v_words, x_words, r, rfl, W, o_draft_switches, o_draft_keepers, o_draft_gates, o_draft_nexts, o_draft_nevers, o_draft_somes, o_draft_names, r_words, h, k⟩ := h
  refine ⟨_, (pss_cons (ps_if (PW.pt (pw_or (pt_cmpR op_ne (pe_callB (k_len (K := K)) (by rfl) T.b_len (by decide +kernel) (pa_cons (pv 1) pa_nil)) pe_int (nomark _)) (pw_or (pt_not (pt_val (C8.pe_c c_p_is_name hr (by omega) (by rfl) (pa_cons (pe_ix (k_ixL (K := K)) (pv 1) pe_int (fun _ _ => rfl)) pa_nil)))) (pw_or1 (pt_cmpR (k_kdnin T.kd_FIRSTS) (pe_ix (k_ixL (K := K)) (pv 1) pe_int (fun _ _ => rfl)) (C8.pe_gc (by rfl) T.gk_FIRSTS) (by rfl)))))) (pss_one (ps_ret pe_str)) pss_nil) (pss_cons (ps_set (i := 2) sc_p_keep_row.nd rfl (Or.inl rfl) (C8.pe_c c_p_first_due hr (by omega) (by rfl) (pa_cons (pe_cmp (pc_din (units1 hr) (pe_ix (k_ixL (K := K)) (pv 1) pe_int (fun _ _ => rfl)) (k_fld (K := K) (pv 0))) rfl) (pa_cons pe_bl (pa_cons (pe_cmpR op_eq (pe_callB k_lenD (by rfl) T.b_len (by decide +kernel) (pa_cons (k_fld (K := K) (pv 0)) pa_nil)) (C8.pe_gc (by rfl) T.g_MOST_KEEPERS) (nomark _)) pa_nil))))) (C8.pss_cut (ps_if (pt_cmpR op_eq (pv 2) pe_str (nomark _)) (pss_cons (ps_dput (units1 hr) (k_fld (K := K) (pv 0)) (pe_ix (k_ixL (K := K)) (pv 1) pe_int (fun _ _ => rfl)) (pe_ix (k_ixKd (K := K) (w := w)) (C8.pe_gc (by rfl) T.gk_FIRSTS) (pe_ix (k_ixL (K := K)) (pv 1) pe_int (fun _ _ => rfl)) (fun _ _ => rfl)) (by rfl)) (pss_one (ps_dput (units1 hr) (k_fld (K := K) (pv 0)) (pe_ix (k_ixL (K := K)) (pv 1) pe_int (fun _ _ => rfl)) pe_bl (by rfl)))) pss_nil) (pss_one (ps_ret (pv 2)))))), ?_⟩
  refine st_ (σ' := [some (V.ref a_draft), some v_words, none]) rfl ?_
  unfold m_p_keep_row at h
  obtain ⟨j23, hj4_, h⟩ := bs h
  refine seq_ ?_
  refine if_ (fun v' H' => ∃ B', v' = (j23) ∧ Le B B' ∧ Ws [d_draft, a_draft, a_draft_switches, a_draft_keepers, a_draft_gates, a_draft_nexts, a_draft_nevers, a_draft_somes, a_draft_names] B H B' H' [(d_draft, .own a_draft), (a_draft, .ins Cs.c_Draft d_draft [("switches", V.ref a_draft_switches), ("keepers", V.ref a_draft_keepers), ("gates", V.ref a_draft_gates), ("nexts", V.ref a_draft_nexts), ("nevers", V.ref a_draft_nevers), ("somes", V.ref a_draft_somes), ("names", V.ref a_draft_names)]), (a_draft_switches, .lst l_draft_switches), (a_draft_keepers, .dK l_draft_keepers), (a_draft_gates, .lst l_draft_gates), (a_draft_nexts, .dK l_draft_nexts), (a_draft_nevers, .dK l_draft_nevers), (a_draft_somes, .dK l_draft_somes), (a_draft_names, .dK l_draft_names)]) (fun Q1 kk2 => ?_) (fun H25 hw => ?_) (fun H25 hw => ?_)
  · refine tor_ ?_
    refine tst_ ?_
    refine op_ ?_
    refine cb_ ?_
    refine tcons_ ?_
    refine var_ rfl ?_
    refine tnil_ ?_
    refine lenL_ W r_words ?_
    refine cst_ ?_
    refine neI_ ?_
    refine ⟨_, rfl, ?_⟩
    refine br_ (fun c3 => ?_) (fun c3 => ?_)
    · exact kk2 _ _ ⟨B, (Option.some.inj (opT c3 hj4_)), (Le.refl _), W⟩
    · have hj4 := opF c3 hj4_
      obtain ⟨x5, ex5, hj4⟩ := bs hj4
      obtain ⟨r9, er9, hj4⟩ := bs hj4
      obtain ⟨j22, hj18_, hj4⟩ := bs hj4
      refine tor_ ?_
      refine tnot_ ?_
      refine tB_ ?_
      refine call_ ?_
      refine tcons_ ?_
      refine op_ ?_
      refine var_ rfl ?_
      refine cst_ ?_
      refine ixL_ W r_words ex5 fun v6 r7 => ?_
      obtain rfl : v6 = V.str x5 := r7
      refine tnil_ ?_
      have L8 := Ws.ln (O1 := [(d_draft, .own a_draft), (a_draft, .ins Cs.c_Draft d_draft [("switches", V.ref a_draft_switches), ("keepers", V.ref a_draft_keepers), ("gates", V.ref a_draft_gates), ("nexts", V.ref a_draft_nexts), ("nevers", V.ref a_draft_nevers), ("somes", V.ref a_draft_somes), ("names", V.ref a_draft_names)]), (a_draft_switches, .lst l_draft_switches), (a_draft_keepers, .dK l_draft_keepers), (a_draft_gates, .lst l_draft_gates), (a_draft_nexts, .dK l_draft_nexts), (a_draft_nevers, .dK l_draft_nevers), (a_draft_somes, .dK l_draft_somes), (a_draft_names, .dK l_draft_names)]) (O := []) (O2 := []) W
      refine ⟨B, x5, r9, rfl, Ln.call (O1 := [(d_draft, .own a_draft), (a_draft, .ins Cs.c_Draft d_draft [("switches", V.ref a_draft_switches), ("keepers", V.ref a_draft_keepers), ("gates", V.ref a_draft_gates), ("nexts", V.ref a_draft_nexts), ("nevers", V.ref a_draft_nevers), ("somes", V.ref a_draft_somes), ("names", V.ref a_draft_names)]), (a_draft_switches, .lst l_draft_switches), (a_draft_keepers, .dK l_draft_keepers), (a_draft_gates, .lst l_draft_gates), (a_draft_nexts, .dK l_draft_nexts), (a_draft_nevers, .dK l_draft_nevers), (a_draft_somes, .dK l_draft_somes), (a_draft_names, .dK l_draft_names)]) (O := []) (O2 := []) L8 W, er9, fun v10 B11 H12 V13 q14 => ?_⟩
      have W15 := Ws.back (O1 := [(d_draft, .own a_draft), (a_draft, .ins Cs.c_Draft d_draft [("switches", V.ref a_draft_switches), ("keepers", V.ref a_draft_keepers), ("gates", V.ref a_draft_gates), ("nexts", V.ref a_draft_nexts), ("nevers", V.ref a_draft_nevers), ("somes", V.ref a_draft_somes), ("names", V.ref a_draft_names)]), (a_draft_switches, .lst l_draft_switches), (a_draft_keepers, .dK l_draft_keepers), (a_draft_gates, .lst l_draft_gates), (a_draft_nexts, .dK l_draft_nexts), (a_draft_nevers, .dK l_draft_nevers), (a_draft_somes, .dK l_draft_somes), (a_draft_names, .dK l_draft_names)]) (O := []) (O2 := []) W (O' := []) V13
      have l16 := (Ws.bb V13)
      have W15 : Ws [d_draft, a_draft, a_draft_switches, a_draft_keepers, a_draft_gates, a_draft_nexts, a_draft_nevers, a_draft_somes, a_draft_names] B H B11 H12 [(d_draft, .own a_draft), (a_draft, .ins Cs.c_Draft d_draft [("switches", V.ref a_draft_switches), ("keepers", V.ref a_draft_keepers), ("gates", V.ref a_draft_gates), ("nexts", V.ref a_draft_nexts), ("nevers", V.ref a_draft_nevers), ("somes", V.ref a_draft_somes), ("names", V.ref a_draft_names)]), (a_draft_switches, .lst l_draft_switches), (a_draft_keepers, .dK l_draft_keepers), (a_draft_gates, .lst l_draft_gates), (a_draft_nexts, .dK l_draft_nexts), (a_draft_nevers, .dK l_draft_nevers), (a_draft_somes, .dK l_draft_somes), (a_draft_names, .dK l_draft_names)] := W15
      obtain rfl : v10 = V.bl r9 := q14
      refine ⟨_, rfl, ?_⟩
      refine br_ (fun c17 => ?_) (fun c17 => ?_)
      · exact kk2 _ _ ⟨B11, (Eq.trans (Option.some.inj (opT c17 hj18_)) (Option.some.inj hj4)), l16, W15⟩
      · have hj18 := opF c17 hj18_
        obtain ⟨x19, ex19, hj18⟩ := bs hj18
        refine tst_ ?_
        refine op_ ?_
        refine op_ ?_
        refine var_ rfl ?_
        refine cst_ ?_
        refine ixL_ W15 (Rp.mono l16 r_words) ex19 fun v20 r21 => ?_
        obtain rfl : v20 = V.str x19 := r21
        refine cst_ ?_
        refine kdin_ T.kd_FIRSTS ?_
        refine ⟨_, rfl, ?_⟩
        exact kk2 _ _ ⟨B11, (Eq.trans (Option.some.inj hj18) (Option.some.inj hj4)), l16, W15⟩
  · obtain ⟨B24, c28, l27, W26⟩ := hw
    have c28 := c28.symm
    have h := opT c28 h
    refine ret_ ?_
    refine cst_ ?_
    rw [← Option.some.inj h] at k
    have W26' : Ws [d_draft, a_draft, a_draft_switches, a_draft_keepers, a_draft_gates, a_draft_nexts, a_draft_nevers, a_draft_somes, a_draft_names] B H B24 H25 [(d_draft, .own a_draft), (a_draft, .ins Cs.c_Draft d_draft [("switches", V.ref a_draft_switches), ("keepers", V.ref a_draft_keepers), ("gates", V.ref a_draft_gates), ("nexts", V.ref a_draft_nexts), ("nevers", V.ref a_draft_nevers), ("somes", V.ref a_draft_somes), ("names", V.ref a_draft_names)]), (a_draft_switches, .lst l_draft_switches), (a_draft_keepers, .dK l_draft_keepers), (a_draft_gates, .lst l_draft_gates), (a_draft_nexts, .dK l_draft_nexts), (a_draft_nevers, .dK l_draft_nevers), (a_draft_somes, .dK l_draft_somes), (a_draft_names, .dK l_draft_names)] := W26
    exact k (V.str ("row" : Str)) B24 H25 l_draft_switches l_draft_keepers l_draft_gates l_draft_nexts l_draft_nevers l_draft_somes l_draft_names W26' rfl (Ow.mono l27 o_draft_switches) (Od.mono l27 o_draft_keepers) (Ow.mono l27 o_draft_gates) (Od.mono l27 o_draft_nexts) (Od.mono l27 o_draft_nevers) (Od.mono l27 o_draft_somes) (Od.mono l27 o_draft_names)
  · obtain ⟨B24, c28, l27, W26⟩ := hw
    have c28 := c28.symm
    have h := opF c28 h
    refine next_ ?_
    refine nx_ ?_
    obtain ⟨x29, ex29, h⟩ := bs h
    obtain ⟨r33, er33, h⟩ := bs h
    refine seq_ ?_
    refine asg_ ?_
    refine call_ ?_
    refine tcons_ ?_
    refine din_ ?_
    refine op_ ?_
    refine var_ rfl ?_
    refine cst_ ?_
    refine ixL_ W26 (Rp.mono l27 r_words) ex29 fun v30 r31 => ?_
    obtain rfl : v30 = V.str x29 := r31
    refine fld_ ?_
    refine var_ rfl ?_
    refine fldO (ns := (["switches", "keepers", "gates", "nexts", "nevers", "somes", "names"] : List Str)) W26 1 rfl T.cls_Draft T.na_Draft_names rfl (by decide +kernel) 6 rfl ?_
    refine dinO (k := x29) W26 8 rfl (Od.mono l27 o_draft_names) ?_
    refine tcons_ ?_
    refine cst_ ?_
    refine tcons_ ?_
    refine op_ ?_
    refine cb_ ?_
    refine tcons_ ?_
    refine fld_ ?_
    refine var_ rfl ?_
    refine fldO (ns := (["switches", "keepers", "gates", "nexts", "nevers", "somes", "names"] : List Str)) W26 1 rfl T.cls_Draft T.na_Draft_keepers rfl (by decide +kernel) 1 rfl ?_
    refine tnil_ ?_
    refine lenDO W26 3 rfl (Od.mono l27 o_draft_keepers) ?_
    refine cst_ ?_
    refine eqI_ ?_
    refine tnil_ ?_
    have L32 := Ws.ln (O1 := [(d_draft, .own a_draft), (a_draft, .ins Cs.c_Draft d_draft [("switches", V.ref a_draft_switches), ("keepers", V.ref a_draft_keepers), ("gates", V.ref a_draft_gates), ("nexts", V.ref a_draft_nexts), ("nevers", V.ref a_draft_nevers), ("somes", V.ref a_draft_somes), ("names", V.ref a_draft_names)]), (a_draft_switches, .lst l_draft_switches), (a_draft_keepers, .dK l_draft_keepers), (a_draft_gates, .lst l_draft_gates), (a_draft_nexts, .dK l_draft_nexts), (a_draft_nevers, .dK l_draft_nevers), (a_draft_somes, .dK l_draft_somes), (a_draft_names, .dK l_draft_names)]) (O := []) (O2 := []) W26
    refine ⟨B24, (x_draft.names.has x29), false, decide ((x_draft.keepers.l.length : Int) = (16 : Int)), r33, rfl, Ln.call (O1 := [(d_draft, .own a_draft), (a_draft, .ins Cs.c_Draft d_draft [("switches", V.ref a_draft_switches), ("keepers", V.ref a_draft_keepers), ("gates", V.ref a_draft_gates), ("nexts", V.ref a_draft_nexts), ("nevers", V.ref a_draft_nevers), ("somes", V.ref a_draft_somes), ("names", V.ref a_draft_names)]), (a_draft_switches, .lst l_draft_switches), (a_draft_keepers, .dK l_draft_keepers), (a_draft_gates, .lst l_draft_gates), (a_draft_nexts, .dK l_draft_nexts), (a_draft_nevers, .dK l_draft_nevers), (a_draft_somes, .dK l_draft_somes), (a_draft_names, .dK l_draft_names)]) (O := []) (O2 := []) L32 W26, er33, fun v34 B35 H36 V37 q38 => ?_⟩
    have W39 := Ws.back (O1 := [(d_draft, .own a_draft), (a_draft, .ins Cs.c_Draft d_draft [("switches", V.ref a_draft_switches), ("keepers", V.ref a_draft_keepers), ("gates", V.ref a_draft_gates), ("nexts", V.ref a_draft_nexts), ("nevers", V.ref a_draft_nevers), ("somes", V.ref a_draft_somes), ("names", V.ref a_draft_names)]), (a_draft_switches, .lst l_draft_switches), (a_draft_keepers, .dK l_draft_keepers), (a_draft_gates, .lst l_draft_gates), (a_draft_nexts, .dK l_draft_nexts), (a_draft_nevers, .dK l_draft_nevers), (a_draft_somes, .dK l_draft_somes), (a_draft_names, .dK l_draft_names)]) (O := []) (O2 := []) W26 (O' := []) V37
    have l40 := (Ws.bb V37)
    have W39 : Ws [d_draft, a_draft, a_draft_switches, a_draft_keepers, a_draft_gates, a_draft_nexts, a_draft_nevers, a_draft_somes, a_draft_names] B H B35 H36 [(d_draft, .own a_draft), (a_draft, .ins Cs.c_Draft d_draft [("switches", V.ref a_draft_switches), ("keepers", V.ref a_draft_keepers), ("gates", V.ref a_draft_gates), ("nexts", V.ref a_draft_nexts), ("nevers", V.ref a_draft_nevers), ("somes", V.ref a_draft_somes), ("names", V.ref a_draft_names)]), (a_draft_switches, .lst l_draft_switches), (a_draft_keepers, .dK l_draft_keepers), (a_draft_gates, .lst l_draft_gates), (a_draft_nexts, .dK l_draft_nexts), (a_draft_nevers, .dK l_draft_nevers), (a_draft_somes, .dK l_draft_somes), (a_draft_names, .dK l_draft_names)] := W39
    obtain rfl : v34 = V.str r33 := q38
    refine gset_ (σ' := [some (V.ref a_draft), some v_words, some (V.str r33)]) rfl ?_
    refine nx_ ?_
    obtain ⟨j43, hj44, h⟩ := bs h
    refine cut_ (fun σ' H' => ∃ (B' : Hp) (l0' : List (Key × V)) (l1' : List (Key × V)), σ' = [some (V.ref a_draft), some v_words, some (V.str r33)] ∧ Le B35 B' ∧ Ws [d_draft, a_draft, a_draft_switches, a_draft_keepers, a_draft_gates, a_draft_nexts, a_draft_nevers, a_draft_somes, a_draft_names] B H B' H' [(d_draft, .own a_draft), (a_draft, .ins Cs.c_Draft d_draft [("switches", V.ref a_draft_switches), ("keepers", V.ref a_draft_keepers), ("gates", V.ref a_draft_gates), ("nexts", V.ref a_draft_nexts), ("nevers", V.ref a_draft_nevers), ("somes", V.ref a_draft_somes), ("names", V.ref a_draft_names)]), (a_draft_switches, .lst l_draft_switches), (a_draft_keepers, .dK l0'), (a_draft_gates, .lst l_draft_gates), (a_draft_nexts, .dK l_draft_nexts), (a_draft_nevers, .dK l_draft_nevers), (a_draft_somes, .dK l_draft_somes), (a_draft_names, .dK l1')] ∧ Od B' l0' j43.1 ∧ Od B' l1' j43.2) ?_ ?_
    · refine if_ (fun v' H' => v' = (decide (r33 = ("" : Str))) ∧ H36 = H') (fun Q41 kk42 => ?_) (fun H36q hw => ?_) (fun H36q hw => ?_)
      · refine tst_ ?_
        refine op_ ?_
        refine var_ rfl ?_
        refine cst_ ?_
        refine eqS_ ?_
        refine ⟨_, rfl, ?_⟩
        exact kk42 _ _ ⟨rfl, rfl⟩
      · obtain ⟨c45, rfl⟩ := hw
        have c45 := c45.symm
        have hj44 := opT c45 hj44
        obtain ⟨x46, ex46, hj44⟩ := bs hj44
        obtain ⟨x49, ex49, hj44⟩ := bs hj44
        obtain ⟨x52, ex52, hj44⟩ := bs hj44
        obtain ⟨q55, hj44⟩ := cks hj44
        refine seq_ ?_
        refine dput_ ?_
        refine op_ ?_
        refine cst_ ?_
        refine op_ ?_
        refine var_ rfl ?_
        refine cst_ ?_
        refine ixL_ W39 (Rp.mono (l27.tr l40) r_words) ex46 fun v47 r48 => ?_
        obtain rfl : v47 = V.str x46 := r48
        refine kdix_ T.kd_FIRSTS ex49 B35 fun v50 r51 => ?_
        refine fld_ ?_
        refine var_ rfl ?_
        refine fldO (ns := (["switches", "keepers", "gates", "nexts", "nevers", "somes", "names"] : List Str)) W39 1 rfl T.cls_Draft T.na_Draft_keepers rfl (by decide +kernel) 1 rfl ?_
        refine op_ ?_
        refine var_ rfl ?_
        refine cst_ ?_
        refine ixL_ W39 (Rp.mono (l27.tr l40) r_words) ex52 fun v53 r54 => ?_
        obtain rfl : v53 = V.str x52 := r54
        refine putO (k := x52) W39 3 rfl (Od.mono (l27.tr l40) o_draft_keepers) (show Rp.R B35 v50 (x49 : Option Int) from r51) q55 fun H56 l57 W58 o59 => ?_
        have W58 : Ws [d_draft, a_draft, a_draft_switches, a_draft_keepers, a_draft_gates, a_draft_nexts, a_draft_nevers, a_draft_somes, a_draft_names] B H B35 H56 [(d_draft, .own a_draft), (a_draft, .ins Cs.c_Draft d_draft [("switches", V.ref a_draft_switches), ("keepers", V.ref a_draft_keepers), ("gates", V.ref a_draft_gates), ("nexts", V.ref a_draft_nexts), ("nevers", V.ref a_draft_nevers), ("somes", V.ref a_draft_somes), ("names", V.ref a_draft_names)]), (a_draft_switches, .lst l_draft_switches), (a_draft_keepers, .dK l57), (a_draft_gates, .lst l_draft_gates), (a_draft_nexts, .dK l_draft_nexts), (a_draft_nevers, .dK l_draft_nevers), (a_draft_somes, .dK l_draft_somes), (a_draft_names, .dK l_draft_names)] := W58
        refine nx_ ?_
        obtain ⟨x60, ex60, hj44⟩ := bs hj44
        obtain ⟨q63, hj44⟩ := cks hj44
        refine dput_ ?_
        refine cst_ ?_
        refine fld_ ?_
        refine var_ rfl ?_
        refine fldO (ns := (["switches", "keepers", "gates", "nexts", "nevers", "somes", "names"] : List Str)) W58 1 rfl T.cls_Draft T.na_Draft_names rfl (by decide +kernel) 6 rfl ?_
        refine op_ ?_
        refine var_ rfl ?_
        refine cst_ ?_
        refine ixL_ W58 (Rp.mono (l27.tr l40) r_words) ex60 fun v61 r62 => ?_
        obtain rfl : v61 = V.str x60 := r62
        refine putO (k := x60) W58 8 rfl (Od.mono (l27.tr l40) o_draft_names) (show Rp.R B35 (V.bl true) (true : Bool) from rfl) q63 fun H64 l65 W66 o67 => ?_
        have W66 : Ws [d_draft, a_draft, a_draft_switches, a_draft_keepers, a_draft_gates, a_draft_nexts, a_draft_nevers, a_draft_somes, a_draft_names] B H B35 H64 [(d_draft, .own a_draft), (a_draft, .ins Cs.c_Draft d_draft [("switches", V.ref a_draft_switches), ("keepers", V.ref a_draft_keepers), ("gates", V.ref a_draft_gates), ("nexts", V.ref a_draft_nexts), ("nevers", V.ref a_draft_nevers), ("somes", V.ref a_draft_somes), ("names", V.ref a_draft_names)]), (a_draft_switches, .lst l_draft_switches), (a_draft_keepers, .dK l57), (a_draft_gates, .lst l_draft_gates), (a_draft_nexts, .dK l_draft_nexts), (a_draft_nevers, .dK l_draft_nevers), (a_draft_somes, .dK l_draft_somes), (a_draft_names, .dK l65)] := W66
        refine nx_ ?_
        rw [← Option.some.inj hj44]; exact ⟨B35, l57, l65, rfl, (Le.refl _), W66, o59, o67⟩
      · obtain ⟨c45, rfl⟩ := hw
        have c45 := c45.symm
        have hj44 := opF c45 hj44
        refine next_ ?_
        refine nx_ ?_
        rw [← Option.some.inj hj44]; exact ⟨B35, l_draft_keepers, l_draft_names, rfl, (Le.refl _), W39, (Od.mono (l27.tr l40) o_draft_keepers), (Od.mono (l27.tr l40) o_draft_names)⟩
    rintro _ H69 ⟨B68, l72, l74, rfl, l71, W70, o73, o75⟩
    refine ret_ ?_
    refine var_ rfl ?_
    rw [← Option.some.inj h] at k
    have W70' : Ws [d_draft, a_draft, a_draft_switches, a_draft_keepers, a_draft_gates, a_draft_nexts, a_draft_nevers, a_draft_somes, a_draft_names] B H B68 H69 [(d_draft, .own a_draft), (a_draft, .ins Cs.c_Draft d_draft [("switches", V.ref a_draft_switches), ("keepers", V.ref a_draft_keepers), ("gates", V.ref a_draft_gates), ("nexts", V.ref a_draft_nexts), ("nevers", V.ref a_draft_nevers), ("somes", V.ref a_draft_somes), ("names", V.ref a_draft_names)]), (a_draft_switches, .lst l_draft_switches), (a_draft_keepers, .dK l72), (a_draft_gates, .lst l_draft_gates), (a_draft_nexts, .dK l_draft_nexts), (a_draft_nevers, .dK l_draft_nevers), (a_draft_somes, .dK l_draft_somes), (a_draft_names, .dK l74)] := W70
    exact k (V.str r33) B68 H69 l_draft_switches l72 l_draft_gates l_draft_nexts l_draft_nevers l_draft_somes l74 W70' rfl (Ow.mono (l27.tr (l40.tr l71)) o_draft_switches) o73 (Ow.mono (l27.tr (l40.tr l71)) o_draft_gates) (Od.mono (l27.tr (l40.tr l71)) o_draft_nexts) (Od.mono (l27.tr (l40.tr l71)) o_draft_nevers) (Od.mono (l27.tr (l40.tr l71)) o_draft_somes) o75

end
end G

namespace G
open PySem L2 Pv
section
variable {P : Program} {w : World} {K : PySem.W.Frag} {mg : Str → Option Value} {base : Heap}

def sp_p_gate_row [Cs] (K : PySem.W.Frag) : Sp := fun vs H Q _ => ∃ (B : Hp) (a_draft : Addr) (d_draft : Addr) (a_draft_switches : Addr) (l_draft_switches : List V) (a_draft_keepers : Addr) (l_draft_keepers : List (Key × V)) (a_draft_gates : Addr) (l_draft_gates : List V) (a_draft_nexts : Addr) (l_draft_nexts : List (Key × V)) (a_draft_nevers : Addr) (l_draft_nevers : List (Key × V)) (a_draft_somes : Addr) (l_draft_somes : List (Key × V)) (a_draft_names : Addr) (l_draft_names : List (Key × V)) (x_draft : O_Draft) (v_words : V) (x_words : List Str) (r : Str × O_Draft), vs = [V.ref a_draft, v_words] ∧ Ws [d_draft, a_draft, a_draft_switches, a_draft_keepers, a_draft_gates, a_draft_nexts, a_draft_nevers, a_draft_somes, a_draft_names] B H B H [(d_draft, .own a_draft), (a_draft, .ins Cs.c_Draft d_draft [("switches", V.ref a_draft_switches), ("keepers", V.ref a_draft_keepers), ("gates", V.ref a_draft_gates), ("nexts", V.ref a_draft_nexts), ("nevers", V.ref a_draft_nevers), ("somes", V.ref a_draft_somes), ("names", V.ref a_draft_names)]), (a_draft_switches, .lst l_draft_switches), (a_draft_keepers, .dK l_draft_keepers), (a_draft_gates, .lst l_draft_gates), (a_draft_nexts, .dK l_draft_nexts), (a_draft_nevers, .dK l_draft_nevers), (a_draft_somes, .dK l_draft_somes), (a_draft_names, .dK l_draft_names)] ∧ Ow B l_draft_switches x_draft.switches ∧ Od B l_draft_keepers x_draft.keepers ∧ Ow B l_draft_gates x_draft.gates ∧ Od B l_draft_nexts x_draft.nexts ∧ Od B l_draft_nevers x_draft.nevers ∧ Od B l_draft_somes x_draft.somes ∧ Od B l_draft_names x_draft.names ∧ Rp.R B v_words x_words ∧ m_p_gate_row x_draft x_words = some r ∧ ∀ w B' H' l_draft_switches' l_draft_keepers' l_draft_gates' l_draft_nexts' l_draft_nevers' l_draft_somes' l_draft_names', Ws [d_draft, a_draft, a_draft_switches, a_draft_keepers, a_draft_gates, a_draft_nexts, a_draft_nevers, a_draft_somes, a_draft_names] B H B' H' [(d_draft, .own a_draft), (a_draft, .ins Cs.c_Draft d_draft [("switches", V.ref a_draft_switches), ("keepers", V.ref a_draft_keepers), ("gates", V.ref a_draft_gates), ("nexts", V.ref a_draft_nexts), ("nevers", V.ref a_draft_nevers), ("somes", V.ref a_draft_somes), ("names", V.ref a_draft_names)]), (a_draft_switches, .lst l_draft_switches'), (a_draft_keepers, .dK l_draft_keepers'), (a_draft_gates, .lst l_draft_gates'), (a_draft_nexts, .dK l_draft_nexts'), (a_draft_nevers, .dK l_draft_nevers'), (a_draft_somes, .dK l_draft_somes'), (a_draft_names, .dK l_draft_names')] → Rp.R B' w r.1 → Ow B' l_draft_switches' r.2.switches → Od B' l_draft_keepers' r.2.keepers → Ow B' l_draft_gates' r.2.gates → Od B' l_draft_nexts' r.2.nexts → Od B' l_draft_nevers' r.2.nevers → Od B' l_draft_somes' r.2.somes → Od B' l_draft_names' r.2.names → Q w H'
abbrev s_p_gate_row : Stmt := top 23
theorem sc_p_gate_row : FnScope ["draft", "words", "lacking", "fault"] ["draft", "words"] (C8.fnScope s_p_gate_row) := C8.fnScope_by (by decide +kernel)
theorem ok_p_gate_row [Cs] (T : Tx w K mg) (c_p_is_name : C8.Cal P w K mg base 1 "is_name" (sp_p_is_name K) []) (c_p_is_literal : C8.Cal P w K mg base 2 "is_literal" (sp_p_is_literal K) []) (c_p_lacks : C8.Cal P w K mg base 2 "lacks" (sp_p_lacks K) []) (c_p_first_due : C8.Cal P w K mg base 1 "first_due" (sp_p_first_due K) []) {f : Addr} {fd : FuncData} (F : C8.Def K mg "gate_row" s_p_gate_row f fd) (b : Binds K fd ["draft", "words"] []) : C8.Cal P w K mg base 3 "gate_row" (sp_p_gate_row K) [] := by
  refine C8.cal0 F b .nil sc_p_gate_row (fun vs H Q E h => ?_) (fun cdv A outer s H vs Q E hr h => ?_)
  · obtain ⟨B, a_draft, d_draft, a_draft_switches, l_draft_switches, a_draft_keepers, l_draft_keepers, a_draft_gates, l_draft_gates, a_draft_nexts, l_draft_nexts, a_draft_nevers, l_draft_nevers, a_draft_somes, l_draft_somes, a_draft_names, l_draft_names, x_draft, v_words, x_words, r, rfl, _⟩ := h
    rfl
  obtain ⟨B, a_draft, d_draft, a_draft_switches, l_draft_switches, a_draft_keepers, l_draft_keepers, a_draft_gates, l_draft_gates, a_draft_nexts, l_draft_nexts, a_draft_nevers, l_draft_nevers, a_draft_somes, l_draft_somes, a_draft_names, l_draft_names, x_draft, v_words, x_words, r, rfl, W, o_draft_switches, o_draft_keepers, o_draft_gates, o_draft_nexts, o_draft_nevers, o_draft_somes, o_draft_names, r_words, h, k⟩ := h
  refine ⟨_, (pss_cons (ps_if (PW.pt (pw_or (pt_cmpR op_ne (pe_callB (k_len (K := K)) (by rfl) T.b_len (by decide +kernel) (pa_cons (pv 1) pa_nil)) pe_int (nomark _)) (pw_or (pt_not (pt_val (C8.pe_c c_p_is_name hr (by omega) (by rfl) (pa_cons (pe_ix (k_ixL (K := K)) (pv 1) pe_int (fun _ _ => rfl)) pa_nil)))) (pw_or (pt_not (pt_val (C8.pe_c c_p_is_literal hr (by omega) (by rfl) (pa_cons (pe_ix (k_ixL (K := K)) (pv 1) pe_int (fun _ _ => rfl)) pa_nil)))) (pw_or1 (pt_not (pt_val (C8.pe_c c_p_is_literal hr (by omega) (by rfl) (pa_cons (pe_ix (k_ixL (K := K)) (pv 1) pe_int (fun _ _ => rfl)) pa_nil))))))))) (pss_one (ps_ret pe_str)) pss_nil) (pss_cons (ps_set (i := 2) sc_p_gate_row.nd rfl (Or.inl rfl) (pe_or (C8.pe_c c_p_lacks hr (by omega) (by rfl) (pa_cons (pv 0) (pa_cons (pe_ix (k_ixL (K := K)) (pv 1) pe_int (fun _ _ => rfl)) pa_nil))) (pe_one (C8.pe_c c_p_lacks hr (by omega) (by rfl) (pa_cons (pv 0) (pa_cons (pe_ix (k_ixL (K := K)) (pv 1) pe_int (fun _ _ => rfl)) pa_nil)))))) (pss_cons (ps_set (i := 3) sc_p_gate_row.nd rfl (Or.inl rfl) (C8.pe_c c_p_first_due hr (by omega) (by rfl) (pa_cons (pe_cmp (pc_din (units1 hr) (pe_ix (k_ixL (K := K)) (pv 1) pe_int (fun _ _ => rfl)) (k_fld (K := K) (pv 0))) rfl) (pa_cons (pv 2) (pa_cons (pe_cmpR op_eq (pe_callB (k_len (K := K)) (by rfl) T.b_len (by decide +kernel) (pa_cons (k_fld (K := K) (pv 0)) pa_nil)) (C8.pe_gc (by rfl) T.g_MOST_GATES) (nomark _)) pa_nil))))) (C8.pss_cut (ps_if (pt_cmpR op_eq (pv 3) pe_str (nomark _)) (pss_cons (ps_expr (k_bm (K := K) PySem.F.plainAttrs_list PySem.F.slot_list_append PySem.F.type_list_append mt_append (k_fld (K := K) (pv 0)) (pa_cons (pe_tup (pa_cons (pe_ix (k_ixL (K := K)) (pv 1) pe_int (fun _ _ => rfl)) (pa_cons (pe_ix (k_ixL (K := K)) (pv 1) pe_int (fun _ _ => rfl)) (pa_cons (pe_ix (k_ixL (K := K)) (pv 1) pe_int (fun _ _ => rfl)) pa_nil)))) pa_nil))) (pss_one (ps_dput (units1 hr) (k_fld (K := K) (pv 0)) (pe_ix (k_ixL (K := K)) (pv 1) pe_int (fun _ _ => rfl)) pe_bl (by rfl)))) pss_nil) (pss_one (ps_ret (pv 3))))))), ?_⟩
  refine st_ (σ' := [some (V.ref a_draft), some v_words, none, none]) rfl ?_
  unfold m_p_gate_row at h
  obtain ⟨j47, hj4_, h⟩ := bs h
  refine seq_ ?_
  refine if_ (fun v' H' => ∃ B', v' = (j47) ∧ Le B B' ∧ Ws [d_draft, a_draft, a_draft_switches, a_draft_keepers, a_draft_gates, a_draft_nexts, a_draft_nevers, a_draft_somes, a_draft_names] B H B' H' [(d_draft, .own a_draft), (a_draft, .ins Cs.c_Draft d_draft [("switches", V.ref a_draft_switches), ("keepers", V.ref a_draft_keepers), ("gates", V.ref a_draft_gates), ("nexts", V.ref a_draft_nexts), ("nevers", V.ref a_draft_nevers), ("somes", V.ref a_draft_somes), ("names", V.ref a_draft_names)]), (a_draft_switches, .lst l_draft_switches), (a_draft_keepers, .dK l_draft_keepers), (a_draft_gates, .lst l_draft_gates), (a_draft_nexts, .dK l_draft_nexts), (a_draft_nevers, .dK l_draft_nevers), (a_draft_somes, .dK l_draft_somes), (a_draft_names, .dK l_draft_names)]) (fun Q1 kk2 => ?_) (fun H49 hw => ?_) (fun H49 hw => ?_)
  · refine tor_ ?_
    refine tst_ ?_
    refine op_ ?_
    refine cb_ ?_
    refine tcons_ ?_
    refine var_ rfl ?_
    refine tnil_ ?_
    refine lenL_ W r_words ?_
    refine cst_ ?_
    refine neI_ ?_
    refine ⟨_, rfl, ?_⟩
    refine br_ (fun c3 => ?_) (fun c3 => ?_)
    · exact kk2 _ _ ⟨B, (Option.some.inj (opT c3 hj4_)), (Le.refl _), W⟩
    · have hj4 := opF c3 hj4_
      obtain ⟨x5, ex5, hj4⟩ := bs hj4
      obtain ⟨r9, er9, hj4⟩ := bs hj4
      obtain ⟨j46, hj18_, hj4⟩ := bs hj4
      refine tor_ ?_
      refine tnot_ ?_
      refine tB_ ?_
      refine call_ ?_
      refine tcons_ ?_
      refine op_ ?_
      refine var_ rfl ?_
      refine cst_ ?_
      refine ixL_ W r_words ex5 fun v6 r7 => ?_
      obtain rfl : v6 = V.str x5 := r7
      refine tnil_ ?_
      have L8 := Ws.ln (O1 := [(d_draft, .own a_draft), (a_draft, .ins Cs.c_Draft d_draft [("switches", V.ref a_draft_switches), ("keepers", V.ref a_draft_keepers), ("gates", V.ref a_draft_gates), ("nexts", V.ref a_draft_nexts), ("nevers", V.ref a_draft_nevers), ("somes", V.ref a_draft_somes), ("names", V.ref a_draft_names)]), (a_draft_switches, .lst l_draft_switches), (a_draft_keepers, .dK l_draft_keepers), (a_draft_gates, .lst l_draft_gates), (a_draft_nexts, .dK l_draft_nexts), (a_draft_nevers, .dK l_draft_nevers), (a_draft_somes, .dK l_draft_somes), (a_draft_names, .dK l_draft_names)]) (O := []) (O2 := []) W
      refine ⟨B, x5, r9, rfl, Ln.call (O1 := [(d_draft, .own a_draft), (a_draft, .ins Cs.c_Draft d_draft [("switches", V.ref a_draft_switches), ("keepers", V.ref a_draft_keepers), ("gates", V.ref a_draft_gates), ("nexts", V.ref a_draft_nexts), ("nevers", V.ref a_draft_nevers), ("somes", V.ref a_draft_somes), ("names", V.ref a_draft_names)]), (a_draft_switches, .lst l_draft_switches), (a_draft_keepers, .dK l_draft_keepers), (a_draft_gates, .lst l_draft_gates), (a_draft_nexts, .dK l_draft_nexts), (a_draft_nevers, .dK l_draft_nevers), (a_draft_somes, .dK l_draft_somes), (a_draft_names, .dK l_draft_names)]) (O := []) (O2 := []) L8 W, er9, fun v10 B11 H12 V13 q14 => ?_⟩
      have W15 := Ws.back (O1 := [(d_draft, .own a_draft), (a_draft, .ins Cs.c_Draft d_draft [("switches", V.ref a_draft_switches), ("keepers", V.ref a_draft_keepers), ("gates", V.ref a_draft_gates), ("nexts", V.ref a_draft_nexts), ("nevers", V.ref a_draft_nevers), ("somes", V.ref a_draft_somes), ("names", V.ref a_draft_names)]), (a_draft_switches, .lst l_draft_switches), (a_draft_keepers, .dK l_draft_keepers), (a_draft_gates, .lst l_draft_gates), (a_draft_nexts, .dK l_draft_nexts), (a_draft_nevers, .dK l_draft_nevers), (a_draft_somes, .dK l_draft_somes), (a_draft_names, .dK l_draft_names)]) (O := []) (O2 := []) W (O' := []) V13
      have l16 := (Ws.bb V13)
      have W15 : Ws [d_draft, a_draft, a_draft_switches, a_draft_keepers, a_draft_gates, a_draft_nexts, a_draft_nevers, a_draft_somes, a_draft_names] B H B11 H12 [(d_draft, .own a_draft), (a_draft, .ins Cs.c_Draft d_draft [("switches", V.ref a_draft_switches), ("keepers", V.ref a_draft_keepers), ("gates", V.ref a_draft_gates), ("nexts", V.ref a_draft_nexts), ("nevers", V.ref a_draft_nevers), ("somes", V.ref a_draft_somes), ("names", V.ref a_draft_names)]), (a_draft_switches, .lst l_draft_switches), (a_draft_keepers, .dK l_draft_keepers), (a_draft_gates, .lst l_draft_gates), (a_draft_nexts, .dK l_draft_nexts), (a_draft_nevers, .dK l_draft_nevers), (a_draft_somes, .dK l_draft_somes), (a_draft_names, .dK l_draft_names)] := W15
      obtain rfl : v10 = V.bl r9 := q14
      refine ⟨_, rfl, ?_⟩
      refine br_ (fun c17 => ?_) (fun c17 => ?_)
      · exact kk2 _ _ ⟨B11, (Eq.trans (Option.some.inj (opT c17 hj18_)) (Option.some.inj hj4)), l16, W15⟩
      · have hj18 := opF c17 hj18_
        obtain ⟨x19, ex19, hj18⟩ := bs hj18
        obtain ⟨r23, er23, hj18⟩ := bs hj18
        obtain ⟨j45, hj32_, hj18⟩ := bs hj18
        refine tor_ ?_
        refine tnot_ ?_
        refine tB_ ?_
        refine call_ ?_
        refine tcons_ ?_
        refine op_ ?_
        refine var_ rfl ?_
        refine cst_ ?_
        refine ixL_ W15 (Rp.mono l16 r_words) ex19 fun v20 r21 => ?_
        obtain rfl : v20 = V.str x19 := r21
        refine tnil_ ?_
        have L22 := Ws.ln (O1 := [(d_draft, .own a_draft), (a_draft, .ins Cs.c_Draft d_draft [("switches", V.ref a_draft_switches), ("keepers", V.ref a_draft_keepers), ("gates", V.ref a_draft_gates), ("nexts", V.ref a_draft_nexts), ("nevers", V.ref a_draft_nevers), ("somes", V.ref a_draft_somes), ("names", V.ref a_draft_names)]), (a_draft_switches, .lst l_draft_switches), (a_draft_keepers, .dK l_draft_keepers), (a_draft_gates, .lst l_draft_gates), (a_draft_nexts, .dK l_draft_nexts), (a_draft_nevers, .dK l_draft_nevers), (a_draft_somes, .dK l_draft_somes), (a_draft_names, .dK l_draft_names)]) (O := []) (O2 := []) W15
        refine ⟨B11, x19, r23, rfl, Ln.call (O1 := [(d_draft, .own a_draft), (a_draft, .ins Cs.c_Draft d_draft [("switches", V.ref a_draft_switches), ("keepers", V.ref a_draft_keepers), ("gates", V.ref a_draft_gates), ("nexts", V.ref a_draft_nexts), ("nevers", V.ref a_draft_nevers), ("somes", V.ref a_draft_somes), ("names", V.ref a_draft_names)]), (a_draft_switches, .lst l_draft_switches), (a_draft_keepers, .dK l_draft_keepers), (a_draft_gates, .lst l_draft_gates), (a_draft_nexts, .dK l_draft_nexts), (a_draft_nevers, .dK l_draft_nevers), (a_draft_somes, .dK l_draft_somes), (a_draft_names, .dK l_draft_names)]) (O := []) (O2 := []) L22 W15, er23, fun v24 B25 H26 V27 q28 => ?_⟩
        have W29 := Ws.back (O1 := [(d_draft, .own a_draft), (a_draft, .ins Cs.c_Draft d_draft [("switches", V.ref a_draft_switches), ("keepers", V.ref a_draft_keepers), ("gates", V.ref a_draft_gates), ("nexts", V.ref a_draft_nexts), ("nevers", V.ref a_draft_nevers), ("somes", V.ref a_draft_somes), ("names", V.ref a_draft_names)]), (a_draft_switches, .lst l_draft_switches), (a_draft_keepers, .dK l_draft_keepers), (a_draft_gates, .lst l_draft_gates), (a_draft_nexts, .dK l_draft_nexts), (a_draft_nevers, .dK l_draft_nevers), (a_draft_somes, .dK l_draft_somes), (a_draft_names, .dK l_draft_names)]) (O := []) (O2 := []) W15 (O' := []) V27
        have l30 := (Ws.bb V27)
        have W29 : Ws [d_draft, a_draft, a_draft_switches, a_draft_keepers, a_draft_gates, a_draft_nexts, a_draft_nevers, a_draft_somes, a_draft_names] B H B25 H26 [(d_draft, .own a_draft), (a_draft, .ins Cs.c_Draft d_draft [("switches", V.ref a_draft_switches), ("keepers", V.ref a_draft_keepers), ("gates", V.ref a_draft_gates), ("nexts", V.ref a_draft_nexts), ("nevers", V.ref a_draft_nevers), ("somes", V.ref a_draft_somes), ("names", V.ref a_draft_names)]), (a_draft_switches, .lst l_draft_switches), (a_draft_keepers, .dK l_draft_keepers), (a_draft_gates, .lst l_draft_gates), (a_draft_nexts, .dK l_draft_nexts), (a_draft_nevers, .dK l_draft_nevers), (a_draft_somes, .dK l_draft_somes), (a_draft_names, .dK l_draft_names)] := W29
        obtain rfl : v24 = V.bl r23 := q28
        refine ⟨_, rfl, ?_⟩
        refine br_ (fun c31 => ?_) (fun c31 => ?_)
        · exact kk2 _ _ ⟨B25, (Eq.trans (Eq.trans (Option.some.inj (opT c31 hj32_)) (Option.some.inj hj18)) (Option.some.inj hj4)), (l16.tr l30), W29⟩
        · have hj32 := opF c31 hj32_
          obtain ⟨x33, ex33, hj32⟩ := bs hj32
          obtain ⟨r37, er37, hj32⟩ := bs hj32
          refine tnot_ ?_
          refine tB_ ?_
          refine call_ ?_
          refine tcons_ ?_
          refine op_ ?_
          refine var_ rfl ?_
          refine cst_ ?_
          refine ixL_ W29 (Rp.mono (l16.tr l30) r_words) ex33 fun v34 r35 => ?_
          obtain rfl : v34 = V.str x33 := r35
          refine tnil_ ?_
          have L36 := Ws.ln (O1 := [(d_draft, .own a_draft), (a_draft, .ins Cs.c_Draft d_draft [("switches", V.ref a_draft_switches), ("keepers", V.ref a_draft_keepers), ("gates", V.ref a_draft_gates), ("nexts", V.ref a_draft_nexts), ("nevers", V.ref a_draft_nevers), ("somes", V.ref a_draft_somes), ("names", V.ref a_draft_names)]), (a_draft_switches, .lst l_draft_switches), (a_draft_keepers, .dK l_draft_keepers), (a_draft_gates, .lst l_draft_gates), (a_draft_nexts, .dK l_draft_nexts), (a_draft_nevers, .dK l_draft_nevers), (a_draft_somes, .dK l_draft_somes), (a_draft_names, .dK l_draft_names)]) (O := []) (O2 := []) W29
          refine ⟨B25, x33, r37, rfl, Ln.call (O1 := [(d_draft, .own a_draft), (a_draft, .ins Cs.c_Draft d_draft [("switches", V.ref a_draft_switches), ("keepers", V.ref a_draft_keepers), ("gates", V.ref a_draft_gates), ("nexts", V.ref a_draft_nexts), ("nevers", V.ref a_draft_nevers), ("somes", V.ref a_draft_somes), ("names", V.ref a_draft_names)]), (a_draft_switches, .lst l_draft_switches), (a_draft_keepers, .dK l_draft_keepers), (a_draft_gates, .lst l_draft_gates), (a_draft_nexts, .dK l_draft_nexts), (a_draft_nevers, .dK l_draft_nevers), (a_draft_somes, .dK l_draft_somes), (a_draft_names, .dK l_draft_names)]) (O := []) (O2 := []) L36 W29, er37, fun v38 B39 H40 V41 q42 => ?_⟩
          have W43 := Ws.back (O1 := [(d_draft, .own a_draft), (a_draft, .ins Cs.c_Draft d_draft [("switches", V.ref a_draft_switches), ("keepers", V.ref a_draft_keepers), ("gates", V.ref a_draft_gates), ("nexts", V.ref a_draft_nexts), ("nevers", V.ref a_draft_nevers), ("somes", V.ref a_draft_somes), ("names", V.ref a_draft_names)]), (a_draft_switches, .lst l_draft_switches), (a_draft_keepers, .dK l_draft_keepers), (a_draft_gates, .lst l_draft_gates), (a_draft_nexts, .dK l_draft_nexts), (a_draft_nevers, .dK l_draft_nevers), (a_draft_somes, .dK l_draft_somes), (a_draft_names, .dK l_draft_names)]) (O := []) (O2 := []) W29 (O' := []) V41
          have l44 := (Ws.bb V41)
          have W43 : Ws [d_draft, a_draft, a_draft_switches, a_draft_keepers, a_draft_gates, a_draft_nexts, a_draft_nevers, a_draft_somes, a_draft_names] B H B39 H40 [(d_draft, .own a_draft), (a_draft, .ins Cs.c_Draft d_draft [("switches", V.ref a_draft_switches), ("keepers", V.ref a_draft_keepers), ("gates", V.ref a_draft_gates), ("nexts", V.ref a_draft_nexts), ("nevers", V.ref a_draft_nevers), ("somes", V.ref a_draft_somes), ("names", V.ref a_draft_names)]), (a_draft_switches, .lst l_draft_switches), (a_draft_keepers, .dK l_draft_keepers), (a_draft_gates, .lst l_draft_gates), (a_draft_nexts, .dK l_draft_nexts), (a_draft_nevers, .dK l_draft_nevers), (a_draft_somes, .dK l_draft_somes), (a_draft_names, .dK l_draft_names)] := W43
          obtain rfl : v38 = V.bl r37 := q42
          refine ⟨_, rfl, ?_⟩
          exact kk2 _ _ ⟨B39, (Eq.trans (Eq.trans (Option.some.inj hj32) (Option.some.inj hj18)) (Option.some.inj hj4)), (l16.tr (l30.tr l44)), W43⟩
  · obtain ⟨B48, c52, l51, W50⟩ := hw
    have c52 := c52.symm
    have h := opT c52 h
    refine ret_ ?_
    refine cst_ ?_
    rw [← Option.some.inj h] at k
    have W50' : Ws [d_draft, a_draft, a_draft_switches, a_draft_keepers, a_draft_gates, a_draft_nexts, a_draft_nevers, a_draft_somes, a_draft_names] B H B48 H49 [(d_draft, .own a_draft), (a_draft, .ins Cs.c_Draft d_draft [("switches", V.ref a_draft_switches), ("keepers", V.ref a_draft_keepers), ("gates", V.ref a_draft_gates), ("nexts", V.ref a_draft_nexts), ("nevers", V.ref a_draft_nevers), ("somes", V.ref a_draft_somes), ("names", V.ref a_draft_names)]), (a_draft_switches, .lst l_draft_switches), (a_draft_keepers, .dK l_draft_keepers), (a_draft_gates, .lst l_draft_gates), (a_draft_nexts, .dK l_draft_nexts), (a_draft_nevers, .dK l_draft_nevers), (a_draft_somes, .dK l_draft_somes), (a_draft_names, .dK l_draft_names)] := W50
    exact k (V.str ("row" : Str)) B48 H49 l_draft_switches l_draft_keepers l_draft_gates l_draft_nexts l_draft_nevers l_draft_somes l_draft_names W50' rfl (Ow.mono l51 o_draft_switches) (Od.mono l51 o_draft_keepers) (Ow.mono l51 o_draft_gates) (Od.mono l51 o_draft_nexts) (Od.mono l51 o_draft_nevers) (Od.mono l51 o_draft_somes) (Od.mono l51 o_draft_names)
  · obtain ⟨B48, c52, l51, W50⟩ := hw
    have c52 := c52.symm
    have h := opF c52 h
    refine next_ ?_
    refine nx_ ?_
    obtain ⟨x55, ex55, h⟩ := bs h
    obtain ⟨r91, er91, h⟩ := bs h
    obtain ⟨j149, hj102_, h⟩ := bs h
    refine seq_ ?_
    refine asg_ ?_
    refine ex_ (fun v' H' => ∃ B', v' = V.bl (j149) ∧ Le B48 B' ∧ Ws [d_draft, a_draft, a_draft_switches, a_draft_keepers, a_draft_gates, a_draft_nexts, a_draft_nevers, a_draft_somes, a_draft_names] B H B' H' [(d_draft, .own a_draft), (a_draft, .ins Cs.c_Draft d_draft [("switches", V.ref a_draft_switches), ("keepers", V.ref a_draft_keepers), ("gates", V.ref a_draft_gates), ("nexts", V.ref a_draft_nexts), ("nevers", V.ref a_draft_nevers), ("somes", V.ref a_draft_somes), ("names", V.ref a_draft_names)]), (a_draft_switches, .lst l_draft_switches), (a_draft_keepers, .dK l_draft_keepers), (a_draft_gates, .lst l_draft_gates), (a_draft_nexts, .dK l_draft_nexts), (a_draft_nevers, .dK l_draft_nevers), (a_draft_somes, .dK l_draft_somes), (a_draft_names, .dK l_draft_names)]) (fun Q53 kk54 => ?_) ?_
    · refine torV_ ?_
      refine call_ ?_
      refine tcons_ ?_
      refine var_ rfl ?_
      refine tcons_ ?_
      refine op_ ?_
      refine var_ rfl ?_
      refine cst_ ?_
      refine ixL_ W50 (Rp.mono l51 r_words) ex55 fun v56 r57 => ?_
      obtain rfl : v56 = V.str x55 := r57
      refine tnil_ ?_
      have L58 := Ws.ln (O1 := [(d_draft, .own a_draft), (a_draft, .ins Cs.c_Draft d_draft [("switches", V.ref a_draft_switches), ("keepers", V.ref a_draft_keepers), ("gates", V.ref a_draft_gates), ("nexts", V.ref a_draft_nexts), ("nevers", V.ref a_draft_nevers), ("somes", V.ref a_draft_somes), ("names", V.ref a_draft_names)]), (a_draft_switches, .lst l_draft_switches), (a_draft_keepers, .dK l_draft_keepers), (a_draft_gates, .lst l_draft_gates), (a_draft_nexts, .dK l_draft_nexts), (a_draft_nevers, .dK l_draft_nevers), (a_draft_somes, .dK l_draft_somes), (a_draft_names, .dK l_draft_names)]) (O := []) (O2 := []) W50
      obtain ⟨B59, L60, l61, r62⟩ := Ln.add0 (O1 := [(d_draft, .own a_draft), (a_draft, .ins Cs.c_Draft d_draft [("switches", V.ref a_draft_switches), ("keepers", V.ref a_draft_keepers), ("gates", V.ref a_draft_gates), ("nexts", V.ref a_draft_nexts), ("nevers", V.ref a_draft_nevers), ("somes", V.ref a_draft_somes), ("names", V.ref a_draft_names)]), (a_draft_switches, .lst l_draft_switches), (a_draft_keepers, .dK l_draft_keepers), (a_draft_gates, .lst l_draft_gates), (a_draft_nexts, .dK l_draft_nexts), (a_draft_nevers, .dK l_draft_nevers), (a_draft_somes, .dK l_draft_somes), (a_draft_names, .dK l_draft_names)]) (O := []) (O2 := []) L58 W50 1 rfl
      obtain ⟨B63, L64, l65, r66⟩ := Ln.add (O1 := [(d_draft, .own a_draft), (a_draft, .ins Cs.c_Draft d_draft [("switches", V.ref a_draft_switches), ("keepers", V.ref a_draft_keepers), ("gates", V.ref a_draft_gates), ("nexts", V.ref a_draft_nexts), ("nevers", V.ref a_draft_nevers), ("somes", V.ref a_draft_somes), ("names", V.ref a_draft_names)]), (a_draft_switches, .lst l_draft_switches), (a_draft_keepers, .dK l_draft_keepers), (a_draft_gates, .lst l_draft_gates), (a_draft_nexts, .dK l_draft_nexts), (a_draft_nevers, .dK l_draft_nevers), (a_draft_somes, .dK l_draft_somes), (a_draft_names, .dK l_draft_names)]) (O := []) (O2 := []) L60 W50 2 rfl (Ow.mono l51 o_draft_switches)
      obtain ⟨B67, L68, l69, r70⟩ := Ln.addD (O1 := [(d_draft, .own a_draft), (a_draft, .ins Cs.c_Draft d_draft [("switches", V.ref a_draft_switches), ("keepers", V.ref a_draft_keepers), ("gates", V.ref a_draft_gates), ("nexts", V.ref a_draft_nexts), ("nevers", V.ref a_draft_nevers), ("somes", V.ref a_draft_somes), ("names", V.ref a_draft_names)]), (a_draft_switches, .lst l_draft_switches), (a_draft_keepers, .dK l_draft_keepers), (a_draft_gates, .lst l_draft_gates), (a_draft_nexts, .dK l_draft_nexts), (a_draft_nevers, .dK l_draft_nevers), (a_draft_somes, .dK l_draft_somes), (a_draft_names, .dK l_draft_names)]) (O := []) (O2 := []) L64 W50 3 rfl (Od.mono l51 o_draft_keepers)
      obtain ⟨B71, L72, l73, r74⟩ := Ln.add (O1 := [(d_draft, .own a_draft), (a_draft, .ins Cs.c_Draft d_draft [("switches", V.ref a_draft_switches), ("keepers", V.ref a_draft_keepers), ("gates", V.ref a_draft_gates), ("nexts", V.ref a_draft_nexts), ("nevers", V.ref a_draft_nevers), ("somes", V.ref a_draft_somes), ("names", V.ref a_draft_names)]), (a_draft_switches, .lst l_draft_switches), (a_draft_keepers, .dK l_draft_keepers), (a_draft_gates, .lst l_draft_gates), (a_draft_nexts, .dK l_draft_nexts), (a_draft_nevers, .dK l_draft_nevers), (a_draft_somes, .dK l_draft_somes), (a_draft_names, .dK l_draft_names)]) (O := []) (O2 := []) L68 W50 4 rfl (Ow.mono l51 o_draft_gates)
      obtain ⟨B75, L76, l77, r78⟩ := Ln.addD (O1 := [(d_draft, .own a_draft), (a_draft, .ins Cs.c_Draft d_draft [("switches", V.ref a_draft_switches), ("keepers", V.ref a_draft_keepers), ("gates", V.ref a_draft_gates), ("nexts", V.ref a_draft_nexts), ("nevers", V.ref a_draft_nevers), ("somes", V.ref a_draft_somes), ("names", V.ref a_draft_names)]), (a_draft_switches, .lst l_draft_switches), (a_draft_keepers, .dK l_draft_keepers), (a_draft_gates, .lst l_draft_gates), (a_draft_nexts, .dK l_draft_nexts), (a_draft_nevers, .dK l_draft_nevers), (a_draft_somes, .dK l_draft_somes), (a_draft_names, .dK l_draft_names)]) (O := []) (O2 := []) L72 W50 5 rfl (Od.mono l51 o_draft_nexts)
      obtain ⟨B79, L80, l81, r82⟩ := Ln.addD (O1 := [(d_draft, .own a_draft), (a_draft, .ins Cs.c_Draft d_draft [("switches", V.ref a_draft_switches), ("keepers", V.ref a_draft_keepers), ("gates", V.ref a_draft_gates), ("nexts", V.ref a_draft_nexts), ("nevers", V.ref a_draft_nevers), ("somes", V.ref a_draft_somes), ("names", V.ref a_draft_names)]), (a_draft_switches, .lst l_draft_switches), (a_draft_keepers, .dK l_draft_keepers), (a_draft_gates, .lst l_draft_gates), (a_draft_nexts, .dK l_draft_nexts), (a_draft_nevers, .dK l_draft_nevers), (a_draft_somes, .dK l_draft_somes), (a_draft_names, .dK l_draft_names)]) (O := []) (O2 := []) L76 W50 6 rfl (Od.mono l51 o_draft_nevers)
      obtain ⟨B83, L84, l85, r86⟩ := Ln.addD (O1 := [(d_draft, .own a_draft), (a_draft, .ins Cs.c_Draft d_draft [("switches", V.ref a_draft_switches), ("keepers", V.ref a_draft_keepers), ("gates", V.ref a_draft_gates), ("nexts", V.ref a_draft_nexts), ("nevers", V.ref a_draft_nevers), ("somes", V.ref a_draft_somes), ("names", V.ref a_draft_names)]), (a_draft_switches, .lst l_draft_switches), (a_draft_keepers, .dK l_draft_keepers), (a_draft_gates, .lst l_draft_gates), (a_draft_nexts, .dK l_draft_nexts), (a_draft_nevers, .dK l_draft_nevers), (a_draft_somes, .dK l_draft_somes), (a_draft_names, .dK l_draft_names)]) (O := []) (O2 := []) L80 W50 7 rfl (Od.mono l51 o_draft_somes)
      obtain ⟨B87, L88, l89, r90⟩ := Ln.addD (O1 := [(d_draft, .own a_draft), (a_draft, .ins Cs.c_Draft d_draft [("switches", V.ref a_draft_switches), ("keepers", V.ref a_draft_keepers), ("gates", V.ref a_draft_gates), ("nexts", V.ref a_draft_nexts), ("nevers", V.ref a_draft_nevers), ("somes", V.ref a_draft_somes), ("names", V.ref a_draft_names)]), (a_draft_switches, .lst l_draft_switches), (a_draft_keepers, .dK l_draft_keepers), (a_draft_gates, .lst l_draft_gates), (a_draft_nexts, .dK l_draft_nexts), (a_draft_nevers, .dK l_draft_nevers), (a_draft_somes, .dK l_draft_somes), (a_draft_names, .dK l_draft_names)]) (O := []) (O2 := []) L84 W50 8 rfl (Od.mono l51 o_draft_names)
      refine ⟨B87, (V.ref a_draft), x_draft, x55, r91, rfl, Ln.call (O1 := [(d_draft, .own a_draft), (a_draft, .ins Cs.c_Draft d_draft [("switches", V.ref a_draft_switches), ("keepers", V.ref a_draft_keepers), ("gates", V.ref a_draft_gates), ("nexts", V.ref a_draft_nexts), ("nevers", V.ref a_draft_nevers), ("somes", V.ref a_draft_somes), ("names", V.ref a_draft_names)]), (a_draft_switches, .lst l_draft_switches), (a_draft_keepers, .dK l_draft_keepers), (a_draft_gates, .lst l_draft_gates), (a_draft_nexts, .dK l_draft_nexts), (a_draft_nevers, .dK l_draft_nevers), (a_draft_somes, .dK l_draft_somes), (a_draft_names, .dK l_draft_names)]) (O := []) (O2 := []) L88 W50, ⟨a_draft, d_draft, (V.ref a_draft_switches), (V.ref a_draft_keepers), (V.ref a_draft_gates), (V.ref a_draft_nexts), (V.ref a_draft_nevers), (V.ref a_draft_somes), (V.ref a_draft_names), rfl, (Le.ins l89 (Le.ins l85 (Le.ins l81 (Le.ins l77 (Le.ins l73 (Le.ins l69 (Le.ins l65 r62))))))), (Rp.mono l89 (Rp.mono l85 (Rp.mono l81 (Rp.mono l77 (Rp.mono l73 (Rp.mono l69 r66)))))), (Rp.mono l89 (Rp.mono l85 (Rp.mono l81 (Rp.mono l77 (Rp.mono l73 r70))))), (Rp.mono l89 (Rp.mono l85 (Rp.mono l81 (Rp.mono l77 r74)))), (Rp.mono l89 (Rp.mono l85 (Rp.mono l81 r78))), (Rp.mono l89 (Rp.mono l85 r82)), (Rp.mono l89 r86), r90⟩, er91, fun v92 B93 H94 V95 q96 => ?_⟩
      obtain ⟨B99, W97, l98, t100⟩ := Ln.backT (O1 := [(d_draft, .own a_draft), (a_draft, .ins Cs.c_Draft d_draft [("switches", V.ref a_draft_switches), ("keepers", V.ref a_draft_keepers), ("gates", V.ref a_draft_gates), ("nexts", V.ref a_draft_nexts), ("nevers", V.ref a_draft_nevers), ("somes", V.ref a_draft_somes), ("names", V.ref a_draft_names)]), (a_draft_switches, .lst l_draft_switches), (a_draft_keepers, .dK l_draft_keepers), (a_draft_gates, .lst l_draft_gates), (a_draft_nexts, .dK l_draft_nexts), (a_draft_nevers, .dK l_draft_nevers), (a_draft_somes, .dK l_draft_somes), (a_draft_names, .dK l_draft_names)]) (O := []) (O2 := []) L88 W50 (O' := []) V95 rfl
      have W97 : Ws [d_draft, a_draft, a_draft_switches, a_draft_keepers, a_draft_gates, a_draft_nexts, a_draft_nevers, a_draft_somes, a_draft_names] B H B99 H94 [(d_draft, .own a_draft), (a_draft, .ins Cs.c_Draft d_draft [("switches", V.ref a_draft_switches), ("keepers", V.ref a_draft_keepers), ("gates", V.ref a_draft_gates), ("nexts", V.ref a_draft_nexts), ("nevers", V.ref a_draft_nevers), ("somes", V.ref a_draft_somes), ("names", V.ref a_draft_names)]), (a_draft_switches, .lst l_draft_switches), (a_draft_keepers, .dK l_draft_keepers), (a_draft_gates, .lst l_draft_gates), (a_draft_nexts, .dK l_draft_nexts), (a_draft_nevers, .dK l_draft_nevers), (a_draft_somes, .dK l_draft_somes), (a_draft_names, .dK l_draft_names)] := W97
      obtain rfl : v92 = V.bl r91 := q96
      refine ⟨_, rfl, ?_⟩
      refine br_ (fun c101 => ?_) (fun c101 => ?_)
      · exact kk54 _ _ ⟨B99, (congrArg V.bl (Option.some.inj (opT c101 hj102_))), l98, W97⟩
      · have hj102 := opF c101 hj102_
        obtain ⟨x103, ex103, hj102⟩ := bs hj102
        obtain ⟨r139, er139, hj102⟩ := bs hj102
        refine call_ ?_
        refine tcons_ ?_
        refine var_ rfl ?_
        refine tcons_ ?_
        refine op_ ?_
        refine var_ rfl ?_
        refine cst_ ?_
        refine ixL_ W97 (Rp.mono (l51.tr l98) r_words) ex103 fun v104 r105 => ?_
        obtain rfl : v104 = V.str x103 := r105
        refine tnil_ ?_
        have L106 := Ws.ln (O1 := [(d_draft, .own a_draft), (a_draft, .ins Cs.c_Draft d_draft [("switches", V.ref a_draft_switches), ("keepers", V.ref a_draft_keepers), ("gates", V.ref a_draft_gates), ("nexts", V.ref a_draft_nexts), ("nevers", V.ref a_draft_nevers), ("somes", V.ref a_draft_somes), ("names", V.ref a_draft_names)]), (a_draft_switches, .lst l_draft_switches), (a_draft_keepers, .dK l_draft_keepers), (a_draft_gates, .lst l_draft_gates), (a_draft_nexts, .dK l_draft_nexts), (a_draft_nevers, .dK l_draft_nevers), (a_draft_somes, .dK l_draft_somes), (a_draft_names, .dK l_draft_names)]) (O := []) (O2 := []) W97
        obtain ⟨B107, L108, l109, r110⟩ := Ln.add0 (O1 := [(d_draft, .own a_draft), (a_draft, .ins Cs.c_Draft d_draft [("switches", V.ref a_draft_switches), ("keepers", V.ref a_draft_keepers), ("gates", V.ref a_draft_gates), ("nexts", V.ref a_draft_nexts), ("nevers", V.ref a_draft_nevers), ("somes", V.ref a_draft_somes), ("names", V.ref a_draft_names)]), (a_draft_switches, .lst l_draft_switches), (a_draft_keepers, .dK l_draft_keepers), (a_draft_gates, .lst l_draft_gates), (a_draft_nexts, .dK l_draft_nexts), (a_draft_nevers, .dK l_draft_nevers), (a_draft_somes, .dK l_draft_somes), (a_draft_names, .dK l_draft_names)]) (O := []) (O2 := []) L106 W97 1 rfl
        obtain ⟨B111, L112, l113, r114⟩ := Ln.add (O1 := [(d_draft, .own a_draft), (a_draft, .ins Cs.c_Draft d_draft [("switches", V.ref a_draft_switches), ("keepers", V.ref a_draft_keepers), ("gates", V.ref a_draft_gates), ("nexts", V.ref a_draft_nexts), ("nevers", V.ref a_draft_nevers), ("somes", V.ref a_draft_somes), ("names", V.ref a_draft_names)]), (a_draft_switches, .lst l_draft_switches), (a_draft_keepers, .dK l_draft_keepers), (a_draft_gates, .lst l_draft_gates), (a_draft_nexts, .dK l_draft_nexts), (a_draft_nevers, .dK l_draft_nevers), (a_draft_somes, .dK l_draft_somes), (a_draft_names, .dK l_draft_names)]) (O := []) (O2 := []) L108 W97 2 rfl (Ow.mono (l51.tr l98) o_draft_switches)
        obtain ⟨B115, L116, l117, r118⟩ := Ln.addD (O1 := [(d_draft, .own a_draft), (a_draft, .ins Cs.c_Draft d_draft [("switches", V.ref a_draft_switches), ("keepers", V.ref a_draft_keepers), ("gates", V.ref a_draft_gates), ("nexts", V.ref a_draft_nexts), ("nevers", V.ref a_draft_nevers), ("somes", V.ref a_draft_somes), ("names", V.ref a_draft_names)]), (a_draft_switches, .lst l_draft_switches), (a_draft_keepers, .dK l_draft_keepers), (a_draft_gates, .lst l_draft_gates), (a_draft_nexts, .dK l_draft_nexts), (a_draft_nevers, .dK l_draft_nevers), (a_draft_somes, .dK l_draft_somes), (a_draft_names, .dK l_draft_names)]) (O := []) (O2 := []) L112 W97 3 rfl (Od.mono (l51.tr l98) o_draft_keepers)
        obtain ⟨B119, L120, l121, r122⟩ := Ln.add (O1 := [(d_draft, .own a_draft), (a_draft, .ins Cs.c_Draft d_draft [("switches", V.ref a_draft_switches), ("keepers", V.ref a_draft_keepers), ("gates", V.ref a_draft_gates), ("nexts", V.ref a_draft_nexts), ("nevers", V.ref a_draft_nevers), ("somes", V.ref a_draft_somes), ("names", V.ref a_draft_names)]), (a_draft_switches, .lst l_draft_switches), (a_draft_keepers, .dK l_draft_keepers), (a_draft_gates, .lst l_draft_gates), (a_draft_nexts, .dK l_draft_nexts), (a_draft_nevers, .dK l_draft_nevers), (a_draft_somes, .dK l_draft_somes), (a_draft_names, .dK l_draft_names)]) (O := []) (O2 := []) L116 W97 4 rfl (Ow.mono (l51.tr l98) o_draft_gates)
        obtain ⟨B123, L124, l125, r126⟩ := Ln.addD (O1 := [(d_draft, .own a_draft), (a_draft, .ins Cs.c_Draft d_draft [("switches", V.ref a_draft_switches), ("keepers", V.ref a_draft_keepers), ("gates", V.ref a_draft_gates), ("nexts", V.ref a_draft_nexts), ("nevers", V.ref a_draft_nevers), ("somes", V.ref a_draft_somes), ("names", V.ref a_draft_names)]), (a_draft_switches, .lst l_draft_switches), (a_draft_keepers, .dK l_draft_keepers), (a_draft_gates, .lst l_draft_gates), (a_draft_nexts, .dK l_draft_nexts), (a_draft_nevers, .dK l_draft_nevers), (a_draft_somes, .dK l_draft_somes), (a_draft_names, .dK l_draft_names)]) (O := []) (O2 := []) L120 W97 5 rfl (Od.mono (l51.tr l98) o_draft_nexts)
        obtain ⟨B127, L128, l129, r130⟩ := Ln.addD (O1 := [(d_draft, .own a_draft), (a_draft, .ins Cs.c_Draft d_draft [("switches", V.ref a_draft_switches), ("keepers", V.ref a_draft_keepers), ("gates", V.ref a_draft_gates), ("nexts", V.ref a_draft_nexts), ("nevers", V.ref a_draft_nevers), ("somes", V.ref a_draft_somes), ("names", V.ref a_draft_names)]), (a_draft_switches, .lst l_draft_switches), (a_draft_keepers, .dK l_draft_keepers), (a_draft_gates, .lst l_draft_gates), (a_draft_nexts, .dK l_draft_nexts), (a_draft_nevers, .dK l_draft_nevers), (a_draft_somes, .dK l_draft_somes), (a_draft_names, .dK l_draft_names)]) (O := []) (O2 := []) L124 W97 6 rfl (Od.mono (l51.tr l98) o_draft_nevers)
        obtain ⟨B131, L132, l133, r134⟩ := Ln.addD (O1 := [(d_draft, .own a_draft), (a_draft, .ins Cs.c_Draft d_draft [("switches", V.ref a_draft_switches), ("keepers", V.ref a_draft_keepers), ("gates", V.ref a_draft_gates), ("nexts", V.ref a_draft_nexts), ("nevers", V.ref a_draft_nevers), ("somes", V.ref a_draft_somes), ("names", V.ref a_draft_names)]), (a_draft_switches, .lst l_draft_switches), (a_draft_keepers, .dK l_draft_keepers), (a_draft_gates, .lst l_draft_gates), (a_draft_nexts, .dK l_draft_nexts), (a_draft_nevers, .dK l_draft_nevers), (a_draft_somes, .dK l_draft_somes), (a_draft_names, .dK l_draft_names)]) (O := []) (O2 := []) L128 W97 7 rfl (Od.mono (l51.tr l98) o_draft_somes)
        obtain ⟨B135, L136, l137, r138⟩ := Ln.addD (O1 := [(d_draft, .own a_draft), (a_draft, .ins Cs.c_Draft d_draft [("switches", V.ref a_draft_switches), ("keepers", V.ref a_draft_keepers), ("gates", V.ref a_draft_gates), ("nexts", V.ref a_draft_nexts), ("nevers", V.ref a_draft_nevers), ("somes", V.ref a_draft_somes), ("names", V.ref a_draft_names)]), (a_draft_switches, .lst l_draft_switches), (a_draft_keepers, .dK l_draft_keepers), (a_draft_gates, .lst l_draft_gates), (a_draft_nexts, .dK l_draft_nexts), (a_draft_nevers, .dK l_draft_nevers), (a_draft_somes, .dK l_draft_somes), (a_draft_names, .dK l_draft_names)]) (O := []) (O2 := []) L132 W97 8 rfl (Od.mono (l51.tr l98) o_draft_names)
        refine ⟨B135, (V.ref a_draft), x_draft, x103, r139, rfl, Ln.call (O1 := [(d_draft, .own a_draft), (a_draft, .ins Cs.c_Draft d_draft [("switches", V.ref a_draft_switches), ("keepers", V.ref a_draft_keepers), ("gates", V.ref a_draft_gates), ("nexts", V.ref a_draft_nexts), ("nevers", V.ref a_draft_nevers), ("somes", V.ref a_draft_somes), ("names", V.ref a_draft_names)]), (a_draft_switches, .lst l_draft_switches), (a_draft_keepers, .dK l_draft_keepers), (a_draft_gates, .lst l_draft_gates), (a_draft_nexts, .dK l_draft_nexts), (a_draft_nevers, .dK l_draft_nevers), (a_draft_somes, .dK l_draft_somes), (a_draft_names, .dK l_draft_names)]) (O := []) (O2 := []) L136 W97, ⟨a_draft, d_draft, (V.ref a_draft_switches), (V.ref a_draft_keepers), (V.ref a_draft_gates), (V.ref a_draft_nexts), (V.ref a_draft_nevers), (V.ref a_draft_somes), (V.ref a_draft_names), rfl, (Le.ins l137 (Le.ins l133 (Le.ins l129 (Le.ins l125 (Le.ins l121 (Le.ins l117 (Le.ins l113 r110))))))), (Rp.mono l137 (Rp.mono l133 (Rp.mono l129 (Rp.mono l125 (Rp.mono l121 (Rp.mono l117 r114)))))), (Rp.mono l137 (Rp.mono l133 (Rp.mono l129 (Rp.mono l125 (Rp.mono l121 r118))))), (Rp.mono l137 (Rp.mono l133 (Rp.mono l129 (Rp.mono l125 r122)))), (Rp.mono l137 (Rp.mono l133 (Rp.mono l129 r126))), (Rp.mono l137 (Rp.mono l133 r130)), (Rp.mono l137 r134), r138⟩, er139, fun v140 B141 H142 V143 q144 => ?_⟩
        obtain ⟨B147, W145, l146, t148⟩ := Ln.backT (O1 := [(d_draft, .own a_draft), (a_draft, .ins Cs.c_Draft d_draft [("switches", V.ref a_draft_switches), ("keepers", V.ref a_draft_keepers), ("gates", V.ref a_draft_gates), ("nexts", V.ref a_draft_nexts), ("nevers", V.ref a_draft_nevers), ("somes", V.ref a_draft_somes), ("names", V.ref a_draft_names)]), (a_draft_switches, .lst l_draft_switches), (a_draft_keepers, .dK l_draft_keepers), (a_draft_gates, .lst l_draft_gates), (a_draft_nexts, .dK l_draft_nexts), (a_draft_nevers, .dK l_draft_nevers), (a_draft_somes, .dK l_draft_somes), (a_draft_names, .dK l_draft_names)]) (O := []) (O2 := []) L136 W97 (O' := []) V143 rfl
        have W145 : Ws [d_draft, a_draft, a_draft_switches, a_draft_keepers, a_draft_gates, a_draft_nexts, a_draft_nevers, a_draft_somes, a_draft_names] B H B147 H142 [(d_draft, .own a_draft), (a_draft, .ins Cs.c_Draft d_draft [("switches", V.ref a_draft_switches), ("keepers", V.ref a_draft_keepers), ("gates", V.ref a_draft_gates), ("nexts", V.ref a_draft_nexts), ("nevers", V.ref a_draft_nevers), ("somes", V.ref a_draft_somes), ("names", V.ref a_draft_names)]), (a_draft_switches, .lst l_draft_switches), (a_draft_keepers, .dK l_draft_keepers), (a_draft_gates, .lst l_draft_gates), (a_draft_nexts, .dK l_draft_nexts), (a_draft_nevers, .dK l_draft_nevers), (a_draft_somes, .dK l_draft_somes), (a_draft_names, .dK l_draft_names)] := W145
        obtain rfl : v140 = V.bl r139 := q144
        exact kk54 _ _ ⟨B147, (congrArg V.bl (Option.some.inj hj102)), (l98.tr l146), W145⟩
    rintro _ H151 ⟨B150, rfl, l153, W152⟩
    refine gset_ (σ' := [some (V.ref a_draft), some v_words, some (V.bl j149), none]) rfl ?_
    refine nx_ ?_
    obtain ⟨x154, ex154, h⟩ := bs h
    obtain ⟨r158, er158, h⟩ := bs h
    refine seq_ ?_
    refine asg_ ?_
    refine call_ ?_
    refine tcons_ ?_
    refine din_ ?_
    refine op_ ?_
    refine var_ rfl ?_
    refine cst_ ?_
    refine ixL_ W152 (Rp.mono (l51.tr l153) r_words) ex154 fun v155 r156 => ?_
    obtain rfl : v155 = V.str x154 := r156
    refine fld_ ?_
    refine var_ rfl ?_
    refine fldO (ns := (["switches", "keepers", "gates", "nexts", "nevers", "somes", "names"] : List Str)) W152 1 rfl T.cls_Draft T.na_Draft_names rfl (by decide +kernel) 6 rfl ?_
    refine dinO (k := x154) W152 8 rfl (Od.mono (l51.tr l153) o_draft_names) ?_
    refine tcons_ ?_
    refine var_ rfl ?_
    refine tcons_ ?_
    refine op_ ?_
    refine cb_ ?_
    refine tcons_ ?_
    refine fld_ ?_
    refine var_ rfl ?_
    refine fldO (ns := (["switches", "keepers", "gates", "nexts", "nevers", "somes", "names"] : List Str)) W152 1 rfl T.cls_Draft T.na_Draft_gates rfl (by decide +kernel) 2 rfl ?_
    refine tnil_ ?_
    refine oLen W152 4 rfl (Ow.mono (l51.tr l153) o_draft_gates) ?_
    refine cst_ ?_
    refine eqI_ ?_
    refine tnil_ ?_
    have L157 := Ws.ln (O1 := [(d_draft, .own a_draft), (a_draft, .ins Cs.c_Draft d_draft [("switches", V.ref a_draft_switches), ("keepers", V.ref a_draft_keepers), ("gates", V.ref a_draft_gates), ("nexts", V.ref a_draft_nexts), ("nevers", V.ref a_draft_nevers), ("somes", V.ref a_draft_somes), ("names", V.ref a_draft_names)]), (a_draft_switches, .lst l_draft_switches), (a_draft_keepers, .dK l_draft_keepers), (a_draft_gates, .lst l_draft_gates), (a_draft_nexts, .dK l_draft_nexts), (a_draft_nevers, .dK l_draft_nevers), (a_draft_somes, .dK l_draft_somes), (a_draft_names, .dK l_draft_names)]) (O := []) (O2 := []) W152
    refine ⟨B150, (x_draft.names.has x154), j149, decide ((x_draft.gates.length : Int) = (60 : Int)), r158, rfl, Ln.call (O1 := [(d_draft, .own a_draft), (a_draft, .ins Cs.c_Draft d_draft [("switches", V.ref a_draft_switches), ("keepers", V.ref a_draft_keepers), ("gates", V.ref a_draft_gates), ("nexts", V.ref a_draft_nexts), ("nevers", V.ref a_draft_nevers), ("somes", V.ref a_draft_somes), ("names", V.ref a_draft_names)]), (a_draft_switches, .lst l_draft_switches), (a_draft_keepers, .dK l_draft_keepers), (a_draft_gates, .lst l_draft_gates), (a_draft_nexts, .dK l_draft_nexts), (a_draft_nevers, .dK l_draft_nevers), (a_draft_somes, .dK l_draft_somes), (a_draft_names, .dK l_draft_names)]) (O := []) (O2 := []) L157 W152, er158, fun v159 B160 H161 V162 q163 => ?_⟩
    have W164 := Ws.back (O1 := [(d_draft, .own a_draft), (a_draft, .ins Cs.c_Draft d_draft [("switches", V.ref a_draft_switches), ("keepers", V.ref a_draft_keepers), ("gates", V.ref a_draft_gates), ("nexts", V.ref a_draft_nexts), ("nevers", V.ref a_draft_nevers), ("somes", V.ref a_draft_somes), ("names", V.ref a_draft_names)]), (a_draft_switches, .lst l_draft_switches), (a_draft_keepers, .dK l_draft_keepers), (a_draft_gates, .lst l_draft_gates), (a_draft_nexts, .dK l_draft_nexts), (a_draft_nevers, .dK l_draft_nevers), (a_draft_somes, .dK l_draft_somes), (a_draft_names, .dK l_draft_names)]) (O := []) (O2 := []) W152 (O' := []) V162
    have l165 := (Ws.bb V162)
    have W164 : Ws [d_draft, a_draft, a_draft_switches, a_draft_keepers, a_draft_gates, a_draft_nexts, a_draft_nevers, a_draft_somes, a_draft_names] B H B160 H161 [(d_draft, .own a_draft), (a_draft, .ins Cs.c_Draft d_draft [("switches", V.ref a_draft_switches), ("keepers", V.ref a_draft_keepers), ("gates", V.ref a_draft_gates), ("nexts", V.ref a_draft_nexts), ("nevers", V.ref a_draft_nevers), ("somes", V.ref a_draft_somes), ("names", V.ref a_draft_names)]), (a_draft_switches, .lst l_draft_switches), (a_draft_keepers, .dK l_draft_keepers), (a_draft_gates, .lst l_draft_gates), (a_draft_nexts, .dK l_draft_nexts), (a_draft_nevers, .dK l_draft_nevers), (a_draft_somes, .dK l_draft_somes), (a_draft_names, .dK l_draft_names)] := W164
    obtain rfl : v159 = V.str r158 := q163
    refine gset_ (σ' := [some (V.ref a_draft), some v_words, some (V.bl j149), some (V.str r158)]) rfl ?_
    refine nx_ ?_
    obtain ⟨j168, hj169, h⟩ := bs h
    refine cut_ (fun σ' H' => ∃ (B' : Hp) (l0' : List V) (l1' : List (Key × V)), σ' = [some (V.ref a_draft), some v_words, some (V.bl j149), some (V.str r158)] ∧ Le B160 B' ∧ Ws [d_draft, a_draft, a_draft_switches, a_draft_keepers, a_draft_gates, a_draft_nexts, a_draft_nevers, a_draft_somes, a_draft_names] B H B' H' [(d_draft, .own a_draft), (a_draft, .ins Cs.c_Draft d_draft [("switches", V.ref a_draft_switches), ("keepers", V.ref a_draft_keepers), ("gates", V.ref a_draft_gates), ("nexts", V.ref a_draft_nexts), ("nevers", V.ref a_draft_nevers), ("somes", V.ref a_draft_somes), ("names", V.ref a_draft_names)]), (a_draft_switches, .lst l_draft_switches), (a_draft_keepers, .dK l_draft_keepers), (a_draft_gates, .lst l0'), (a_draft_nexts, .dK l_draft_nexts), (a_draft_nevers, .dK l_draft_nevers), (a_draft_somes, .dK l_draft_somes), (a_draft_names, .dK l1')] ∧ Ow B' l0' j168.1 ∧ Od B' l1' j168.2) ?_ ?_
    · refine if_ (fun v' H' => v' = (decide (r158 = ("" : Str))) ∧ H161 = H') (fun Q166 kk167 => ?_) (fun H161q hw => ?_) (fun H161q hw => ?_)
      · refine tst_ ?_
        refine op_ ?_
        refine var_ rfl ?_
        refine cst_ ?_
        refine eqS_ ?_
        refine ⟨_, rfl, ?_⟩
        exact kk167 _ _ ⟨rfl, rfl⟩
      · obtain ⟨c170, rfl⟩ := hw
        have c170 := c170.symm
        have hj169 := opT c170 hj169
        obtain ⟨x171, ex171, hj169⟩ := bs hj169
        obtain ⟨x174, ex174, hj169⟩ := bs hj169
        obtain ⟨x177, ex177, hj169⟩ := bs hj169
        obtain ⟨q186, hj169⟩ := cks hj169
        refine seq_ ?_
        refine drop_ ?_
        refine bm_ ?_
        refine fld_ ?_
        refine var_ rfl ?_
        refine fldO (ns := (["switches", "keepers", "gates", "nexts", "nevers", "somes", "names"] : List Str)) W164 1 rfl T.cls_Draft T.na_Draft_gates rfl (by decide +kernel) 2 rfl ?_
        refine tyL_ W164 4 rfl ?_
        refine tcons_ ?_
        refine tup_ ?_
        refine tcons_ ?_
        refine op_ ?_
        refine var_ rfl ?_
        refine cst_ ?_
        refine ixL_ W164 (Rp.mono (l51.tr (l153.tr l165)) r_words) ex171 fun v172 r173 => ?_
        obtain rfl : v172 = V.str x171 := r173
        refine tcons_ ?_
        refine op_ ?_
        refine var_ rfl ?_
        refine cst_ ?_
        refine ixL_ W164 (Rp.mono (l51.tr (l153.tr l165)) r_words) ex174 fun v175 r176 => ?_
        obtain rfl : v175 = V.str x174 := r176
        refine tcons_ ?_
        refine op_ ?_
        refine var_ rfl ?_
        refine cst_ ?_
        refine ixL_ W164 (Rp.mono (l51.tr (l153.tr l165)) r_words) ex177 fun v178 r179 => ?_
        obtain rfl : v178 = V.str x177 := r179
        refine tnil_ ?_
        refine mk3 W164 (show Rp.R B160 (V.str x171) (x171 : Str) from rfl) (show Rp.R B160 (V.str x174) (x174 : Str) from rfl) (show Rp.R B160 (V.str x177) (x177 : Str) from rfl) fun v180 B181 H182 W183 l184 r185 => ?_
        refine tnil_ ?_
        refine oApp W183 4 rfl (Ow.mono (l51.tr (l153.tr (l165.tr l184))) o_draft_gates) r185 q186 fun H187 l188 W189 o190 => ?_
        have W189 : Ws [d_draft, a_draft, a_draft_switches, a_draft_keepers, a_draft_gates, a_draft_nexts, a_draft_nevers, a_draft_somes, a_draft_names] B H B181 H187 [(d_draft, .own a_draft), (a_draft, .ins Cs.c_Draft d_draft [("switches", V.ref a_draft_switches), ("keepers", V.ref a_draft_keepers), ("gates", V.ref a_draft_gates), ("nexts", V.ref a_draft_nexts), ("nevers", V.ref a_draft_nevers), ("somes", V.ref a_draft_somes), ("names", V.ref a_draft_names)]), (a_draft_switches, .lst l_draft_switches), (a_draft_keepers, .dK l_draft_keepers), (a_draft_gates, .lst l188), (a_draft_nexts, .dK l_draft_nexts), (a_draft_nevers, .dK l_draft_nevers), (a_draft_somes, .dK l_draft_somes), (a_draft_names, .dK l_draft_names)] := W189
        refine nx_ ?_
        obtain ⟨x191, ex191, hj169⟩ := bs hj169
        obtain ⟨q194, hj169⟩ := cks hj169
        refine dput_ ?_
        refine cst_ ?_
        refine fld_ ?_
        refine var_ rfl ?_
        refine fldO (ns := (["switches", "keepers", "gates", "nexts", "nevers", "somes", "names"] : List Str)) W189 1 rfl T.cls_Draft T.na_Draft_names rfl (by decide +kernel) 6 rfl ?_
        refine op_ ?_
        refine var_ rfl ?_
        refine cst_ ?_
        refine ixL_ W189 (Rp.mono (l51.tr (l153.tr (l165.tr l184))) r_words) ex191 fun v192 r193 => ?_
        obtain rfl : v192 = V.str x191 := r193
        refine putO (k := x191) W189 8 rfl (Od.mono (l51.tr (l153.tr (l165.tr l184))) o_draft_names) (show Rp.R B181 (V.bl true) (true : Bool) from rfl) q194 fun H195 l196 W197 o198 => ?_
        have W197 : Ws [d_draft, a_draft, a_draft_switches, a_draft_keepers, a_draft_gates, a_draft_nexts, a_draft_nevers, a_draft_somes, a_draft_names] B H B181 H195 [(d_draft, .own a_draft), (a_draft, .ins Cs.c_Draft d_draft [("switches", V.ref a_draft_switches), ("keepers", V.ref a_draft_keepers), ("gates", V.ref a_draft_gates), ("nexts", V.ref a_draft_nexts), ("nevers", V.ref a_draft_nevers), ("somes", V.ref a_draft_somes), ("names", V.ref a_draft_names)]), (a_draft_switches, .lst l_draft_switches), (a_draft_keepers, .dK l_draft_keepers), (a_draft_gates, .lst l188), (a_draft_nexts, .dK l_draft_nexts), (a_draft_nevers, .dK l_draft_nevers), (a_draft_somes, .dK l_draft_somes), (a_draft_names, .dK l196)] := W197
        refine nx_ ?_
        rw [← Option.some.inj hj169]; exact ⟨B181, l188, l196, rfl, l184, W197, o190, o198⟩
      · obtain ⟨c170, rfl⟩ := hw
        have c170 := c170.symm
        have hj169 := opF c170 hj169
        refine next_ ?_
        refine nx_ ?_
        rw [← Option.some.inj hj169]; exact ⟨B160, l_draft_gates, l_draft_names, rfl, (Le.refl _), W164, (Ow.mono (l51.tr (l153.tr l165)) o_draft_gates), (Od.mono (l51.tr (l153.tr l165)) o_draft_names)⟩
    rintro _ H200 ⟨B199, l203, l205, rfl, l202, W201, o204, o206⟩
    refine ret_ ?_
    refine var_ rfl ?_
    rw [← Option.some.inj h] at k
    have W201' : Ws [d_draft, a_draft, a_draft_switches, a_draft_keepers, a_draft_gates, a_draft_nexts, a_draft_nevers, a_draft_somes, a_draft_names] B H B199 H200 [(d_draft, .own a_draft), (a_draft, .ins Cs.c_Draft d_draft [("switches", V.ref a_draft_switches), ("keepers", V.ref a_draft_keepers), ("gates", V.ref a_draft_gates), ("nexts", V.ref a_draft_nexts), ("nevers", V.ref a_draft_nevers), ("somes", V.ref a_draft_somes), ("names", V.ref a_draft_names)]), (a_draft_switches, .lst l_draft_switches), (a_draft_keepers, .dK l_draft_keepers), (a_draft_gates, .lst l203), (a_draft_nexts, .dK l_draft_nexts), (a_draft_nevers, .dK l_draft_nevers), (a_draft_somes, .dK l_draft_somes), (a_draft_names, .dK l205)] := W201
    exact k (V.str r158) B199 H200 l_draft_switches l_draft_keepers l203 l_draft_nexts l_draft_nevers l_draft_somes l205 W201' rfl (Ow.mono (l51.tr (l153.tr (l165.tr l202))) o_draft_switches) (Od.mono (l51.tr (l153.tr (l165.tr l202))) o_draft_keepers) o204 (Od.mono (l51.tr (l153.tr (l165.tr l202))) o_draft_nexts) (Od.mono (l51.tr (l153.tr (l165.tr l202))) o_draft_nevers) (Od.mono (l51.tr (l153.tr (l165.tr l202))) o_draft_somes) o206

def sp_p_next_row [Cs] (K : PySem.W.Frag) : Sp := fun vs H Q _ => ∃ (B : Hp) (a_draft : Addr) (d_draft : Addr) (a_draft_switches : Addr) (l_draft_switches : List V) (a_draft_keepers : Addr) (l_draft_keepers : List (Key × V)) (a_draft_gates : Addr) (l_draft_gates : List V) (a_draft_nexts : Addr) (l_draft_nexts : List (Key × V)) (a_draft_nevers : Addr) (l_draft_nevers : List (Key × V)) (a_draft_somes : Addr) (l_draft_somes : List (Key × V)) (a_draft_names : Addr) (l_draft_names : List (Key × V)) (x_draft : O_Draft) (v_words : V) (x_words : List Str) (r : Str × O_Draft), vs = [V.ref a_draft, v_words] ∧ Ws [d_draft, a_draft, a_draft_switches, a_draft_keepers, a_draft_gates, a_draft_nexts, a_draft_nevers, a_draft_somes, a_draft_names] B H B H [(d_draft, .own a_draft), (a_draft, .ins Cs.c_Draft d_draft [("switches", V.ref a_draft_switches), ("keepers", V.ref a_draft_keepers), ("gates", V.ref a_draft_gates), ("nexts", V.ref a_draft_nexts), ("nevers", V.ref a_draft_nevers), ("somes", V.ref a_draft_somes), ("names", V.ref a_draft_names)]), (a_draft_switches, .lst l_draft_switches), (a_draft_keepers, .dK l_draft_keepers), (a_draft_gates, .lst l_draft_gates), (a_draft_nexts, .dK l_draft_nexts), (a_draft_nevers, .dK l_draft_nevers), (a_draft_somes, .dK l_draft_somes), (a_draft_names, .dK l_draft_names)] ∧ Ow B l_draft_switches x_draft.switches ∧ Od B l_draft_keepers x_draft.keepers ∧ Ow B l_draft_gates x_draft.gates ∧ Od B l_draft_nexts x_draft.nexts ∧ Od B l_draft_nevers x_draft.nevers ∧ Od B l_draft_somes x_draft.somes ∧ Od B l_draft_names x_draft.names ∧ Rp.R B v_words x_words ∧ m_p_next_row x_draft x_words = some r ∧ ∀ w B' H' l_draft_switches' l_draft_keepers' l_draft_gates' l_draft_nexts' l_draft_nevers' l_draft_somes' l_draft_names', Ws [d_draft, a_draft, a_draft_switches, a_draft_keepers, a_draft_gates, a_draft_nexts, a_draft_nevers, a_draft_somes, a_draft_names] B H B' H' [(d_draft, .own a_draft), (a_draft, .ins Cs.c_Draft d_draft [("switches", V.ref a_draft_switches), ("keepers", V.ref a_draft_keepers), ("gates", V.ref a_draft_gates), ("nexts", V.ref a_draft_nexts), ("nevers", V.ref a_draft_nevers), ("somes", V.ref a_draft_somes), ("names", V.ref a_draft_names)]), (a_draft_switches, .lst l_draft_switches'), (a_draft_keepers, .dK l_draft_keepers'), (a_draft_gates, .lst l_draft_gates'), (a_draft_nexts, .dK l_draft_nexts'), (a_draft_nevers, .dK l_draft_nevers'), (a_draft_somes, .dK l_draft_somes'), (a_draft_names, .dK l_draft_names')] → Rp.R B' w r.1 → Ow B' l_draft_switches' r.2.switches → Od B' l_draft_keepers' r.2.keepers → Ow B' l_draft_gates' r.2.gates → Od B' l_draft_nexts' r.2.nexts → Od B' l_draft_nevers' r.2.nevers → Od B' l_draft_somes' r.2.somes → Od B' l_draft_names' r.2.names → Q w H'
abbrev s_p_next_row : Stmt := top 24
theorem sc_p_next_row : FnScope ["draft", "words", "lacking", "fault"] ["draft", "words"] (C8.fnScope s_p_next_row) := C8.fnScope_by (by decide +kernel)
theorem ok_p_next_row [Cs] (T : Tx w K mg) (c_p_is_name : C8.Cal P w K mg base 1 "is_name" (sp_p_is_name K) []) (c_p_is_literal : C8.Cal P w K mg base 2 "is_literal" (sp_p_is_literal K) []) (c_p_lacks : C8.Cal P w K mg base 2 "lacks" (sp_p_lacks K) []) (c_p_first_due : C8.Cal P w K mg base 1 "first_due" (sp_p_first_due K) []) {f : Addr} {fd : FuncData} (F : C8.Def K mg "next_row" s_p_next_row f fd) (b : Binds K fd ["draft", "words"] []) : C8.Cal P w K mg base 3 "next_row" (sp_p_next_row K) [] := by
  refine C8.cal0 F b .nil sc_p_next_row (fun vs H Q E h => ?_) (fun cdv A outer s H vs Q E hr h => ?_)
  · obtain ⟨B, a_draft, d_draft, a_draft_switches, l_draft_switches, a_draft_keepers, l_draft_keepers, a_draft_gates, l_draft_gates, a_draft_nexts, l_draft_nexts, a_draft_nevers, l_draft_nevers, a_draft_somes, l_draft_somes, a_draft_names, l_draft_names, x_draft, v_words, x_words, r, rfl, _⟩ := h
    rfl
  obtain ⟨B, a_draft, d_draft, a_draft_switches, l_draft_switches, a_draft_keepers, l_draft_keepers, a_draft_gates, l_draft_gates, a_draft_nexts, l_draft_nexts, a_draft_nevers, l_draft_nevers, a_draft_somes, l_draft_somes, a_draft_names, l_draft_names, x_draft, v_words, x_words, r, rfl, W, o_draft_switches, o_draft_keepers, o_draft_gates, o_draft_nexts, o_draft_nevers, o_draft_somes, o_draft_names, r_words, h, k⟩ := h
  refine ⟨_, (pss_cons (ps_if (PW.pt (pw_or (pt_cmpR op_ne (pe_callB (k_len (K := K)) (by rfl) T.b_len (by decide +kernel) (pa_cons (pv 1) pa_nil)) pe_int (nomark _)) (pw_or (pt_not (pt_val (C8.pe_c c_p_is_name hr (by omega) (by rfl) (pa_cons (pe_ix (k_ixL (K := K)) (pv 1) pe_int (fun _ _ => rfl)) pa_nil)))) (pw_or1 (pt_not (pt_val (C8.pe_c c_p_is_literal hr (by omega) (by rfl) (pa_cons (pe_ix (k_ixL (K := K)) (pv 1) pe_int (fun _ _ => rfl)) pa_nil)))))))) (pss_one (ps_ret pe_str)) pss_nil) (pss_cons (ps_set (i := 2) sc_p_next_row.nd rfl (Or.inl rfl) (pe_or (pe_cmp (pc_dnotin (units1 hr) (pe_ix (k_ixL (K := K)) (pv 1) pe_int (fun _ _ => rfl)) (k_fld (K := K) (pv 0))) rfl) (pe_one (C8.pe_c c_p_lacks hr (by omega) (by rfl) (pa_cons (pv 0) (pa_cons (pe_ix (k_ixL (K := K)) (pv 1) pe_int (fun _ _ => rfl)) pa_nil)))))) (pss_cons (ps_set (i := 3) sc_p_next_row.nd rfl (Or.inl rfl) (C8.pe_c c_p_first_due hr (by omega) (by rfl) (pa_cons (pe_cmp (pc_din (units1 hr) (pe_ix (k_ixL (K := K)) (pv 1) pe_int (fun _ _ => rfl)) (k_fld (K := K) (pv 0))) rfl) (pa_cons (pv 2) (pa_cons pe_bl pa_nil))))) (C8.pss_cut (ps_if (pt_cmpR op_eq (pv 3) pe_str (nomark _)) (pss_one (ps_dput (units1 hr) (k_fld (K := K) (pv 0)) (pe_ix (k_ixL (K := K)) (pv 1) pe_int (fun _ _ => rfl)) (pe_ix (k_ixL (K := K)) (pv 1) pe_int (fun _ _ => rfl)) (by rfl))) pss_nil) (pss_one (ps_ret (pv 3))))))), ?_⟩
  refine st_ (σ' := [some (V.ref a_draft), some v_words, none, none]) rfl ?_
  unfold m_p_next_row at h
  obtain ⟨j32, hj4_, h⟩ := bs h
  refine seq_ ?_
  refine if_ (fun v' H' => ∃ B', v' = (j32) ∧ Le B B' ∧ Ws [d_draft, a_draft, a_draft_switches, a_draft_keepers, a_draft_gates, a_draft_nexts, a_draft_nevers, a_draft_somes, a_draft_names] B H B' H' [(d_draft, .own a_draft), (a_draft, .ins Cs.c_Draft d_draft [("switches", V.ref a_draft_switches), ("keepers", V.ref a_draft_keepers), ("gates", V.ref a_draft_gates), ("nexts", V.ref a_draft_nexts), ("nevers", V.ref a_draft_nevers), ("somes", V.ref a_draft_somes), ("names", V.ref a_draft_names)]), (a_draft_switches, .lst l_draft_switches), (a_draft_keepers, .dK l_draft_keepers), (a_draft_gates, .lst l_draft_gates), (a_draft_nexts, .dK l_draft_nexts), (a_draft_nevers, .dK l_draft_nevers), (a_draft_somes, .dK l_draft_somes), (a_draft_names, .dK l_draft_names)]) (fun Q1 kk2 => ?_) (fun H34 hw => ?_) (fun H34 hw => ?_)
  · refine tor_ ?_
    refine tst_ ?_
    refine op_ ?_
    refine cb_ ?_
    refine tcons_ ?_
    refine var_ rfl ?_
    refine tnil_ ?_
    refine lenL_ W r_words ?_
    refine cst_ ?_
    refine neI_ ?_
    refine ⟨_, rfl, ?_⟩
    refine br_ (fun c3 => ?_) (fun c3 => ?_)
    · exact kk2 _ _ ⟨B, (Option.some.inj (opT c3 hj4_)), (Le.refl _), W⟩
    · have hj4 := opF c3 hj4_
      obtain ⟨x5, ex5, hj4⟩ := bs hj4
      obtain ⟨r9, er9, hj4⟩ := bs hj4
      obtain ⟨j31, hj18_, hj4⟩ := bs hj4
      refine tor_ ?_
      refine tnot_ ?_
      refine tB_ ?_
      refine call_ ?_
      refine tcons_ ?_
      refine op_ ?_
      refine var_ rfl ?_
      refine cst_ ?_
      refine ixL_ W r_words ex5 fun v6 r7 => ?_
      obtain rfl : v6 = V.str x5 := r7
      refine tnil_ ?_
      have L8 := Ws.ln (O1 := [(d_draft, .own a_draft), (a_draft, .ins Cs.c_Draft d_draft [("switches", V.ref a_draft_switches), ("keepers", V.ref a_draft_keepers), ("gates", V.ref a_draft_gates), ("nexts", V.ref a_draft_nexts), ("nevers", V.ref a_draft_nevers), ("somes", V.ref a_draft_somes), ("names", V.ref a_draft_names)]), (a_draft_switches, .lst l_draft_switches), (a_draft_keepers, .dK l_draft_keepers), (a_draft_gates, .lst l_draft_gates), (a_draft_nexts, .dK l_draft_nexts), (a_draft_nevers, .dK l_draft_nevers), (a_draft_somes, .dK l_draft_somes), (a_draft_names, .dK l_draft_names)]) (O := []) (O2 := []) W
      refine ⟨B, x5, r9, rfl, Ln.call (O1 := [(d_draft, .own a_draft), (a_draft, .ins Cs.c_Draft d_draft [("switches", V.ref a_draft_switches), ("keepers", V.ref a_draft_keepers), ("gates", V.ref a_draft_gates), ("nexts", V.ref a_draft_nexts), ("nevers", V.ref a_draft_nevers), ("somes", V.ref a_draft_somes), ("names", V.ref a_draft_names)]), (a_draft_switches, .lst l_draft_switches), (a_draft_keepers, .dK l_draft_keepers), (a_draft_gates, .lst l_draft_gates), (a_draft_nexts, .dK l_draft_nexts), (a_draft_nevers, .dK l_draft_nevers), (a_draft_somes, .dK l_draft_somes), (a_draft_names, .dK l_draft_names)]) (O := []) (O2 := []) L8 W, er9, fun v10 B11 H12 V13 q14 => ?_⟩
      have W15 := Ws.back (O1 := [(d_draft, .own a_draft), (a_draft, .ins Cs.c_Draft d_draft [("switches", V.ref a_draft_switches), ("keepers", V.ref a_draft_keepers), ("gates", V.ref a_draft_gates), ("nexts", V.ref a_draft_nexts), ("nevers", V.ref a_draft_nevers), ("somes", V.ref a_draft_somes), ("names", V.ref a_draft_names)]), (a_draft_switches, .lst l_draft_switches), (a_draft_keepers, .dK l_draft_keepers), (a_draft_gates, .lst l_draft_gates), (a_draft_nexts, .dK l_draft_nexts), (a_draft_nevers, .dK l_draft_nevers), (a_draft_somes, .dK l_draft_somes), (a_draft_names, .dK l_draft_names)]) (O := []) (O2 := []) W (O' := []) V13
      have l16 := (Ws.bb V13)
      have W15 : Ws [d_draft, a_draft, a_draft_switches, a_draft_keepers, a_draft_gates, a_draft_nexts, a_draft_nevers, a_draft_somes, a_draft_names] B H B11 H12 [(d_draft, .own a_draft), (a_draft, .ins Cs.c_Draft d_draft [("switches", V.ref a_draft_switches), ("keepers", V.ref a_draft_keepers), ("gates", V.ref a_draft_gates), ("nexts", V.ref a_draft_nexts), ("nevers", V.ref a_draft_nevers), ("somes", V.ref a_draft_somes), ("names", V.ref a_draft_names)]), (a_draft_switches, .lst l_draft_switches), (a_draft_keepers, .dK l_draft_keepers), (a_draft_gates, .lst l_draft_gates), (a_draft_nexts, .dK l_draft_nexts), (a_draft_nevers, .dK l_draft_nevers), (a_draft_somes, .dK l_draft_somes), (a_draft_names, .dK l_draft_names)] := W15
      obtain rfl : v10 = V.bl r9 := q14
      refine ⟨_, rfl, ?_⟩
      refine br_ (fun c17 => ?_) (fun c17 => ?_)
      · exact kk2 _ _ ⟨B11, (Eq.trans (Option.some.inj (opT c17 hj18_)) (Option.some.inj hj4)), l16, W15⟩
      · have hj18 := opF c17 hj18_
        obtain ⟨x19, ex19, hj18⟩ := bs hj18
        obtain ⟨r23, er23, hj18⟩ := bs hj18
        refine tnot_ ?_
        refine tB_ ?_
        refine call_ ?_
        refine tcons_ ?_
        refine op_ ?_
        refine var_ rfl ?_
        refine cst_ ?_
        refine ixL_ W15 (Rp.mono l16 r_words) ex19 fun v20 r21 => ?_
        obtain rfl : v20 = V.str x19 := r21
        refine tnil_ ?_
        have L22 := Ws.ln (O1 := [(d_draft, .own a_draft), (a_draft, .ins Cs.c_Draft d_draft [("switches", V.ref a_draft_switches), ("keepers", V.ref a_draft_keepers), ("gates", V.ref a_draft_gates), ("nexts", V.ref a_draft_nexts), ("nevers", V.ref a_draft_nevers), ("somes", V.ref a_draft_somes), ("names", V.ref a_draft_names)]), (a_draft_switches, .lst l_draft_switches), (a_draft_keepers, .dK l_draft_keepers), (a_draft_gates, .lst l_draft_gates), (a_draft_nexts, .dK l_draft_nexts), (a_draft_nevers, .dK l_draft_nevers), (a_draft_somes, .dK l_draft_somes), (a_draft_names, .dK l_draft_names)]) (O := []) (O2 := []) W15
        refine ⟨B11, x19, r23, rfl, Ln.call (O1 := [(d_draft, .own a_draft), (a_draft, .ins Cs.c_Draft d_draft [("switches", V.ref a_draft_switches), ("keepers", V.ref a_draft_keepers), ("gates", V.ref a_draft_gates), ("nexts", V.ref a_draft_nexts), ("nevers", V.ref a_draft_nevers), ("somes", V.ref a_draft_somes), ("names", V.ref a_draft_names)]), (a_draft_switches, .lst l_draft_switches), (a_draft_keepers, .dK l_draft_keepers), (a_draft_gates, .lst l_draft_gates), (a_draft_nexts, .dK l_draft_nexts), (a_draft_nevers, .dK l_draft_nevers), (a_draft_somes, .dK l_draft_somes), (a_draft_names, .dK l_draft_names)]) (O := []) (O2 := []) L22 W15, er23, fun v24 B25 H26 V27 q28 => ?_⟩
        have W29 := Ws.back (O1 := [(d_draft, .own a_draft), (a_draft, .ins Cs.c_Draft d_draft [("switches", V.ref a_draft_switches), ("keepers", V.ref a_draft_keepers), ("gates", V.ref a_draft_gates), ("nexts", V.ref a_draft_nexts), ("nevers", V.ref a_draft_nevers), ("somes", V.ref a_draft_somes), ("names", V.ref a_draft_names)]), (a_draft_switches, .lst l_draft_switches), (a_draft_keepers, .dK l_draft_keepers), (a_draft_gates, .lst l_draft_gates), (a_draft_nexts, .dK l_draft_nexts), (a_draft_nevers, .dK l_draft_nevers), (a_draft_somes, .dK l_draft_somes), (a_draft_names, .dK l_draft_names)]) (O := []) (O2 := []) W15 (O' := []) V27
        have l30 := (Ws.bb V27)
        have W29 : Ws [d_draft, a_draft, a_draft_switches, a_draft_keepers, a_draft_gates, a_draft_nexts, a_draft_nevers, a_draft_somes, a_draft_names] B H B25 H26 [(d_draft, .own a_draft), (a_draft, .ins Cs.c_Draft d_draft [("switches", V.ref a_draft_switches), ("keepers", V.ref a_draft_keepers), ("gates", V.ref a_draft_gates), ("nexts", V.ref a_draft_nexts), ("nevers", V.ref a_draft_nevers), ("somes", V.ref a_draft_somes), ("names", V.ref a_draft_names)]), (a_draft_switches, .lst l_draft_switches), (a_draft_keepers, .dK l_draft_keepers), (a_draft_gates, .lst l_draft_gates), (a_draft_nexts, .dK l_draft_nexts), (a_draft_nevers, .dK l_draft_nevers), (a_draft_somes, .dK l_draft_somes), (a_draft_names, .dK l_draft_names)] := W29
        obtain rfl : v24 = V.bl r23 := q28
        refine ⟨_, rfl, ?_⟩
        exact kk2 _ _ ⟨B25, (Eq.trans (Option.some.inj hj18) (Option.some.inj hj4)), (l16.tr l30), W29⟩
  · obtain ⟨B33, c37, l36, W35⟩ := hw
    have c37 := c37.symm
    have h := opT c37 h
    refine ret_ ?_
    refine cst_ ?_
    rw [← Option.some.inj h] at k
    have W35' : Ws [d_draft, a_draft, a_draft_switches, a_draft_keepers, a_draft_gates, a_draft_nexts, a_draft_nevers, a_draft_somes, a_draft_names] B H B33 H34 [(d_draft, .own a_draft), (a_draft, .ins Cs.c_Draft d_draft [("switches", V.ref a_draft_switches), ("keepers", V.ref a_draft_keepers), ("gates", V.ref a_draft_gates), ("nexts", V.ref a_draft_nexts), ("nevers", V.ref a_draft_nevers), ("somes", V.ref a_draft_somes), ("names", V.ref a_draft_names)]), (a_draft_switches, .lst l_draft_switches), (a_draft_keepers, .dK l_draft_keepers), (a_draft_gates, .lst l_draft_gates), (a_draft_nexts, .dK l_draft_nexts), (a_draft_nevers, .dK l_draft_nevers), (a_draft_somes, .dK l_draft_somes), (a_draft_names, .dK l_draft_names)] := W35
    exact k (V.str ("row" : Str)) B33 H34 l_draft_switches l_draft_keepers l_draft_gates l_draft_nexts l_draft_nevers l_draft_somes l_draft_names W35' rfl (Ow.mono l36 o_draft_switches) (Od.mono l36 o_draft_keepers) (Ow.mono l36 o_draft_gates) (Od.mono l36 o_draft_nexts) (Od.mono l36 o_draft_nevers) (Od.mono l36 o_draft_somes) (Od.mono l36 o_draft_names)
  · obtain ⟨B33, c37, l36, W35⟩ := hw
    have c37 := c37.symm
    have h := opF c37 h
    refine next_ ?_
    refine nx_ ?_
    obtain ⟨x40, ex40, h⟩ := bs h
    obtain ⟨j91, hj44_, h⟩ := bs h
    refine seq_ ?_
    refine asg_ ?_
    refine ex_ (fun v' H' => ∃ B', v' = V.bl (j91) ∧ Le B33 B' ∧ Ws [d_draft, a_draft, a_draft_switches, a_draft_keepers, a_draft_gates, a_draft_nexts, a_draft_nevers, a_draft_somes, a_draft_names] B H B' H' [(d_draft, .own a_draft), (a_draft, .ins Cs.c_Draft d_draft [("switches", V.ref a_draft_switches), ("keepers", V.ref a_draft_keepers), ("gates", V.ref a_draft_gates), ("nexts", V.ref a_draft_nexts), ("nevers", V.ref a_draft_nevers), ("somes", V.ref a_draft_somes), ("names", V.ref a_draft_names)]), (a_draft_switches, .lst l_draft_switches), (a_draft_keepers, .dK l_draft_keepers), (a_draft_gates, .lst l_draft_gates), (a_draft_nexts, .dK l_draft_nexts), (a_draft_nevers, .dK l_draft_nevers), (a_draft_somes, .dK l_draft_somes), (a_draft_names, .dK l_draft_names)]) (fun Q38 kk39 => ?_) ?_
    · refine torV_ ?_
      refine dnin_ ?_
      refine op_ ?_
      refine var_ rfl ?_
      refine cst_ ?_
      refine ixL_ W35 (Rp.mono l36 r_words) ex40 fun v41 r42 => ?_
      obtain rfl : v41 = V.str x40 := r42
      refine fld_ ?_
      refine var_ rfl ?_
      refine fldO (ns := (["switches", "keepers", "gates", "nexts", "nevers", "somes", "names"] : List Str)) W35 1 rfl T.cls_Draft T.na_Draft_keepers rfl (by decide +kernel) 1 rfl ?_
      refine dninO (k := x40) W35 3 rfl (Od.mono l36 o_draft_keepers) ?_
      refine ⟨_, rfl, ?_⟩
      refine br_ (fun c43 => ?_) (fun c43 => ?_)
      · exact kk39 _ _ ⟨B33, (congrArg V.bl (Option.some.inj (opT c43 hj44_))), (Le.refl _), W35⟩
      · have hj44 := opF c43 hj44_
        obtain ⟨x45, ex45, hj44⟩ := bs hj44
        obtain ⟨r81, er81, hj44⟩ := bs hj44
        refine call_ ?_
        refine tcons_ ?_
        refine var_ rfl ?_
        refine tcons_ ?_
        refine op_ ?_
        refine var_ rfl ?_
        refine cst_ ?_
        refine ixL_ W35 (Rp.mono l36 r_words) ex45 fun v46 r47 => ?_
        obtain rfl : v46 = V.str x45 := r47
        refine tnil_ ?_
        have L48 := Ws.ln (O1 := [(d_draft, .own a_draft), (a_draft, .ins Cs.c_Draft d_draft [("switches", V.ref a_draft_switches), ("keepers", V.ref a_draft_keepers), ("gates", V.ref a_draft_gates), ("nexts", V.ref a_draft_nexts), ("nevers", V.ref a_draft_nevers), ("somes", V.ref a_draft_somes), ("names", V.ref a_draft_names)]), (a_draft_switches, .lst l_draft_switches), (a_draft_keepers, .dK l_draft_keepers), (a_draft_gates, .lst l_draft_gates), (a_draft_nexts, .dK l_draft_nexts), (a_draft_nevers, .dK l_draft_nevers), (a_draft_somes, .dK l_draft_somes), (a_draft_names, .dK l_draft_names)]) (O := []) (O2 := []) W35
        obtain ⟨B49, L50, l51, r52⟩ := Ln.add0 (O1 := [(d_draft, .own a_draft), (a_draft, .ins Cs.c_Draft d_draft [("switches", V.ref a_draft_switches), ("keepers", V.ref a_draft_keepers), ("gates", V.ref a_draft_gates), ("nexts", V.ref a_draft_nexts), ("nevers", V.ref a_draft_nevers), ("somes", V.ref a_draft_somes), ("names", V.ref a_draft_names)]), (a_draft_switches, .lst l_draft_switches), (a_draft_keepers, .dK l_draft_keepers), (a_draft_gates, .lst l_draft_gates), (a_draft_nexts, .dK l_draft_nexts), (a_draft_nevers, .dK l_draft_nevers), (a_draft_somes, .dK l_draft_somes), (a_draft_names, .dK l_draft_names)]) (O := []) (O2 := []) L48 W35 1 rfl
        obtain ⟨B53, L54, l55, r56⟩ := Ln.add (O1 := [(d_draft, .own a_draft), (a_draft, .ins Cs.c_Draft d_draft [("switches", V.ref a_draft_switches), ("keepers", V.ref a_draft_keepers), ("gates", V.ref a_draft_gates), ("nexts", V.ref a_draft_nexts), ("nevers", V.ref a_draft_nevers), ("somes", V.ref a_draft_somes), ("names", V.ref a_draft_names)]), (a_draft_switches, .lst l_draft_switches), (a_draft_keepers, .dK l_draft_keepers), (a_draft_gates, .lst l_draft_gates), (a_draft_nexts, .dK l_draft_nexts), (a_draft_nevers, .dK l_draft_nevers), (a_draft_somes, .dK l_draft_somes), (a_draft_names, .dK l_draft_names)]) (O := []) (O2 := []) L50 W35 2 rfl (Ow.mono l36 o_draft_switches)
        obtain ⟨B57, L58, l59, r60⟩ := Ln.addD (O1 := [(d_draft, .own a_draft), (a_draft, .ins Cs.c_Draft d_draft [("switches", V.ref a_draft_switches), ("keepers", V.ref a_draft_keepers), ("gates", V.ref a_draft_gates), ("nexts", V.ref a_draft_nexts), ("nevers", V.ref a_draft_nevers), ("somes", V.ref a_draft_somes), ("names", V.ref a_draft_names)]), (a_draft_switches, .lst l_draft_switches), (a_draft_keepers, .dK l_draft_keepers), (a_draft_gates, .lst l_draft_gates), (a_draft_nexts, .dK l_draft_nexts), (a_draft_nevers, .dK l_draft_nevers), (a_draft_somes, .dK l_draft_somes), (a_draft_names, .dK l_draft_names)]) (O := []) (O2 := []) L54 W35 3 rfl (Od.mono l36 o_draft_keepers)
        obtain ⟨B61, L62, l63, r64⟩ := Ln.add (O1 := [(d_draft, .own a_draft), (a_draft, .ins Cs.c_Draft d_draft [("switches", V.ref a_draft_switches), ("keepers", V.ref a_draft_keepers), ("gates", V.ref a_draft_gates), ("nexts", V.ref a_draft_nexts), ("nevers", V.ref a_draft_nevers), ("somes", V.ref a_draft_somes), ("names", V.ref a_draft_names)]), (a_draft_switches, .lst l_draft_switches), (a_draft_keepers, .dK l_draft_keepers), (a_draft_gates, .lst l_draft_gates), (a_draft_nexts, .dK l_draft_nexts), (a_draft_nevers, .dK l_draft_nevers), (a_draft_somes, .dK l_draft_somes), (a_draft_names, .dK l_draft_names)]) (O := []) (O2 := []) L58 W35 4 rfl (Ow.mono l36 o_draft_gates)
        obtain ⟨B65, L66, l67, r68⟩ := Ln.addD (O1 := [(d_draft, .own a_draft), (a_draft, .ins Cs.c_Draft d_draft [("switches", V.ref a_draft_switches), ("keepers", V.ref a_draft_keepers), ("gates", V.ref a_draft_gates), ("nexts", V.ref a_draft_nexts), ("nevers", V.ref a_draft_nevers), ("somes", V.ref a_draft_somes), ("names", V.ref a_draft_names)]), (a_draft_switches, .lst l_draft_switches), (a_draft_keepers, .dK l_draft_keepers), (a_draft_gates, .lst l_draft_gates), (a_draft_nexts, .dK l_draft_nexts), (a_draft_nevers, .dK l_draft_nevers), (a_draft_somes, .dK l_draft_somes), (a_draft_names, .dK l_draft_names)]) (O := []) (O2 := []) L62 W35 5 rfl (Od.mono l36 o_draft_nexts)
        obtain ⟨B69, L70, l71, r72⟩ := Ln.addD (O1 := [(d_draft, .own a_draft), (a_draft, .ins Cs.c_Draft d_draft [("switches", V.ref a_draft_switches), ("keepers", V.ref a_draft_keepers), ("gates", V.ref a_draft_gates), ("nexts", V.ref a_draft_nexts), ("nevers", V.ref a_draft_nevers), ("somes", V.ref a_draft_somes), ("names", V.ref a_draft_names)]), (a_draft_switches, .lst l_draft_switches), (a_draft_keepers, .dK l_draft_keepers), (a_draft_gates, .lst l_draft_gates), (a_draft_nexts, .dK l_draft_nexts), (a_draft_nevers, .dK l_draft_nevers), (a_draft_somes, .dK l_draft_somes), (a_draft_names, .dK l_draft_names)]) (O := []) (O2 := []) L66 W35 6 rfl (Od.mono l36 o_draft_nevers)
        obtain ⟨B73, L74, l75, r76⟩ := Ln.addD (O1 := [(d_draft, .own a_draft), (a_draft, .ins Cs.c_Draft d_draft [("switches", V.ref a_draft_switches), ("keepers", V.ref a_draft_keepers), ("gates", V.ref a_draft_gates), ("nexts", V.ref a_draft_nexts), ("nevers", V.ref a_draft_nevers), ("somes", V.ref a_draft_somes), ("names", V.ref a_draft_names)]), (a_draft_switches, .lst l_draft_switches), (a_draft_keepers, .dK l_draft_keepers), (a_draft_gates, .lst l_draft_gates), (a_draft_nexts, .dK l_draft_nexts), (a_draft_nevers, .dK l_draft_nevers), (a_draft_somes, .dK l_draft_somes), (a_draft_names, .dK l_draft_names)]) (O := []) (O2 := []) L70 W35 7 rfl (Od.mono l36 o_draft_somes)
        obtain ⟨B77, L78, l79, r80⟩ := Ln.addD (O1 := [(d_draft, .own a_draft), (a_draft, .ins Cs.c_Draft d_draft [("switches", V.ref a_draft_switches), ("keepers", V.ref a_draft_keepers), ("gates", V.ref a_draft_gates), ("nexts", V.ref a_draft_nexts), ("nevers", V.ref a_draft_nevers), ("somes", V.ref a_draft_somes), ("names", V.ref a_draft_names)]), (a_draft_switches, .lst l_draft_switches), (a_draft_keepers, .dK l_draft_keepers), (a_draft_gates, .lst l_draft_gates), (a_draft_nexts, .dK l_draft_nexts), (a_draft_nevers, .dK l_draft_nevers), (a_draft_somes, .dK l_draft_somes), (a_draft_names, .dK l_draft_names)]) (O := []) (O2 := []) L74 W35 8 rfl (Od.mono l36 o_draft_names)
        refine ⟨B77, (V.ref a_draft), x_draft, x45, r81, rfl, Ln.call (O1 := [(d_draft, .own a_draft), (a_draft, .ins Cs.c_Draft d_draft [("switches", V.ref a_draft_switches), ("keepers", V.ref a_draft_keepers), ("gates", V.ref a_draft_gates), ("nexts", V.ref a_draft_nexts), ("nevers", V.ref a_draft_nevers), ("somes", V.ref a_draft_somes), ("names", V.ref a_draft_names)]), (a_draft_switches, .lst l_draft_switches), (a_draft_keepers, .dK l_draft_keepers), (a_draft_gates, .lst l_draft_gates), (a_draft_nexts, .dK l_draft_nexts), (a_draft_nevers, .dK l_draft_nevers), (a_draft_somes, .dK l_draft_somes), (a_draft_names, .dK l_draft_names)]) (O := []) (O2 := []) L78 W35, ⟨a_draft, d_draft, (V.ref a_draft_switches), (V.ref a_draft_keepers), (V.ref a_draft_gates), (V.ref a_draft_nexts), (V.ref a_draft_nevers), (V.ref a_draft_somes), (V.ref a_draft_names), rfl, (Le.ins l79 (Le.ins l75 (Le.ins l71 (Le.ins l67 (Le.ins l63 (Le.ins l59 (Le.ins l55 r52))))))), (Rp.mono l79 (Rp.mono l75 (Rp.mono l71 (Rp.mono l67 (Rp.mono l63 (Rp.mono l59 r56)))))), (Rp.mono l79 (Rp.mono l75 (Rp.mono l71 (Rp.mono l67 (Rp.mono l63 r60))))), (Rp.mono l79 (Rp.mono l75 (Rp.mono l71 (Rp.mono l67 r64)))), (Rp.mono l79 (Rp.mono l75 (Rp.mono l71 r68))), (Rp.mono l79 (Rp.mono l75 r72)), (Rp.mono l79 r76), r80⟩, er81, fun v82 B83 H84 V85 q86 => ?_⟩
        obtain ⟨B89, W87, l88, t90⟩ := Ln.backT (O1 := [(d_draft, .own a_draft), (a_draft, .ins Cs.c_Draft d_draft [("switches", V.ref a_draft_switches), ("keepers", V.ref a_draft_keepers), ("gates", V.ref a_draft_gates), ("nexts", V.ref a_draft_nexts), ("nevers", V.ref a_draft_nevers), ("somes", V.ref a_draft_somes), ("names", V.ref a_draft_names)]), (a_draft_switches, .lst l_draft_switches), (a_draft_keepers, .dK l_draft_keepers), (a_draft_gates, .lst l_draft_gates), (a_draft_nexts, .dK l_draft_nexts), (a_draft_nevers, .dK l_draft_nevers), (a_draft_somes, .dK l_draft_somes), (a_draft_names, .dK l_draft_names)]) (O := []) (O2 := []) L78 W35 (O' := []) V85 rfl
        have W87 : Ws [d_draft, a_draft, a_draft_switches, a_draft_keepers, a_draft_gates, a_draft_nexts, a_draft_nevers, a_draft_somes, a_draft_names] B H B89 H84 [(d_draft, .own a_draft), (a_draft, .ins Cs.c_Draft d_draft [("switches", V.ref a_draft_switches), ("keepers", V.ref a_draft_keepers), ("gates", V.ref a_draft_gates), ("nexts", V.ref a_draft_nexts), ("nevers", V.ref a_draft_nevers), ("somes", V.ref a_draft_somes), ("names", V.ref a_draft_names)]), (a_draft_switches, .lst l_draft_switches), (a_draft_keepers, .dK l_draft_keepers), (a_draft_gates, .lst l_draft_gates), (a_draft_nexts, .dK l_draft_nexts), (a_draft_nevers, .dK l_draft_nevers), (a_draft_somes, .dK l_draft_somes), (a_draft_names, .dK l_draft_names)] := W87
        obtain rfl : v82 = V.bl r81 := q86
        exact kk39 _ _ ⟨B89, (congrArg V.bl (Option.some.inj hj44)), l88, W87⟩
    rintro _ H93 ⟨B92, rfl, l95, W94⟩
    refine gset_ (σ' := [some (V.ref a_draft), some v_words, some (V.bl j91), none]) rfl ?_
    refine nx_ ?_
    obtain ⟨x96, ex96, h⟩ := bs h
    obtain ⟨r100, er100, h⟩ := bs h
    refine seq_ ?_
    refine asg_ ?_
    refine call_ ?_
    refine tcons_ ?_
    refine din_ ?_
    refine op_ ?_
    refine var_ rfl ?_
    refine cst_ ?_
    refine ixL_ W94 (Rp.mono (l36.tr l95) r_words) ex96 fun v97 r98 => ?_
    obtain rfl : v97 = V.str x96 := r98
    refine fld_ ?_
    refine var_ rfl ?_
    refine fldO (ns := (["switches", "keepers", "gates", "nexts", "nevers", "somes", "names"] : List Str)) W94 1 rfl T.cls_Draft T.na_Draft_nexts rfl (by decide +kernel) 3 rfl ?_
    refine dinO (k := x96) W94 5 rfl (Od.mono (l36.tr l95) o_draft_nexts) ?_
    refine tcons_ ?_
    refine var_ rfl ?_
    refine tcons_ ?_
    refine cst_ ?_
    refine tnil_ ?_
    have L99 := Ws.ln (O1 := [(d_draft, .own a_draft), (a_draft, .ins Cs.c_Draft d_draft [("switches", V.ref a_draft_switches), ("keepers", V.ref a_draft_keepers), ("gates", V.ref a_draft_gates), ("nexts", V.ref a_draft_nexts), ("nevers", V.ref a_draft_nevers), ("somes", V.ref a_draft_somes), ("names", V.ref a_draft_names)]), (a_draft_switches, .lst l_draft_switches), (a_draft_keepers, .dK l_draft_keepers), (a_draft_gates, .lst l_draft_gates), (a_draft_nexts, .dK l_draft_nexts), (a_draft_nevers, .dK l_draft_nevers), (a_draft_somes, .dK l_draft_somes), (a_draft_names, .dK l_draft_names)]) (O := []) (O2 := []) W94
    refine ⟨B92, (x_draft.nexts.has x96), j91, false, r100, rfl, Ln.call (O1 := [(d_draft, .own a_draft), (a_draft, .ins Cs.c_Draft d_draft [("switches", V.ref a_draft_switches), ("keepers", V.ref a_draft_keepers), ("gates", V.ref a_draft_gates), ("nexts", V.ref a_draft_nexts), ("nevers", V.ref a_draft_nevers), ("somes", V.ref a_draft_somes), ("names", V.ref a_draft_names)]), (a_draft_switches, .lst l_draft_switches), (a_draft_keepers, .dK l_draft_keepers), (a_draft_gates, .lst l_draft_gates), (a_draft_nexts, .dK l_draft_nexts), (a_draft_nevers, .dK l_draft_nevers), (a_draft_somes, .dK l_draft_somes), (a_draft_names, .dK l_draft_names)]) (O := []) (O2 := []) L99 W94, er100, fun v101 B102 H103 V104 q105 => ?_⟩
    have W106 := Ws.back (O1 := [(d_draft, .own a_draft), (a_draft, .ins Cs.c_Draft d_draft [("switches", V.ref a_draft_switches), ("keepers", V.ref a_draft_keepers), ("gates", V.ref a_draft_gates), ("nexts", V.ref a_draft_nexts), ("nevers", V.ref a_draft_nevers), ("somes", V.ref a_draft_somes), ("names", V.ref a_draft_names)]), (a_draft_switches, .lst l_draft_switches), (a_draft_keepers, .dK l_draft_keepers), (a_draft_gates, .lst l_draft_gates), (a_draft_nexts, .dK l_draft_nexts), (a_draft_nevers, .dK l_draft_nevers), (a_draft_somes, .dK l_draft_somes), (a_draft_names, .dK l_draft_names)]) (O := []) (O2 := []) W94 (O' := []) V104
    have l107 := (Ws.bb V104)
    have W106 : Ws [d_draft, a_draft, a_draft_switches, a_draft_keepers, a_draft_gates, a_draft_nexts, a_draft_nevers, a_draft_somes, a_draft_names] B H B102 H103 [(d_draft, .own a_draft), (a_draft, .ins Cs.c_Draft d_draft [("switches", V.ref a_draft_switches), ("keepers", V.ref a_draft_keepers), ("gates", V.ref a_draft_gates), ("nexts", V.ref a_draft_nexts), ("nevers", V.ref a_draft_nevers), ("somes", V.ref a_draft_somes), ("names", V.ref a_draft_names)]), (a_draft_switches, .lst l_draft_switches), (a_draft_keepers, .dK l_draft_keepers), (a_draft_gates, .lst l_draft_gates), (a_draft_nexts, .dK l_draft_nexts), (a_draft_nevers, .dK l_draft_nevers), (a_draft_somes, .dK l_draft_somes), (a_draft_names, .dK l_draft_names)] := W106
    obtain rfl : v101 = V.str r100 := q105
    refine gset_ (σ' := [some (V.ref a_draft), some v_words, some (V.bl j91), some (V.str r100)]) rfl ?_
    refine nx_ ?_
    obtain ⟨j110, hj111, h⟩ := bs h
    refine cut_ (fun σ' H' => ∃ (B' : Hp) (l0' : List (Key × V)), σ' = [some (V.ref a_draft), some v_words, some (V.bl j91), some (V.str r100)] ∧ Le B102 B' ∧ Ws [d_draft, a_draft, a_draft_switches, a_draft_keepers, a_draft_gates, a_draft_nexts, a_draft_nevers, a_draft_somes, a_draft_names] B H B' H' [(d_draft, .own a_draft), (a_draft, .ins Cs.c_Draft d_draft [("switches", V.ref a_draft_switches), ("keepers", V.ref a_draft_keepers), ("gates", V.ref a_draft_gates), ("nexts", V.ref a_draft_nexts), ("nevers", V.ref a_draft_nevers), ("somes", V.ref a_draft_somes), ("names", V.ref a_draft_names)]), (a_draft_switches, .lst l_draft_switches), (a_draft_keepers, .dK l_draft_keepers), (a_draft_gates, .lst l_draft_gates), (a_draft_nexts, .dK l0'), (a_draft_nevers, .dK l_draft_nevers), (a_draft_somes, .dK l_draft_somes), (a_draft_names, .dK l_draft_names)] ∧ Od B' l0' j110) ?_ ?_
    · refine if_ (fun v' H' => v' = (decide (r100 = ("" : Str))) ∧ H103 = H') (fun Q108 kk109 => ?_) (fun H103q hw => ?_) (fun H103q hw => ?_)
      · refine tst_ ?_
        refine op_ ?_
        refine var_ rfl ?_
        refine cst_ ?_
        refine eqS_ ?_
        refine ⟨_, rfl, ?_⟩
        exact kk109 _ _ ⟨rfl, rfl⟩
      · obtain ⟨c112, rfl⟩ := hw
        have c112 := c112.symm
        have hj111 := opT c112 hj111
        obtain ⟨x113, ex113, hj111⟩ := bs hj111
        obtain ⟨x116, ex116, hj111⟩ := bs hj111
        obtain ⟨q119, hj111⟩ := cks hj111
        refine dput_ ?_
        refine op_ ?_
        refine var_ rfl ?_
        refine cst_ ?_
        refine ixL_ W106 (Rp.mono (l36.tr (l95.tr l107)) r_words) ex113 fun v114 r115 => ?_
        obtain rfl : v114 = V.str x113 := r115
        refine fld_ ?_
        refine var_ rfl ?_
        refine fldO (ns := (["switches", "keepers", "gates", "nexts", "nevers", "somes", "names"] : List Str)) W106 1 rfl T.cls_Draft T.na_Draft_nexts rfl (by decide +kernel) 3 rfl ?_
        refine op_ ?_
        refine var_ rfl ?_
        refine cst_ ?_
        refine ixL_ W106 (Rp.mono (l36.tr (l95.tr l107)) r_words) ex116 fun v117 r118 => ?_
        obtain rfl : v117 = V.str x116 := r118
        refine putO (k := x116) W106 5 rfl (Od.mono (l36.tr (l95.tr l107)) o_draft_nexts) (show Rp.R B102 (V.str x113) (x113 : Str) from rfl) q119 fun H120 l121 W122 o123 => ?_
        have W122 : Ws [d_draft, a_draft, a_draft_switches, a_draft_keepers, a_draft_gates, a_draft_nexts, a_draft_nevers, a_draft_somes, a_draft_names] B H B102 H120 [(d_draft, .own a_draft), (a_draft, .ins Cs.c_Draft d_draft [("switches", V.ref a_draft_switches), ("keepers", V.ref a_draft_keepers), ("gates", V.ref a_draft_gates), ("nexts", V.ref a_draft_nexts), ("nevers", V.ref a_draft_nevers), ("somes", V.ref a_draft_somes), ("names", V.ref a_draft_names)]), (a_draft_switches, .lst l_draft_switches), (a_draft_keepers, .dK l_draft_keepers), (a_draft_gates, .lst l_draft_gates), (a_draft_nexts, .dK l121), (a_draft_nevers, .dK l_draft_nevers), (a_draft_somes, .dK l_draft_somes), (a_draft_names, .dK l_draft_names)] := W122
        refine nx_ ?_
        rw [← Option.some.inj hj111]; exact ⟨B102, l121, rfl, (Le.refl _), W122, o123⟩
      · obtain ⟨c112, rfl⟩ := hw
        have c112 := c112.symm
        have hj111 := opF c112 hj111
        refine next_ ?_
        refine nx_ ?_
        rw [← Option.some.inj hj111]; exact ⟨B102, l_draft_nexts, rfl, (Le.refl _), W106, (Od.mono (l36.tr (l95.tr l107)) o_draft_nexts)⟩
    rintro _ H125 ⟨B124, l128, rfl, l127, W126, o129⟩
    refine ret_ ?_
    refine var_ rfl ?_
    rw [← Option.some.inj h] at k
    have W126' : Ws [d_draft, a_draft, a_draft_switches, a_draft_keepers, a_draft_gates, a_draft_nexts, a_draft_nevers, a_draft_somes, a_draft_names] B H B124 H125 [(d_draft, .own a_draft), (a_draft, .ins Cs.c_Draft d_draft [("switches", V.ref a_draft_switches), ("keepers", V.ref a_draft_keepers), ("gates", V.ref a_draft_gates), ("nexts", V.ref a_draft_nexts), ("nevers", V.ref a_draft_nevers), ("somes", V.ref a_draft_somes), ("names", V.ref a_draft_names)]), (a_draft_switches, .lst l_draft_switches), (a_draft_keepers, .dK l_draft_keepers), (a_draft_gates, .lst l_draft_gates), (a_draft_nexts, .dK l128), (a_draft_nevers, .dK l_draft_nevers), (a_draft_somes, .dK l_draft_somes), (a_draft_names, .dK l_draft_names)] := W126
    exact k (V.str r100) B124 H125 l_draft_switches l_draft_keepers l_draft_gates l128 l_draft_nevers l_draft_somes l_draft_names W126' rfl (Ow.mono (l36.tr (l95.tr (l107.tr l127))) o_draft_switches) (Od.mono (l36.tr (l95.tr (l107.tr l127))) o_draft_keepers) (Ow.mono (l36.tr (l95.tr (l107.tr l127))) o_draft_gates) o129 (Od.mono (l36.tr (l95.tr (l107.tr l127))) o_draft_nevers) (Od.mono (l36.tr (l95.tr (l107.tr l127))) o_draft_somes) (Od.mono (l36.tr (l95.tr (l107.tr l127))) o_draft_names)

end
end G

namespace G
open PySem L2 Pv
section
variable {P : Program} {w : World} {K : PySem.W.Frag} {mg : Str → Option Value} {base : Heap}

def sp_wish_row_nevers [Cs] (K : PySem.W.Frag) : Sp := fun vs H Q _ => ∃ (B : Hp) (a_draft : Addr) (d_draft : Addr) (a_draft_switches : Addr) (l_draft_switches : List V) (a_draft_keepers : Addr) (l_draft_keepers : List (Key × V)) (a_draft_gates : Addr) (l_draft_gates : List V) (a_draft_nexts : Addr) (l_draft_nexts : List (Key × V)) (a_draft_nevers : Addr) (l_draft_nevers : List (Key × V)) (a_draft_somes : Addr) (l_draft_somes : List (Key × V)) (a_draft_names : Addr) (l_draft_names : List (Key × V)) (x_draft : O_Draft) (v_words : V) (x_words : List Str) (r : Str × O_Draft), vs = [V.ref a_draft, V.ref a_draft_nevers, v_words] ∧ Ws [d_draft, a_draft, a_draft_switches, a_draft_keepers, a_draft_gates, a_draft_nexts, a_draft_nevers, a_draft_somes, a_draft_names] B H B H [(d_draft, .own a_draft), (a_draft, .ins Cs.c_Draft d_draft [("switches", V.ref a_draft_switches), ("keepers", V.ref a_draft_keepers), ("gates", V.ref a_draft_gates), ("nexts", V.ref a_draft_nexts), ("nevers", V.ref a_draft_nevers), ("somes", V.ref a_draft_somes), ("names", V.ref a_draft_names)]), (a_draft_switches, .lst l_draft_switches), (a_draft_keepers, .dK l_draft_keepers), (a_draft_gates, .lst l_draft_gates), (a_draft_nexts, .dK l_draft_nexts), (a_draft_nevers, .dK l_draft_nevers), (a_draft_somes, .dK l_draft_somes), (a_draft_names, .dK l_draft_names)] ∧ Ow B l_draft_switches x_draft.switches ∧ Od B l_draft_keepers x_draft.keepers ∧ Ow B l_draft_gates x_draft.gates ∧ Od B l_draft_nexts x_draft.nexts ∧ Od B l_draft_nevers x_draft.nevers ∧ Od B l_draft_somes x_draft.somes ∧ Od B l_draft_names x_draft.names ∧ Rp.R B v_words x_words ∧ m_wish_row_nevers x_draft x_words = some r ∧ ∀ w B' H' l_draft_switches' l_draft_keepers' l_draft_gates' l_draft_nexts' l_draft_nevers' l_draft_somes' l_draft_names', Ws [d_draft, a_draft, a_draft_switches, a_draft_keepers, a_draft_gates, a_draft_nexts, a_draft_nevers, a_draft_somes, a_draft_names] B H B' H' [(d_draft, .own a_draft), (a_draft, .ins Cs.c_Draft d_draft [("switches", V.ref a_draft_switches), ("keepers", V.ref a_draft_keepers), ("gates", V.ref a_draft_gates), ("nexts", V.ref a_draft_nexts), ("nevers", V.ref a_draft_nevers), ("somes", V.ref a_draft_somes), ("names", V.ref a_draft_names)]), (a_draft_switches, .lst l_draft_switches'), (a_draft_keepers, .dK l_draft_keepers'), (a_draft_gates, .lst l_draft_gates'), (a_draft_nexts, .dK l_draft_nexts'), (a_draft_nevers, .dK l_draft_nevers'), (a_draft_somes, .dK l_draft_somes'), (a_draft_names, .dK l_draft_names')] → Rp.R B' w r.1 → Ow B' l_draft_switches' r.2.switches → Od B' l_draft_keepers' r.2.keepers → Ow B' l_draft_gates' r.2.gates → Od B' l_draft_nexts' r.2.nexts → Od B' l_draft_nevers' r.2.nevers → Od B' l_draft_somes' r.2.somes → Od B' l_draft_names' r.2.names → Q w H'
abbrev s_wish_row_nevers : Stmt := top 25
theorem sc_wish_row_nevers : FnScope ["draft", "wishes", "words", "twice", "many", "fault"] ["draft", "wishes", "words"] (C8.fnScope s_wish_row_nevers) := C8.fnScope_by (by decide +kernel)
theorem ok_wish_row_nevers [Cs] (T : Tx w K mg) (c_p_is_name : C8.Cal P w K mg base 1 "is_name" (sp_p_is_name K) []) (c_p_is_literal : C8.Cal P w K mg base 2 "is_literal" (sp_p_is_literal K) []) (c_p_lacks : C8.Cal P w K mg base 2 "lacks" (sp_p_lacks K) []) (c_p_first_due : C8.Cal P w K mg base 1 "first_due" (sp_p_first_due K) []) {f : Addr} {fd : FuncData} (F : C8.Def K mg "wish_row" s_wish_row_nevers f fd) (b : Binds K fd ["draft", "wishes", "words"] []) : C8.Cal P w K mg base 3 "wish_row" (sp_wish_row_nevers K) [] := by
  refine C8.cal0 F b .nil sc_wish_row_nevers (fun vs H Q E h => ?_) (fun cdv A outer s H vs Q E hr h => ?_)
  · obtain ⟨B, a_draft, d_draft, a_draft_switches, l_draft_switches, a_draft_keepers, l_draft_keepers, a_draft_gates, l_draft_gates, a_draft_nexts, l_draft_nexts, a_draft_nevers, l_draft_nevers, a_draft_somes, l_draft_somes, a_draft_names, l_draft_names, x_draft, v_words, x_words, r, rfl, _⟩ := h
    rfl
  obtain ⟨B, a_draft, d_draft, a_draft_switches, l_draft_switches, a_draft_keepers, l_draft_keepers, a_draft_gates, l_draft_gates, a_draft_nexts, l_draft_nexts, a_draft_nevers, l_draft_nevers, a_draft_somes, l_draft_somes, a_draft_names, l_draft_names, x_draft, v_words, x_words, r, rfl, W, o_draft_switches, o_draft_keepers, o_draft_gates, o_draft_nexts, o_draft_nevers, o_draft_somes, o_draft_names, r_words, h, k⟩ := h
  refine ⟨_, (pss_cons (ps_if (PW.pt (pw_or (pt_cmpR op_ne (pe_callB (k_len (K := K)) (by rfl) T.b_len (by decide +kernel) (pa_cons (pv 2) pa_nil)) pe_int (nomark _)) (pw_or (pt_not (pt_val (C8.pe_c c_p_is_name hr (by omega) (by rfl) (pa_cons (pe_ix (k_ixL (K := K)) (pv 2) pe_int (fun _ _ => rfl)) pa_nil)))) (pw_or1 (pt_not (pt_val (C8.pe_c c_p_is_literal hr (by omega) (by rfl) (pa_cons (pe_ix (k_ixL (K := K)) (pv 2) pe_int (fun _ _ => rfl)) pa_nil)))))))) (pss_one (ps_ret pe_str)) pss_nil) (pss_cons (ps_set (i := 3) sc_wish_row_nevers.nd rfl (Or.inl rfl) (pe_or (pe_cmp (pc_din (units1 hr) (pe_ix (k_ixL (K := K)) (pv 2) pe_int (fun _ _ => rfl)) (k_fld (K := K) (pv 0))) rfl) (pe_one (pe_cmp (pc_din (units1 hr) (pe_ix (k_ixL (K := K)) (pv 2) pe_int (fun _ _ => rfl)) (k_fld (K := K) (pv 0))) rfl)))) (pss_cons (ps_set (i := 4) sc_wish_row_nevers.nd rfl (Or.inl rfl) (pe_cmpR op_eq (pe_op op_add (pe_callB k_lenD (by rfl) T.b_len (by decide +kernel) (pa_cons (k_fld (K := K) (pv 0)) pa_nil)) (pe_callB k_lenD (by rfl) T.b_len (by decide +kernel) (pa_cons (k_fld (K := K) (pv 0)) pa_nil))) (C8.pe_gc (by rfl) T.g_MOST_WISHES) (nomark _))) (pss_cons (ps_set (i := 5) sc_wish_row_nevers.nd rfl (Or.inl rfl) (C8.pe_c c_p_first_due hr (by omega) (by rfl) (pa_cons (pv 3) (pa_cons (C8.pe_c c_p_lacks hr (by omega) (by rfl) (pa_cons (pv 0) (pa_cons (pe_ix (k_ixL (K := K)) (pv 2) pe_int (fun _ _ => rfl)) pa_nil))) (pa_cons (pv 4) pa_nil))))) (C8.pss_cut (ps_if (pt_cmpR op_eq (pv 5) pe_str (nomark _)) (pss_one (ps_dput (units1 hr) (pv 1) (pe_ix (k_ixL (K := K)) (pv 2) pe_int (fun _ _ => rfl)) (pe_ix (k_ixL (K := K)) (pv 2) pe_int (fun _ _ => rfl)) (by rfl))) pss_nil) (pss_one (ps_ret (pv 5)))))))), ?_⟩
  refine st_ (σ' := [some (V.ref a_draft), some (V.ref a_draft_nevers), some v_words, none, none, none]) rfl ?_
  unfold m_wish_row_nevers at h
  obtain ⟨j32, hj4_, h⟩ := bs h
  refine seq_ ?_
  refine if_ (fun v' H' => ∃ B', v' = (j32) ∧ Le B B' ∧ Ws [d_draft, a_draft, a_draft_switches, a_draft_keepers, a_draft_gates, a_draft_nexts, a_draft_nevers, a_draft_somes, a_draft_names] B H B' H' [(d_draft, .own a_draft), (a_draft, .ins Cs.c_Draft d_draft [("switches", V.ref a_draft_switches), ("keepers", V.ref a_draft_keepers), ("gates", V.ref a_draft_gates), ("nexts", V.ref a_draft_nexts), ("nevers", V.ref a_draft_nevers), ("somes", V.ref a_draft_somes), ("names", V.ref a_draft_names)]), (a_draft_switches, .lst l_draft_switches), (a_draft_keepers, .dK l_draft_keepers), (a_draft_gates, .lst l_draft_gates), (a_draft_nexts, .dK l_draft_nexts), (a_draft_nevers, .dK l_draft_nevers), (a_draft_somes, .dK l_draft_somes), (a_draft_names, .dK l_draft_names)]) (fun Q1 kk2 => ?_) (fun H34 hw => ?_) (fun H34 hw => ?_)
  · refine tor_ ?_
    refine tst_ ?_
    refine op_ ?_
    refine cb_ ?_
    refine tcons_ ?_
    refine var_ rfl ?_
    refine tnil_ ?_
    refine lenL_ W r_words ?_
    refine cst_ ?_
    refine neI_ ?_
    refine ⟨_, rfl, ?_⟩
    refine br_ (fun c3 => ?_) (fun c3 => ?_)
    · exact kk2 _ _ ⟨B, (Option.some.inj (opT c3 hj4_)), (Le.refl _), W⟩
    · have hj4 := opF c3 hj4_
      obtain ⟨x5, ex5, hj4⟩ := bs hj4
      obtain ⟨r9, er9, hj4⟩ := bs hj4
      obtain ⟨j31, hj18_, hj4⟩ := bs hj4
      refine tor_ ?_
      refine tnot_ ?_
      refine tB_ ?_
      refine call_ ?_
      refine tcons_ ?_
      refine op_ ?_
      refine var_ rfl ?_
      refine cst_ ?_
      refine ixL_ W r_words ex5 fun v6 r7 => ?_
      obtain rfl : v6 = V.str x5 := r7
      refine tnil_ ?_
      have L8 := Ws.ln (O1 := [(d_draft, .own a_draft), (a_draft, .ins Cs.c_Draft d_draft [("switches", V.ref a_draft_switches), ("keepers", V.ref a_draft_keepers), ("gates", V.ref a_draft_gates), ("nexts", V.ref a_draft_nexts), ("nevers", V.ref a_draft_nevers), ("somes", V.ref a_draft_somes), ("names", V.ref a_draft_names)]), (a_draft_switches, .lst l_draft_switches), (a_draft_keepers, .dK l_draft_keepers), (a_draft_gates, .lst l_draft_gates), (a_draft_nexts, .dK l_draft_nexts), (a_draft_nevers, .dK l_draft_nevers), (a_draft_somes, .dK l_draft_somes), (a_draft_names, .dK l_draft_names)]) (O := []) (O2 := []) W
      refine ⟨B, x5, r9, rfl, Ln.call (O1 := [(d_draft, .own a_draft), (a_draft, .ins Cs.c_Draft d_draft [("switches", V.ref a_draft_switches), ("keepers", V.ref a_draft_keepers), ("gates", V.ref a_draft_gates), ("nexts", V.ref a_draft_nexts), ("nevers", V.ref a_draft_nevers), ("somes", V.ref a_draft_somes), ("names", V.ref a_draft_names)]), (a_draft_switches, .lst l_draft_switches), (a_draft_keepers, .dK l_draft_keepers), (a_draft_gates, .lst l_draft_gates), (a_draft_nexts, .dK l_draft_nexts), (a_draft_nevers, .dK l_draft_nevers), (a_draft_somes, .dK l_draft_somes), (a_draft_names, .dK l_draft_names)]) (O := []) (O2 := []) L8 W, er9, fun v10 B11 H12 V13 q14 => ?_⟩
      have W15 := Ws.back (O1 := [(d_draft, .own a_draft), (a_draft, .ins Cs.c_Draft d_draft [("switches", V.ref a_draft_switches), ("keepers", V.ref a_draft_keepers), ("gates", V.ref a_draft_gates), ("nexts", V.ref a_draft_nexts), ("nevers", V.ref a_draft_nevers), ("somes", V.ref a_draft_somes), ("names", V.ref a_draft_names)]), (a_draft_switches, .lst l_draft_switches), (a_draft_keepers, .dK l_draft_keepers), (a_draft_gates, .lst l_draft_gates), (a_draft_nexts, .dK l_draft_nexts), (a_draft_nevers, .dK l_draft_nevers), (a_draft_somes, .dK l_draft_somes), (a_draft_names, .dK l_draft_names)]) (O := []) (O2 := []) W (O' := []) V13
      have l16 := (Ws.bb V13)
      have W15 : Ws [d_draft, a_draft, a_draft_switches, a_draft_keepers, a_draft_gates, a_draft_nexts, a_draft_nevers, a_draft_somes, a_draft_names] B H B11 H12 [(d_draft, .own a_draft), (a_draft, .ins Cs.c_Draft d_draft [("switches", V.ref a_draft_switches), ("keepers", V.ref a_draft_keepers), ("gates", V.ref a_draft_gates), ("nexts", V.ref a_draft_nexts), ("nevers", V.ref a_draft_nevers), ("somes", V.ref a_draft_somes), ("names", V.ref a_draft_names)]), (a_draft_switches, .lst l_draft_switches), (a_draft_keepers, .dK l_draft_keepers), (a_draft_gates, .lst l_draft_gates), (a_draft_nexts, .dK l_draft_nexts), (a_draft_nevers, .dK l_draft_nevers), (a_draft_somes, .dK l_draft_somes), (a_draft_names, .dK l_draft_names)] := W15
      obtain rfl : v10 = V.bl r9 := q14
      refine ⟨_, rfl, ?_⟩
      refine br_ (fun c17 => ?_) (fun c17 => ?_)
      · exact kk2 _ _ ⟨B11, (Eq.trans (Option.some.inj (opT c17 hj18_)) (Option.some.inj hj4)), l16, W15⟩
      · have hj18 := opF c17 hj18_
        obtain ⟨x19, ex19, hj18⟩ := bs hj18
        obtain ⟨r23, er23, hj18⟩ := bs hj18
        refine tnot_ ?_
        refine tB_ ?_
        refine call_ ?_
        refine tcons_ ?_
        refine op_ ?_
        refine var_ rfl ?_
        refine cst_ ?_
        refine ixL_ W15 (Rp.mono l16 r_words) ex19 fun v20 r21 => ?_
        obtain rfl : v20 = V.str x19 := r21
        refine tnil_ ?_
        have L22 := Ws.ln (O1 := [(d_draft, .own a_draft), (a_draft, .ins Cs.c_Draft d_draft [("switches", V.ref a_draft_switches), ("keepers", V.ref a_draft_keepers), ("gates", V.ref a_draft_gates), ("nexts", V.ref a_draft_nexts), ("nevers", V.ref a_draft_nevers), ("somes", V.ref a_draft_somes), ("names", V.ref a_draft_names)]), (a_draft_switches, .lst l_draft_switches), (a_draft_keepers, .dK l_draft_keepers), (a_draft_gates, .lst l_draft_gates), (a_draft_nexts, .dK l_draft_nexts), (a_draft_nevers, .dK l_draft_nevers), (a_draft_somes, .dK l_draft_somes), (a_draft_names, .dK l_draft_names)]) (O := []) (O2 := []) W15
        refine ⟨B11, x19, r23, rfl, Ln.call (O1 := [(d_draft, .own a_draft), (a_draft, .ins Cs.c_Draft d_draft [("switches", V.ref a_draft_switches), ("keepers", V.ref a_draft_keepers), ("gates", V.ref a_draft_gates), ("nexts", V.ref a_draft_nexts), ("nevers", V.ref a_draft_nevers), ("somes", V.ref a_draft_somes), ("names", V.ref a_draft_names)]), (a_draft_switches, .lst l_draft_switches), (a_draft_keepers, .dK l_draft_keepers), (a_draft_gates, .lst l_draft_gates), (a_draft_nexts, .dK l_draft_nexts), (a_draft_nevers, .dK l_draft_nevers), (a_draft_somes, .dK l_draft_somes), (a_draft_names, .dK l_draft_names)]) (O := []) (O2 := []) L22 W15, er23, fun v24 B25 H26 V27 q28 => ?_⟩
        have W29 := Ws.back (O1 := [(d_draft, .own a_draft), (a_draft, .ins Cs.c_Draft d_draft [("switches", V.ref a_draft_switches), ("keepers", V.ref a_draft_keepers), ("gates", V.ref a_draft_gates), ("nexts", V.ref a_draft_nexts), ("nevers", V.ref a_draft_nevers), ("somes", V.ref a_draft_somes), ("names", V.ref a_draft_names)]), (a_draft_switches, .lst l_draft_switches), (a_draft_keepers, .dK l_draft_keepers), (a_draft_gates, .lst l_draft_gates), (a_draft_nexts, .dK l_draft_nexts), (a_draft_nevers, .dK l_draft_nevers), (a_draft_somes, .dK l_draft_somes), (a_draft_names, .dK l_draft_names)]) (O := []) (O2 := []) W15 (O' := []) V27
        have l30 := (Ws.bb V27)
        have W29 : Ws [d_draft, a_draft, a_draft_switches, a_draft_keepers, a_draft_gates, a_draft_nexts, a_draft_nevers, a_draft_somes, a_draft_names] B H B25 H26 [(d_draft, .own a_draft), (a_draft, .ins Cs.c_Draft d_draft [("switches", V.ref a_draft_switches), ("keepers", V.ref a_draft_keepers), ("gates", V.ref a_draft_gates), ("nexts", V.ref a_draft_nexts), ("nevers", V.ref a_draft_nevers), ("somes", V.ref a_draft_somes), ("names", V.ref a_draft_names)]), (a_draft_switches, .lst l_draft_switches), (a_draft_keepers, .dK l_draft_keepers), (a_draft_gates, .lst l_draft_gates), (a_draft_nexts, .dK l_draft_nexts), (a_draft_nevers, .dK l_draft_nevers), (a_draft_somes, .dK l_draft_somes), (a_draft_names, .dK l_draft_names)] := W29
        obtain rfl : v24 = V.bl r23 := q28
        refine ⟨_, rfl, ?_⟩
        exact kk2 _ _ ⟨B25, (Eq.trans (Option.some.inj hj18) (Option.some.inj hj4)), (l16.tr l30), W29⟩
  · obtain ⟨B33, c37, l36, W35⟩ := hw
    have c37 := c37.symm
    have h := opT c37 h
    refine ret_ ?_
    refine cst_ ?_
    rw [← Option.some.inj h] at k
    have W35' : Ws [d_draft, a_draft, a_draft_switches, a_draft_keepers, a_draft_gates, a_draft_nexts, a_draft_nevers, a_draft_somes, a_draft_names] B H B33 H34 [(d_draft, .own a_draft), (a_draft, .ins Cs.c_Draft d_draft [("switches", V.ref a_draft_switches), ("keepers", V.ref a_draft_keepers), ("gates", V.ref a_draft_gates), ("nexts", V.ref a_draft_nexts), ("nevers", V.ref a_draft_nevers), ("somes", V.ref a_draft_somes), ("names", V.ref a_draft_names)]), (a_draft_switches, .lst l_draft_switches), (a_draft_keepers, .dK l_draft_keepers), (a_draft_gates, .lst l_draft_gates), (a_draft_nexts, .dK l_draft_nexts), (a_draft_nevers, .dK l_draft_nevers), (a_draft_somes, .dK l_draft_somes), (a_draft_names, .dK l_draft_names)] := W35
    exact k (V.str ("row" : Str)) B33 H34 l_draft_switches l_draft_keepers l_draft_gates l_draft_nexts l_draft_nevers l_draft_somes l_draft_names W35' rfl (Ow.mono l36 o_draft_switches) (Od.mono l36 o_draft_keepers) (Ow.mono l36 o_draft_gates) (Od.mono l36 o_draft_nexts) (Od.mono l36 o_draft_nevers) (Od.mono l36 o_draft_somes) (Od.mono l36 o_draft_names)
  · obtain ⟨B33, c37, l36, W35⟩ := hw
    have c37 := c37.symm
    have h := opF c37 h
    refine next_ ?_
    refine nx_ ?_
    obtain ⟨x40, ex40, h⟩ := bs h
    obtain ⟨j48, hj44_, h⟩ := bs h
    refine seq_ ?_
    refine asg_ ?_
    refine ex_ (fun v' H' => v' = V.bl (j48) ∧ H34 = H') (fun Q38 kk39 => ?_) ?_
    · refine torV_ ?_
      refine din_ ?_
      refine op_ ?_
      refine var_ rfl ?_
      refine cst_ ?_
      refine ixL_ W35 (Rp.mono l36 r_words) ex40 fun v41 r42 => ?_
      obtain rfl : v41 = V.str x40 := r42
      refine fld_ ?_
      refine var_ rfl ?_
      refine fldO (ns := (["switches", "keepers", "gates", "nexts", "nevers", "somes", "names"] : List Str)) W35 1 rfl T.cls_Draft T.na_Draft_nevers rfl (by decide +kernel) 4 rfl ?_
      refine dinO (k := x40) W35 6 rfl (Od.mono l36 o_draft_nevers) ?_
      refine ⟨_, rfl, ?_⟩
      refine br_ (fun c43 => ?_) (fun c43 => ?_)
      · exact kk39 _ _ ⟨(congrArg V.bl (Option.some.inj (opT c43 hj44_))), rfl⟩
      · have hj44 := opF c43 hj44_
        obtain ⟨x45, ex45, hj44⟩ := bs hj44
        refine din_ ?_
        refine op_ ?_
        refine var_ rfl ?_
        refine cst_ ?_
        refine ixL_ W35 (Rp.mono l36 r_words) ex45 fun v46 r47 => ?_
        obtain rfl : v46 = V.str x45 := r47
        refine fld_ ?_
        refine var_ rfl ?_
        refine fldO (ns := (["switches", "keepers", "gates", "nexts", "nevers", "somes", "names"] : List Str)) W35 1 rfl T.cls_Draft T.na_Draft_somes rfl (by decide +kernel) 5 rfl ?_
        refine dinO (k := x45) W35 7 rfl (Od.mono l36 o_draft_somes) ?_
        exact kk39 _ _ ⟨(congrArg V.bl (Option.some.inj hj44)), rfl⟩
    rintro _ _ ⟨rfl, rfl⟩
    refine gset_ (σ' := [some (V.ref a_draft), some (V.ref a_draft_nevers), some v_words, some (V.bl j48), none, none]) rfl ?_
    refine nx_ ?_
    obtain ⟨x49, ex49, h⟩ := bs h
    refine seq_ ?_
    refine asg_ ?_
    refine op_ ?_
    refine op_ ?_
    refine cb_ ?_
    refine tcons_ ?_
    refine fld_ ?_
    refine var_ rfl ?_
    refine fldO (ns := (["switches", "keepers", "gates", "nexts", "nevers", "somes", "names"] : List Str)) W35 1 rfl T.cls_Draft T.na_Draft_nevers rfl (by decide +kernel) 4 rfl ?_
    refine tnil_ ?_
    refine lenDO W35 6 rfl (Od.mono l36 o_draft_nevers) ?_
    refine cb_ ?_
    refine tcons_ ?_
    refine fld_ ?_
    refine var_ rfl ?_
    refine fldO (ns := (["switches", "keepers", "gates", "nexts", "nevers", "somes", "names"] : List Str)) W35 1 rfl T.cls_Draft T.na_Draft_somes rfl (by decide +kernel) 5 rfl ?_
    refine tnil_ ?_
    refine lenDO W35 7 rfl (Od.mono l36 o_draft_somes) ?_
    refine i0_ ?_
    refine cst_ ?_
    refine eqI_ ?_
    refine gas_ (V.bl x49) (congrArg V.bl (Option.some.inj ex49)) (σ' := [some (V.ref a_draft), some (V.ref a_draft_nevers), some v_words, some (V.bl j48), some (V.bl x49), none]) rfl ?_
    refine nx_ ?_
    obtain ⟨x50, ex50, h⟩ := bs h
    obtain ⟨r86, er86, h⟩ := bs h
    obtain ⟨r97, er97, h⟩ := bs h
    refine seq_ ?_
    refine asg_ ?_
    refine call_ ?_
    refine tcons_ ?_
    refine var_ rfl ?_
    refine tcons_ ?_
    refine call_ ?_
    refine tcons_ ?_
    refine var_ rfl ?_
    refine tcons_ ?_
    refine op_ ?_
    refine var_ rfl ?_
    refine cst_ ?_
    refine ixL_ W35 (Rp.mono l36 r_words) ex50 fun v51 r52 => ?_
    obtain rfl : v51 = V.str x50 := r52
    refine tnil_ ?_
    have L53 := Ws.ln (O1 := [(d_draft, .own a_draft), (a_draft, .ins Cs.c_Draft d_draft [("switches", V.ref a_draft_switches), ("keepers", V.ref a_draft_keepers), ("gates", V.ref a_draft_gates), ("nexts", V.ref a_draft_nexts), ("nevers", V.ref a_draft_nevers), ("somes", V.ref a_draft_somes), ("names", V.ref a_draft_names)]), (a_draft_switches, .lst l_draft_switches), (a_draft_keepers, .dK l_draft_keepers), (a_draft_gates, .lst l_draft_gates), (a_draft_nexts, .dK l_draft_nexts), (a_draft_nevers, .dK l_draft_nevers), (a_draft_somes, .dK l_draft_somes), (a_draft_names, .dK l_draft_names)]) (O := []) (O2 := []) W35
    obtain ⟨B54, L55, l56, r57⟩ := Ln.add0 (O1 := [(d_draft, .own a_draft), (a_draft, .ins Cs.c_Draft d_draft [("switches", V.ref a_draft_switches), ("keepers", V.ref a_draft_keepers), ("gates", V.ref a_draft_gates), ("nexts", V.ref a_draft_nexts), ("nevers", V.ref a_draft_nevers), ("somes", V.ref a_draft_somes), ("names", V.ref a_draft_names)]), (a_draft_switches, .lst l_draft_switches), (a_draft_keepers, .dK l_draft_keepers), (a_draft_gates, .lst l_draft_gates), (a_draft_nexts, .dK l_draft_nexts), (a_draft_nevers, .dK l_draft_nevers), (a_draft_somes, .dK l_draft_somes), (a_draft_names, .dK l_draft_names)]) (O := []) (O2 := []) L53 W35 1 rfl
    obtain ⟨B58, L59, l60, r61⟩ := Ln.add (O1 := [(d_draft, .own a_draft), (a_draft, .ins Cs.c_Draft d_draft [("switches", V.ref a_draft_switches), ("keepers", V.ref a_draft_keepers), ("gates", V.ref a_draft_gates), ("nexts", V.ref a_draft_nexts), ("nevers", V.ref a_draft_nevers), ("somes", V.ref a_draft_somes), ("names", V.ref a_draft_names)]), (a_draft_switches, .lst l_draft_switches), (a_draft_keepers, .dK l_draft_keepers), (a_draft_gates, .lst l_draft_gates), (a_draft_nexts, .dK l_draft_nexts), (a_draft_nevers, .dK l_draft_nevers), (a_draft_somes, .dK l_draft_somes), (a_draft_names, .dK l_draft_names)]) (O := []) (O2 := []) L55 W35 2 rfl (Ow.mono l36 o_draft_switches)
    obtain ⟨B62, L63, l64, r65⟩ := Ln.addD (O1 := [(d_draft, .own a_draft), (a_draft, .ins Cs.c_Draft d_draft [("switches", V.ref a_draft_switches), ("keepers", V.ref a_draft_keepers), ("gates", V.ref a_draft_gates), ("nexts", V.ref a_draft_nexts), ("nevers", V.ref a_draft_nevers), ("somes", V.ref a_draft_somes), ("names", V.ref a_draft_names)]), (a_draft_switches, .lst l_draft_switches), (a_draft_keepers, .dK l_draft_keepers), (a_draft_gates, .lst l_draft_gates), (a_draft_nexts, .dK l_draft_nexts), (a_draft_nevers, .dK l_draft_nevers), (a_draft_somes, .dK l_draft_somes), (a_draft_names, .dK l_draft_names)]) (O := []) (O2 := []) L59 W35 3 rfl (Od.mono l36 o_draft_keepers)
    obtain ⟨B66, L67, l68, r69⟩ := Ln.add (O1 := [(d_draft, .own a_draft), (a_draft, .ins Cs.c_Draft d_draft [("switches", V.ref a_draft_switches), ("keepers", V.ref a_draft_keepers), ("gates", V.ref a_draft_gates), ("nexts", V.ref a_draft_nexts), ("nevers", V.ref a_draft_nevers), ("somes", V.ref a_draft_somes), ("names", V.ref a_draft_names)]), (a_draft_switches, .lst l_draft_switches), (a_draft_keepers, .dK l_draft_keepers), (a_draft_gates, .lst l_draft_gates), (a_draft_nexts, .dK l_draft_nexts), (a_draft_nevers, .dK l_draft_nevers), (a_draft_somes, .dK l_draft_somes), (a_draft_names, .dK l_draft_names)]) (O := []) (O2 := []) L63 W35 4 rfl (Ow.mono l36 o_draft_gates)
    obtain ⟨B70, L71, l72, r73⟩ := Ln.addD (O1 := [(d_draft, .own a_draft), (a_draft, .ins Cs.c_Draft d_draft [("switches", V.ref a_draft_switches), ("keepers", V.ref a_draft_keepers), ("gates", V.ref a_draft_gates), ("nexts", V.ref a_draft_nexts), ("nevers", V.ref a_draft_nevers), ("somes", V.ref a_draft_somes), ("names", V.ref a_draft_names)]), (a_draft_switches, .lst l_draft_switches), (a_draft_keepers, .dK l_draft_keepers), (a_draft_gates, .lst l_draft_gates), (a_draft_nexts, .dK l_draft_nexts), (a_draft_nevers, .dK l_draft_nevers), (a_draft_somes, .dK l_draft_somes), (a_draft_names, .dK l_draft_names)]) (O := []) (O2 := []) L67 W35 5 rfl (Od.mono l36 o_draft_nexts)
    obtain ⟨B74, L75, l76, r77⟩ := Ln.addD (O1 := [(d_draft, .own a_draft), (a_draft, .ins Cs.c_Draft d_draft [("switches", V.ref a_draft_switches), ("keepers", V.ref a_draft_keepers), ("gates", V.ref a_draft_gates), ("nexts", V.ref a_draft_nexts), ("nevers", V.ref a_draft_nevers), ("somes", V.ref a_draft_somes), ("names", V.ref a_draft_names)]), (a_draft_switches, .lst l_draft_switches), (a_draft_keepers, .dK l_draft_keepers), (a_draft_gates, .lst l_draft_gates), (a_draft_nexts, .dK l_draft_nexts), (a_draft_nevers, .dK l_draft_nevers), (a_draft_somes, .dK l_draft_somes), (a_draft_names, .dK l_draft_names)]) (O := []) (O2 := []) L71 W35 6 rfl (Od.mono l36 o_draft_nevers)
    obtain ⟨B78, L79, l80, r81⟩ := Ln.addD (O1 := [(d_draft, .own a_draft), (a_draft, .ins Cs.c_Draft d_draft [("switches", V.ref a_draft_switches), ("keepers", V.ref a_draft_keepers), ("gates", V.ref a_draft_gates), ("nexts", V.ref a_draft_nexts), ("nevers", V.ref a_draft_nevers), ("somes", V.ref a_draft_somes), ("names", V.ref a_draft_names)]), (a_draft_switches, .lst l_draft_switches), (a_draft_keepers, .dK l_draft_keepers), (a_draft_gates, .lst l_draft_gates), (a_draft_nexts, .dK l_draft_nexts), (a_draft_nevers, .dK l_draft_nevers), (a_draft_somes, .dK l_draft_somes), (a_draft_names, .dK l_draft_names)]) (O := []) (O2 := []) L75 W35 7 rfl (Od.mono l36 o_draft_somes)
    obtain ⟨B82, L83, l84, r85⟩ := Ln.addD (O1 := [(d_draft, .own a_draft), (a_draft, .ins Cs.c_Draft d_draft [("switches", V.ref a_draft_switches), ("keepers", V.ref a_draft_keepers), ("gates", V.ref a_draft_gates), ("nexts", V.ref a_draft_nexts), ("nevers", V.ref a_draft_nevers), ("somes", V.ref a_draft_somes), ("names", V.ref a_draft_names)]), (a_draft_switches, .lst l_draft_switches), (a_draft_keepers, .dK l_draft_keepers), (a_draft_gates, .lst l_draft_gates), (a_draft_nexts, .dK l_draft_nexts), (a_draft_nevers, .dK l_draft_nevers), (a_draft_somes, .dK l_draft_somes), (a_draft_names, .dK l_draft_names)]) (O := []) (O2 := []) L79 W35 8 rfl (Od.mono l36 o_draft_names)
    refine ⟨B82, (V.ref a_draft), x_draft, x50, r86, rfl, Ln.call (O1 := [(d_draft, .own a_draft), (a_draft, .ins Cs.c_Draft d_draft [("switches", V.ref a_draft_switches), ("keepers", V.ref a_draft_keepers), ("gates", V.ref a_draft_gates), ("nexts", V.ref a_draft_nexts), ("nevers", V.ref a_draft_nevers), ("somes", V.ref a_draft_somes), ("names", V.ref a_draft_names)]), (a_draft_switches, .lst l_draft_switches), (a_draft_keepers, .dK l_draft_keepers), (a_draft_gates, .lst l_draft_gates), (a_draft_nexts, .dK l_draft_nexts), (a_draft_nevers, .dK l_draft_nevers), (a_draft_somes, .dK l_draft_somes), (a_draft_names, .dK l_draft_names)]) (O := []) (O2 := []) L83 W35, ⟨a_draft, d_draft, (V.ref a_draft_switches), (V.ref a_draft_keepers), (V.ref a_draft_gates), (V.ref a_draft_nexts), (V.ref a_draft_nevers), (V.ref a_draft_somes), (V.ref a_draft_names), rfl, (Le.ins l84 (Le.ins l80 (Le.ins l76 (Le.ins l72 (Le.ins l68 (Le.ins l64 (Le.ins l60 r57))))))), (Rp.mono l84 (Rp.mono l80 (Rp.mono l76 (Rp.mono l72 (Rp.mono l68 (Rp.mono l64 r61)))))), (Rp.mono l84 (Rp.mono l80 (Rp.mono l76 (Rp.mono l72 (Rp.mono l68 r65))))), (Rp.mono l84 (Rp.mono l80 (Rp.mono l76 (Rp.mono l72 r69)))), (Rp.mono l84 (Rp.mono l80 (Rp.mono l76 r73))), (Rp.mono l84 (Rp.mono l80 r77)), (Rp.mono l84 r81), r85⟩, er86, fun v87 B88 H89 V90 q91 => ?_⟩
    obtain ⟨B94, W92, l93, t95⟩ := Ln.backT (O1 := [(d_draft, .own a_draft), (a_draft, .ins Cs.c_Draft d_draft [("switches", V.ref a_draft_switches), ("keepers", V.ref a_draft_keepers), ("gates", V.ref a_draft_gates), ("nexts", V.ref a_draft_nexts), ("nevers", V.ref a_draft_nevers), ("somes", V.ref a_draft_somes), ("names", V.ref a_draft_names)]), (a_draft_switches, .lst l_draft_switches), (a_draft_keepers, .dK l_draft_keepers), (a_draft_gates, .lst l_draft_gates), (a_draft_nexts, .dK l_draft_nexts), (a_draft_nevers, .dK l_draft_nevers), (a_draft_somes, .dK l_draft_somes), (a_draft_names, .dK l_draft_names)]) (O := []) (O2 := []) L83 W35 (O' := []) V90 rfl
    have W92 : Ws [d_draft, a_draft, a_draft_switches, a_draft_keepers, a_draft_gates, a_draft_nexts, a_draft_nevers, a_draft_somes, a_draft_names] B H B94 H89 [(d_draft, .own a_draft), (a_draft, .ins Cs.c_Draft d_draft [("switches", V.ref a_draft_switches), ("keepers", V.ref a_draft_keepers), ("gates", V.ref a_draft_gates), ("nexts", V.ref a_draft_nexts), ("nevers", V.ref a_draft_nevers), ("somes", V.ref a_draft_somes), ("names", V.ref a_draft_names)]), (a_draft_switches, .lst l_draft_switches), (a_draft_keepers, .dK l_draft_keepers), (a_draft_gates, .lst l_draft_gates), (a_draft_nexts, .dK l_draft_nexts), (a_draft_nevers, .dK l_draft_nevers), (a_draft_somes, .dK l_draft_somes), (a_draft_names, .dK l_draft_names)] := W92
    obtain rfl : v87 = V.bl r86 := q91
    refine tcons_ ?_
    refine var_ rfl ?_
    refine tnil_ ?_
    have L96 := Ws.ln (O1 := [(d_draft, .own a_draft), (a_draft, .ins Cs.c_Draft d_draft [("switches", V.ref a_draft_switches), ("keepers", V.ref a_draft_keepers), ("gates", V.ref a_draft_gates), ("nexts", V.ref a_draft_nexts), ("nevers", V.ref a_draft_nevers), ("somes", V.ref a_draft_somes), ("names", V.ref a_draft_names)]), (a_draft_switches, .lst l_draft_switches), (a_draft_keepers, .dK l_draft_keepers), (a_draft_gates, .lst l_draft_gates), (a_draft_nexts, .dK l_draft_nexts), (a_draft_nevers, .dK l_draft_nevers), (a_draft_somes, .dK l_draft_somes), (a_draft_names, .dK l_draft_names)]) (O := []) (O2 := []) W92
    refine ⟨B94, j48, r86, x49, r97, rfl, Ln.call (O1 := [(d_draft, .own a_draft), (a_draft, .ins Cs.c_Draft d_draft [("switches", V.ref a_draft_switches), ("keepers", V.ref a_draft_keepers), ("gates", V.ref a_draft_gates), ("nexts", V.ref a_draft_nexts), ("nevers", V.ref a_draft_nevers), ("somes", V.ref a_draft_somes), ("names", V.ref a_draft_names)]), (a_draft_switches, .lst l_draft_switches), (a_draft_keepers, .dK l_draft_keepers), (a_draft_gates, .lst l_draft_gates), (a_draft_nexts, .dK l_draft_nexts), (a_draft_nevers, .dK l_draft_nevers), (a_draft_somes, .dK l_draft_somes), (a_draft_names, .dK l_draft_names)]) (O := []) (O2 := []) L96 W92, er97, fun v98 B99 H100 V101 q102 => ?_⟩
    have W103 := Ws.back (O1 := [(d_draft, .own a_draft), (a_draft, .ins Cs.c_Draft d_draft [("switches", V.ref a_draft_switches), ("keepers", V.ref a_draft_keepers), ("gates", V.ref a_draft_gates), ("nexts", V.ref a_draft_nexts), ("nevers", V.ref a_draft_nevers), ("somes", V.ref a_draft_somes), ("names", V.ref a_draft_names)]), (a_draft_switches, .lst l_draft_switches), (a_draft_keepers, .dK l_draft_keepers), (a_draft_gates, .lst l_draft_gates), (a_draft_nexts, .dK l_draft_nexts), (a_draft_nevers, .dK l_draft_nevers), (a_draft_somes, .dK l_draft_somes), (a_draft_names, .dK l_draft_names)]) (O := []) (O2 := []) W92 (O' := []) V101
    have l104 := (Ws.bb V101)
    have W103 : Ws [d_draft, a_draft, a_draft_switches, a_draft_keepers, a_draft_gates, a_draft_nexts, a_draft_nevers, a_draft_somes, a_draft_names] B H B99 H100 [(d_draft, .own a_draft), (a_draft, .ins Cs.c_Draft d_draft [("switches", V.ref a_draft_switches), ("keepers", V.ref a_draft_keepers), ("gates", V.ref a_draft_gates), ("nexts", V.ref a_draft_nexts), ("nevers", V.ref a_draft_nevers), ("somes", V.ref a_draft_somes), ("names", V.ref a_draft_names)]), (a_draft_switches, .lst l_draft_switches), (a_draft_keepers, .dK l_draft_keepers), (a_draft_gates, .lst l_draft_gates), (a_draft_nexts, .dK l_draft_nexts), (a_draft_nevers, .dK l_draft_nevers), (a_draft_somes, .dK l_draft_somes), (a_draft_names, .dK l_draft_names)] := W103
    obtain rfl : v98 = V.str r97 := q102
    refine gset_ (σ' := [some (V.ref a_draft), some (V.ref a_draft_nevers), some v_words, some (V.bl j48), some (V.bl x49), some (V.str r97)]) rfl ?_
    refine nx_ ?_
    obtain ⟨j107, hj108, h⟩ := bs h
    refine cut_ (fun σ' H' => ∃ (B' : Hp) (l0' : List (Key × V)), σ' = [some (V.ref a_draft), some (V.ref a_draft_nevers), some v_words, some (V.bl j48), some (V.bl x49), some (V.str r97)] ∧ Le B99 B' ∧ Ws [d_draft, a_draft, a_draft_switches, a_draft_keepers, a_draft_gates, a_draft_nexts, a_draft_nevers, a_draft_somes, a_draft_names] B H B' H' [(d_draft, .own a_draft), (a_draft, .ins Cs.c_Draft d_draft [("switches", V.ref a_draft_switches), ("keepers", V.ref a_draft_keepers), ("gates", V.ref a_draft_gates), ("nexts", V.ref a_draft_nexts), ("nevers", V.ref a_draft_nevers), ("somes", V.ref a_draft_somes), ("names", V.ref a_draft_names)]), (a_draft_switches, .lst l_draft_switches), (a_draft_keepers, .dK l_draft_keepers), (a_draft_gates, .lst l_draft_gates), (a_draft_nexts, .dK l_draft_nexts), (a_draft_nevers, .dK l0'), (a_draft_somes, .dK l_draft_somes), (a_draft_names, .dK l_draft_names)] ∧ Od B' l0' j107) ?_ ?_
    · refine if_ (fun v' H' => v' = (decide (r97 = ("" : Str))) ∧ H100 = H') (fun Q105 kk106 => ?_) (fun H100q hw => ?_) (fun H100q hw => ?_)
      · refine tst_ ?_
        refine op_ ?_
        refine var_ rfl ?_
        refine cst_ ?_
        refine eqS_ ?_
        refine ⟨_, rfl, ?_⟩
        exact kk106 _ _ ⟨rfl, rfl⟩
      · obtain ⟨c109, rfl⟩ := hw
        have c109 := c109.symm
        have hj108 := opT c109 hj108
        obtain ⟨x110, ex110, hj108⟩ := bs hj108
        obtain ⟨x113, ex113, hj108⟩ := bs hj108
        obtain ⟨q116, hj108⟩ := cks hj108
        refine dput_ ?_
        refine op_ ?_
        refine var_ rfl ?_
        refine cst_ ?_
        refine ixL_ W103 (Rp.mono (l36.tr (l93.tr l104)) r_words) ex110 fun v111 r112 => ?_
        obtain rfl : v111 = V.str x110 := r112
        refine var_ rfl ?_
        refine op_ ?_
        refine var_ rfl ?_
        refine cst_ ?_
        refine ixL_ W103 (Rp.mono (l36.tr (l93.tr l104)) r_words) ex113 fun v114 r115 => ?_
        obtain rfl : v114 = V.str x113 := r115
        refine putO (k := x113) W103 6 rfl (Od.mono (l36.tr (l93.tr l104)) o_draft_nevers) (show Rp.R B99 (V.str x110) (x110 : Str) from rfl) q116 fun H117 l118 W119 o120 => ?_
        have W119 : Ws [d_draft, a_draft, a_draft_switches, a_draft_keepers, a_draft_gates, a_draft_nexts, a_draft_nevers, a_draft_somes, a_draft_names] B H B99 H117 [(d_draft, .own a_draft), (a_draft, .ins Cs.c_Draft d_draft [("switches", V.ref a_draft_switches), ("keepers", V.ref a_draft_keepers), ("gates", V.ref a_draft_gates), ("nexts", V.ref a_draft_nexts), ("nevers", V.ref a_draft_nevers), ("somes", V.ref a_draft_somes), ("names", V.ref a_draft_names)]), (a_draft_switches, .lst l_draft_switches), (a_draft_keepers, .dK l_draft_keepers), (a_draft_gates, .lst l_draft_gates), (a_draft_nexts, .dK l_draft_nexts), (a_draft_nevers, .dK l118), (a_draft_somes, .dK l_draft_somes), (a_draft_names, .dK l_draft_names)] := W119
        refine nx_ ?_
        rw [← Option.some.inj hj108]; exact ⟨B99, l118, rfl, (Le.refl _), W119, o120⟩
      · obtain ⟨c109, rfl⟩ := hw
        have c109 := c109.symm
        have hj108 := opF c109 hj108
        refine next_ ?_
        refine nx_ ?_
        rw [← Option.some.inj hj108]; exact ⟨B99, l_draft_nevers, rfl, (Le.refl _), W103, (Od.mono (l36.tr (l93.tr l104)) o_draft_nevers)⟩
    rintro _ H122 ⟨B121, l125, rfl, l124, W123, o126⟩
    refine ret_ ?_
    refine var_ rfl ?_
    rw [← Option.some.inj h] at k
    have W123' : Ws [d_draft, a_draft, a_draft_switches, a_draft_keepers, a_draft_gates, a_draft_nexts, a_draft_nevers, a_draft_somes, a_draft_names] B H B121 H122 [(d_draft, .own a_draft), (a_draft, .ins Cs.c_Draft d_draft [("switches", V.ref a_draft_switches), ("keepers", V.ref a_draft_keepers), ("gates", V.ref a_draft_gates), ("nexts", V.ref a_draft_nexts), ("nevers", V.ref a_draft_nevers), ("somes", V.ref a_draft_somes), ("names", V.ref a_draft_names)]), (a_draft_switches, .lst l_draft_switches), (a_draft_keepers, .dK l_draft_keepers), (a_draft_gates, .lst l_draft_gates), (a_draft_nexts, .dK l_draft_nexts), (a_draft_nevers, .dK l125), (a_draft_somes, .dK l_draft_somes), (a_draft_names, .dK l_draft_names)] := W123
    exact k (V.str r97) B121 H122 l_draft_switches l_draft_keepers l_draft_gates l_draft_nexts l125 l_draft_somes l_draft_names W123' rfl (Ow.mono (l36.tr (l93.tr (l104.tr l124))) o_draft_switches) (Od.mono (l36.tr (l93.tr (l104.tr l124))) o_draft_keepers) (Ow.mono (l36.tr (l93.tr (l104.tr l124))) o_draft_gates) (Od.mono (l36.tr (l93.tr (l104.tr l124))) o_draft_nexts) o126 (Od.mono (l36.tr (l93.tr (l104.tr l124))) o_draft_somes) (Od.mono (l36.tr (l93.tr (l104.tr l124))) o_draft_names)

def sp_wish_row_somes [Cs] (K : PySem.W.Frag) : Sp := fun vs H Q _ => ∃ (B : Hp) (a_draft : Addr) (d_draft : Addr) (a_draft_switches : Addr) (l_draft_switches : List V) (a_draft_keepers : Addr) (l_draft_keepers : List (Key × V)) (a_draft_gates : Addr) (l_draft_gates : List V) (a_draft_nexts : Addr) (l_draft_nexts : List (Key × V)) (a_draft_nevers : Addr) (l_draft_nevers : List (Key × V)) (a_draft_somes : Addr) (l_draft_somes : List (Key × V)) (a_draft_names : Addr) (l_draft_names : List (Key × V)) (x_draft : O_Draft) (v_words : V) (x_words : List Str) (r : Str × O_Draft), vs = [V.ref a_draft, V.ref a_draft_somes, v_words] ∧ Ws [d_draft, a_draft, a_draft_switches, a_draft_keepers, a_draft_gates, a_draft_nexts, a_draft_nevers, a_draft_somes, a_draft_names] B H B H [(d_draft, .own a_draft), (a_draft, .ins Cs.c_Draft d_draft [("switches", V.ref a_draft_switches), ("keepers", V.ref a_draft_keepers), ("gates", V.ref a_draft_gates), ("nexts", V.ref a_draft_nexts), ("nevers", V.ref a_draft_nevers), ("somes", V.ref a_draft_somes), ("names", V.ref a_draft_names)]), (a_draft_switches, .lst l_draft_switches), (a_draft_keepers, .dK l_draft_keepers), (a_draft_gates, .lst l_draft_gates), (a_draft_nexts, .dK l_draft_nexts), (a_draft_nevers, .dK l_draft_nevers), (a_draft_somes, .dK l_draft_somes), (a_draft_names, .dK l_draft_names)] ∧ Ow B l_draft_switches x_draft.switches ∧ Od B l_draft_keepers x_draft.keepers ∧ Ow B l_draft_gates x_draft.gates ∧ Od B l_draft_nexts x_draft.nexts ∧ Od B l_draft_nevers x_draft.nevers ∧ Od B l_draft_somes x_draft.somes ∧ Od B l_draft_names x_draft.names ∧ Rp.R B v_words x_words ∧ m_wish_row_somes x_draft x_words = some r ∧ ∀ w B' H' l_draft_switches' l_draft_keepers' l_draft_gates' l_draft_nexts' l_draft_nevers' l_draft_somes' l_draft_names', Ws [d_draft, a_draft, a_draft_switches, a_draft_keepers, a_draft_gates, a_draft_nexts, a_draft_nevers, a_draft_somes, a_draft_names] B H B' H' [(d_draft, .own a_draft), (a_draft, .ins Cs.c_Draft d_draft [("switches", V.ref a_draft_switches), ("keepers", V.ref a_draft_keepers), ("gates", V.ref a_draft_gates), ("nexts", V.ref a_draft_nexts), ("nevers", V.ref a_draft_nevers), ("somes", V.ref a_draft_somes), ("names", V.ref a_draft_names)]), (a_draft_switches, .lst l_draft_switches'), (a_draft_keepers, .dK l_draft_keepers'), (a_draft_gates, .lst l_draft_gates'), (a_draft_nexts, .dK l_draft_nexts'), (a_draft_nevers, .dK l_draft_nevers'), (a_draft_somes, .dK l_draft_somes'), (a_draft_names, .dK l_draft_names')] → Rp.R B' w r.1 → Ow B' l_draft_switches' r.2.switches → Od B' l_draft_keepers' r.2.keepers → Ow B' l_draft_gates' r.2.gates → Od B' l_draft_nexts' r.2.nexts → Od B' l_draft_nevers' r.2.nevers → Od B' l_draft_somes' r.2.somes → Od B' l_draft_names' r.2.names → Q w H'
abbrev s_wish_row_somes : Stmt := top 25
theorem sc_wish_row_somes : FnScope ["draft", "wishes", "words", "twice", "many", "fault"] ["draft", "wishes", "words"] (C8.fnScope s_wish_row_somes) := C8.fnScope_by (by decide +kernel)
theorem ok_wish_row_somes [Cs] (T : Tx w K mg) (c_p_is_name : C8.Cal P w K mg base 1 "is_name" (sp_p_is_name K) []) (c_p_is_literal : C8.Cal P w K mg base 2 "is_literal" (sp_p_is_literal K) []) (c_p_lacks : C8.Cal P w K mg base 2 "lacks" (sp_p_lacks K) []) (c_p_first_due : C8.Cal P w K mg base 1 "first_due" (sp_p_first_due K) []) {f : Addr} {fd : FuncData} (F : C8.Def K mg "wish_row" s_wish_row_somes f fd) (b : Binds K fd ["draft", "wishes", "words"] []) : C8.Cal P w K mg base 3 "wish_row" (sp_wish_row_somes K) [] := by
  refine C8.cal0 F b .nil sc_wish_row_somes (fun vs H Q E h => ?_) (fun cdv A outer s H vs Q E hr h => ?_)
  · obtain ⟨B, a_draft, d_draft, a_draft_switches, l_draft_switches, a_draft_keepers, l_draft_keepers, a_draft_gates, l_draft_gates, a_draft_nexts, l_draft_nexts, a_draft_nevers, l_draft_nevers, a_draft_somes, l_draft_somes, a_draft_names, l_draft_names, x_draft, v_words, x_words, r, rfl, _⟩ := h
    rfl
  obtain ⟨B, a_draft, d_draft, a_draft_switches, l_draft_switches, a_draft_keepers, l_draft_keepers, a_draft_gates, l_draft_gates, a_draft_nexts, l_draft_nexts, a_draft_nevers, l_draft_nevers, a_draft_somes, l_draft_somes, a_draft_names, l_draft_names, x_draft, v_words, x_words, r, rfl, W, o_draft_switches, o_draft_keepers, o_draft_gates, o_draft_nexts, o_draft_nevers, o_draft_somes, o_draft_names, r_words, h, k⟩ := h
  refine ⟨_, (pss_cons (ps_if (PW.pt (pw_or (pt_cmpR op_ne (pe_callB (k_len (K := K)) (by rfl) T.b_len (by decide +kernel) (pa_cons (pv 2) pa_nil)) pe_int (nomark _)) (pw_or (pt_not (pt_val (C8.pe_c c_p_is_name hr (by omega) (by rfl) (pa_cons (pe_ix (k_ixL (K := K)) (pv 2) pe_int (fun _ _ => rfl)) pa_nil)))) (pw_or1 (pt_not (pt_val (C8.pe_c c_p_is_literal hr (by omega) (by rfl) (pa_cons (pe_ix (k_ixL (K := K)) (pv 2) pe_int (fun _ _ => rfl)) pa_nil)))))))) (pss_one (ps_ret pe_str)) pss_nil) (pss_cons (ps_set (i := 3) sc_wish_row_somes.nd rfl (Or.inl rfl) (pe_or (pe_cmp (pc_din (units1 hr) (pe_ix (k_ixL (K := K)) (pv 2) pe_int (fun _ _ => rfl)) (k_fld (K := K) (pv 0))) rfl) (pe_one (pe_cmp (pc_din (units1 hr) (pe_ix (k_ixL (K := K)) (pv 2) pe_int (fun _ _ => rfl)) (k_fld (K := K) (pv 0))) rfl)))) (pss_cons (ps_set (i := 4) sc_wish_row_somes.nd rfl (Or.inl rfl) (pe_cmpR op_eq (pe_op op_add (pe_callB k_lenD (by rfl) T.b_len (by decide +kernel) (pa_cons (k_fld (K := K) (pv 0)) pa_nil)) (pe_callB k_lenD (by rfl) T.b_len (by decide +kernel) (pa_cons (k_fld (K := K) (pv 0)) pa_nil))) (C8.pe_gc (by rfl) T.g_MOST_WISHES) (nomark _))) (pss_cons (ps_set (i := 5) sc_wish_row_somes.nd rfl (Or.inl rfl) (C8.pe_c c_p_first_due hr (by omega) (by rfl) (pa_cons (pv 3) (pa_cons (C8.pe_c c_p_lacks hr (by omega) (by rfl) (pa_cons (pv 0) (pa_cons (pe_ix (k_ixL (K := K)) (pv 2) pe_int (fun _ _ => rfl)) pa_nil))) (pa_cons (pv 4) pa_nil))))) (C8.pss_cut (ps_if (pt_cmpR op_eq (pv 5) pe_str (nomark _)) (pss_one (ps_dput (units1 hr) (pv 1) (pe_ix (k_ixL (K := K)) (pv 2) pe_int (fun _ _ => rfl)) (pe_ix (k_ixL (K := K)) (pv 2) pe_int (fun _ _ => rfl)) (by rfl))) pss_nil) (pss_one (ps_ret (pv 5)))))))), ?_⟩
  refine st_ (σ' := [some (V.ref a_draft), some (V.ref a_draft_somes), some v_words, none, none, none]) rfl ?_
  unfold m_wish_row_somes at h
  obtain ⟨j32, hj4_, h⟩ := bs h
  refine seq_ ?_
  refine if_ (fun v' H' => ∃ B', v' = (j32) ∧ Le B B' ∧ Ws [d_draft, a_draft, a_draft_switches, a_draft_keepers, a_draft_gates, a_draft_nexts, a_draft_nevers, a_draft_somes, a_draft_names] B H B' H' [(d_draft, .own a_draft), (a_draft, .ins Cs.c_Draft d_draft [("switches", V.ref a_draft_switches), ("keepers", V.ref a_draft_keepers), ("gates", V.ref a_draft_gates), ("nexts", V.ref a_draft_nexts), ("nevers", V.ref a_draft_nevers), ("somes", V.ref a_draft_somes), ("names", V.ref a_draft_names)]), (a_draft_switches, .lst l_draft_switches), (a_draft_keepers, .dK l_draft_keepers), (a_draft_gates, .lst l_draft_gates), (a_draft_nexts, .dK l_draft_nexts), (a_draft_nevers, .dK l_draft_nevers), (a_draft_somes, .dK l_draft_somes), (a_draft_names, .dK l_draft_names)]) (fun Q1 kk2 => ?_) (fun H34 hw => ?_) (fun H34 hw => ?_)
  · refine tor_ ?_
    refine tst_ ?_
    refine op_ ?_
    refine cb_ ?_
    refine tcons_ ?_
    refine var_ rfl ?_
    refine tnil_ ?_
    refine lenL_ W r_words ?_
    refine cst_ ?_
    refine neI_ ?_
    refine ⟨_, rfl, ?_⟩
    refine br_ (fun c3 => ?_) (fun c3 => ?_)
    · exact kk2 _ _ ⟨B, (Option.some.inj (opT c3 hj4_)), (Le.refl _), W⟩
    · have hj4 := opF c3 hj4_
      obtain ⟨x5, ex5, hj4⟩ := bs hj4
      obtain ⟨r9, er9, hj4⟩ := bs hj4
      obtain ⟨j31, hj18_, hj4⟩ := bs hj4
      refine tor_ ?_
      refine tnot_ ?_
      refine tB_ ?_
      refine call_ ?_
      refine tcons_ ?_
      refine op_ ?_
      refine var_ rfl ?_
      refine cst_ ?_
      refine ixL_ W r_words ex5 fun v6 r7 => ?_
      obtain rfl : v6 = V.str x5 := r7
      refine tnil_ ?_
      have L8 := Ws.ln (O1 := [(d_draft, .own a_draft), (a_draft, .ins Cs.c_Draft d_draft [("switches", V.ref a_draft_switches), ("keepers", V.ref a_draft_keepers), ("gates", V.ref a_draft_gates), ("nexts", V.ref a_draft_nexts), ("nevers", V.ref a_draft_nevers), ("somes", V.ref a_draft_somes), ("names", V.ref a_draft_names)]), (a_draft_switches, .lst l_draft_switches), (a_draft_keepers, .dK l_draft_keepers), (a_draft_gates, .lst l_draft_gates), (a_draft_nexts, .dK l_draft_nexts), (a_draft_nevers, .dK l_draft_nevers), (a_draft_somes, .dK l_draft_somes), (a_draft_names, .dK l_draft_names)]) (O := []) (O2 := []) W
      refine ⟨B, x5, r9, rfl, Ln.call (O1 := [(d_draft, .own a_draft), (a_draft, .ins Cs.c_Draft d_draft [("switches", V.ref a_draft_switches), ("keepers", V.ref a_draft_keepers), ("gates", V.ref a_draft_gates), ("nexts", V.ref a_draft_nexts), ("nevers", V.ref a_draft_nevers), ("somes", V.ref a_draft_somes), ("names", V.ref a_draft_names)]), (a_draft_switches, .lst l_draft_switches), (a_draft_keepers, .dK l_draft_keepers), (a_draft_gates, .lst l_draft_gates), (a_draft_nexts, .dK l_draft_nexts), (a_draft_nevers, .dK l_draft_nevers), (a_draft_somes, .dK l_draft_somes), (a_draft_names, .dK l_draft_names)]) (O := []) (O2 := []) L8 W, er9, fun v10 B11 H12 V13 q14 => ?_⟩
      have W15 := Ws.back (O1 := [(d_draft, .own a_draft), (a_draft, .ins Cs.c_Draft d_draft [("switches", V.ref a_draft_switches), ("keepers", V.ref a_draft_keepers), ("gates", V.ref a_draft_gates), ("nexts", V.ref a_draft_nexts), ("nevers", V.ref a_draft_nevers), ("somes", V.ref a_draft_somes), ("names", V.ref a_draft_names)]), (a_draft_switches, .lst l_draft_switches), (a_draft_keepers, .dK l_draft_keepers), (a_draft_gates, .lst l_draft_gates), (a_draft_nexts, .dK l_draft_nexts), (a_draft_nevers, .dK l_draft_nevers), (a_draft_somes, .dK l_draft_somes), (a_draft_names, .dK l_draft_names)]) (O := []) (O2 := []) W (O' := []) V13
      have l16 := (Ws.bb V13)
      have W15 : Ws [d_draft, a_draft, a_draft_switches, a_draft_keepers, a_draft_gates, a_draft_nexts, a_draft_nevers, a_draft_somes, a_draft_names] B H B11 H12 [(d_draft, .own a_draft), (a_draft, .ins Cs.c_Draft d_draft [("switches", V.ref a_draft_switches), ("keepers", V.ref a_draft_keepers), ("gates", V.ref a_draft_gates), ("nexts", V.ref a_draft_nexts), ("nevers", V.ref a_draft_nevers), ("somes", V.ref a_draft_somes), ("names", V.ref a_draft_names)]), (a_draft_switches, .lst l_draft_switches), (a_draft_keepers, .dK l_draft_keepers), (a_draft_gates, .lst l_draft_gates), (a_draft_nexts, .dK l_draft_nexts), (a_draft_nevers, .dK l_draft_nevers), (a_draft_somes, .dK l_draft_somes), (a_draft_names, .dK l_draft_names)] := W15
      obtain rfl : v10 = V.bl r9 := q14
      refine ⟨_, rfl, ?_⟩
      refine br_ (fun c17 => ?_) (fun c17 => ?_)
      · exact kk2 _ _ ⟨B11, (Eq.trans (Option.some.inj (opT c17 hj18_)) (Option.some.inj hj4)), l16, W15⟩
      · have hj18 := opF c17 hj18_
        obtain ⟨x19, ex19, hj18⟩ := bs hj18
        obtain ⟨r23, er23, hj18⟩ := bs hj18
        refine tnot_ ?_
        refine tB_ ?_
        refine call_ ?_
        refine tcons_ ?_
        refine op_ ?_
        refine var_ rfl ?_
        refine cst_ ?_
        refine ixL_ W15 (Rp.mono l16 r_words) ex19 fun v20 r21 => ?_
        obtain rfl : v20 = V.str x19 := r21
        refine tnil_ ?_
        have L22 := Ws.ln (O1 := [(d_draft, .own a_draft), (a_draft, .ins Cs.c_Draft d_draft [("switches", V.ref a_draft_switches), ("keepers", V.ref a_draft_keepers), ("gates", V.ref a_draft_gates), ("nexts", V.ref a_draft_nexts), ("nevers", V.ref a_draft_nevers), ("somes", V.ref a_draft_somes), ("names", V.ref a_draft_names)]), (a_draft_switches, .lst l_draft_switches), (a_draft_keepers, .dK l_draft_keepers), (a_draft_gates, .lst l_draft_gates), (a_draft_nexts, .dK l_draft_nexts), (a_draft_nevers, .dK l_draft_nevers), (a_draft_somes, .dK l_draft_somes), (a_draft_names, .dK l_draft_names)]) (O := []) (O2 := []) W15
        refine ⟨B11, x19, r23, rfl, Ln.call (O1 := [(d_draft, .own a_draft), (a_draft, .ins Cs.c_Draft d_draft [("switches", V.ref a_draft_switches), ("keepers", V.ref a_draft_keepers), ("gates", V.ref a_draft_gates), ("nexts", V.ref a_draft_nexts), ("nevers", V.ref a_draft_nevers), ("somes", V.ref a_draft_somes), ("names", V.ref a_draft_names)]), (a_draft_switches, .lst l_draft_switches), (a_draft_keepers, .dK l_draft_keepers), (a_draft_gates, .lst l_draft_gates), (a_draft_nexts, .dK l_draft_nexts), (a_draft_nevers, .dK l_draft_nevers), (a_draft_somes, .dK l_draft_somes), (a_draft_names, .dK l_draft_names)]) (O := []) (O2 := []) L22 W15, er23, fun v24 B25 H26 V27 q28 => ?_⟩
        have W29 := Ws.back (O1 := [(d_draft, .own a_draft), (a_draft, .ins Cs.c_Draft d_draft [("switches", V.ref a_draft_switches), ("keepers", V.ref a_draft_keepers), ("gates", V.ref a_draft_gates), ("nexts", V.ref a_draft_nexts), ("nevers", V.ref a_draft_nevers), ("somes", V.ref a_draft_somes), ("names", V.ref a_draft_names)]), (a_draft_switches, .lst l_draft_switches), (a_draft_keepers, .dK l_draft_keepers), (a_draft_gates, .lst l_draft_gates), (a_draft_nexts, .dK l_draft_nexts), (a_draft_nevers, .dK l_draft_nevers), (a_draft_somes, .dK l_draft_somes), (a_draft_names, .dK l_draft_names)]) (O := []) (O2 := []) W15 (O' := []) V27
        have l30 := (Ws.bb V27)
        have W29 : Ws [d_draft, a_draft, a_draft_switches, a_draft_keepers, a_draft_gates, a_draft_nexts, a_draft_nevers, a_draft_somes, a_draft_names] B H B25 H26 [(d_draft, .own a_draft), (a_draft, .ins Cs.c_Draft d_draft [("switches", V.ref a_draft_switches), ("keepers", V.ref a_draft_keepers), ("gates", V.ref a_draft_gates), ("nexts", V.ref a_draft_nexts), ("nevers", V.ref a_draft_nevers), ("somes", V.ref a_draft_somes), ("names", V.ref a_draft_names)]), (a_draft_switches, .lst l_draft_switches), (a_draft_keepers, .dK l_draft_keepers), (a_draft_gates, .lst l_draft_gates), (a_draft_nexts, .dK l_draft_nexts), (a_draft_nevers, .dK l_draft_nevers), (a_draft_somes, .dK l_draft_somes), (a_draft_names, .dK l_draft_names)] := W29
        obtain rfl : v24 = V.bl r23 := q28
        refine ⟨_, rfl, ?_⟩
        exact kk2 _ _ ⟨B25, (Eq.trans (Option.some.inj hj18) (Option.some.inj hj4)), (l16.tr l30), W29⟩
  · obtain ⟨B33, c37, l36, W35⟩ := hw
    have c37 := c37.symm
    have h := opT c37 h
    refine ret_ ?_
    refine cst_ ?_
    rw [← Option.some.inj h] at k
    have W35' : Ws [d_draft, a_draft, a_draft_switches, a_draft_keepers, a_draft_gates, a_draft_nexts, a_draft_nevers, a_draft_somes, a_draft_names] B H B33 H34 [(d_draft, .own a_draft), (a_draft, .ins Cs.c_Draft d_draft [("switches", V.ref a_draft_switches), ("keepers", V.ref a_draft_keepers), ("gates", V.ref a_draft_gates), ("nexts", V.ref a_draft_nexts), ("nevers", V.ref a_draft_nevers), ("somes", V.ref a_draft_somes), ("names", V.ref a_draft_names)]), (a_draft_switches, .lst l_draft_switches), (a_draft_keepers, .dK l_draft_keepers), (a_draft_gates, .lst l_draft_gates), (a_draft_nexts, .dK l_draft_nexts), (a_draft_nevers, .dK l_draft_nevers), (a_draft_somes, .dK l_draft_somes), (a_draft_names, .dK l_draft_names)] := W35
    exact k (V.str ("row" : Str)) B33 H34 l_draft_switches l_draft_keepers l_draft_gates l_draft_nexts l_draft_nevers l_draft_somes l_draft_names W35' rfl (Ow.mono l36 o_draft_switches) (Od.mono l36 o_draft_keepers) (Ow.mono l36 o_draft_gates) (Od.mono l36 o_draft_nexts) (Od.mono l36 o_draft_nevers) (Od.mono l36 o_draft_somes) (Od.mono l36 o_draft_names)
  · obtain ⟨B33, c37, l36, W35⟩ := hw
    have c37 := c37.symm
    have h := opF c37 h
    refine next_ ?_
    refine nx_ ?_
    obtain ⟨x40, ex40, h⟩ := bs h
    obtain ⟨j48, hj44_, h⟩ := bs h
    refine seq_ ?_
    refine asg_ ?_
    refine ex_ (fun v' H' => v' = V.bl (j48) ∧ H34 = H') (fun Q38 kk39 => ?_) ?_
    · refine torV_ ?_
      refine din_ ?_
      refine op_ ?_
      refine var_ rfl ?_
      refine cst_ ?_
      refine ixL_ W35 (Rp.mono l36 r_words) ex40 fun v41 r42 => ?_
      obtain rfl : v41 = V.str x40 := r42
      refine fld_ ?_
      refine var_ rfl ?_
      refine fldO (ns := (["switches", "keepers", "gates", "nexts", "nevers", "somes", "names"] : List Str)) W35 1 rfl T.cls_Draft T.na_Draft_nevers rfl (by decide +kernel) 4 rfl ?_
      refine dinO (k := x40) W35 6 rfl (Od.mono l36 o_draft_nevers) ?_
      refine ⟨_, rfl, ?_⟩
      refine br_ (fun c43 => ?_) (fun c43 => ?_)
      · exact kk39 _ _ ⟨(congrArg V.bl (Option.some.inj (opT c43 hj44_))), rfl⟩
      · have hj44 := opF c43 hj44_
        obtain ⟨x45, ex45, hj44⟩ := bs hj44
        refine din_ ?_
        refine op_ ?_
        refine var_ rfl ?_
        refine cst_ ?_
        refine ixL_ W35 (Rp.mono l36 r_words) ex45 fun v46 r47 => ?_
        obtain rfl : v46 = V.str x45 := r47
        refine fld_ ?_
        refine var_ rfl ?_
        refine fldO (ns := (["switches", "keepers", "gates", "nexts", "nevers", "somes", "names"] : List Str)) W35 1 rfl T.cls_Draft T.na_Draft_somes rfl (by decide +kernel) 5 rfl ?_
        refine dinO (k := x45) W35 7 rfl (Od.mono l36 o_draft_somes) ?_
        exact kk39 _ _ ⟨(congrArg V.bl (Option.some.inj hj44)), rfl⟩
    rintro _ _ ⟨rfl, rfl⟩
    refine gset_ (σ' := [some (V.ref a_draft), some (V.ref a_draft_somes), some v_words, some (V.bl j48), none, none]) rfl ?_
    refine nx_ ?_
    obtain ⟨x49, ex49, h⟩ := bs h
    refine seq_ ?_
    refine asg_ ?_
    refine op_ ?_
    refine op_ ?_
    refine cb_ ?_
    refine tcons_ ?_
    refine fld_ ?_
    refine var_ rfl ?_
    refine fldO (ns := (["switches", "keepers", "gates", "nexts", "nevers", "somes", "names"] : List Str)) W35 1 rfl T.cls_Draft T.na_Draft_nevers rfl (by decide +kernel) 4 rfl ?_
    refine tnil_ ?_
    refine lenDO W35 6 rfl (Od.mono l36 o_draft_nevers) ?_
    refine cb_ ?_
    refine tcons_ ?_
    refine fld_ ?_
    refine var_ rfl ?_
    refine fldO (ns := (["switches", "keepers", "gates", "nexts", "nevers", "somes", "names"] : List Str)) W35 1 rfl T.cls_Draft T.na_Draft_somes rfl (by decide +kernel) 5 rfl ?_
    refine tnil_ ?_
    refine lenDO W35 7 rfl (Od.mono l36 o_draft_somes) ?_
    refine i0_ ?_
    refine cst_ ?_
    refine eqI_ ?_
    refine gas_ (V.bl x49) (congrArg V.bl (Option.some.inj ex49)) (σ' := [some (V.ref a_draft), some (V.ref a_draft_somes), some v_words, some (V.bl j48), some (V.bl x49), none]) rfl ?_
    refine nx_ ?_
    obtain ⟨x50, ex50, h⟩ := bs h
    obtain ⟨r86, er86, h⟩ := bs h
    obtain ⟨r97, er97, h⟩ := bs h
    refine seq_ ?_
    refine asg_ ?_
    refine call_ ?_
    refine tcons_ ?_
    refine var_ rfl ?_
    refine tcons_ ?_
    refine call_ ?_
    refine tcons_ ?_
    refine var_ rfl ?_
    refine tcons_ ?_
    refine op_ ?_
    refine var_ rfl ?_
    refine cst_ ?_
    refine ixL_ W35 (Rp.mono l36 r_words) ex50 fun v51 r52 => ?_
    obtain rfl : v51 = V.str x50 := r52
    refine tnil_ ?_
    have L53 := Ws.ln (O1 := [(d_draft, .own a_draft), (a_draft, .ins Cs.c_Draft d_draft [("switches", V.ref a_draft_switches), ("keepers", V.ref a_draft_keepers), ("gates", V.ref a_draft_gates), ("nexts", V.ref a_draft_nexts), ("nevers", V.ref a_draft_nevers), ("somes", V.ref a_draft_somes), ("names", V.ref a_draft_names)]), (a_draft_switches, .lst l_draft_switches), (a_draft_keepers, .dK l_draft_keepers), (a_draft_gates, .lst l_draft_gates), (a_draft_nexts, .dK l_draft_nexts), (a_draft_nevers, .dK l_draft_nevers), (a_draft_somes, .dK l_draft_somes), (a_draft_names, .dK l_draft_names)]) (O := []) (O2 := []) W35
    obtain ⟨B54, L55, l56, r57⟩ := Ln.add0 (O1 := [(d_draft, .own a_draft), (a_draft, .ins Cs.c_Draft d_draft [("switches", V.ref a_draft_switches), ("keepers", V.ref a_draft_keepers), ("gates", V.ref a_draft_gates), ("nexts", V.ref a_draft_nexts), ("nevers", V.ref a_draft_nevers), ("somes", V.ref a_draft_somes), ("names", V.ref a_draft_names)]), (a_draft_switches, .lst l_draft_switches), (a_draft_keepers, .dK l_draft_keepers), (a_draft_gates, .lst l_draft_gates), (a_draft_nexts, .dK l_draft_nexts), (a_draft_nevers, .dK l_draft_nevers), (a_draft_somes, .dK l_draft_somes), (a_draft_names, .dK l_draft_names)]) (O := []) (O2 := []) L53 W35 1 rfl
    obtain ⟨B58, L59, l60, r61⟩ := Ln.add (O1 := [(d_draft, .own a_draft), (a_draft, .ins Cs.c_Draft d_draft [("switches", V.ref a_draft_switches), ("keepers", V.ref a_draft_keepers), ("gates", V.ref a_draft_gates), ("nexts", V.ref a_draft_nexts), ("nevers", V.ref a_draft_nevers), ("somes", V.ref a_draft_somes), ("names", V.ref a_draft_names)]), (a_draft_switches, .lst l_draft_switches), (a_draft_keepers, .dK l_draft_keepers), (a_draft_gates, .lst l_draft_gates), (a_draft_nexts, .dK l_draft_nexts), (a_draft_nevers, .dK l_draft_nevers), (a_draft_somes, .dK l_draft_somes), (a_draft_names, .dK l_draft_names)]) (O := []) (O2 := []) L55 W35 2 rfl (Ow.mono l36 o_draft_switches)
    obtain ⟨B62, L63, l64, r65⟩ := Ln.addD (O1 := [(d_draft, .own a_draft), (a_draft, .ins Cs.c_Draft d_draft [("switches", V.ref a_draft_switches), ("keepers", V.ref a_draft_keepers), ("gates", V.ref a_draft_gates), ("nexts", V.ref a_draft_nexts), ("nevers", V.ref a_draft_nevers), ("somes", V.ref a_draft_somes), ("names", V.ref a_draft_names)]), (a_draft_switches, .lst l_draft_switches), (a_draft_keepers, .dK l_draft_keepers), (a_draft_gates, .lst l_draft_gates), (a_draft_nexts, .dK l_draft_nexts), (a_draft_nevers, .dK l_draft_nevers), (a_draft_somes, .dK l_draft_somes), (a_draft_names, .dK l_draft_names)]) (O := []) (O2 := []) L59 W35 3 rfl (Od.mono l36 o_draft_keepers)
    obtain ⟨B66, L67, l68, r69⟩ := Ln.add (O1 := [(d_draft, .own a_draft), (a_draft, .ins Cs.c_Draft d_draft [("switches", V.ref a_draft_switches), ("keepers", V.ref a_draft_keepers), ("gates", V.ref a_draft_gates), ("nexts", V.ref a_draft_nexts), ("nevers", V.ref a_draft_nevers), ("somes", V.ref a_draft_somes), ("names", V.ref a_draft_names)]), (a_draft_switches, .lst l_draft_switches), (a_draft_keepers, .dK l_draft_keepers), (a_draft_gates, .lst l_draft_gates), (a_draft_nexts, .dK l_draft_nexts), (a_draft_nevers, .dK l_draft_nevers), (a_draft_somes, .dK l_draft_somes), (a_draft_names, .dK l_draft_names)]) (O := []) (O2 := []) L63 W35 4 rfl (Ow.mono l36 o_draft_gates)
    obtain ⟨B70, L71, l72, r73⟩ := Ln.addD (O1 := [(d_draft, .own a_draft), (a_draft, .ins Cs.c_Draft d_draft [("switches", V.ref a_draft_switches), ("keepers", V.ref a_draft_keepers), ("gates", V.ref a_draft_gates), ("nexts", V.ref a_draft_nexts), ("nevers", V.ref a_draft_nevers), ("somes", V.ref a_draft_somes), ("names", V.ref a_draft_names)]), (a_draft_switches, .lst l_draft_switches), (a_draft_keepers, .dK l_draft_keepers), (a_draft_gates, .lst l_draft_gates), (a_draft_nexts, .dK l_draft_nexts), (a_draft_nevers, .dK l_draft_nevers), (a_draft_somes, .dK l_draft_somes), (a_draft_names, .dK l_draft_names)]) (O := []) (O2 := []) L67 W35 5 rfl (Od.mono l36 o_draft_nexts)
    obtain ⟨B74, L75, l76, r77⟩ := Ln.addD (O1 := [(d_draft, .own a_draft), (a_draft, .ins Cs.c_Draft d_draft [("switches", V.ref a_draft_switches), ("keepers", V.ref a_draft_keepers), ("gates", V.ref a_draft_gates), ("nexts", V.ref a_draft_nexts), ("nevers", V.ref a_draft_nevers), ("somes", V.ref a_draft_somes), ("names", V.ref a_draft_names)]), (a_draft_switches, .lst l_draft_switches), (a_draft_keepers, .dK l_draft_keepers), (a_draft_gates, .lst l_draft_gates), (a_draft_nexts, .dK l_draft_nexts), (a_draft_nevers, .dK l_draft_nevers), (a_draft_somes, .dK l_draft_somes), (a_draft_names, .dK l_draft_names)]) (O := []) (O2 := []) L71 W35 6 rfl (Od.mono l36 o_draft_nevers)
    obtain ⟨B78, L79, l80, r81⟩ := Ln.addD (O1 := [(d_draft, .own a_draft), (a_draft, .ins Cs.c_Draft d_draft [("switches", V.ref a_draft_switches), ("keepers", V.ref a_draft_keepers), ("gates", V.ref a_draft_gates), ("nexts", V.ref a_draft_nexts), ("nevers", V.ref a_draft_nevers), ("somes", V.ref a_draft_somes), ("names", V.ref a_draft_names)]), (a_draft_switches, .lst l_draft_switches), (a_draft_keepers, .dK l_draft_keepers), (a_draft_gates, .lst l_draft_gates), (a_draft_nexts, .dK l_draft_nexts), (a_draft_nevers, .dK l_draft_nevers), (a_draft_somes, .dK l_draft_somes), (a_draft_names, .dK l_draft_names)]) (O := []) (O2 := []) L75 W35 7 rfl (Od.mono l36 o_draft_somes)
    obtain ⟨B82, L83, l84, r85⟩ := Ln.addD (O1 := [(d_draft, .own a_draft), (a_draft, .ins Cs.c_Draft d_draft [("switches", V.ref a_draft_switches), ("keepers", V.ref a_draft_keepers), ("gates", V.ref a_draft_gates), ("nexts", V.ref a_draft_nexts), ("nevers", V.ref a_draft_nevers), ("somes", V.ref a_draft_somes), ("names", V.ref a_draft_names)]), (a_draft_switches, .lst l_draft_switches), (a_draft_keepers, .dK l_draft_keepers), (a_draft_gates, .lst l_draft_gates), (a_draft_nexts, .dK l_draft_nexts), (a_draft_nevers, .dK l_draft_nevers), (a_draft_somes, .dK l_draft_somes), (a_draft_names, .dK l_draft_names)]) (O := []) (O2 := []) L79 W35 8 rfl (Od.mono l36 o_draft_names)
    refine ⟨B82, (V.ref a_draft), x_draft, x50, r86, rfl, Ln.call (O1 := [(d_draft, .own a_draft), (a_draft, .ins Cs.c_Draft d_draft [("switches", V.ref a_draft_switches), ("keepers", V.ref a_draft_keepers), ("gates", V.ref a_draft_gates), ("nexts", V.ref a_draft_nexts), ("nevers", V.ref a_draft_nevers), ("somes", V.ref a_draft_somes), ("names", V.ref a_draft_names)]), (a_draft_switches, .lst l_draft_switches), (a_draft_keepers, .dK l_draft_keepers), (a_draft_gates, .lst l_draft_gates), (a_draft_nexts, .dK l_draft_nexts), (a_draft_nevers, .dK l_draft_nevers), (a_draft_somes, .dK l_draft_somes), (a_draft_names, .dK l_draft_names)]) (O := []) (O2 := []) L83 W35, ⟨a_draft, d_draft, (V.ref a_draft_switches), (V.ref a_draft_keepers), (V.ref a_draft_gates), (V.ref a_draft_nexts), (V.ref a_draft_nevers), (V.ref a_draft_somes), (V.ref a_draft_names), rfl, (Le.ins l84 (Le.ins l80 (Le.ins l76 (Le.ins l72 (Le.ins l68 (Le.ins l64 (Le.ins l60 r57))))))), (Rp.mono l84 (Rp.mono l80 (Rp.mono l76 (Rp.mono l72 (Rp.mono l68 (Rp.mono l64 r61)))))), (Rp.mono l84 (Rp.mono l80 (Rp.mono l76 (Rp.mono l72 (Rp.mono l68 r65))))), (Rp.mono l84 (Rp.mono l80 (Rp.mono l76 (Rp.mono l72 r69)))), (Rp.mono l84 (Rp.mono l80 (Rp.mono l76 r73))), (Rp.mono l84 (Rp.mono l80 r77)), (Rp.mono l84 r81), r85⟩, er86, fun v87 B88 H89 V90 q91 => ?_⟩
    obtain ⟨B94, W92, l93, t95⟩ := Ln.backT (O1 := [(d_draft, .own a_draft), (a_draft, .ins Cs.c_Draft d_draft [("switches", V.ref a_draft_switches), ("keepers", V.ref a_draft_keepers), ("gates", V.ref a_draft_gates), ("nexts", V.ref a_draft_nexts), ("nevers", V.ref a_draft_nevers), ("somes", V.ref a_draft_somes), ("names", V.ref a_draft_names)]), (a_draft_switches, .lst l_draft_switches), (a_draft_keepers, .dK l_draft_keepers), (a_draft_gates, .lst l_draft_gates), (a_draft_nexts, .dK l_draft_nexts), (a_draft_nevers, .dK l_draft_nevers), (a_draft_somes, .dK l_draft_somes), (a_draft_names, .dK l_draft_names)]) (O := []) (O2 := []) L83 W35 (O' := []) V90 rfl
    have W92 : Ws [d_draft, a_draft, a_draft_switches, a_draft_keepers, a_draft_gates, a_draft_nexts, a_draft_nevers, a_draft_somes, a_draft_names] B H B94 H89 [(d_draft, .own a_draft), (a_draft, .ins Cs.c_Draft d_draft [("switches", V.ref a_draft_switches), ("keepers", V.ref a_draft_keepers), ("gates", V.ref a_draft_gates), ("nexts", V.ref a_draft_nexts), ("nevers", V.ref a_draft_nevers), ("somes", V.ref a_draft_somes), ("names", V.ref a_draft_names)]), (a_draft_switches, .lst l_draft_switches), (a_draft_keepers, .dK l_draft_keepers), (a_draft_gates, .lst l_draft_gates), (a_draft_nexts, .dK l_draft_nexts), (a_draft_nevers, .dK l_draft_nevers), (a_draft_somes, .dK l_draft_somes), (a_draft_names, .dK l_draft_names)] := W92
    obtain rfl : v87 = V.bl r86 := q91
    refine tcons_ ?_
    refine var_ rfl ?_
    refine tnil_ ?_
    have L96 := Ws.ln (O1 := [(d_draft, .own a_draft), (a_draft, .ins Cs.c_Draft d_draft [("switches", V.ref a_draft_switches), ("keepers", V.ref a_draft_keepers), ("gates", V.ref a_draft_gates), ("nexts", V.ref a_draft_nexts), ("nevers", V.ref a_draft_nevers), ("somes", V.ref a_draft_somes), ("names", V.ref a_draft_names)]), (a_draft_switches, .lst l_draft_switches), (a_draft_keepers, .dK l_draft_keepers), (a_draft_gates, .lst l_draft_gates), (a_draft_nexts, .dK l_draft_nexts), (a_draft_nevers, .dK l_draft_nevers), (a_draft_somes, .dK l_draft_somes), (a_draft_names, .dK l_draft_names)]) (O := []) (O2 := []) W92
    refine ⟨B94, j48, r86, x49, r97, rfl, Ln.call (O1 := [(d_draft, .own a_draft), (a_draft, .ins Cs.c_Draft d_draft [("switches", V.ref a_draft_switches), ("keepers", V.ref a_draft_keepers), ("gates", V.ref a_draft_gates), ("nexts", V.ref a_draft_nexts), ("nevers", V.ref a_draft_nevers), ("somes", V.ref a_draft_somes), ("names", V.ref a_draft_names)]), (a_draft_switches, .lst l_draft_switches), (a_draft_keepers, .dK l_draft_keepers), (a_draft_gates, .lst l_draft_gates), (a_draft_nexts, .dK l_draft_nexts), (a_draft_nevers, .dK l_draft_nevers), (a_draft_somes, .dK l_draft_somes), (a_draft_names, .dK l_draft_names)]) (O := []) (O2 := []) L96 W92, er97, fun v98 B99 H100 V101 q102 => ?_⟩
    have W103 := Ws.back (O1 := [(d_draft, .own a_draft), (a_draft, .ins Cs.c_Draft d_draft [("switches", V.ref a_draft_switches), ("keepers", V.ref a_draft_keepers), ("gates", V.ref a_draft_gates), ("nexts", V.ref a_draft_nexts), ("nevers", V.ref a_draft_nevers), ("somes", V.ref a_draft_somes), ("names", V.ref a_draft_names)]), (a_draft_switches, .lst l_draft_switches), (a_draft_keepers, .dK l_draft_keepers), (a_draft_gates, .lst l_draft_gates), (a_draft_nexts, .dK l_draft_nexts), (a_draft_nevers, .dK l_draft_nevers), (a_draft_somes, .dK l_draft_somes), (a_draft_names, .dK l_draft_names)]) (O := []) (O2 := []) W92 (O' := []) V101
    have l104 := (Ws.bb V101)
    have W103 : Ws [d_draft, a_draft, a_draft_switches, a_draft_keepers, a_draft_gates, a_draft_nexts, a_draft_nevers, a_draft_somes, a_draft_names] B H B99 H100 [(d_draft, .own a_draft), (a_draft, .ins Cs.c_Draft d_draft [("switches", V.ref a_draft_switches), ("keepers", V.ref a_draft_keepers), ("gates", V.ref a_draft_gates), ("nexts", V.ref a_draft_nexts), ("nevers", V.ref a_draft_nevers), ("somes", V.ref a_draft_somes), ("names", V.ref a_draft_names)]), (a_draft_switches, .lst l_draft_switches), (a_draft_keepers, .dK l_draft_keepers), (a_draft_gates, .lst l_draft_gates), (a_draft_nexts, .dK l_draft_nexts), (a_draft_nevers, .dK l_draft_nevers), (a_draft_somes, .dK l_draft_somes), (a_draft_names, .dK l_draft_names)] := W103
    obtain rfl : v98 = V.str r97 := q102
    refine gset_ (σ' := [some (V.ref a_draft), some (V.ref a_draft_somes), some v_words, some (V.bl j48), some (V.bl x49), some (V.str r97)]) rfl ?_
    refine nx_ ?_
    obtain ⟨j107, hj108, h⟩ := bs h
    refine cut_ (fun σ' H' => ∃ (B' : Hp) (l0' : List (Key × V)), σ' = [some (V.ref a_draft), some (V.ref a_draft_somes), some v_words, some (V.bl j48), some (V.bl x49), some (V.str r97)] ∧ Le B99 B' ∧ Ws [d_draft, a_draft, a_draft_switches, a_draft_keepers, a_draft_gates, a_draft_nexts, a_draft_nevers, a_draft_somes, a_draft_names] B H B' H' [(d_draft, .own a_draft), (a_draft, .ins Cs.c_Draft d_draft [("switches", V.ref a_draft_switches), ("keepers", V.ref a_draft_keepers), ("gates", V.ref a_draft_gates), ("nexts", V.ref a_draft_nexts), ("nevers", V.ref a_draft_nevers), ("somes", V.ref a_draft_somes), ("names", V.ref a_draft_names)]), (a_draft_switches, .lst l_draft_switches), (a_draft_keepers, .dK l_draft_keepers), (a_draft_gates, .lst l_draft_gates), (a_draft_nexts, .dK l_draft_nexts), (a_draft_nevers, .dK l_draft_nevers), (a_draft_somes, .dK l0'), (a_draft_names, .dK l_draft_names)] ∧ Od B' l0' j107) ?_ ?_
    · refine if_ (fun v' H' => v' = (decide (r97 = ("" : Str))) ∧ H100 = H') (fun Q105 kk106 => ?_) (fun H100q hw => ?_) (fun H100q hw => ?_)
      · refine tst_ ?_
        refine op_ ?_
        refine var_ rfl ?_
        refine cst_ ?_
        refine eqS_ ?_
        refine ⟨_, rfl, ?_⟩
        exact kk106 _ _ ⟨rfl, rfl⟩
      · obtain ⟨c109, rfl⟩ := hw
        have c109 := c109.symm
        have hj108 := opT c109 hj108
        obtain ⟨x110, ex110, hj108⟩ := bs hj108
        obtain ⟨x113, ex113, hj108⟩ := bs hj108
        obtain ⟨q116, hj108⟩ := cks hj108
        refine dput_ ?_
        refine op_ ?_
        refine var_ rfl ?_
        refine cst_ ?_
        refine ixL_ W103 (Rp.mono (l36.tr (l93.tr l104)) r_words) ex110 fun v111 r112 => ?_
        obtain rfl : v111 = V.str x110 := r112
        refine var_ rfl ?_
        refine op_ ?_
        refine var_ rfl ?_
        refine cst_ ?_
        refine ixL_ W103 (Rp.mono (l36.tr (l93.tr l104)) r_words) ex113 fun v114 r115 => ?_
        obtain rfl : v114 = V.str x113 := r115
        refine putO (k := x113) W103 7 rfl (Od.mono (l36.tr (l93.tr l104)) o_draft_somes) (show Rp.R B99 (V.str x110) (x110 : Str) from rfl) q116 fun H117 l118 W119 o120 => ?_
        have W119 : Ws [d_draft, a_draft, a_draft_switches, a_draft_keepers, a_draft_gates, a_draft_nexts, a_draft_nevers, a_draft_somes, a_draft_names] B H B99 H117 [(d_draft, .own a_draft), (a_draft, .ins Cs.c_Draft d_draft [("switches", V.ref a_draft_switches), ("keepers", V.ref a_draft_keepers), ("gates", V.ref a_draft_gates), ("nexts", V.ref a_draft_nexts), ("nevers", V.ref a_draft_nevers), ("somes", V.ref a_draft_somes), ("names", V.ref a_draft_names)]), (a_draft_switches, .lst l_draft_switches), (a_draft_keepers, .dK l_draft_keepers), (a_draft_gates, .lst l_draft_gates), (a_draft_nexts, .dK l_draft_nexts), (a_draft_nevers, .dK l_draft_nevers), (a_draft_somes, .dK l118), (a_draft_names, .dK l_draft_names)] := W119
        refine nx_ ?_
        rw [← Option.some.inj hj108]; exact ⟨B99, l118, rfl, (Le.refl _), W119, o120⟩
      · obtain ⟨c109, rfl⟩ := hw
        have c109 := c109.symm
        have hj108 := opF c109 hj108
        refine next_ ?_
        refine nx_ ?_
        rw [← Option.some.inj hj108]; exact ⟨B99, l_draft_somes, rfl, (Le.refl _), W103, (Od.mono (l36.tr (l93.tr l104)) o_draft_somes)⟩
    rintro _ H122 ⟨B121, l125, rfl, l124, W123, o126⟩
    refine ret_ ?_
    refine var_ rfl ?_
    rw [← Option.some.inj h] at k
    have W123' : Ws [d_draft, a_draft, a_draft_switches, a_draft_keepers, a_draft_gates, a_draft_nexts, a_draft_nevers, a_draft_somes, a_draft_names] B H B121 H122 [(d_draft, .own a_draft), (a_draft, .ins Cs.c_Draft d_draft [("switches", V.ref a_draft_switches), ("keepers", V.ref a_draft_keepers), ("gates", V.ref a_draft_gates), ("nexts", V.ref a_draft_nexts), ("nevers", V.ref a_draft_nevers), ("somes", V.ref a_draft_somes), ("names", V.ref a_draft_names)]), (a_draft_switches, .lst l_draft_switches), (a_draft_keepers, .dK l_draft_keepers), (a_draft_gates, .lst l_draft_gates), (a_draft_nexts, .dK l_draft_nexts), (a_draft_nevers, .dK l_draft_nevers), (a_draft_somes, .dK l125), (a_draft_names, .dK l_draft_names)] := W123
    exact k (V.str r97) B121 H122 l_draft_switches l_draft_keepers l_draft_gates l_draft_nexts l_draft_nevers l125 l_draft_names W123' rfl (Ow.mono (l36.tr (l93.tr (l104.tr l124))) o_draft_switches) (Od.mono (l36.tr (l93.tr (l104.tr l124))) o_draft_keepers) (Ow.mono (l36.tr (l93.tr (l104.tr l124))) o_draft_gates) (Od.mono (l36.tr (l93.tr (l104.tr l124))) o_draft_nexts) (Od.mono (l36.tr (l93.tr (l104.tr l124))) o_draft_nevers) o126 (Od.mono (l36.tr (l93.tr (l104.tr l124))) o_draft_names)

end
end G

namespace G
open PySem L2 Pv
section
variable {P : Program} {w : World} {K : PySem.W.Frag} {mg : Str → Option Value} {base : Heap}

def sp_p_draft_row [Cs] (K : PySem.W.Frag) : Sp := fun vs H Q _ => ∃ (B : Hp) (a_draft : Addr) (d_draft : Addr) (a_draft_switches : Addr) (l_draft_switches : List V) (a_draft_keepers : Addr) (l_draft_keepers : List (Key × V)) (a_draft_gates : Addr) (l_draft_gates : List V) (a_draft_nexts : Addr) (l_draft_nexts : List (Key × V)) (a_draft_nevers : Addr) (l_draft_nevers : List (Key × V)) (a_draft_somes : Addr) (l_draft_somes : List (Key × V)) (a_draft_names : Addr) (l_draft_names : List (Key × V)) (x_draft : O_Draft) (v_words : V) (x_words : List Str) (r : Str × O_Draft), vs = [V.ref a_draft, v_words] ∧ Ws [d_draft, a_draft, a_draft_switches, a_draft_keepers, a_draft_gates, a_draft_nexts, a_draft_nevers, a_draft_somes, a_draft_names] B H B H [(d_draft, .own a_draft), (a_draft, .ins Cs.c_Draft d_draft [("switches", V.ref a_draft_switches), ("keepers", V.ref a_draft_keepers), ("gates", V.ref a_draft_gates), ("nexts", V.ref a_draft_nexts), ("nevers", V.ref a_draft_nevers), ("somes", V.ref a_draft_somes), ("names", V.ref a_draft_names)]), (a_draft_switches, .lst l_draft_switches), (a_draft_keepers, .dK l_draft_keepers), (a_draft_gates, .lst l_draft_gates), (a_draft_nexts, .dK l_draft_nexts), (a_draft_nevers, .dK l_draft_nevers), (a_draft_somes, .dK l_draft_somes), (a_draft_names, .dK l_draft_names)] ∧ Ow B l_draft_switches x_draft.switches ∧ Od B l_draft_keepers x_draft.keepers ∧ Ow B l_draft_gates x_draft.gates ∧ Od B l_draft_nexts x_draft.nexts ∧ Od B l_draft_nevers x_draft.nevers ∧ Od B l_draft_somes x_draft.somes ∧ Od B l_draft_names x_draft.names ∧ Rp.R B v_words x_words ∧ m_p_draft_row x_draft x_words = some r ∧ ∀ w B' H' l_draft_switches' l_draft_keepers' l_draft_gates' l_draft_nexts' l_draft_nevers' l_draft_somes' l_draft_names', Ws [d_draft, a_draft, a_draft_switches, a_draft_keepers, a_draft_gates, a_draft_nexts, a_draft_nevers, a_draft_somes, a_draft_names] B H B' H' [(d_draft, .own a_draft), (a_draft, .ins Cs.c_Draft d_draft [("switches", V.ref a_draft_switches), ("keepers", V.ref a_draft_keepers), ("gates", V.ref a_draft_gates), ("nexts", V.ref a_draft_nexts), ("nevers", V.ref a_draft_nevers), ("somes", V.ref a_draft_somes), ("names", V.ref a_draft_names)]), (a_draft_switches, .lst l_draft_switches'), (a_draft_keepers, .dK l_draft_keepers'), (a_draft_gates, .lst l_draft_gates'), (a_draft_nexts, .dK l_draft_nexts'), (a_draft_nevers, .dK l_draft_nevers'), (a_draft_somes, .dK l_draft_somes'), (a_draft_names, .dK l_draft_names')] → Rp.R B' w r.1 → Ow B' l_draft_switches' r.2.switches → Od B' l_draft_keepers' r.2.keepers → Ow B' l_draft_gates' r.2.gates → Od B' l_draft_nexts' r.2.nexts → Od B' l_draft_nevers' r.2.nevers → Od B' l_draft_somes' r.2.somes → Od B' l_draft_names' r.2.names → Q w H'
abbrev s_p_draft_row : Stmt := top 26
theorem sc_p_draft_row : FnScope ["draft", "words"] ["draft", "words"] (C8.fnScope s_p_draft_row) := C8.fnScope_by (by decide +kernel)
theorem ok_p_draft_row [Cs] (T : Tx w K mg) (c_p_switch_row : C8.Cal P w K mg base 2 "switch_row" (sp_p_switch_row K) []) (c_p_keep_row : C8.Cal P w K mg base 2 "keep_row" (sp_p_keep_row K) []) (c_p_gate_row : C8.Cal P w K mg base 3 "gate_row" (sp_p_gate_row K) []) (c_p_next_row : C8.Cal P w K mg base 3 "next_row" (sp_p_next_row K) []) (c_wish_row_nevers : C8.Cal P w K mg base 3 "wish_row" (sp_wish_row_nevers K) []) (c_wish_row_somes : C8.Cal P w K mg base 3 "wish_row" (sp_wish_row_somes K) []) {f : Addr} {fd : FuncData} (F : C8.Def K mg "draft_row" s_p_draft_row f fd) (b : Binds K fd ["draft", "words"] []) : C8.Cal P w K mg base 4 "draft_row" (sp_p_draft_row K) [] := by
  refine C8.cal0 F b .nil sc_p_draft_row (fun vs H Q E h => ?_) (fun cdv A outer s H vs Q E hr h => ?_)
  · obtain ⟨B, a_draft, d_draft, a_draft_switches, l_draft_switches, a_draft_keepers, l_draft_keepers, a_draft_gates, l_draft_gates, a_draft_nexts, l_draft_nexts, a_draft_nevers, l_draft_nevers, a_draft_somes, l_draft_somes, a_draft_names, l_draft_names, x_draft, v_words, x_words, r, rfl, _⟩ := h
    rfl
  obtain ⟨B, a_draft, d_draft, a_draft_switches, l_draft_switches, a_draft_keepers, l_draft_keepers, a_draft_gates, l_draft_gates, a_draft_nexts, l_draft_nexts, a_draft_nevers, l_draft_nevers, a_draft_somes, l_draft_somes, a_draft_names, l_draft_names, x_draft, v_words, x_words, r, rfl, W, o_draft_switches, o_draft_keepers, o_draft_gates, o_draft_nexts, o_draft_nevers, o_draft_somes, o_draft_names, r_words, h, k⟩ := h
  refine ⟨_, (pss_cons (ps_if (pt_cmpR op_eq (pe_ix (k_ixL (K := K)) (pv 1) pe_int (fun _ _ => rfl)) pe_str (nomark _)) (pss_one (ps_ret (C8.pe_c c_p_switch_row hr (by omega) (by rfl) (pa_cons (pv 0) (pa_cons (pe_slice (k_slL (K := K)) (pv 1) (po_some pe_int) po_none) pa_nil))))) pss_nil) (pss_cons (ps_if (pt_cmpR op_eq (pe_ix (k_ixL (K := K)) (pv 1) pe_int (fun _ _ => rfl)) pe_str (nomark _)) (pss_one (ps_ret (C8.pe_c c_p_keep_row hr (by omega) (by rfl) (pa_cons (pv 0) (pa_cons (pe_slice (k_slL (K := K)) (pv 1) (po_some pe_int) po_none) pa_nil))))) pss_nil) (pss_cons (ps_if (pt_cmpR op_eq (pe_ix (k_ixL (K := K)) (pv 1) pe_int (fun _ _ => rfl)) pe_str (nomark _)) (pss_one (ps_ret (C8.pe_c c_p_gate_row hr (by omega) (by rfl) (pa_cons (pv 0) (pa_cons (pe_slice (k_slL (K := K)) (pv 1) (po_some pe_int) po_none) pa_nil))))) pss_nil) (pss_cons (ps_if (pt_cmpR op_eq (pe_ix (k_ixL (K := K)) (pv 1) pe_int (fun _ _ => rfl)) pe_str (nomark _)) (pss_one (ps_ret (C8.pe_c c_p_next_row hr (by omega) (by rfl) (pa_cons (pv 0) (pa_cons (pe_slice (k_slL (K := K)) (pv 1) (po_some pe_int) po_none) pa_nil))))) pss_nil) (pss_cons (ps_if (pt_cmpR op_eq (pe_ix (k_ixL (K := K)) (pv 1) pe_int (fun _ _ => rfl)) pe_str (nomark _)) (pss_one (ps_ret (C8.pe_c c_wish_row_nevers hr (by omega) (by rfl) (pa_cons (pv 0) (pa_cons (k_fld (K := K) (pv 0)) (pa_cons (pe_slice (k_slL (K := K)) (pv 1) (po_some pe_int) po_none) pa_nil)))))) pss_nil) (pss_cons (ps_if (pt_cmpR op_eq (pe_ix (k_ixL (K := K)) (pv 1) pe_int (fun _ _ => rfl)) pe_str (nomark _)) (pss_one (ps_ret (C8.pe_c c_wish_row_somes hr (by omega) (by rfl) (pa_cons (pv 0) (pa_cons (k_fld (K := K) (pv 0)) (pa_cons (pe_slice (k_slL (K := K)) (pv 1) (po_some pe_int) po_none) pa_nil)))))) pss_nil) (pss_one (ps_ret pe_str)))))))), ?_⟩
  refine st_ (σ' := [some (V.ref a_draft), some v_words]) rfl ?_
  unfold m_p_draft_row at h
  obtain ⟨x3, ex3, h⟩ := bs h
  refine seq_ ?_
  refine if_ (fun v' H' => v' = (decide (x3 = ("switch" : Str))) ∧ H = H') (fun Q1 kk2 => ?_) (fun Hq hw => ?_) (fun Hq hw => ?_)
  · refine tst_ ?_
    refine op_ ?_
    refine op_ ?_
    refine var_ rfl ?_
    refine cst_ ?_
    refine ixL_ W r_words ex3 fun v4 r5 => ?_
    obtain rfl : v4 = V.str x3 := r5
    refine cst_ ?_
    refine eqS_ ?_
    refine ⟨_, rfl, ?_⟩
    exact kk2 _ _ ⟨rfl, rfl⟩
  · obtain ⟨c6, rfl⟩ := hw
    have c6 := c6.symm
    have h := opT c6 h
    obtain ⟨r14, er14, h⟩ := bs h
    refine ret_ ?_
    refine call_ ?_
    refine tcons_ ?_
    refine var_ rfl ?_
    refine tcons_ ?_
    refine sl_ ?_
    refine var_ rfl ?_
    refine part_ ?_
    refine cst_ ?_
    refine ⟨_, rfl, ?_⟩
    refine nopart_ ?_
    refine slL_ W r_words fun v7 B8 H9 W10 l11 r12 => ?_
    refine tnil_ ?_
    have L13 := Ws.ln (O1 := []) (O := [(d_draft, .own a_draft), (a_draft, .ins Cs.c_Draft d_draft [("switches", V.ref a_draft_switches), ("keepers", V.ref a_draft_keepers), ("gates", V.ref a_draft_gates), ("nexts", V.ref a_draft_nexts), ("nevers", V.ref a_draft_nevers), ("somes", V.ref a_draft_somes), ("names", V.ref a_draft_names)]), (a_draft_switches, .lst l_draft_switches), (a_draft_keepers, .dK l_draft_keepers), (a_draft_gates, .lst l_draft_gates), (a_draft_nexts, .dK l_draft_nexts), (a_draft_nevers, .dK l_draft_nevers), (a_draft_somes, .dK l_draft_somes), (a_draft_names, .dK l_draft_names)]) (O2 := []) W10
    refine ⟨B8, a_draft, d_draft, a_draft_switches, l_draft_switches, a_draft_keepers, l_draft_keepers, a_draft_gates, l_draft_gates, a_draft_nexts, l_draft_nexts, a_draft_nevers, l_draft_nevers, a_draft_somes, l_draft_somes, a_draft_names, l_draft_names, x_draft, v7, (cutL x_words (some (1 : Int)) none), r14, rfl, Ln.call (O1 := []) (O := [(d_draft, .own a_draft), (a_draft, .ins Cs.c_Draft d_draft [("switches", V.ref a_draft_switches), ("keepers", V.ref a_draft_keepers), ("gates", V.ref a_draft_gates), ("nexts", V.ref a_draft_nexts), ("nevers", V.ref a_draft_nevers), ("somes", V.ref a_draft_somes), ("names", V.ref a_draft_names)]), (a_draft_switches, .lst l_draft_switches), (a_draft_keepers, .dK l_draft_keepers), (a_draft_gates, .lst l_draft_gates), (a_draft_nexts, .dK l_draft_nexts), (a_draft_nevers, .dK l_draft_nevers), (a_draft_somes, .dK l_draft_somes), (a_draft_names, .dK l_draft_names)]) (O2 := []) L13 W10, (Ow.mono l11 o_draft_switches), (Od.mono l11 o_draft_keepers), (Ow.mono l11 o_draft_gates), (Od.mono l11 o_draft_nexts), (Od.mono l11 o_draft_nevers), (Od.mono l11 o_draft_somes), (Od.mono l11 o_draft_names), r12, er14, fun v15 B16 H17 l20 l22 l24 l26 l28 l30 l32 V18 q19 o21 o23 o25 o27 o29 o31 o33 => ?_⟩
    have W34 := Ws.back (O1 := []) (O := [(d_draft, .own a_draft), (a_draft, .ins Cs.c_Draft d_draft [("switches", V.ref a_draft_switches), ("keepers", V.ref a_draft_keepers), ("gates", V.ref a_draft_gates), ("nexts", V.ref a_draft_nexts), ("nevers", V.ref a_draft_nevers), ("somes", V.ref a_draft_somes), ("names", V.ref a_draft_names)]), (a_draft_switches, .lst l_draft_switches), (a_draft_keepers, .dK l_draft_keepers), (a_draft_gates, .lst l_draft_gates), (a_draft_nexts, .dK l_draft_nexts), (a_draft_nevers, .dK l_draft_nevers), (a_draft_somes, .dK l_draft_somes), (a_draft_names, .dK l_draft_names)]) (O2 := []) W10 (O' := [(d_draft, .own a_draft), (a_draft, .ins Cs.c_Draft d_draft [("switches", V.ref a_draft_switches), ("keepers", V.ref a_draft_keepers), ("gates", V.ref a_draft_gates), ("nexts", V.ref a_draft_nexts), ("nevers", V.ref a_draft_nevers), ("somes", V.ref a_draft_somes), ("names", V.ref a_draft_names)]), (a_draft_switches, .lst l20), (a_draft_keepers, .dK l22), (a_draft_gates, .lst l24), (a_draft_nexts, .dK l26), (a_draft_nevers, .dK l28), (a_draft_somes, .dK l30), (a_draft_names, .dK l32)]) V18
    have l35 := (Ws.bb V18)
    have W34 : Ws [d_draft, a_draft, a_draft_switches, a_draft_keepers, a_draft_gates, a_draft_nexts, a_draft_nevers, a_draft_somes, a_draft_names] B H B16 H17 [(d_draft, .own a_draft), (a_draft, .ins Cs.c_Draft d_draft [("switches", V.ref a_draft_switches), ("keepers", V.ref a_draft_keepers), ("gates", V.ref a_draft_gates), ("nexts", V.ref a_draft_nexts), ("nevers", V.ref a_draft_nevers), ("somes", V.ref a_draft_somes), ("names", V.ref a_draft_names)]), (a_draft_switches, .lst l20), (a_draft_keepers, .dK l22), (a_draft_gates, .lst l24), (a_draft_nexts, .dK l26), (a_draft_nevers, .dK l28), (a_draft_somes, .dK l30), (a_draft_names, .dK l32)] := W34
    obtain rfl : v15 = V.str r14.1 := q19
    rw [← Option.some.inj h] at k
    have W34' : Ws [d_draft, a_draft, a_draft_switches, a_draft_keepers, a_draft_gates, a_draft_nexts, a_draft_nevers, a_draft_somes, a_draft_names] B H B16 H17 [(d_draft, .own a_draft), (a_draft, .ins Cs.c_Draft d_draft [("switches", V.ref a_draft_switches), ("keepers", V.ref a_draft_keepers), ("gates", V.ref a_draft_gates), ("nexts", V.ref a_draft_nexts), ("nevers", V.ref a_draft_nevers), ("somes", V.ref a_draft_somes), ("names", V.ref a_draft_names)]), (a_draft_switches, .lst l20), (a_draft_keepers, .dK l22), (a_draft_gates, .lst l24), (a_draft_nexts, .dK l26), (a_draft_nevers, .dK l28), (a_draft_somes, .dK l30), (a_draft_names, .dK l32)] := W34
    exact k (V.str r14.1) B16 H17 l20 l22 l24 l26 l28 l30 l32 W34' rfl o21 o23 o25 o27 o29 o31 o33
  · obtain ⟨c6, rfl⟩ := hw
    have c6 := c6.symm
    have h := opF c6 h
    refine next_ ?_
    refine nx_ ?_
    obtain ⟨x38, ex38, h⟩ := bs h
    refine seq_ ?_
    refine if_ (fun v' H' => v' = (decide (x38 = ("keep" : Str))) ∧ H = H') (fun Q36 kk37 => ?_) (fun Hq hw => ?_) (fun Hq hw => ?_)
    · refine tst_ ?_
      refine op_ ?_
      refine op_ ?_
      refine var_ rfl ?_
      refine cst_ ?_
      refine ixL_ W r_words ex38 fun v39 r40 => ?_
      obtain rfl : v39 = V.str x38 := r40
      refine cst_ ?_
      refine eqS_ ?_
      refine ⟨_, rfl, ?_⟩
      exact kk37 _ _ ⟨rfl, rfl⟩
    · obtain ⟨c41, rfl⟩ := hw
      have c41 := c41.symm
      have h := opT c41 h
      obtain ⟨r49, er49, h⟩ := bs h
      refine ret_ ?_
      refine call_ ?_
      refine tcons_ ?_
      refine var_ rfl ?_
      refine tcons_ ?_
      refine sl_ ?_
      refine var_ rfl ?_
      refine part_ ?_
      refine cst_ ?_
      refine ⟨_, rfl, ?_⟩
      refine nopart_ ?_
      refine slL_ W r_words fun v42 B43 H44 W45 l46 r47 => ?_
      refine tnil_ ?_
      have L48 := Ws.ln (O1 := []) (O := [(d_draft, .own a_draft), (a_draft, .ins Cs.c_Draft d_draft [("switches", V.ref a_draft_switches), ("keepers", V.ref a_draft_keepers), ("gates", V.ref a_draft_gates), ("nexts", V.ref a_draft_nexts), ("nevers", V.ref a_draft_nevers), ("somes", V.ref a_draft_somes), ("names", V.ref a_draft_names)]), (a_draft_switches, .lst l_draft_switches), (a_draft_keepers, .dK l_draft_keepers), (a_draft_gates, .lst l_draft_gates), (a_draft_nexts, .dK l_draft_nexts), (a_draft_nevers, .dK l_draft_nevers), (a_draft_somes, .dK l_draft_somes), (a_draft_names, .dK l_draft_names)]) (O2 := []) W45
      refine ⟨B43, a_draft, d_draft, a_draft_switches, l_draft_switches, a_draft_keepers, l_draft_keepers, a_draft_gates, l_draft_gates, a_draft_nexts, l_draft_nexts, a_draft_nevers, l_draft_nevers, a_draft_somes, l_draft_somes, a_draft_names, l_draft_names, x_draft, v42, (cutL x_words (some (1 : Int)) none), r49, rfl, Ln.call (O1 := []) (O := [(d_draft, .own a_draft), (a_draft, .ins Cs.c_Draft d_draft [("switches", V.ref a_draft_switches), ("keepers", V.ref a_draft_keepers), ("gates", V.ref a_draft_gates), ("nexts", V.ref a_draft_nexts), ("nevers", V.ref a_draft_nevers), ("somes", V.ref a_draft_somes), ("names", V.ref a_draft_names)]), (a_draft_switches, .lst l_draft_switches), (a_draft_keepers, .dK l_draft_keepers), (a_draft_gates, .lst l_draft_gates), (a_draft_nexts, .dK l_draft_nexts), (a_draft_nevers, .dK l_draft_nevers), (a_draft_somes, .dK l_draft_somes), (a_draft_names, .dK l_draft_names)]) (O2 := []) L48 W45, (Ow.mono l46 o_draft_switches), (Od.mono l46 o_draft_keepers), (Ow.mono l46 o_draft_gates), (Od.mono l46 o_draft_nexts), (Od.mono l46 o_draft_nevers), (Od.mono l46 o_draft_somes), (Od.mono l46 o_draft_names), r47, er49, fun v50 B51 H52 l55 l57 l59 l61 l63 l65 l67 V53 q54 o56 o58 o60 o62 o64 o66 o68 => ?_⟩
      have W69 := Ws.back (O1 := []) (O := [(d_draft, .own a_draft), (a_draft, .ins Cs.c_Draft d_draft [("switches", V.ref a_draft_switches), ("keepers", V.ref a_draft_keepers), ("gates", V.ref a_draft_gates), ("nexts", V.ref a_draft_nexts), ("nevers", V.ref a_draft_nevers), ("somes", V.ref a_draft_somes), ("names", V.ref a_draft_names)]), (a_draft_switches, .lst l_draft_switches), (a_draft_keepers, .dK l_draft_keepers), (a_draft_gates, .lst l_draft_gates), (a_draft_nexts, .dK l_draft_nexts), (a_draft_nevers, .dK l_draft_nevers), (a_draft_somes, .dK l_draft_somes), (a_draft_names, .dK l_draft_names)]) (O2 := []) W45 (O' := [(d_draft, .own a_draft), (a_draft, .ins Cs.c_Draft d_draft [("switches", V.ref a_draft_switches), ("keepers", V.ref a_draft_keepers), ("gates", V.ref a_draft_gates), ("nexts", V.ref a_draft_nexts), ("nevers", V.ref a_draft_nevers), ("somes", V.ref a_draft_somes), ("names", V.ref a_draft_names)]), (a_draft_switches, .lst l55), (a_draft_keepers, .dK l57), (a_draft_gates, .lst l59), (a_draft_nexts, .dK l61), (a_draft_nevers, .dK l63), (a_draft_somes, .dK l65), (a_draft_names, .dK l67)]) V53
      have l70 := (Ws.bb V53)
      have W69 : Ws [d_draft, a_draft, a_draft_switches, a_draft_keepers, a_draft_gates, a_draft_nexts, a_draft_nevers, a_draft_somes, a_draft_names] B H B51 H52 [(d_draft, .own a_draft), (a_draft, .ins Cs.c_Draft d_draft [("switches", V.ref a_draft_switches), ("keepers", V.ref a_draft_keepers), ("gates", V.ref a_draft_gates), ("nexts", V.ref a_draft_nexts), ("nevers", V.ref a_draft_nevers), ("somes", V.ref a_draft_somes), ("names", V.ref a_draft_names)]), (a_draft_switches, .lst l55), (a_draft_keepers, .dK l57), (a_draft_gates, .lst l59), (a_draft_nexts, .dK l61), (a_draft_nevers, .dK l63), (a_draft_somes, .dK l65), (a_draft_names, .dK l67)] := W69
      obtain rfl : v50 = V.str r49.1 := q54
      rw [← Option.some.inj h] at k
      have W69' : Ws [d_draft, a_draft, a_draft_switches, a_draft_keepers, a_draft_gates, a_draft_nexts, a_draft_nevers, a_draft_somes, a_draft_names] B H B51 H52 [(d_draft, .own a_draft), (a_draft, .ins Cs.c_Draft d_draft [("switches", V.ref a_draft_switches), ("keepers", V.ref a_draft_keepers), ("gates", V.ref a_draft_gates), ("nexts", V.ref a_draft_nexts), ("nevers", V.ref a_draft_nevers), ("somes", V.ref a_draft_somes), ("names", V.ref a_draft_names)]), (a_draft_switches, .lst l55), (a_draft_keepers, .dK l57), (a_draft_gates, .lst l59), (a_draft_nexts, .dK l61), (a_draft_nevers, .dK l63), (a_draft_somes, .dK l65), (a_draft_names, .dK l67)] := W69
      exact k (V.str r49.1) B51 H52 l55 l57 l59 l61 l63 l65 l67 W69' rfl o56 o58 o60 o62 o64 o66 o68
    · obtain ⟨c41, rfl⟩ := hw
      have c41 := c41.symm
      have h := opF c41 h
      refine next_ ?_
      refine nx_ ?_
      obtain ⟨x73, ex73, h⟩ := bs h
      refine seq_ ?_
      refine if_ (fun v' H' => v' = (decide (x73 = ("gate" : Str))) ∧ H = H') (fun Q71 kk72 => ?_) (fun Hq hw => ?_) (fun Hq hw => ?_)
      · refine tst_ ?_
        refine op_ ?_
        refine op_ ?_
        refine var_ rfl ?_
        refine cst_ ?_
        refine ixL_ W r_words ex73 fun v74 r75 => ?_
        obtain rfl : v74 = V.str x73 := r75
        refine cst_ ?_
        refine eqS_ ?_
        refine ⟨_, rfl, ?_⟩
        exact kk72 _ _ ⟨rfl, rfl⟩
      · obtain ⟨c76, rfl⟩ := hw
        have c76 := c76.symm
        have h := opT c76 h
        obtain ⟨r84, er84, h⟩ := bs h
        refine ret_ ?_
        refine call_ ?_
        refine tcons_ ?_
        refine var_ rfl ?_
        refine tcons_ ?_
        refine sl_ ?_
        refine var_ rfl ?_
        refine part_ ?_
        refine cst_ ?_
        refine ⟨_, rfl, ?_⟩
        refine nopart_ ?_
        refine slL_ W r_words fun v77 B78 H79 W80 l81 r82 => ?_
        refine tnil_ ?_
        have L83 := Ws.ln (O1 := []) (O := [(d_draft, .own a_draft), (a_draft, .ins Cs.c_Draft d_draft [("switches", V.ref a_draft_switches), ("keepers", V.ref a_draft_keepers), ("gates", V.ref a_draft_gates), ("nexts", V.ref a_draft_nexts), ("nevers", V.ref a_draft_nevers), ("somes", V.ref a_draft_somes), ("names", V.ref a_draft_names)]), (a_draft_switches, .lst l_draft_switches), (a_draft_keepers, .dK l_draft_keepers), (a_draft_gates, .lst l_draft_gates), (a_draft_nexts, .dK l_draft_nexts), (a_draft_nevers, .dK l_draft_nevers), (a_draft_somes, .dK l_draft_somes), (a_draft_names, .dK l_draft_names)]) (O2 := []) W80
        refine ⟨B78, a_draft, d_draft, a_draft_switches, l_draft_switches, a_draft_keepers, l_draft_keepers, a_draft_gates, l_draft_gates, a_draft_nexts, l_draft_nexts, a_draft_nevers, l_draft_nevers, a_draft_somes, l_draft_somes, a_draft_names, l_draft_names, x_draft, v77, (cutL x_words (some (1 : Int)) none), r84, rfl, Ln.call (O1 := []) (O := [(d_draft, .own a_draft), (a_draft, .ins Cs.c_Draft d_draft [("switches", V.ref a_draft_switches), ("keepers", V.ref a_draft_keepers), ("gates", V.ref a_draft_gates), ("nexts", V.ref a_draft_nexts), ("nevers", V.ref a_draft_nevers), ("somes", V.ref a_draft_somes), ("names", V.ref a_draft_names)]), (a_draft_switches, .lst l_draft_switches), (a_draft_keepers, .dK l_draft_keepers), (a_draft_gates, .lst l_draft_gates), (a_draft_nexts, .dK l_draft_nexts), (a_draft_nevers, .dK l_draft_nevers), (a_draft_somes, .dK l_draft_somes), (a_draft_names, .dK l_draft_names)]) (O2 := []) L83 W80, (Ow.mono l81 o_draft_switches), (Od.mono l81 o_draft_keepers), (Ow.mono l81 o_draft_gates), (Od.mono l81 o_draft_nexts), (Od.mono l81 o_draft_nevers), (Od.mono l81 o_draft_somes), (Od.mono l81 o_draft_names), r82, er84, fun v85 B86 H87 l90 l92 l94 l96 l98 l100 l102 V88 q89 o91 o93 o95 o97 o99 o101 o103 => ?_⟩
        have W104 := Ws.back (O1 := []) (O := [(d_draft, .own a_draft), (a_draft, .ins Cs.c_Draft d_draft [("switches", V.ref a_draft_switches), ("keepers", V.ref a_draft_keepers), ("gates", V.ref a_draft_gates), ("nexts", V.ref a_draft_nexts), ("nevers", V.ref a_draft_nevers), ("somes", V.ref a_draft_somes), ("names", V.ref a_draft_names)]), (a_draft_switches, .lst l_draft_switches), (a_draft_keepers, .dK l_draft_keepers), (a_draft_gates, .lst l_draft_gates), (a_draft_nexts, .dK l_draft_nexts), (a_draft_nevers, .dK l_draft_nevers), (a_draft_somes, .dK l_draft_somes), (a_draft_names, .dK l_draft_names)]) (O2 := []) W80 (O' := [(d_draft, .own a_draft), (a_draft, .ins Cs.c_Draft d_draft [("switches", V.ref a_draft_switches), ("keepers", V.ref a_draft_keepers), ("gates", V.ref a_draft_gates), ("nexts", V.ref a_draft_nexts), ("nevers", V.ref a_draft_nevers), ("somes", V.ref a_draft_somes), ("names", V.ref a_draft_names)]), (a_draft_switches, .lst l90), (a_draft_keepers, .dK l92), (a_draft_gates, .lst l94), (a_draft_nexts, .dK l96), (a_draft_nevers, .dK l98), (a_draft_somes, .dK l100), (a_draft_names, .dK l102)]) V88
        have l105 := (Ws.bb V88)
        have W104 : Ws [d_draft, a_draft, a_draft_switches, a_draft_keepers, a_draft_gates, a_draft_nexts, a_draft_nevers, a_draft_somes, a_draft_names] B H B86 H87 [(d_draft, .own a_draft), (a_draft, .ins Cs.c_Draft d_draft [("switches", V.ref a_draft_switches), ("keepers", V.ref a_draft_keepers), ("gates", V.ref a_draft_gates), ("nexts", V.ref a_draft_nexts), ("nevers", V.ref a_draft_nevers), ("somes", V.ref a_draft_somes), ("names", V.ref a_draft_names)]), (a_draft_switches, .lst l90), (a_draft_keepers, .dK l92), (a_draft_gates, .lst l94), (a_draft_nexts, .dK l96), (a_draft_nevers, .dK l98), (a_draft_somes, .dK l100), (a_draft_names, .dK l102)] := W104
        obtain rfl : v85 = V.str r84.1 := q89
        rw [← Option.some.inj h] at k
        have W104' : Ws [d_draft, a_draft, a_draft_switches, a_draft_keepers, a_draft_gates, a_draft_nexts, a_draft_nevers, a_draft_somes, a_draft_names] B H B86 H87 [(d_draft, .own a_draft), (a_draft, .ins Cs.c_Draft d_draft [("switches", V.ref a_draft_switches), ("keepers", V.ref a_draft_keepers), ("gates", V.ref a_draft_gates), ("nexts", V.ref a_draft_nexts), ("nevers", V.ref a_draft_nevers), ("somes", V.ref a_draft_somes), ("names", V.ref a_draft_names)]), (a_draft_switches, .lst l90), (a_draft_keepers, .dK l92), (a_draft_gates, .lst l94), (a_draft_nexts, .dK l96), (a_draft_nevers, .dK l98), (a_draft_somes, .dK l100), (a_draft_names, .dK l102)] := W104
        exact k (V.str r84.1) B86 H87 l90 l92 l94 l96 l98 l100 l102 W104' rfl o91 o93 o95 o97 o99 o101 o103
      · obtain ⟨c76, rfl⟩ := hw
        have c76 := c76.symm
        have h := opF c76 h
        refine next_ ?_
        refine nx_ ?_
        obtain ⟨x108, ex108, h⟩ := bs h
        refine seq_ ?_
        refine if_ (fun v' H' => v' = (decide (x108 = ("next" : Str))) ∧ H = H') (fun Q106 kk107 => ?_) (fun Hq hw => ?_) (fun Hq hw => ?_)
        · refine tst_ ?_
          refine op_ ?_
          refine op_ ?_
          refine var_ rfl ?_
          refine cst_ ?_
          refine ixL_ W r_words ex108 fun v109 r110 => ?_
          obtain rfl : v109 = V.str x108 := r110
          refine cst_ ?_
          refine eqS_ ?_
          refine ⟨_, rfl, ?_⟩
          exact kk107 _ _ ⟨rfl, rfl⟩
        · obtain ⟨c111, rfl⟩ := hw
          have c111 := c111.symm
          have h := opT c111 h
          obtain ⟨r119, er119, h⟩ := bs h
          refine ret_ ?_
          refine call_ ?_
          refine tcons_ ?_
          refine var_ rfl ?_
          refine tcons_ ?_
          refine sl_ ?_
          refine var_ rfl ?_
          refine part_ ?_
          refine cst_ ?_
          refine ⟨_, rfl, ?_⟩
          refine nopart_ ?_
          refine slL_ W r_words fun v112 B113 H114 W115 l116 r117 => ?_
          refine tnil_ ?_
          have L118 := Ws.ln (O1 := []) (O := [(d_draft, .own a_draft), (a_draft, .ins Cs.c_Draft d_draft [("switches", V.ref a_draft_switches), ("keepers", V.ref a_draft_keepers), ("gates", V.ref a_draft_gates), ("nexts", V.ref a_draft_nexts), ("nevers", V.ref a_draft_nevers), ("somes", V.ref a_draft_somes), ("names", V.ref a_draft_names)]), (a_draft_switches, .lst l_draft_switches), (a_draft_keepers, .dK l_draft_keepers), (a_draft_gates, .lst l_draft_gates), (a_draft_nexts, .dK l_draft_nexts), (a_draft_nevers, .dK l_draft_nevers), (a_draft_somes, .dK l_draft_somes), (a_draft_names, .dK l_draft_names)]) (O2 := []) W115
          refine ⟨B113, a_draft, d_draft, a_draft_switches, l_draft_switches, a_draft_keepers, l_draft_keepers, a_draft_gates, l_draft_gates, a_draft_nexts, l_draft_nexts, a_draft_nevers, l_draft_nevers, a_draft_somes, l_draft_somes, a_draft_names, l_draft_names, x_draft, v112, (cutL x_words (some (1 : Int)) none), r119, rfl, Ln.call (O1 := []) (O := [(d_draft, .own a_draft), (a_draft, .ins Cs.c_Draft d_draft [("switches", V.ref a_draft_switches), ("keepers", V.ref a_draft_keepers), ("gates", V.ref a_draft_gates), ("nexts", V.ref a_draft_nexts), ("nevers", V.ref a_draft_nevers), ("somes", V.ref a_draft_somes), ("names", V.ref a_draft_names)]), (a_draft_switches, .lst l_draft_switches), (a_draft_keepers, .dK l_draft_keepers), (a_draft_gates, .lst l_draft_gates), (a_draft_nexts, .dK l_draft_nexts), (a_draft_nevers, .dK l_draft_nevers), (a_draft_somes, .dK l_draft_somes), (a_draft_names, .dK l_draft_names)]) (O2 := []) L118 W115, (Ow.mono l116 o_draft_switches), (Od.mono l116 o_draft_keepers), (Ow.mono l116 o_draft_gates), (Od.mono l116 o_draft_nexts), (Od.mono l116 o_draft_nevers), (Od.mono l116 o_draft_somes), (Od.mono l116 o_draft_names), r117, er119, fun v120 B121 H122 l125 l127 l129 l131 l133 l135 l137 V123 q124 o126 o128 o130 o132 o134 o136 o138 => ?_⟩
          have W139 := Ws.back (O1 := []) (O := [(d_draft, .own a_draft), (a_draft, .ins Cs.c_Draft d_draft [("switches", V.ref a_draft_switches), ("keepers", V.ref a_draft_keepers), ("gates", V.ref a_draft_gates), ("nexts", V.ref a_draft_nexts), ("nevers", V.ref a_draft_nevers), ("somes", V.ref a_draft_somes), ("names", V.ref a_draft_names)]), (a_draft_switches, .lst l_draft_switches), (a_draft_keepers, .dK l_draft_keepers), (a_draft_gates, .lst l_draft_gates), (a_draft_nexts, .dK l_draft_nexts), (a_draft_nevers, .dK l_draft_nevers), (a_draft_somes, .dK l_draft_somes), (a_draft_names, .dK l_draft_names)]) (O2 := []) W115 (O' := [(d_draft, .own a_draft), (a_draft, .ins Cs.c_Draft d_draft [("switches", V.ref a_draft_switches), ("keepers", V.ref a_draft_keepers), ("gates", V.ref a_draft_gates), ("nexts", V.ref a_draft_nexts), ("nevers", V.ref a_draft_nevers), ("somes", V.ref a_draft_somes), ("names", V.ref a_draft_names)]), (a_draft_switches, .lst l125), (a_draft_keepers, .dK l127), (a_draft_gates, .lst l129), (a_draft_nexts, .dK l131), (a_draft_nevers, .dK l133), (a_draft_somes, .dK l135), (a_draft_names, .dK l137)]) V123
          have l140 := (Ws.bb V123)
          have W139 : Ws [d_draft, a_draft, a_draft_switches, a_draft_keepers, a_draft_gates, a_draft_nexts, a_draft_nevers, a_draft_somes, a_draft_names] B H B121 H122 [(d_draft, .own a_draft), (a_draft, .ins Cs.c_Draft d_draft [("switches", V.ref a_draft_switches), ("keepers", V.ref a_draft_keepers), ("gates", V.ref a_draft_gates), ("nexts", V.ref a_draft_nexts), ("nevers", V.ref a_draft_nevers), ("somes", V.ref a_draft_somes), ("names", V.ref a_draft_names)]), (a_draft_switches, .lst l125), (a_draft_keepers, .dK l127), (a_draft_gates, .lst l129), (a_draft_nexts, .dK l131), (a_draft_nevers, .dK l133), (a_draft_somes, .dK l135), (a_draft_names, .dK l137)] := W139
          obtain rfl : v120 = V.str r119.1 := q124
          rw [← Option.some.inj h] at k
          have W139' : Ws [d_draft, a_draft, a_draft_switches, a_draft_keepers, a_draft_gates, a_draft_nexts, a_draft_nevers, a_draft_somes, a_draft_names] B H B121 H122 [(d_draft, .own a_draft), (a_draft, .ins Cs.c_Draft d_draft [("switches", V.ref a_draft_switches), ("keepers", V.ref a_draft_keepers), ("gates", V.ref a_draft_gates), ("nexts", V.ref a_draft_nexts), ("nevers", V.ref a_draft_nevers), ("somes", V.ref a_draft_somes), ("names", V.ref a_draft_names)]), (a_draft_switches, .lst l125), (a_draft_keepers, .dK l127), (a_draft_gates, .lst l129), (a_draft_nexts, .dK l131), (a_draft_nevers, .dK l133), (a_draft_somes, .dK l135), (a_draft_names, .dK l137)] := W139
          exact k (V.str r119.1) B121 H122 l125 l127 l129 l131 l133 l135 l137 W139' rfl o126 o128 o130 o132 o134 o136 o138
        · obtain ⟨c111, rfl⟩ := hw
          have c111 := c111.symm
          have h := opF c111 h
          refine next_ ?_
          refine nx_ ?_
          obtain ⟨x143, ex143, h⟩ := bs h
          refine seq_ ?_
          refine if_ (fun v' H' => v' = (decide (x143 = ("never" : Str))) ∧ H = H') (fun Q141 kk142 => ?_) (fun Hq hw => ?_) (fun Hq hw => ?_)
          · refine tst_ ?_
            refine op_ ?_
            refine op_ ?_
            refine var_ rfl ?_
            refine cst_ ?_
            refine ixL_ W r_words ex143 fun v144 r145 => ?_
            obtain rfl : v144 = V.str x143 := r145
            refine cst_ ?_
            refine eqS_ ?_
            refine ⟨_, rfl, ?_⟩
            exact kk142 _ _ ⟨rfl, rfl⟩
          · obtain ⟨c146, rfl⟩ := hw
            have c146 := c146.symm
            have h := opT c146 h
            obtain ⟨r154, er154, h⟩ := bs h
            refine ret_ ?_
            refine call_ ?_
            refine tcons_ ?_
            refine var_ rfl ?_
            refine tcons_ ?_
            refine fld_ ?_
            refine var_ rfl ?_
            refine fldO (ns := (["switches", "keepers", "gates", "nexts", "nevers", "somes", "names"] : List Str)) W 1 rfl T.cls_Draft T.na_Draft_nevers rfl (by decide +kernel) 4 rfl ?_
            refine tcons_ ?_
            refine sl_ ?_
            refine var_ rfl ?_
            refine part_ ?_
            refine cst_ ?_
            refine ⟨_, rfl, ?_⟩
            refine nopart_ ?_
            refine slL_ W r_words fun v147 B148 H149 W150 l151 r152 => ?_
            refine tnil_ ?_
            have L153 := Ws.ln (O1 := []) (O := [(d_draft, .own a_draft), (a_draft, .ins Cs.c_Draft d_draft [("switches", V.ref a_draft_switches), ("keepers", V.ref a_draft_keepers), ("gates", V.ref a_draft_gates), ("nexts", V.ref a_draft_nexts), ("nevers", V.ref a_draft_nevers), ("somes", V.ref a_draft_somes), ("names", V.ref a_draft_names)]), (a_draft_switches, .lst l_draft_switches), (a_draft_keepers, .dK l_draft_keepers), (a_draft_gates, .lst l_draft_gates), (a_draft_nexts, .dK l_draft_nexts), (a_draft_nevers, .dK l_draft_nevers), (a_draft_somes, .dK l_draft_somes), (a_draft_names, .dK l_draft_names)]) (O2 := []) W150
            refine ⟨B148, a_draft, d_draft, a_draft_switches, l_draft_switches, a_draft_keepers, l_draft_keepers, a_draft_gates, l_draft_gates, a_draft_nexts, l_draft_nexts, a_draft_nevers, l_draft_nevers, a_draft_somes, l_draft_somes, a_draft_names, l_draft_names, x_draft, v147, (cutL x_words (some (1 : Int)) none), r154, rfl, Ln.call (O1 := []) (O := [(d_draft, .own a_draft), (a_draft, .ins Cs.c_Draft d_draft [("switches", V.ref a_draft_switches), ("keepers", V.ref a_draft_keepers), ("gates", V.ref a_draft_gates), ("nexts", V.ref a_draft_nexts), ("nevers", V.ref a_draft_nevers), ("somes", V.ref a_draft_somes), ("names", V.ref a_draft_names)]), (a_draft_switches, .lst l_draft_switches), (a_draft_keepers, .dK l_draft_keepers), (a_draft_gates, .lst l_draft_gates), (a_draft_nexts, .dK l_draft_nexts), (a_draft_nevers, .dK l_draft_nevers), (a_draft_somes, .dK l_draft_somes), (a_draft_names, .dK l_draft_names)]) (O2 := []) L153 W150, (Ow.mono l151 o_draft_switches), (Od.mono l151 o_draft_keepers), (Ow.mono l151 o_draft_gates), (Od.mono l151 o_draft_nexts), (Od.mono l151 o_draft_nevers), (Od.mono l151 o_draft_somes), (Od.mono l151 o_draft_names), r152, er154, fun v155 B156 H157 l160 l162 l164 l166 l168 l170 l172 V158 q159 o161 o163 o165 o167 o169 o171 o173 => ?_⟩
            have W174 := Ws.back (O1 := []) (O := [(d_draft, .own a_draft), (a_draft, .ins Cs.c_Draft d_draft [("switches", V.ref a_draft_switches), ("keepers", V.ref a_draft_keepers), ("gates", V.ref a_draft_gates), ("nexts", V.ref a_draft_nexts), ("nevers", V.ref a_draft_nevers), ("somes", V.ref a_draft_somes), ("names", V.ref a_draft_names)]), (a_draft_switches, .lst l_draft_switches), (a_draft_keepers, .dK l_draft_keepers), (a_draft_gates, .lst l_draft_gates), (a_draft_nexts, .dK l_draft_nexts), (a_draft_nevers, .dK l_draft_nevers), (a_draft_somes, .dK l_draft_somes), (a_draft_names, .dK l_draft_names)]) (O2 := []) W150 (O' := [(d_draft, .own a_draft), (a_draft, .ins Cs.c_Draft d_draft [("switches", V.ref a_draft_switches), ("keepers", V.ref a_draft_keepers), ("gates", V.ref a_draft_gates), ("nexts", V.ref a_draft_nexts), ("nevers", V.ref a_draft_nevers), ("somes", V.ref a_draft_somes), ("names", V.ref a_draft_names)]), (a_draft_switches, .lst l160), (a_draft_keepers, .dK l162), (a_draft_gates, .lst l164), (a_draft_nexts, .dK l166), (a_draft_nevers, .dK l168), (a_draft_somes, .dK l170), (a_draft_names, .dK l172)]) V158
            have l175 := (Ws.bb V158)
            have W174 : Ws [d_draft, a_draft, a_draft_switches, a_draft_keepers, a_draft_gates, a_draft_nexts, a_draft_nevers, a_draft_somes, a_draft_names] B H B156 H157 [(d_draft, .own a_draft), (a_draft, .ins Cs.c_Draft d_draft [("switches", V.ref a_draft_switches), ("keepers", V.ref a_draft_keepers), ("gates", V.ref a_draft_gates), ("nexts", V.ref a_draft_nexts), ("nevers", V.ref a_draft_nevers), ("somes", V.ref a_draft_somes), ("names", V.ref a_draft_names)]), (a_draft_switches, .lst l160), (a_draft_keepers, .dK l162), (a_draft_gates, .lst l164), (a_draft_nexts, .dK l166), (a_draft_nevers, .dK l168), (a_draft_somes, .dK l170), (a_draft_names, .dK l172)] := W174
            obtain rfl : v155 = V.str r154.1 := q159
            rw [← Option.some.inj h] at k
            have W174' : Ws [d_draft, a_draft, a_draft_switches, a_draft_keepers, a_draft_gates, a_draft_nexts, a_draft_nevers, a_draft_somes, a_draft_names] B H B156 H157 [(d_draft, .own a_draft), (a_draft, .ins Cs.c_Draft d_draft [("switches", V.ref a_draft_switches), ("keepers", V.ref a_draft_keepers), ("gates", V.ref a_draft_gates), ("nexts", V.ref a_draft_nexts), ("nevers", V.ref a_draft_nevers), ("somes", V.ref a_draft_somes), ("names", V.ref a_draft_names)]), (a_draft_switches, .lst l160), (a_draft_keepers, .dK l162), (a_draft_gates, .lst l164), (a_draft_nexts, .dK l166), (a_draft_nevers, .dK l168), (a_draft_somes, .dK l170), (a_draft_names, .dK l172)] := W174
            exact k (V.str r154.1) B156 H157 l160 l162 l164 l166 l168 l170 l172 W174' rfl o161 o163 o165 o167 o169 o171 o173
          · obtain ⟨c146, rfl⟩ := hw
            have c146 := c146.symm
            have h := opF c146 h
            refine next_ ?_
            refine nx_ ?_
            obtain ⟨x178, ex178, h⟩ := bs h
            refine seq_ ?_
            refine if_ (fun v' H' => v' = (decide (x178 = ("some" : Str))) ∧ H = H') (fun Q176 kk177 => ?_) (fun Hq hw => ?_) (fun Hq hw => ?_)
            · refine tst_ ?_
              refine op_ ?_
              refine op_ ?_
              refine var_ rfl ?_
              refine cst_ ?_
              refine ixL_ W r_words ex178 fun v179 r180 => ?_
              obtain rfl : v179 = V.str x178 := r180
              refine cst_ ?_
              refine eqS_ ?_
              refine ⟨_, rfl, ?_⟩
              exact kk177 _ _ ⟨rfl, rfl⟩
            · obtain ⟨c181, rfl⟩ := hw
              have c181 := c181.symm
              have h := opT c181 h
              obtain ⟨r189, er189, h⟩ := bs h
              refine ret_ ?_
              refine call_ ?_
              refine tcons_ ?_
              refine var_ rfl ?_
              refine tcons_ ?_
              refine fld_ ?_
              refine var_ rfl ?_
              refine fldO (ns := (["switches", "keepers", "gates", "nexts", "nevers", "somes", "names"] : List Str)) W 1 rfl T.cls_Draft T.na_Draft_somes rfl (by decide +kernel) 5 rfl ?_
              refine tcons_ ?_
              refine sl_ ?_
              refine var_ rfl ?_
              refine part_ ?_
              refine cst_ ?_
              refine ⟨_, rfl, ?_⟩
              refine nopart_ ?_
              refine slL_ W r_words fun v182 B183 H184 W185 l186 r187 => ?_
              refine tnil_ ?_
              have L188 := Ws.ln (O1 := []) (O := [(d_draft, .own a_draft), (a_draft, .ins Cs.c_Draft d_draft [("switches", V.ref a_draft_switches), ("keepers", V.ref a_draft_keepers), ("gates", V.ref a_draft_gates), ("nexts", V.ref a_draft_nexts), ("nevers", V.ref a_draft_nevers), ("somes", V.ref a_draft_somes), ("names", V.ref a_draft_names)]), (a_draft_switches, .lst l_draft_switches), (a_draft_keepers, .dK l_draft_keepers), (a_draft_gates, .lst l_draft_gates), (a_draft_nexts, .dK l_draft_nexts), (a_draft_nevers, .dK l_draft_nevers), (a_draft_somes, .dK l_draft_somes), (a_draft_names, .dK l_draft_names)]) (O2 := []) W185
              refine ⟨B183, a_draft, d_draft, a_draft_switches, l_draft_switches, a_draft_keepers, l_draft_keepers, a_draft_gates, l_draft_gates, a_draft_nexts, l_draft_nexts, a_draft_nevers, l_draft_nevers, a_draft_somes, l_draft_somes, a_draft_names, l_draft_names, x_draft, v182, (cutL x_words (some (1 : Int)) none), r189, rfl, Ln.call (O1 := []) (O := [(d_draft, .own a_draft), (a_draft, .ins Cs.c_Draft d_draft [("switches", V.ref a_draft_switches), ("keepers", V.ref a_draft_keepers), ("gates", V.ref a_draft_gates), ("nexts", V.ref a_draft_nexts), ("nevers", V.ref a_draft_nevers), ("somes", V.ref a_draft_somes), ("names", V.ref a_draft_names)]), (a_draft_switches, .lst l_draft_switches), (a_draft_keepers, .dK l_draft_keepers), (a_draft_gates, .lst l_draft_gates), (a_draft_nexts, .dK l_draft_nexts), (a_draft_nevers, .dK l_draft_nevers), (a_draft_somes, .dK l_draft_somes), (a_draft_names, .dK l_draft_names)]) (O2 := []) L188 W185, (Ow.mono l186 o_draft_switches), (Od.mono l186 o_draft_keepers), (Ow.mono l186 o_draft_gates), (Od.mono l186 o_draft_nexts), (Od.mono l186 o_draft_nevers), (Od.mono l186 o_draft_somes), (Od.mono l186 o_draft_names), r187, er189, fun v190 B191 H192 l195 l197 l199 l201 l203 l205 l207 V193 q194 o196 o198 o200 o202 o204 o206 o208 => ?_⟩
              have W209 := Ws.back (O1 := []) (O := [(d_draft, .own a_draft), (a_draft, .ins Cs.c_Draft d_draft [("switches", V.ref a_draft_switches), ("keepers", V.ref a_draft_keepers), ("gates", V.ref a_draft_gates), ("nexts", V.ref a_draft_nexts), ("nevers", V.ref a_draft_nevers), ("somes", V.ref a_draft_somes), ("names", V.ref a_draft_names)]), (a_draft_switches, .lst l_draft_switches), (a_draft_keepers, .dK l_draft_keepers), (a_draft_gates, .lst l_draft_gates), (a_draft_nexts, .dK l_draft_nexts), (a_draft_nevers, .dK l_draft_nevers), (a_draft_somes, .dK l_draft_somes), (a_draft_names, .dK l_draft_names)]) (O2 := []) W185 (O' := [(d_draft, .own a_draft), (a_draft, .ins Cs.c_Draft d_draft [("switches", V.ref a_draft_switches), ("keepers", V.ref a_draft_keepers), ("gates", V.ref a_draft_gates), ("nexts", V.ref a_draft_nexts), ("nevers", V.ref a_draft_nevers), ("somes", V.ref a_draft_somes), ("names", V.ref a_draft_names)]), (a_draft_switches, .lst l195), (a_draft_keepers, .dK l197), (a_draft_gates, .lst l199), (a_draft_nexts, .dK l201), (a_draft_nevers, .dK l203), (a_draft_somes, .dK l205), (a_draft_names, .dK l207)]) V193
              have l210 := (Ws.bb V193)
              have W209 : Ws [d_draft, a_draft, a_draft_switches, a_draft_keepers, a_draft_gates, a_draft_nexts, a_draft_nevers, a_draft_somes, a_draft_names] B H B191 H192 [(d_draft, .own a_draft), (a_draft, .ins Cs.c_Draft d_draft [("switches", V.ref a_draft_switches), ("keepers", V.ref a_draft_keepers), ("gates", V.ref a_draft_gates), ("nexts", V.ref a_draft_nexts), ("nevers", V.ref a_draft_nevers), ("somes", V.ref a_draft_somes), ("names", V.ref a_draft_names)]), (a_draft_switches, .lst l195), (a_draft_keepers, .dK l197), (a_draft_gates, .lst l199), (a_draft_nexts, .dK l201), (a_draft_nevers, .dK l203), (a_draft_somes, .dK l205), (a_draft_names, .dK l207)] := W209
              obtain rfl : v190 = V.str r189.1 := q194
              rw [← Option.some.inj h] at k
              have W209' : Ws [d_draft, a_draft, a_draft_switches, a_draft_keepers, a_draft_gates, a_draft_nexts, a_draft_nevers, a_draft_somes, a_draft_names] B H B191 H192 [(d_draft, .own a_draft), (a_draft, .ins Cs.c_Draft d_draft [("switches", V.ref a_draft_switches), ("keepers", V.ref a_draft_keepers), ("gates", V.ref a_draft_gates), ("nexts", V.ref a_draft_nexts), ("nevers", V.ref a_draft_nevers), ("somes", V.ref a_draft_somes), ("names", V.ref a_draft_names)]), (a_draft_switches, .lst l195), (a_draft_keepers, .dK l197), (a_draft_gates, .lst l199), (a_draft_nexts, .dK l201), (a_draft_nevers, .dK l203), (a_draft_somes, .dK l205), (a_draft_names, .dK l207)] := W209
              exact k (V.str r189.1) B191 H192 l195 l197 l199 l201 l203 l205 l207 W209' rfl o196 o198 o200 o202 o204 o206 o208
            · obtain ⟨c181, rfl⟩ := hw
              have c181 := c181.symm
              have h := opF c181 h
              refine next_ ?_
              refine nx_ ?_
              refine ret_ ?_
              refine cst_ ?_
              rw [← Option.some.inj h] at k
              have W' : Ws [d_draft, a_draft, a_draft_switches, a_draft_keepers, a_draft_gates, a_draft_nexts, a_draft_nevers, a_draft_somes, a_draft_names] B H B H [(d_draft, .own a_draft), (a_draft, .ins Cs.c_Draft d_draft [("switches", V.ref a_draft_switches), ("keepers", V.ref a_draft_keepers), ("gates", V.ref a_draft_gates), ("nexts", V.ref a_draft_nexts), ("nevers", V.ref a_draft_nevers), ("somes", V.ref a_draft_somes), ("names", V.ref a_draft_names)]), (a_draft_switches, .lst l_draft_switches), (a_draft_keepers, .dK l_draft_keepers), (a_draft_gates, .lst l_draft_gates), (a_draft_nexts, .dK l_draft_nexts), (a_draft_nevers, .dK l_draft_nevers), (a_draft_somes, .dK l_draft_somes), (a_draft_names, .dK l_draft_names)] := W
              exact k (V.str ("row" : Str)) B H l_draft_switches l_draft_keepers l_draft_gates l_draft_nexts l_draft_nevers l_draft_somes l_draft_names W' rfl o_draft_switches o_draft_keepers o_draft_gates o_draft_nexts o_draft_nevers o_draft_somes o_draft_names

def sp_p_read_machine [Cs] (K : PySem.W.Frag) : Sp := fun vs H Q _ => ∃ (B : Hp) (x_text : Str) (r : O_Machine), vs = [V.str x_text] ∧ Ws [] B H B H [] ∧ m_p_read_machine x_text = some r ∧ ∀ w B' H', Ws [] B H B' H' [] → Rp.R B' w r → Q w H'
abbrev s_p_read_machine : Stmt := top 27
theorem sc_p_read_machine : FnScope ["text", "draft", "place", "row", "words", "fault"] ["text"] (C8.fnScope s_p_read_machine) := C8.fnScope_by (by decide +kernel)
theorem ok_p_read_machine [Cs] (T : Tx w K mg) (c_Draft_init : C8.Mak P w K mg base 1 "Draft" Cs.c_Draft (sp_Draft_init K) []) (c_p_words_of : C8.Cal P w K mg base 1 "words_of" (sp_p_words_of K) []) (c_p_draft_row : C8.Cal P w K mg base 4 "draft_row" (sp_p_draft_row K) []) (c_Machine_init : C8.Mak P w K mg base 1 "Machine" Cs.c_Machine (sp_Machine_init K) []) {f : Addr} {fd : FuncData} (F : C8.Def K mg "read_machine" s_p_read_machine f fd) (b : Binds K fd ["text"] []) : C8.Cal P w K mg base 5 "read_machine" (sp_p_read_machine K) [] := by
  refine C8.cal0 F b .nil sc_p_read_machine (fun vs H Q E h => ?_) (fun cdv A outer s H vs Q E hr h => ?_)
  · obtain ⟨B, x_text, r, rfl, _⟩ := h
    rfl
  obtain ⟨B, x_text, r, rfl, W, h, k⟩ := h
  refine ⟨_, (pss_cons (ps_set (i := 1) sc_p_read_machine.nd rfl (Or.inl rfl) (pe_mk0 c_Draft_init hr (by omega) (by rfl))) (pss_cons (ps_for PassesOwn.never rfl (k_pie (K := K) (by rfl) T.b_enumerate (pa_cons (pe_m1 PySem.F.slot_str_split PySem.F.type_str_split k_split (pv 0) pe_str) pa_nil)) (k_gtup (K := K) rfl (pgs_cons (pg_name (i := 2) sc_p_read_machine.nd rfl (Or.inl rfl)) (pgs_cons (pg_name (i := 3) sc_p_read_machine.nd rfl (Or.inl rfl)) pgs_nil))) (pss_cons (ps_set (i := 4) sc_p_read_machine.nd rfl (Or.inl rfl) (C8.pe_c c_p_words_of hr (by omega) (by rfl) (pa_cons (pv 3) pa_nil))) (pss_one (ps_if (pt_cmpR op_gt (pe_callB (k_len (K := K)) (by rfl) T.b_len (by decide +kernel) (pa_cons (pv 4) pa_nil)) pe_int (nomark _)) (pss_cons (ps_set (i := 5) sc_p_read_machine.nd rfl (Or.inl rfl) (C8.pe_c c_p_draft_row hr (by omega) (by rfl) (pa_cons (pv 1) (pa_cons (pv 4) pa_nil)))) (pss_one (ps_if (pt_cmpR op_ne (pv 5) pe_str (nomark _)) (pss_one ps_never) pss_nil))) pss_nil)))) (pss_one (ps_ret (C8.pe_mk c_Machine_init hr (by omega) (by rfl) (pa_cons (k_fld (K := K) (pv 1)) (pa_cons (k_fld (K := K) (pv 1)) (pa_cons (k_fld (K := K) (pv 1)) (pa_cons (k_fld (K := K) (pv 1)) (pa_cons (k_fld (K := K) (pv 1)) (pa_cons (k_fld (K := K) (pv 1)) pa_nil))))))))))), ?_⟩
  refine st_ (σ' := [some (V.str x_text), none, none, none, none, none]) rfl ?_
  unfold m_p_read_machine at h
  obtain ⟨r8, er8, h⟩ := bs h
  refine seq_ ?_
  refine asg_ ?_
  refine mk_ ?_
  refine tnil_ ?_
  refine mkO_ W fun a1 d2 H3 n4 n5 W6 => ?_
  have W6 : Ws [] B H B H3 [(d2, .own a1), (a1, .ins Cs.c_Draft d2 [])] := W6
  have L7 := Ws.ln (O1 := []) (O := [(d2, .own a1), (a1, .ins Cs.c_Draft d2 [])]) (O2 := []) W6
  refine ⟨B, a1, d2, r8, rfl, Ln.call (O1 := []) (O := [(d2, .own a1), (a1, .ins Cs.c_Draft d2 [])]) (O2 := []) L7 W6, er8, fun B10 H11 a14 l15 a18 l19 a22 l23 a26 l27 a30 l31 a34 l35 a38 l39 V12 n17 n21 n25 n29 n33 n37 n41 o16 o20 o24 o28 o32 o36 o40 => ?_⟩
  have W42 := Ws.back (O1 := []) (O := [(d2, .own a1), (a1, .ins Cs.c_Draft d2 [])]) (O2 := []) W6 (O' := [(d2, .own a1), (a1, .ins Cs.c_Draft d2 [("switches", V.ref a14), ("keepers", V.ref a18), ("gates", V.ref a22), ("nexts", V.ref a26), ("nevers", V.ref a30), ("somes", V.ref a34), ("names", V.ref a38)]), (a14, .lst l15), (a18, .dK l19), (a22, .lst l23), (a26, .dK l27), (a30, .dK l31), (a34, .dK l35), (a38, .dK l39)]) V12
  have l43 := (Ws.bb V12)
  have W42 : Ws [] B H B10 H11 [(d2, .own a1), (a1, .ins Cs.c_Draft d2 [("switches", V.ref a14), ("keepers", V.ref a18), ("gates", V.ref a22), ("nexts", V.ref a26), ("nevers", V.ref a30), ("somes", V.ref a34), ("names", V.ref a38)]), (a14, .lst l15), (a18, .dK l19), (a22, .lst l23), (a26, .dK l27), (a30, .dK l31), (a34, .dK l35), (a38, .dK l39)] := W42
  have n44 := Ws.old W6 n17
  have n45 := Ws.old W6 n21
  have n46 := Ws.old W6 n25
  have n47 := Ws.old W6 n29
  have n48 := Ws.old W6 n33
  have n49 := Ws.old W6 n37
  have n50 := Ws.old W6 n41
  refine ⟨rfl, ?_⟩
  refine gset_ (σ' := [some (V.str x_text), some (V.ref a1), none, none, none, none]) rfl ?_
  refine nx_ ?_
  obtain ⟨q51, h⟩ := cks h
  obtain ⟨fin132, hx134, h⟩ := bs h
  refine seq_ ?_
  refine for_ ?_
  refine ienum_ ?_
  refine tcons_ ?_
  refine m1_ ?_
  refine var_ rfl ?_
  refine isS_ ?_
  refine cst_ ?_
  refine split_ (by decide +kernel) q51.1 q51.2 W42 fun v52 B53 H54 W55 l56 r57 => ?_
  refine tnil_ ?_
  refine itE W55 r57 fun a58 tw59 => ?_
  refine for_n W55 tw59 _ hx134 (fun s σ O B => ∃ (u0' : Option V) (u1' : Option V) (u2' : Option V) (u3' : Option V) (l0' : List V) (l1' : List (Key × V)) (l2' : List V) (l3' : List (Key × V)) (l4' : List (Key × V)) (l5' : List (Key × V)) (l6' : List (Key × V)), σ = [some (V.str x_text), some (V.ref a1), u0', u1', u2', u3'] ∧ O = [(d2, .own a1), (a1, .ins Cs.c_Draft d2 [("switches", V.ref a14), ("keepers", V.ref a18), ("gates", V.ref a22), ("nexts", V.ref a26), ("nevers", V.ref a30), ("somes", V.ref a34), ("names", V.ref a38)]), (a14, .lst l0'), (a18, .dK l1'), (a22, .lst l2'), (a26, .dK l3'), (a30, .dK l4'), (a34, .dK l5'), (a38, .dK l6')] ∧ Ow B l0' s.1 ∧ Od B l1' s.2.1 ∧ Ow B l2' s.2.2.1 ∧ Od B l3' s.2.2.2.1 ∧ Od B l4' s.2.2.2.2.1 ∧ Od B l5' s.2.2.2.2.2.1 ∧ Od B l6' s.2.2.2.2.2.2) (by rintro _ _ _ _ _ m' ⟨e0', e1', e2', e3', e4', e5', e6', e7', e8', e9', e10', a', b', f0', f1', f2', f3', f4', f5', f6'⟩; exact ⟨e0', e1', e2', e3', e4', e5', e6', e7', e8', e9', e10', a', b', Ow.mono m' f0', Od.mono m' f1', Ow.mono m' f2', Od.mono m' f3', Od.mono m' f4', Od.mono m' f5', Od.mono m' f6'⟩) ⟨none, none, none, none, l15, l19, l23, l27, l31, l35, l39, rfl, rfl, (Ow.mono l56 o16), (Od.mono l56 o20), (Ow.mono l56 o24), (Od.mono l56 o28), (Od.mono l56 o32), (Od.mono l56 o36), (Od.mono l56 o40)⟩ (fun s60 x65 c137 v66 σ' O69 B67 H68 l71 W70 i' r72 hs73 => ?_) ?_
  · obtain ⟨u61, u62, u63, u64, l76, l78, l80, l82, l84, l86, l88, rfl, rfl, o77, o79, o81, o83, o85, o87, o89⟩ := i'
    have W70 : Ws [] B H B67 H68 [(d2, .own a1), (a1, .ins Cs.c_Draft d2 [("switches", V.ref a14), ("keepers", V.ref a18), ("gates", V.ref a22), ("nexts", V.ref a26), ("nevers", V.ref a30), ("somes", V.ref a34), ("names", V.ref a38)]), (a14, .lst l76), (a18, .dK l78), (a22, .lst l80), (a26, .dK l82), (a30, .dK l84), (a34, .dK l86), (a38, .dK l88)] := W70
    refine gP_ W70 r72 fun v90 v91 r92 r93 => ?_
    obtain rfl : v90 = V.int x65.1 := r92
    refine gcons_ ?_
    refine gset_ (σ' := [some (V.str x_text), some (V.ref a1), some (V.int x65.1), u62, u63, u64]) rfl ?_
    obtain rfl : v91 = V.str x65.2 := r93
    refine gcons_ ?_
    refine gset_ (σ' := [some (V.str x_text), some (V.ref a1), some (V.int x65.1), some (V.str x65.2), u63, u64]) rfl ?_
    refine gnil_ ?_
    obtain ⟨r95, er95, hs73⟩ := bs hs73
    refine seq_ ?_
    refine asg_ ?_
    refine call_ ?_
    refine tcons_ ?_
    refine var_ rfl ?_
    refine tnil_ ?_
    have L94 := Ws.ln (O1 := [(d2, .own a1), (a1, .ins Cs.c_Draft d2 [("switches", V.ref a14), ("keepers", V.ref a18), ("gates", V.ref a22), ("nexts", V.ref a26), ("nevers", V.ref a30), ("somes", V.ref a34), ("names", V.ref a38)]), (a14, .lst l76), (a18, .dK l78), (a22, .lst l80), (a26, .dK l82), (a30, .dK l84), (a34, .dK l86), (a38, .dK l88)]) (O := []) (O2 := []) W70
    refine ⟨B67, x65.2, r95, rfl, Ln.call (O1 := [(d2, .own a1), (a1, .ins Cs.c_Draft d2 [("switches", V.ref a14), ("keepers", V.ref a18), ("gates", V.ref a22), ("nexts", V.ref a26), ("nevers", V.ref a30), ("somes", V.ref a34), ("names", V.ref a38)]), (a14, .lst l76), (a18, .dK l78), (a22, .lst l80), (a26, .dK l82), (a30, .dK l84), (a34, .dK l86), (a38, .dK l88)]) (O := []) (O2 := []) L94 W70, er95, fun v96 B97 H98 V99 q100 => ?_⟩
    have W101 := Ws.back (O1 := [(d2, .own a1), (a1, .ins Cs.c_Draft d2 [("switches", V.ref a14), ("keepers", V.ref a18), ("gates", V.ref a22), ("nexts", V.ref a26), ("nevers", V.ref a30), ("somes", V.ref a34), ("names", V.ref a38)]), (a14, .lst l76), (a18, .dK l78), (a22, .lst l80), (a26, .dK l82), (a30, .dK l84), (a34, .dK l86), (a38, .dK l88)]) (O := []) (O2 := []) W70 (O' := []) V99
    have l102 := (Ws.bb V99)
    have W101 : Ws [] B H B97 H98 [(d2, .own a1), (a1, .ins Cs.c_Draft d2 [("switches", V.ref a14), ("keepers", V.ref a18), ("gates", V.ref a22), ("nexts", V.ref a26), ("nevers", V.ref a30), ("somes", V.ref a34), ("names", V.ref a38)]), (a14, .lst l76), (a18, .dK l78), (a22, .lst l80), (a26, .dK l82), (a30, .dK l84), (a34, .dK l86), (a38, .dK l88)] := W101
    refine gset_ (σ' := [some (V.str x_text), some (V.ref a1), some (V.int x65.1), some (V.str x65.2), some v96, u64]) rfl ?_
    refine nx_ ?_
    refine if_ (fun v' H' => v' = (decide ((0 : Int) < (r95.length : Int))) ∧ H98 = H') (fun Q103 kk104 => ?_) (fun H98q hw => ?_) (fun H98q hw => ?_)
    · refine tst_ ?_
      refine op_ ?_
      refine cb_ ?_
      refine tcons_ ?_
      refine var_ rfl ?_
      refine tnil_ ?_
      refine lenL_ W101 q100 ?_
      refine cst_ ?_
      refine i0_ ?_
      refine ⟨_, rfl, ?_⟩
      exact kk104 _ _ ⟨rfl, rfl⟩
    · obtain ⟨c105, rfl⟩ := hw
      have c105 := c105.symm
      have hs73 := opT c105 hs73
      obtain ⟨r107, er107, hs73⟩ := bs hs73
      refine seq_ ?_
      refine asg_ ?_
      refine call_ ?_
      refine tcons_ ?_
      refine var_ rfl ?_
      refine tcons_ ?_
      refine var_ rfl ?_
      refine tnil_ ?_
      have L106 := Ws.ln (O1 := []) (O := [(d2, .own a1), (a1, .ins Cs.c_Draft d2 [("switches", V.ref a14), ("keepers", V.ref a18), ("gates", V.ref a22), ("nexts", V.ref a26), ("nevers", V.ref a30), ("somes", V.ref a34), ("names", V.ref a38)]), (a14, .lst l76), (a18, .dK l78), (a22, .lst l80), (a26, .dK l82), (a30, .dK l84), (a34, .dK l86), (a38, .dK l88)]) (O2 := []) W101
      refine ⟨B97, a1, d2, a14, l76, a18, l78, a22, l80, a26, l82, a30, l84, a34, l86, a38, l88, (O_Draft.mk s60.1 s60.2.1 s60.2.2.1 s60.2.2.2.1 s60.2.2.2.2.1 s60.2.2.2.2.2.1 s60.2.2.2.2.2.2), v96, r95, r107, rfl, Ln.call (O1 := []) (O := [(d2, .own a1), (a1, .ins Cs.c_Draft d2 [("switches", V.ref a14), ("keepers", V.ref a18), ("gates", V.ref a22), ("nexts", V.ref a26), ("nevers", V.ref a30), ("somes", V.ref a34), ("names", V.ref a38)]), (a14, .lst l76), (a18, .dK l78), (a22, .lst l80), (a26, .dK l82), (a30, .dK l84), (a34, .dK l86), (a38, .dK l88)]) (O2 := []) L106 W101, (Ow.mono l102 o77), (Od.mono l102 o79), (Ow.mono l102 o81), (Od.mono l102 o83), (Od.mono l102 o85), (Od.mono l102 o87), (Od.mono l102 o89), q100, er107, fun v108 B109 H110 l113 l115 l117 l119 l121 l123 l125 V111 q112 o114 o116 o118 o120 o122 o124 o126 => ?_⟩
      have W127 := Ws.back (O1 := []) (O := [(d2, .own a1), (a1, .ins Cs.c_Draft d2 [("switches", V.ref a14), ("keepers", V.ref a18), ("gates", V.ref a22), ("nexts", V.ref a26), ("nevers", V.ref a30), ("somes", V.ref a34), ("names", V.ref a38)]), (a14, .lst l76), (a18, .dK l78), (a22, .lst l80), (a26, .dK l82), (a30, .dK l84), (a34, .dK l86), (a38, .dK l88)]) (O2 := []) W101 (O' := [(d2, .own a1), (a1, .ins Cs.c_Draft d2 [("switches", V.ref a14), ("keepers", V.ref a18), ("gates", V.ref a22), ("nexts", V.ref a26), ("nevers", V.ref a30), ("somes", V.ref a34), ("names", V.ref a38)]), (a14, .lst l113), (a18, .dK l115), (a22, .lst l117), (a26, .dK l119), (a30, .dK l121), (a34, .dK l123), (a38, .dK l125)]) V111
      have l128 := (Ws.bb V111)
      have W127 : Ws [] B H B109 H110 [(d2, .own a1), (a1, .ins Cs.c_Draft d2 [("switches", V.ref a14), ("keepers", V.ref a18), ("gates", V.ref a22), ("nexts", V.ref a26), ("nevers", V.ref a30), ("somes", V.ref a34), ("names", V.ref a38)]), (a14, .lst l113), (a18, .dK l115), (a22, .lst l117), (a26, .dK l119), (a30, .dK l121), (a34, .dK l123), (a38, .dK l125)] := W127
      obtain rfl : v108 = V.str r107.1 := q112
      refine gset_ (σ' := [some (V.str x_text), some (V.ref a1), some (V.int x65.1), some (V.str x65.2), some v96, some (V.str r107.1)]) rfl ?_
      refine nx_ ?_
      refine if_ (fun v' H' => v' = ((!decide (r107.1 = ("" : Str)))) ∧ H110 = H') (fun Q129 kk130 => ?_) (fun H110q hw => ?_) (fun H110q hw => ?_)
      · refine tst_ ?_
        refine op_ ?_
        refine var_ rfl ?_
        refine cst_ ?_
        refine neS_ ?_
        refine ⟨_, rfl, ?_⟩
        exact kk130 _ _ ⟨rfl, rfl⟩
      · obtain ⟨c131, rfl⟩ := hw
        have c131 := c131.symm
        have hs73 := opT c131 hs73
        cases hs73
      · obtain ⟨c131, rfl⟩ := hw
        have c131 := c131.symm
        have hs73 := opF c131 hs73
        refine next_ ?_
        refine nx_ ?_
        rw [← Option.some.inj hs73]
        exact ⟨_, B109, (l71.tr (l102.tr l128)), W127, ⟨(some (V.int x65.1)), (some (V.str x65.2)), (some v96), (some (V.str r107.1)), l113, l115, l117, l119, l121, l123, l125, rfl, rfl, o114, o116, o118, o120, o122, o124, o126⟩⟩
    · obtain ⟨c105, rfl⟩ := hw
      have c105 := c105.symm
      have hs73 := opF c105 hs73
      refine next_ ?_
      refine nx_ ?_
      rw [← Option.some.inj hs73]
      exact ⟨_, B97, (l71.tr l102), W101, ⟨(some (V.int x65.1)), (some (V.str x65.2)), (some v96), u64, l76, l78, l80, l82, l84, l86, l88, rfl, rfl, (Ow.mono l102 o77), (Od.mono l102 o79), (Ow.mono l102 o81), (Od.mono l102 o83), (Od.mono l102 o85), (Od.mono l102 o87), (Od.mono l102 o89)⟩⟩
  rintro σ' O142 B138 H139 l141 W140 ⟨u143, u144, u145, u146, l147, l149, l151, l153, l155, l157, l159, rfl, rfl, o148, o150, o152, o154, o156, o158, o160⟩
  refine nx_ ?_
  obtain ⟨r192, er192, h⟩ := bs h
  refine ret_ ?_
  refine mk_ ?_
  refine tcons_ ?_
  refine fld_ ?_
  refine var_ rfl ?_
  refine fldO (ns := (["switches", "keepers", "gates", "nexts", "nevers", "somes", "names"] : List Str)) W140 1 rfl T.cls_Draft T.na_Draft_switches rfl (by decide +kernel) 0 rfl ?_
  refine tcons_ ?_
  refine fld_ ?_
  refine var_ rfl ?_
  refine fldO (ns := (["switches", "keepers", "gates", "nexts", "nevers", "somes", "names"] : List Str)) W140 1 rfl T.cls_Draft T.na_Draft_keepers rfl (by decide +kernel) 1 rfl ?_
  refine tcons_ ?_
  refine fld_ ?_
  refine var_ rfl ?_
  refine fldO (ns := (["switches", "keepers", "gates", "nexts", "nevers", "somes", "names"] : List Str)) W140 1 rfl T.cls_Draft T.na_Draft_gates rfl (by decide +kernel) 2 rfl ?_
  refine tcons_ ?_
  refine fld_ ?_
  refine var_ rfl ?_
  refine fldO (ns := (["switches", "keepers", "gates", "nexts", "nevers", "somes", "names"] : List Str)) W140 1 rfl T.cls_Draft T.na_Draft_nexts rfl (by decide +kernel) 3 rfl ?_
  refine tcons_ ?_
  refine fld_ ?_
  refine var_ rfl ?_
  refine fldO (ns := (["switches", "keepers", "gates", "nexts", "nevers", "somes", "names"] : List Str)) W140 1 rfl T.cls_Draft T.na_Draft_nevers rfl (by decide +kernel) 4 rfl ?_
  refine tcons_ ?_
  refine fld_ ?_
  refine var_ rfl ?_
  refine fldO (ns := (["switches", "keepers", "gates", "nexts", "nevers", "somes", "names"] : List Str)) W140 1 rfl T.cls_Draft T.na_Draft_somes rfl (by decide +kernel) 5 rfl ?_
  refine tnil_ ?_
  refine oFz W140 2 rfl n44 o148 fun B161 W162 l163 r164 => ?_
  have W162 : Ws [] B H B161 H139 [(d2, .own a1), (a1, .ins Cs.c_Draft d2 [("switches", V.ref a14), ("keepers", V.ref a18), ("gates", V.ref a22), ("nexts", V.ref a26), ("nevers", V.ref a30), ("somes", V.ref a34), ("names", V.ref a38)]), (a18, .dK l149), (a22, .lst l151), (a26, .dK l153), (a30, .dK l155), (a34, .dK l157), (a38, .dK l159)] := W162
  refine fzD W162 2 rfl n45 (Od.mono l163 o150) fun B165 W166 l167 r168 => ?_
  have W166 : Ws [] B H B165 H139 [(d2, .own a1), (a1, .ins Cs.c_Draft d2 [("switches", V.ref a14), ("keepers", V.ref a18), ("gates", V.ref a22), ("nexts", V.ref a26), ("nevers", V.ref a30), ("somes", V.ref a34), ("names", V.ref a38)]), (a22, .lst l151), (a26, .dK l153), (a30, .dK l155), (a34, .dK l157), (a38, .dK l159)] := W166
  refine oFz W166 2 rfl n46 (Ow.mono (l163.tr l167) o152) fun B169 W170 l171 r172 => ?_
  have W170 : Ws [] B H B169 H139 [(d2, .own a1), (a1, .ins Cs.c_Draft d2 [("switches", V.ref a14), ("keepers", V.ref a18), ("gates", V.ref a22), ("nexts", V.ref a26), ("nevers", V.ref a30), ("somes", V.ref a34), ("names", V.ref a38)]), (a26, .dK l153), (a30, .dK l155), (a34, .dK l157), (a38, .dK l159)] := W170
  refine fzD W170 2 rfl n47 (Od.mono (l163.tr (l167.tr l171)) o154) fun B173 W174 l175 r176 => ?_
  have W174 : Ws [] B H B173 H139 [(d2, .own a1), (a1, .ins Cs.c_Draft d2 [("switches", V.ref a14), ("keepers", V.ref a18), ("gates", V.ref a22), ("nexts", V.ref a26), ("nevers", V.ref a30), ("somes", V.ref a34), ("names", V.ref a38)]), (a30, .dK l155), (a34, .dK l157), (a38, .dK l159)] := W174
  refine fzD W174 2 rfl n48 (Od.mono (l163.tr (l167.tr (l171.tr l175))) o156) fun B177 W178 l179 r180 => ?_
  have W178 : Ws [] B H B177 H139 [(d2, .own a1), (a1, .ins Cs.c_Draft d2 [("switches", V.ref a14), ("keepers", V.ref a18), ("gates", V.ref a22), ("nexts", V.ref a26), ("nevers", V.ref a30), ("somes", V.ref a34), ("names", V.ref a38)]), (a34, .dK l157), (a38, .dK l159)] := W178
  refine fzD W178 2 rfl n49 (Od.mono (l163.tr (l167.tr (l171.tr (l175.tr l179)))) o158) fun B181 W182 l183 r184 => ?_
  have W182 : Ws [] B H B181 H139 [(d2, .own a1), (a1, .ins Cs.c_Draft d2 [("switches", V.ref a14), ("keepers", V.ref a18), ("gates", V.ref a22), ("nexts", V.ref a26), ("nevers", V.ref a30), ("somes", V.ref a34), ("names", V.ref a38)]), (a38, .dK l159)] := W182
  refine mkO_ W182 fun a185 d186 H187 n188 n189 W190 => ?_
  have W190 : Ws [] B H B181 H187 [(d2, .own a1), (a1, .ins Cs.c_Draft d2 [("switches", V.ref a14), ("keepers", V.ref a18), ("gates", V.ref a22), ("nexts", V.ref a26), ("nevers", V.ref a30), ("somes", V.ref a34), ("names", V.ref a38)]), (a38, .dK l159), (d186, .own a185), (a185, .ins Cs.c_Machine d186 [])] := W190
  have L191 := Ws.ln (O1 := [(d2, .own a1), (a1, .ins Cs.c_Draft d2 [("switches", V.ref a14), ("keepers", V.ref a18), ("gates", V.ref a22), ("nexts", V.ref a26), ("nevers", V.ref a30), ("somes", V.ref a34), ("names", V.ref a38)]), (a38, .dK l159)]) (O := [(d186, .own a185), (a185, .ins Cs.c_Machine d186 [])]) (O2 := []) W190
  refine ⟨B181, a185, d186, (V.ref a14), fin132.1, (V.ref a18), fin132.2.1, (V.ref a22), fin132.2.2.1, (V.ref a26), fin132.2.2.2.1, (V.ref a30), fin132.2.2.2.2.1, (V.ref a34), fin132.2.2.2.2.2.1, r192, rfl, Ln.call (O1 := [(d2, .own a1), (a1, .ins Cs.c_Draft d2 [("switches", V.ref a14), ("keepers", V.ref a18), ("gates", V.ref a22), ("nexts", V.ref a26), ("nevers", V.ref a30), ("somes", V.ref a34), ("names", V.ref a38)]), (a38, .dK l159)]) (O := [(d186, .own a185), (a185, .ins Cs.c_Machine d186 [])]) (O2 := []) L191 W190, (Rp.mono (l167.tr (l171.tr (l175.tr (l179.tr l183)))) r164), (Rp.mono (l171.tr (l175.tr (l179.tr l183))) r168), (Rp.mono (l175.tr (l179.tr l183)) r172), (Rp.mono (l179.tr l183) r176), (Rp.mono l183 r180), r184, er192, fun B194 H195 v198 v200 v202 v204 v206 v208 V196 r199 r201 r203 r205 r207 r209 => ?_⟩
  have W210 := Ws.back (O1 := [(d2, .own a1), (a1, .ins Cs.c_Draft d2 [("switches", V.ref a14), ("keepers", V.ref a18), ("gates", V.ref a22), ("nexts", V.ref a26), ("nevers", V.ref a30), ("somes", V.ref a34), ("names", V.ref a38)]), (a38, .dK l159)]) (O := [(d186, .own a185), (a185, .ins Cs.c_Machine d186 [])]) (O2 := []) W190 (O' := [(d186, .own a185), (a185, .ins Cs.c_Machine d186 [("switches", v198), ("keepers", v200), ("gates", v202), ("nexts", v204), ("nevers", v206), ("somes", v208)])]) V196
  have l211 := (Ws.bb V196)
  have W210 : Ws [] B H B194 H195 [(d2, .own a1), (a1, .ins Cs.c_Draft d2 [("switches", V.ref a14), ("keepers", V.ref a18), ("gates", V.ref a22), ("nexts", V.ref a26), ("nevers", V.ref a30), ("somes", V.ref a34), ("names", V.ref a38)]), (a38, .dK l159), (d186, .own a185), (a185, .ins Cs.c_Machine d186 [("switches", v198), ("keepers", v200), ("gates", v202), ("nexts", v204), ("nevers", v206), ("somes", v208)])] := W210
  refine ⟨rfl, ?_⟩
  refine fz0 W210 4 rfl n188 fun B212 W213 l214 h215 => ?_
  have W213 : Ws [] B H B212 H195 [(d2, .own a1), (a1, .ins Cs.c_Draft d2 [("switches", V.ref a14), ("keepers", V.ref a18), ("gates", V.ref a22), ("nexts", V.ref a26), ("nevers", V.ref a30), ("somes", V.ref a34), ("names", V.ref a38)]), (a38, .dK l159), (d186, .own a185)] := W213
  have r216 : Rp.R B212 (V.ref a185) r192 := ⟨a185, d186, v198, v200, v202, v204, v206, v208, rfl, h215, (Rp.mono l214 r199), (Rp.mono l214 r201), (Rp.mono l214 r203), (Rp.mono l214 r205), (Rp.mono l214 r207), (Rp.mono l214 r209)⟩
  have W217 := Ws.drop W213 3
  have W217 : Ws [] B H B212 H195 [(d2, .own a1), (a1, .ins Cs.c_Draft d2 [("switches", V.ref a14), ("keepers", V.ref a18), ("gates", V.ref a22), ("nexts", V.ref a26), ("nevers", V.ref a30), ("somes", V.ref a34), ("names", V.ref a38)]), (a38, .dK l159)] := W217
  rw [← Option.some.inj h] at k
  have W218 := Ws.drop W217 0
  have W219 := Ws.drop W218 0
  have W220 := Ws.drop W219 0
  have W220' : Ws [] B H B212 H195 [] := W220
  exact k (V.ref a185) B212 H195 W220' r216

def sp_first_text [Cs] (K : PySem.W.Frag) : Sp := fun vs H Q _ => ∃ (B : Hp) (v_first : V) (x_first : Option Int) (r : Str), vs = [v_first] ∧ Ws [] B H B H [] ∧ Rp.R B v_first x_first ∧ m_first_text x_first = some r ∧ ∀ w B' H', Ws [] B H B' H' [] → Rp.R B' w r → Q w H'
abbrev s_first_text : Stmt := top 38
theorem sc_first_text : FnScope ["_law_first"] ["_law_first"] (C8.fnScope s_first_text) := C8.fnScope_by (by decide +kernel)
theorem ok_first_text [Cs] (T : Tx w K mg) {f : Addr} {fd : FuncData} (F : C8.Def K mg "_law_first_text" s_first_text f fd) (b : Binds K fd ["_law_first"] []) : C8.Cal P w K mg base 1 "_law_first_text" (sp_first_text K) [] := by
  refine C8.cal0 F b .nil sc_first_text (fun vs H Q E h => ?_) (fun cdv A outer s H vs Q E hr h => ?_)
  · obtain ⟨B, v_first, x_first, r, rfl, _⟩ := h
    rfl
  obtain ⟨B, v_first, x_first, r, rfl, W, r_first, h, k⟩ := h
  refine ⟨_, (pss_one (ps_ret (pe_dget2N (units1 hr) (pe_disp (pps_cons pe_int pe_str (pps_cons pe_int pe_str pps_nil)) (by rfl) (by rfl) (by simp) (by decide)) (pv 0) pe_str ⟨by rfl, by rfl, by rfl, by rfl⟩))), ?_⟩
  refine st_ (σ' := [some v_first]) rfl ?_
  unfold m_first_text at h
  refine ret_ ?_
  refine dget2N_ ?_
  refine dispO W fun a1 H2 n3 W4 => ?_
  have W4 : Ws [] B H B H2 [(a1, .dK [])] := W4
  refine tp_ ?_
  refine cst_ ?_
  refine cst_ ?_
  refine tp_ ?_
  refine cst_ ?_
  refine cst_ ?_
  refine tpn_ ?_
  refine pq_ ?_
  refine pq_ ?_
  refine dispE W4 0 rfl [(.inl (0 : Int), V.str ("0" : Str)), (.inl (1 : Int), V.str ("1" : Str))] (ks := ([.inl (0 : Int), .inl (1 : Int)] : List Key)) rfl (by decide +kernel) (by decide) rfl fun H5 W6 => ?_
  have o7 : Od B [(.inl (0 : Int), V.str ("0" : Str)), (.inl (1 : Int), V.str ("1" : Str))] (Dc.mk [((0 : Int), ("0" : Str)), ((1 : Int), ("1" : Str))] : Dc Int Str) := ⟨by show 2 ≤ sizeLine; decide, (.cons ⟨rfl, (show Rp.R B (V.str ("0" : Str)) (("0" : Str) : Str) from rfl)⟩ (.cons ⟨rfl, (show Rp.R B (V.str ("1" : Str)) (("1" : Str) : Str) from rfl)⟩ .nil))⟩
  have W6 : Ws [] B H B H5 [(a1, .dK [(.inl (0 : Int), V.str ("0" : Str)), (.inl (1 : Int), V.str ("1" : Str))])] := W6
  refine get2NO W6 0 rfl ?_
  refine var_ rfl ?_
  refine cst_ ?_
  refine get2NbO W6 0 rfl o7 r_first (show Rp.R B (V.str ("-" : Str)) (("-" : Str) : Str) from rfl) fun v8 r9 => ?_
  obtain rfl : v8 = V.str ((x_first.bind (Dc.mk [((0 : Int), ("0" : Str)), ((1 : Int), ("1" : Str))] : Dc Int Str).get?).getD ("-" : Str)) := r9
  rw [← Option.some.inj h] at k
  have W10 := Ws.drop W6 0
  have W10' : Ws [] B H B H5 [] := W10
  exact k (V.str ((x_first.bind (Dc.mk [((0 : Int), ("0" : Str)), ((1 : Int), ("1" : Str))] : Dc Int Str).get?).getD ("-" : Str))) B H5 W10' rfl

def sp_rows [Cs] (K : PySem.W.Frag) : Sp := fun vs H Q _ => ∃ (B : Hp) (v_m : V) (x_m : R_m) (r : List Str), vs = [v_m] ∧ Ws [] B H B H [] ∧ Rp.R B v_m x_m ∧ m_rows x_m = some r ∧ ∀ w B' H', Ws [] B H B' H' [] → Rp.R B' w r → Q w H'
abbrev s_rows : Stmt := top 39
theorem sc_rows : FnScope ["_law_m", "_law_rows_here", "_law_word", "_law_field", "_law_name", "_law_gate", "_law_first", "_law_literal_here"] ["_law_m"] (C8.fnScope s_rows) := C8.fnScope_by (by decide +kernel)
theorem ok_rows [Cs] (T : Tx w K mg) (c_first_text : C8.Cal P w K mg base 1 "_law_first_text" (sp_first_text K) []) {f : Addr} {fd : FuncData} (F : C8.Def K mg "_law_rows" s_rows f fd) (b : Binds K fd ["_law_m"] []) : C8.Cal P w K mg base 2 "_law_rows" (sp_rows K) [] := by
  refine C8.cal0 F b .nil sc_rows (fun vs H Q E h => ?_) (fun cdv A outer s H vs Q E hr h => ?_)
  · obtain ⟨B, v_m, x_m, r, rfl, _⟩ := h
    rfl
  obtain ⟨B, v_m, x_m, r, rfl, W, r_m, h, k⟩ := h
  refine ⟨_, (pss_cons (ps_setLc (i := 1) (own := [("_law_name", 4)]) (g := (gName 4)) (tt := tYes) (by rfl) sc_rows.nd rfl rfl (sw_true rfl rfl rfl (by decide +kernel)) (k_pil (K := K) (pe_dget (units1 hr) (pv 0) pe_str (fun _ _ => rfl))) (blkOk_by (own := [("_law_name", 4)]) (N := ["_law_m", "_law_rows_here", "_law_word", "_law_field", "_law_name", "_law_gate", "_law_first", "_law_literal_here"]) (sc := C8.fnScope s_rows) (by decide +kernel)) (fun _ _ _ _ _ => (pg_name (i := 4) sc_rows.nd rfl (Or.inl rfl))) (fun _ _ _ _ _ => pts_nil) (fun _ _ _ _ _ => (pe_op k_addS pe_str (pv 4)))) (pss_cons (ps_set (i := 1) sc_rows.nd rfl (Or.inl rfl) (pe_op op_cat (pv 1) (pe_lc (own := [("_law_name", 4), ("_law_first", 6)]) (g := (gTup K 2 (gCons (gName 4) (gCons (gName 6) gNil)))) (tt := tYes) (by rfl) sc_rows.nd (k_pil (K := K) (pe_dget (units1 hr) (pv 0) pe_str (fun _ _ => rfl))) (blkOk_by (own := [("_law_name", 4), ("_law_first", 6)]) (N := ["_law_m", "_law_rows_here", "_law_word", "_law_field", "_law_name", "_law_gate", "_law_first", "_law_literal_here"]) (sc := C8.fnScope s_rows) (by decide +kernel)) (fun _ _ _ _ _ => (k_gtup (K := K) rfl (pgs_cons (pg_name (i := 4) sc_rows.nd rfl (Or.inl rfl)) (pgs_cons (pg_name (i := 6) sc_rows.nd rfl (Or.inl rfl)) pgs_nil)))) (fun _ _ _ _ _ => pts_nil) (fun _ _ _ _ _ => (pe_op k_addS (pe_op k_addS (pe_op k_addS pe_str (pv 4)) pe_str) (C8.pe_c c_first_text hr (by omega) (by rfl) (pa_cons (pv 6) pa_nil))))))) (pss_cons (ps_set (i := 1) sc_rows.nd rfl (Or.inl rfl) (pe_op op_cat (pv 1) (pe_lc (own := [("_law_gate", 5)]) (g := (gName 5)) (tt := tYes) (by rfl) sc_rows.nd (k_pil (K := K) (pe_dget (units1 hr) (pv 0) pe_str (fun _ _ => rfl))) (blkOk_by (own := [("_law_gate", 5)]) (N := ["_law_m", "_law_rows_here", "_law_word", "_law_field", "_law_name", "_law_gate", "_law_first", "_law_literal_here"]) (sc := C8.fnScope s_rows) (by decide +kernel)) (fun _ _ _ _ _ => (pg_name (i := 5) sc_rows.nd rfl (Or.inl rfl))) (fun _ _ _ _ _ => pts_nil) (fun _ _ _ _ _ => (pe_op k_addS pe_str (pe_m1 PySem.F.slot_str_join PySem.F.type_str_join (k_join (K := K)) pe_str (pe_callTy (k_list (K := K)) (by rfl) T.b_list (by decide +kernel) (pa_cons (pv 5) pa_nil)))))))) (pss_cons (ps_for PassesOwn.never rfl (k_pil (K := K) (pe_lst (pa_cons (pe_tup (pa_cons pe_str (pa_cons pe_str pa_nil))) (pa_cons (pe_tup (pa_cons pe_str (pa_cons pe_str pa_nil))) (pa_cons (pe_tup (pa_cons pe_str (pa_cons pe_str pa_nil))) pa_nil))))) (k_gtup (K := K) rfl (pgs_cons (pg_name (i := 2) sc_rows.nd rfl (Or.inr rfl)) (pgs_cons (pg_name (i := 3) sc_rows.nd rfl (Or.inl rfl)) pgs_nil))) (pss_one (ps_set (i := 1) sc_rows.nd rfl (Or.inl rfl) (pe_op op_cat (pv 1) (pe_lc (own := [("_law_name", 4), ("_law_literal_here", 7)]) (g := (gTup K 2 (gCons (gName 4) (gCons (gName 7) gNil)))) (tt := tYes) (by rfl) sc_rows.nd (k_pil (K := K) (pe_dget (units1 hr) (pv 0) (pv 3) (fun _ _ => rfl))) (blkOk_by (own := [("_law_name", 4), ("_law_literal_here", 7)]) (N := ["_law_m", "_law_rows_here", "_law_word", "_law_field", "_law_name", "_law_gate", "_law_first", "_law_literal_here"]) (sc := C8.fnScope s_rows) (by decide +kernel)) (fun _ _ _ _ _ => (k_gtup (K := K) rfl (pgs_cons (pg_name (i := 4) sc_rows.nd rfl (Or.inl rfl)) (pgs_cons (pg_name (i := 7) sc_rows.nd rfl (Or.inl rfl)) pgs_nil)))) (fun _ _ _ _ _ => pts_nil) (fun _ _ _ _ _ => (pe_op k_addS (pe_op k_addS (pe_op k_addS (pe_op k_addS (pv 2) pe_str) (pv 4)) pe_str) (pv 7)))))))) (pss_one (ps_ret (pv 1))))))), ?_⟩
  refine st_ (σ' := [some v_m, none, none, none, none, none, none, none]) rfl ?_
  unfold m_rows at h
  obtain ⟨q34, h⟩ := cks h
  obtain ⟨x35, ex35, h⟩ := bs h
  refine seq_ ?_
  refine asg_ ?_
  refine lc_ ?_
  refine ilist_ ?_
  refine dget_ ?_
  refine var_ rfl ?_
  refine cst_ ?_
  obtain ⟨p1, u5, u6, u7, u8, u9, u10, e3, h4, r11, r12, r13, r14, r15, r16⟩ := (show Rp.R B v_m (x_m : R_m) from r_m)
  refine recGet (k := .inr "switches") (ks := ([(.inr "switches"), (.inr "keepers"), (.inr "gates"), (.inr "nexts"), (.inr "nevers"), (.inr "somes")] : List Key)) e3 W h4 rfl (by decide +kernel) 0 rfl ?_
  refine itL W r11 fun a17 tw18 => ?_
  refine lc_o W tw18 q34 (fun (x19 : Str) => bd (ck ((("switch " : Str)).length + (x19).length ≤ sizeLine)) fun _ => some (("switch " : Str) ++ x19)) ex35 (fun x19 z36 v21 B22 H23 D24 acc25 Nx26 l27 W28 r29 hs20 k31 => ?_) ?_
  · obtain ⟨q33, hs20⟩ := cks hs20
    obtain rfl := Option.some.inj hs20
    obtain rfl : v21 = V.str x19 := r29
    refine gset_ (σ' := [some v_m, none, none, none, some (V.str x19), none, none, none]) rfl ?_
    refine ⟨rfl, ?_⟩
    refine op_ ?_
    refine cst_ ?_
    refine var_ rfl ?_
    refine addS_ q33 ?_
    exact k31 _ _ _ (Le.refl _) W28 (show Rp.R B22 (V.str (("switch " : Str) ++ x19)) ((("switch " : Str) ++ x19) : Str) from rfl)
  intro v37 B38 H39 l40 W41 r42
  refine gset_ (σ' := [some v_m, some v37, none, none, none, none, none, none]) rfl ?_
  refine nx_ ?_
  obtain ⟨q75, h⟩ := cks h
  obtain ⟨x76, ex76, h⟩ := bs h
  obtain ⟨q84, h⟩ := cks h
  obtain ⟨x91, ex91, h⟩ := bs h
  refine seq_ ?_
  refine asg_ ?_
  refine op_ ?_
  refine var_ rfl ?_
  refine lc_ ?_
  refine ilist_ ?_
  refine dget_ ?_
  refine var_ rfl ?_
  refine cst_ ?_
  refine recGet (k := .inr "keepers") (ks := ([(.inr "switches"), (.inr "keepers"), (.inr "gates"), (.inr "nexts"), (.inr "nevers"), (.inr "somes")] : List Key)) e3 W41 (Le.dk l40 h4) rfl (by decide +kernel) 1 rfl ?_
  refine itL W41 (Rp.mono l40 r12) fun a43 tw44 => ?_
  refine lc_o W41 tw44 q75 (fun (x45 : Str × (Option Int)) => bd (ck ((("keep " : Str)).length + (x45.1).length ≤ sizeLine)) fun _ => bd (ck (((("keep " : Str) ++ x45.1)).length + ((" " : Str)).length ≤ sizeLine)) fun _ => bd (m_first_text x45.2) fun r66 => bd (ck ((((("keep " : Str) ++ x45.1) ++ (" " : Str))).length + (r66).length ≤ sizeLine)) fun _ => some (((("keep " : Str) ++ x45.1) ++ (" " : Str)) ++ r66)) ex76 (fun x45 z77 v47 B48 H49 D50 acc51 Nx52 l53 W54 r55 hs46 k61 => ?_) ?_
  · obtain ⟨q63, hs46⟩ := cks hs46
    obtain ⟨q64, hs46⟩ := cks hs46
    obtain ⟨r66, er66, hs46⟩ := bs hs46
    obtain ⟨q74, hs46⟩ := cks hs46
    obtain rfl := Option.some.inj hs46
    refine gP_ W54 r55 fun v57 v58 r59 r60 => ?_
    obtain rfl : v57 = V.str x45.1 := r59
    refine gcons_ ?_
    refine gset_ (σ' := [some v_m, some v37, none, none, some (V.str x45.1), none, none, none]) rfl ?_
    refine gcons_ ?_
    refine gset_ (σ' := [some v_m, some v37, none, none, some (V.str x45.1), none, some v58, none]) rfl ?_
    refine gnil_ ?_
    refine ⟨rfl, ?_⟩
    refine op_ ?_
    refine op_ ?_
    refine op_ ?_
    refine cst_ ?_
    refine var_ rfl ?_
    refine addS_ q63 ?_
    refine cst_ ?_
    refine addS_ q64 ?_
    refine call_ ?_
    refine tcons_ ?_
    refine var_ rfl ?_
    refine tnil_ ?_
    have L65 := Ws.ln (O1 := []) (O := []) (O2 := [(D50, .lst acc51)]) W54
    refine ⟨B48, v58, x45.2, r66, rfl, Ln.call (O1 := []) (O := []) (O2 := [(D50, .lst acc51)]) L65 W54, r60, er66, fun v67 B68 H69 V70 q71 => ?_⟩
    have W72 := Ws.back (O1 := []) (O := []) (O2 := [(D50, .lst acc51)]) W54 (O' := []) V70
    have l73 := (Ws.bb V70)
    have W72 : Ws [] B H B68 H69 [(D50, .lst acc51)] := W72
    obtain rfl : v67 = V.str r66 := q71
    refine addS_ q74 ?_
    exact k61 _ _ _ l73 W72 (show Rp.R B68 (V.str (((("keep " : Str) ++ x45.1) ++ (" " : Str)) ++ r66)) ((((("keep " : Str) ++ x45.1) ++ (" " : Str)) ++ r66) : Str) from rfl)
  intro v78 B79 H80 l81 W82 r83
  refine cat_ W82 (Rp.mono l81 r42) r83 q84 fun v85 B86 H87 W88 l89 r90 => ?_
  have r92 : Rp.R B86 v85 (x91 : List Str) := Option.some.inj ex91 ▸ r90
  refine gset_ (σ' := [some v_m, some v85, none, none, none, none, none, none]) rfl ?_
  refine nx_ ?_
  obtain ⟨q117, h⟩ := cks h
  obtain ⟨x118, ex118, h⟩ := bs h
  obtain ⟨q126, h⟩ := cks h
  obtain ⟨x133, ex133, h⟩ := bs h
  refine seq_ ?_
  refine asg_ ?_
  refine op_ ?_
  refine var_ rfl ?_
  refine lc_ ?_
  refine ilist_ ?_
  refine dget_ ?_
  refine var_ rfl ?_
  refine cst_ ?_
  refine recGet (k := .inr "gates") (ks := ([(.inr "switches"), (.inr "keepers"), (.inr "gates"), (.inr "nexts"), (.inr "nevers"), (.inr "somes")] : List Key)) e3 W88 (Le.dk (l40.tr (l81.tr l89)) h4) rfl (by decide +kernel) 2 rfl ?_
  refine itL W88 (Rp.mono (l40.tr (l81.tr l89)) r13) fun a93 tw94 => ?_
  refine lc_o W88 tw94 q117 (fun (x95 : T3 Str Str Str) => bd (ck ((List.map (fun (s : Str) => s.length) ([x95.a, x95.b, x95.c] : List Str)).sum + (([x95.a, x95.b, x95.c] : List Str)).length * ((" " : Str)).length ≤ 16777216)) fun _ => bd (ck ((("gate " : Str)).length + ((Txt.join (" " : Str) ([x95.a, x95.b, x95.c] : List Str))).length ≤ sizeLine)) fun _ => some (("gate " : Str) ++ (Txt.join (" " : Str) ([x95.a, x95.b, x95.c] : List Str)))) ex118 (fun x95 z119 v97 B98 H99 D100 acc101 Nx102 l103 W104 r105 hs96 k107 => ?_) ?_
  · obtain ⟨q115, hs96⟩ := cks hs96
    obtain ⟨q116, hs96⟩ := cks hs96
    obtain rfl := Option.some.inj hs96
    refine gset_ (σ' := [some v_m, some v85, none, none, none, some v97, none, none]) rfl ?_
    refine ⟨rfl, ?_⟩
    refine op_ ?_
    refine cst_ ?_
    refine m1_ ?_
    refine cst_ ?_
    refine isS_ ?_
    refine cb_ ?_
    refine tcons_ ?_
    refine var_ rfl ?_
    refine tnil_ ?_
    refine list3_ W104 r105 fun v109 B110 H111 W112 l113 r114 => ?_
    refine join_ W112 r114 q115 ?_
    refine addS_ q116 ?_
    exact k107 _ _ _ l113 W112 (show Rp.R B110 (V.str (("gate " : Str) ++ (Txt.join (" " : Str) ([x95.a, x95.b, x95.c] : List Str)))) ((("gate " : Str) ++ (Txt.join (" " : Str) ([x95.a, x95.b, x95.c] : List Str))) : Str) from rfl)
  intro v120 B121 H122 l123 W124 r125
  refine cat_ W124 (Rp.mono l123 r92) r125 q126 fun v127 B128 H129 W130 l131 r132 => ?_
  have r134 : Rp.R B128 v127 (x133 : List Str) := Option.some.inj ex133 ▸ r132
  refine gset_ (σ' := [some v_m, some v127, none, none, none, none, none, none]) rfl ?_
  refine nx_ ?_
  obtain ⟨fin228, hx230, h⟩ := bs h
  refine seq_ ?_
  refine for_ ?_
  refine ilist_ ?_
  refine lst_ ?_
  refine tcons_ ?_
  refine tup_ ?_
  refine tcons_ ?_
  refine cst_ ?_
  refine tcons_ ?_
  refine cst_ ?_
  refine tnil_ ?_
  refine mk2 W130 (show Rp.R B128 (V.str ("next" : Str)) (("next" : Str) : Str) from rfl) (show Rp.R B128 (V.str ("nexts" : Str)) (("nexts" : Str) : Str) from rfl) fun v135 B136 H137 W138 l139 r140 => ?_
  refine tcons_ ?_
  refine tup_ ?_
  refine tcons_ ?_
  refine cst_ ?_
  refine tcons_ ?_
  refine cst_ ?_
  refine tnil_ ?_
  refine mk2 W138 (show Rp.R B136 (V.str ("never" : Str)) (("never" : Str) : Str) from rfl) (show Rp.R B136 (V.str ("nevers" : Str)) (("nevers" : Str) : Str) from rfl) fun v141 B142 H143 W144 l145 r146 => ?_
  refine tcons_ ?_
  refine tup_ ?_
  refine tcons_ ?_
  refine cst_ ?_
  refine tcons_ ?_
  refine cst_ ?_
  refine tnil_ ?_
  refine mk2 W144 (show Rp.R B142 (V.str ("some" : Str)) (("some" : Str) : Str) from rfl) (show Rp.R B142 (V.str ("somes" : Str)) (("somes" : Str) : Str) from rfl) fun v147 B148 H149 W150 l151 r152 => ?_
  refine tnil_ ?_
  refine mkL (xs := ([(("next" : Str), ("nexts" : Str)), (("never" : Str), ("nevers" : Str)), (("some" : Str), ("somes" : Str))] : List (Str × Str))) W150 (.cons (Rp.mono (l145.tr l151) r140) (.cons (Rp.mono l151 r146) (.cons r152 .nil))) (by show 3 ≤ sizeLine; decide) fun v153 B154 H155 W156 l157 r158 => ?_
  refine itL W156 r158 fun a159 tw160 => ?_
  refine for_n W156 tw160 _ hx230 (fun s σ O B => ∃ (w0' : V) (u0' : Option V) (u1' : Option V), σ = [some v_m, some w0', u0', u1', none, none, none, none] ∧ O = [] ∧ Rp.R B w0' (s : List Str)) (by rintro _ _ _ _ _ m' ⟨e0', e1', e2', a', b', f0'⟩; exact ⟨e0', e1', e2', a', b', Rp.mono m' f0'⟩) ⟨v127, none, none, rfl, rfl, (Rp.mono (l139.tr (l145.tr (l151.tr l157))) r134)⟩ (fun s161 x164 c233 v165 σ' O168 B166 H167 l170 W169 i' r171 hs172 => ?_) ?_
  · obtain ⟨v175, u162, u163, rfl, rfl, r176⟩ := i'
    have W169 : Ws [] B H B166 H167 [] := W169
    refine gP_ W169 r171 fun v177 v178 r179 r180 => ?_
    obtain rfl : v177 = V.str x164.1 := r179
    refine gcons_ ?_
    refine gset_ (σ' := [some v_m, some v175, some (V.str x164.1), u163, none, none, none, none]) rfl ?_
    obtain rfl : v178 = V.str x164.2 := r180
    refine gcons_ ?_
    refine gset_ (σ' := [some v_m, some v175, some (V.str x164.1), some (V.str x164.2), none, none, none, none]) rfl ?_
    refine gnil_ ?_
    obtain ⟨x181, ex181, hs172⟩ := bs hs172
    obtain ⟨q210, hs172⟩ := cks hs172
    obtain ⟨x211, ex211, hs172⟩ := bs hs172
    obtain ⟨q219, hs172⟩ := cks hs172
    obtain ⟨x226, ex226, hs172⟩ := bs hs172
    refine asg_ ?_
    refine op_ ?_
    refine var_ rfl ?_
    refine lc_ ?_
    refine ilist_ ?_
    refine dget_ ?_
    refine var_ rfl ?_
    refine var_ rfl ?_
    have hh182 : ∃ u, Rp.R B166 u (x181 : List (Str × Str)) ∧ ∀ Q', Q' u H167 → RdGet Q' v_m (V.str x164.2) H167 := by
      rcases R_m.at_ok ex181 with ⟨hx', hy'⟩ | ⟨hx', hy'⟩ | ⟨hx', hy'⟩
      · rw [hx', hy']; exact ⟨_, (Rp.mono (l40.tr (l81.tr (l89.tr (l123.tr (l131.tr (l139.tr (l145.tr (l151.tr (l157.tr l170))))))))) r14), fun Q' q => recGet (k := .inr "nexts") (ks := ([(.inr "switches"), (.inr "keepers"), (.inr "gates"), (.inr "nexts"), (.inr "nevers"), (.inr "somes")] : List Key)) e3 W169 (Le.dk (l40.tr (l81.tr (l89.tr (l123.tr (l131.tr (l139.tr (l145.tr (l151.tr (l157.tr l170))))))))) h4) rfl (by decide +kernel) 3 rfl q⟩
      · rw [hx', hy']; exact ⟨_, (Rp.mono (l40.tr (l81.tr (l89.tr (l123.tr (l131.tr (l139.tr (l145.tr (l151.tr (l157.tr l170))))))))) r15), fun Q' q => recGet (k := .inr "nevers") (ks := ([(.inr "switches"), (.inr "keepers"), (.inr "gates"), (.inr "nexts"), (.inr "nevers"), (.inr "somes")] : List Key)) e3 W169 (Le.dk (l40.tr (l81.tr (l89.tr (l123.tr (l131.tr (l139.tr (l145.tr (l151.tr (l157.tr l170))))))))) h4) rfl (by decide +kernel) 4 rfl q⟩
      · rw [hx', hy']; exact ⟨_, (Rp.mono (l40.tr (l81.tr (l89.tr (l123.tr (l131.tr (l139.tr (l145.tr (l151.tr (l157.tr l170))))))))) r16), fun Q' q => recGet (k := .inr "somes") (ks := ([(.inr "switches"), (.inr "keepers"), (.inr "gates"), (.inr "nexts"), (.inr "nevers"), (.inr "somes")] : List Key)) e3 W169 (Le.dk (l40.tr (l81.tr (l89.tr (l123.tr (l131.tr (l139.tr (l145.tr (l151.tr (l157.tr l170))))))))) h4) rfl (by decide +kernel) 5 rfl q⟩
    obtain ⟨v183, r184, q185⟩ := hh182
    refine q185 _ ?_
    refine itL W169 r184 fun a186 tw187 => ?_
    refine lc_o W169 tw187 q210 (fun (x188 : Str × Str) => bd (ck ((x164.1).length + ((" " : Str)).length ≤ sizeLine)) fun _ => bd (ck (((x164.1 ++ (" " : Str))).length + (x188.1).length ≤ sizeLine)) fun _ => bd (ck ((((x164.1 ++ (" " : Str)) ++ x188.1)).length + ((" " : Str)).length ≤ sizeLine)) fun _ => bd (ck (((((x164.1 ++ (" " : Str)) ++ x188.1) ++ (" " : Str))).length + (x188.2).length ≤ sizeLine)) fun _ => some ((((x164.1 ++ (" " : Str)) ++ x188.1) ++ (" " : Str)) ++ x188.2)) ex211 (fun x188 z212 v190 B191 H192 D193 acc194 Nx195 l196 W197 r198 hs189 k204 => ?_) ?_
    · obtain ⟨q206, hs189⟩ := cks hs189
      obtain ⟨q207, hs189⟩ := cks hs189
      obtain ⟨q208, hs189⟩ := cks hs189
      obtain ⟨q209, hs189⟩ := cks hs189
      obtain rfl := Option.some.inj hs189
      refine gP_ W197 r198 fun v200 v201 r202 r203 => ?_
      obtain rfl : v200 = V.str x188.1 := r202
      refine gcons_ ?_
      refine gset_ (σ' := [some v_m, some v175, some (V.str x164.1), some (V.str x164.2), some (V.str x188.1), none, none, none]) rfl ?_
      obtain rfl : v201 = V.str x188.2 := r203
      refine gcons_ ?_
      refine gset_ (σ' := [some v_m, some v175, some (V.str x164.1), some (V.str x164.2), some (V.str x188.1), none, none, some (V.str x188.2)]) rfl ?_
      refine gnil_ ?_
      refine ⟨rfl, ?_⟩
      refine op_ ?_
      refine op_ ?_
      refine op_ ?_
      refine op_ ?_
      refine var_ rfl ?_
      refine cst_ ?_
      refine addS_ q206 ?_
      refine var_ rfl ?_
      refine addS_ q207 ?_
      refine cst_ ?_
      refine addS_ q208 ?_
      refine var_ rfl ?_
      refine addS_ q209 ?_
      exact k204 _ _ _ (Le.refl _) W197 (show Rp.R B191 (V.str ((((x164.1 ++ (" " : Str)) ++ x188.1) ++ (" " : Str)) ++ x188.2)) (((((x164.1 ++ (" " : Str)) ++ x188.1) ++ (" " : Str)) ++ x188.2) : Str) from rfl)
    intro v213 B214 H215 l216 W217 r218
    refine cat_ W217 (Rp.mono l216 r176) r218 q219 fun v220 B221 H222 W223 l224 r225 => ?_
    have r227 : Rp.R B221 v220 (x226 : List Str) := Option.some.inj ex226 ▸ r225
    refine gset_ (σ' := [some v_m, some v220, some (V.str x164.1), some (V.str x164.2), none, none, none, none]) rfl ?_
    refine nx_ ?_
    rw [← Option.some.inj hs172]
    exact ⟨_, B221, (l170.tr (l216.tr l224)), W223, ⟨v220, (some (V.str x164.1)), (some (V.str x164.2)), rfl, rfl, r227⟩⟩
  rintro σ' O238 B234 H235 l237 W236 ⟨v239, u241, u242, rfl, rfl, r240⟩
  refine nx_ ?_
  refine ret_ ?_
  refine var_ rfl ?_
  rw [← Option.some.inj h] at k
  have W236' : Ws [] B H B234 H235 [] := W236
  exact k v239 B234 H235 W236' r240

end
end G

namespace G
open PySem L2 Pv
section
variable {P : Program} {w : World} {K : PySem.W.Frag} {mg : Str → Option Value} {base : Heap}

def sp_odd [Cs] (K : PySem.W.Frag) : Sp := fun vs H Q _ => ∃ (B : Hp) (x_number : Int) (r : Str), vs = [V.int x_number] ∧ Ws [] B H B H [] ∧ m_odd x_number = some r ∧ ∀ w B' H', Ws [] B H B' H' [] → Rp.R B' w r → Q w H'
abbrev s_odd : Stmt := top 41
theorem sc_odd : FnScope ["_law_number", "_law_some"] ["_law_number"] (C8.fnScope s_odd) := C8.fnScope_by (by decide +kernel)
theorem ok_odd [Cs] (T : Tx w K mg) {f : Addr} {fd : FuncData} (F : C8.Def K mg "_law_odd" s_odd f fd) (b : Binds K fd ["_law_number"] []) : C8.Cal P w K mg base 1 "_law_odd" (sp_odd K) [] := by
  refine C8.cal0 F b .nil sc_odd (fun vs H Q E h => ?_) (fun cdv A outer s H vs Q E hr h => ?_)
  · obtain ⟨B, x_number, r, rfl, _⟩ := h
    rfl
  obtain ⟨B, x_number, r, rfl, W, h, k⟩ := h
  refine ⟨_, (pss_cons (ps_set (i := 1) sc_odd.nd rfl (Or.inl rfl) pe_str) (pss_cons (ps_set (i := 1) sc_odd.nd rfl (Or.inl rfl) (pe_op k_addS (pv 1) pe_str)) (pss_cons (ps_set (i := 1) sc_odd.nd rfl (Or.inl rfl) (pe_op k_addS (pv 1) pe_str)) (pss_cons (ps_set (i := 1) sc_odd.nd rfl (Or.inl rfl) (pe_op k_addS (pv 1) pe_str)) (pss_cons (ps_set (i := 1) sc_odd.nd rfl (Or.inl rfl) (pe_op k_addS (pv 1) pe_str)) (pss_cons (ps_set (i := 1) sc_odd.nd rfl (Or.inl rfl) (pe_op k_addS (pv 1) pe_str)) (pss_cons (ps_set (i := 1) sc_odd.nd rfl (Or.inl rfl) (pe_op k_addS (pv 1) pe_str)) (pss_cons (ps_set (i := 1) sc_odd.nd rfl (Or.inl rfl) (pe_op k_addS (pv 1) pe_str)) (pss_cons (ps_set (i := 1) sc_odd.nd rfl (Or.inl rfl) (pe_op k_addS (pv 1) pe_str)) (pss_cons (ps_set (i := 1) sc_odd.nd rfl (Or.inl rfl) (pe_op k_addS (pv 1) pe_str)) (pss_cons (ps_set (i := 1) sc_odd.nd rfl (Or.inl rfl) (pe_m1 PySem.F.slot_str_split PySem.F.type_str_split k_split (pv 1) pe_str)) (pss_one (ps_ret (pe_ix (k_ixL (K := K)) (pv 1) (pe_op op_mod (pv 0) (pe_callB (k_len (K := K)) (by rfl) T.b_len (by decide +kernel) (pa_cons (pv 1) pa_nil))) (fun _ _ => rfl))))))))))))))), ?_⟩
  refine st_ (σ' := [some (V.int x_number), none]) rfl ?_
  unfold m_odd at h
  refine seq_ ?_
  refine asg_ ?_
  refine cst_ ?_
  refine gset_ (σ' := [some (V.int x_number), some (V.str ("switch,switch A,switch a1,switch a b,switch ~a,switch 0,switch aaaaaaaaa" : Str))]) rfl ?_
  refine nx_ ?_
  obtain ⟨q1, h⟩ := cks h
  obtain ⟨x2, ex2, h⟩ := bs h
  refine seq_ ?_
  refine asg_ ?_
  refine op_ ?_
  refine var_ rfl ?_
  refine cst_ ?_
  refine addS_ q1 ?_
  refine gas_ (V.str x2) (congrArg V.str (Option.some.inj ex2)) (σ' := [some (V.int x_number), some (V.str x2)]) rfl ?_
  refine nx_ ?_
  obtain ⟨q3, h⟩ := cks h
  obtain ⟨x4, ex4, h⟩ := bs h
  refine seq_ ?_
  refine asg_ ?_
  refine op_ ?_
  refine var_ rfl ?_
  refine cst_ ?_
  refine addS_ q3 ?_
  refine gas_ (V.str x4) (congrArg V.str (Option.some.inj ex4)) (σ' := [some (V.int x_number), some (V.str x4)]) rfl ?_
  refine nx_ ?_
  obtain ⟨q5, h⟩ := cks h
  obtain ⟨x6, ex6, h⟩ := bs h
  refine seq_ ?_
  refine asg_ ?_
  refine op_ ?_
  refine var_ rfl ?_
  refine cst_ ?_
  refine addS_ q5 ?_
  refine gas_ (V.str x6) (congrArg V.str (Option.some.inj ex6)) (σ' := [some (V.int x_number), some (V.str x6)]) rfl ?_
  refine nx_ ?_
  obtain ⟨q7, h⟩ := cks h
  obtain ⟨x8, ex8, h⟩ := bs h
  refine seq_ ?_
  refine asg_ ?_
  refine op_ ?_
  refine var_ rfl ?_
  refine cst_ ?_
  refine addS_ q7 ?_
  refine gas_ (V.str x8) (congrArg V.str (Option.some.inj ex8)) (σ' := [some (V.int x_number), some (V.str x8)]) rfl ?_
  refine nx_ ?_
  obtain ⟨q9, h⟩ := cks h
  obtain ⟨x10, ex10, h⟩ := bs h
  refine seq_ ?_
  refine asg_ ?_
  refine op_ ?_
  refine var_ rfl ?_
  refine cst_ ?_
  refine addS_ q9 ?_
  refine gas_ (V.str x10) (congrArg V.str (Option.some.inj ex10)) (σ' := [some (V.int x_number), some (V.str x10)]) rfl ?_
  refine nx_ ?_
  obtain ⟨q11, h⟩ := cks h
  obtain ⟨x12, ex12, h⟩ := bs h
  refine seq_ ?_
  refine asg_ ?_
  refine op_ ?_
  refine var_ rfl ?_
  refine cst_ ?_
  refine addS_ q11 ?_
  refine gas_ (V.str x12) (congrArg V.str (Option.some.inj ex12)) (σ' := [some (V.int x_number), some (V.str x12)]) rfl ?_
  refine nx_ ?_
  obtain ⟨q13, h⟩ := cks h
  obtain ⟨x14, ex14, h⟩ := bs h
  refine seq_ ?_
  refine asg_ ?_
  refine op_ ?_
  refine var_ rfl ?_
  refine cst_ ?_
  refine addS_ q13 ?_
  refine gas_ (V.str x14) (congrArg V.str (Option.some.inj ex14)) (σ' := [some (V.int x_number), some (V.str x14)]) rfl ?_
  refine nx_ ?_
  obtain ⟨q15, h⟩ := cks h
  obtain ⟨x16, ex16, h⟩ := bs h
  refine seq_ ?_
  refine asg_ ?_
  refine op_ ?_
  refine var_ rfl ?_
  refine cst_ ?_
  refine addS_ q15 ?_
  refine gas_ (V.str x16) (congrArg V.str (Option.some.inj ex16)) (σ' := [some (V.int x_number), some (V.str x16)]) rfl ?_
  refine nx_ ?_
  obtain ⟨q17, h⟩ := cks h
  obtain ⟨x18, ex18, h⟩ := bs h
  refine seq_ ?_
  refine asg_ ?_
  refine op_ ?_
  refine var_ rfl ?_
  refine cst_ ?_
  refine addS_ q17 ?_
  refine gas_ (V.str x18) (congrArg V.str (Option.some.inj ex18)) (σ' := [some (V.int x_number), some (V.str x18)]) rfl ?_
  refine nx_ ?_
  obtain ⟨q19, h⟩ := cks h
  obtain ⟨x26, ex26, h⟩ := bs h
  refine seq_ ?_
  refine asg_ ?_
  refine m1_ ?_
  refine var_ rfl ?_
  refine isS_ ?_
  refine cst_ ?_
  refine split_ (by decide +kernel) q19.1 q19.2 W fun v20 B21 H22 W23 l24 r25 => ?_
  have r27 : Rp.R B21 v20 (x26 : List Str) := Option.some.inj ex26 ▸ r25
  refine gset_ (σ' := [some (V.int x_number), some v20]) rfl ?_
  refine nx_ ?_
  obtain ⟨q28, h⟩ := cks h
  obtain ⟨x29, ex29, h⟩ := bs h
  refine ret_ ?_
  refine op_ ?_
  refine var_ rfl ?_
  refine op_ ?_
  refine var_ rfl ?_
  refine cb_ ?_
  refine tcons_ ?_
  refine var_ rfl ?_
  refine tnil_ ?_
  refine lenL_ W23 r27 ?_
  refine iC_ q28 ?_
  refine ixL_ W23 r27 ex29 fun v30 r31 => ?_
  obtain rfl : v30 = V.str x29 := r31
  rw [← Option.some.inj h] at k
  have W23' : Ws [] B H B21 H22 [] := W23
  exact k (V.str x29) B21 H22 W23' rfl

def sp_law (K : PySem.W.Frag) : Sp := fun vs H Q _ => ∃ (B : Hp) (v_script : V) (x_script : Scr) (r : Bool), vs = [v_script] ∧ Ws [] B H B H [] ∧ RC K B v_script x_script ∧ m_law x_script = some r ∧ ∀ w B' H', Ws [] B H B' H' [] → Rp.R B' w r → Q w H'
abbrev s_law : Stmt := top 42
theorem sc_law : FnScope ["_law_script", "_law_rows_here", "_law_k", "_law_cell", "_law_m", "_law_at", "_law_told", "_law_odd_here", "_law_place"] ["_law_script"] (C8.fnScope s_law) := C8.fnScope_by (by decide +kernel)
theorem ok_law [Cs] (T : Tx w K mg) (shr : PySem.W.nsIn K cStatics sharingNotToldKey = some none) (c_machine : C8.Cal P w K mg base 5 "_law_machine" (sp_machine K) []) (c_rows : C8.Cal P w K mg base 2 "_law_rows" (sp_rows K) []) (c_mix : C8.Cal P w K mg base 1 "_law_mix" (sp_mix K) []) (c_odd : C8.Cal P w K mg base 1 "_law_odd" (sp_odd K) []) (c_fault : C8.Cal P w K mg base 8 "_law_fault" (sp_fault K) []) (c_p_read_machine : C8.Cal P w K mg base 5 "read_machine" (sp_p_read_machine K) []) {f : Addr} {fd : FuncData} (F : C8.Fun K "law" "law" s_law f fd) : FnOk P w K mg base C8.CX0 9 f fd ["_law_script"] (sp_law K) := by
  refine C8.fn0T F sc_law (by decide +kernel) (by decide +kernel) (fun vs H Q E h => ?_) (fun cdv A outer s H vs Q E hr h => ?_)
  · obtain ⟨B, v_script, x_script, r, rfl, _⟩ := h
    rfl
  obtain ⟨B, v_script, x_script, r, rfl, W, r_script, h, k⟩ := h
  refine ⟨_, (L2.psst_cons (L2.PST.of (ps_set (i := 1) sc_law.nd rfl (Or.inl rfl) (C8.pe_c c_rows hr (by omega) (by rfl) (pa_cons (C8.pe_c c_machine hr (by omega) (by rfl) (pa_cons (pv 0) (pa_cons (pe_tup (pa_cons pe_int (pa_cons pe_int (pa_cons pe_int (pa_cons pe_int pa_nil))))) pa_nil))) pa_nil)))) (L2.psst_cons (PvTk.pst_forT PassesOwn.never rfl (k_pie (K := K) (by rfl) T.b_enumerate (pa_cons (pe_op op_cat (pe_lst (pa_cons pe_int pa_nil)) (pe_slice (k_slL (K := K)) (pv 0) (po_some pe_int) (po_some pe_int))) pa_nil)) (k_gtup (K := K) rfl (pgs_cons (pg_name (i := 2) sc_law.nd rfl (Or.inl rfl)) (pgs_cons (pg_name (i := 3) sc_law.nd rfl (Or.inl rfl)) pgs_nil))) (L2.psst_cons (L2.PST.of (ps_set (i := 4) sc_law.nd rfl (Or.inl rfl) (C8.pe_c c_mix hr (by omega) (by rfl) (pa_cons (pv 3) (pa_cons (pe_op op_add pe_int (pv 2)) pa_nil))))) (L2.psst_cons (L2.PST.of (ps_set (i := 5) sc_law.nd rfl (Or.inl rfl) (pe_op op_mod (pv 4) (pe_op op_add (pe_callB (k_len (K := K)) (by rfl) T.b_len (by decide +kernel) (pa_cons (pv 1) pa_nil)) pe_int)))) (L2.psst_cons (L2.PST.of (ps_set (i := 6) sc_law.nd rfl (Or.inl rfl) (pe_op op_cat (pe_slice (k_slL (K := K)) (pv 1) po_none (po_some (pv 5))) (pe_op op_rep (pe_lst (pa_cons (pe_ix (k_ixL (K := K)) (pe_lst (pa_cons pe_str (pa_cons pe_str pa_nil))) (pe_op op_mod (pe_op op_fdiv (pv 4) pe_int) pe_int) (fun _ _ => rfl)) pa_nil)) (pe_op op_mod (pe_op op_fdiv (pv 4) pe_int) pe_int))))) (L2.psst_cons (PvTk.pst_setT (i := 7) sc_law.nd rfl (Or.inl rfl) (PvTk.pet_replV (K := K) (C8.pe_c c_odd hr (by omega) (by rfl) (pa_cons (pe_op op_fdiv (pv 4) pe_int) pa_nil)) (pe_op op_add pe_int (pe_op op_mod (pe_op op_fdiv (pv 4) pe_int) pe_int)) shr)) (L2.PSsT.of (pss_cons (ps_set (i := 8) sc_law.nd rfl (Or.inl rfl) (pe_callB (k_len (K := K)) (by rfl) T.b_len (by decide +kernel) (pa_cons (pv 6) pa_nil))) (pss_cons (ps_set (i := 6) sc_law.nd rfl (Or.inl rfl) (pe_op op_cat (pe_op op_cat (pv 6) (pe_lst (pa_cons (pe_op k_addS (pe_op k_mulZ pe_str (pe_op op_mod (pe_op op_fdiv (pv 4) pe_int) pe_int)) (pv 7)) pa_nil))) (pe_slice (k_slL (K := K)) (pv 1) (po_some (pv 5)) po_none))) (pss_one (ps_if (pt_cmpR (k_neD (K := K) hr.units) (C8.pe_c c_fault hr (by omega) (by rfl) (pa_cons (pe_m1 PySem.F.slot_str_join PySem.F.type_str_join (k_join (K := K)) pe_str (pe_op op_cat (pv 6) (pe_slice (k_slL (K := K)) (pe_lst (pa_cons pe_str (pa_cons pe_str pa_nil))) po_none (po_some (pe_op op_mod (pe_op op_fdiv (pv 4) pe_int) pe_int))))) pa_nil)) (pe_tup (pa_cons (pv 8) (pa_cons pe_str pa_nil))) (nomark _)) (pss_one (ps_ret pe_bl)) pss_nil)))))))))) (L2.PSsT.of (pss_cons (ps_expr (C8.pe_c c_p_read_machine hr (by omega) (by rfl) (pa_cons (pe_m1 PySem.F.slot_str_join PySem.F.type_str_join (k_join (K := K)) pe_str (pv 1)) pa_nil))) (pss_one (ps_ret pe_bl)))))), ?_⟩
  refine st_ (σ' := [some v_script, none, none, none, none, none, none, none, none]) rfl ?_
  unfold m_law at h
  obtain ⟨r8, er8, h⟩ := bs h
  obtain ⟨r17, er17, h⟩ := bs h
  refine seq_ ?_
  refine asg_ ?_
  refine call_ ?_
  refine tcons_ ?_
  refine call_ ?_
  refine tcons_ ?_
  refine var_ rfl ?_
  refine tcons_ ?_
  refine tup_ ?_
  refine tcons_ ?_
  refine cst_ ?_
  refine tcons_ ?_
  refine cst_ ?_
  refine tcons_ ?_
  refine cst_ ?_
  refine tcons_ ?_
  refine cst_ ?_
  refine tnil_ ?_
  refine mkV W (.cons (show Rp.R B (V.int (3 : Int)) ((3 : Int) : Int) from rfl) (.cons (show Rp.R B (V.int (4 : Int)) ((4 : Int) : Int) from rfl) (.cons (show Rp.R B (V.int (8 : Int)) ((8 : Int) : Int) from rfl) (.cons (show Rp.R B (V.int (2 : Int)) ((2 : Int) : Int) from rfl) .nil)))) (by show 4 ≤ sizeLine; decide) fun v1 B2 H3 W4 l5 r6 => ?_
  refine tnil_ ?_
  have L7 := Ws.ln (O1 := []) (O := []) (O2 := []) W4
  refine ⟨B2, v_script, x_script, v1, (TV.mk [(3 : Int), (4 : Int), (8 : Int), (2 : Int)] : TV Int), r8, rfl, Ln.call (O1 := []) (O := []) (O2 := []) L7 W4, (RC.mono l5 r_script), r6, er8, fun v9 B10 H11 V12 q13 => ?_⟩
  have W14 := Ws.back (O1 := []) (O := []) (O2 := []) W4 (O' := []) V12
  have l15 := (Ws.bb V12)
  have W14 : Ws [] B H B10 H11 [] := W14
  refine tnil_ ?_
  have L16 := Ws.ln (O1 := []) (O := []) (O2 := []) W14
  refine ⟨B10, v9, r8, r17, rfl, Ln.call (O1 := []) (O := []) (O2 := []) L16 W14, q13, er17, fun v18 B19 H20 V21 q22 => ?_⟩
  have W23 := Ws.back (O1 := []) (O := []) (O2 := []) W14 (O' := []) V21
  have l24 := (Ws.bb V21)
  have W23 : Ws [] B H B19 H20 [] := W23
  refine gset_ (σ' := [some v_script, some v18, none, none, none, none, none, none, none]) rfl ?_
  refine nx_ ?_
  obtain ⟨q37, h⟩ := cks h
  obtain ⟨fin203, hx205, h⟩ := bs h
  refine seq_ ?_
  refine for_ ?_
  refine ienum_ ?_
  refine tcons_ ?_
  refine op_ ?_
  refine lst_ ?_
  refine tcons_ ?_
  refine cst_ ?_
  refine tnil_ ?_
  refine mkL (xs := ([(7 : Int)] : List Int)) W23 (.cons (show Rp.R B19 (V.int (7 : Int)) ((7 : Int) : Int) from rfl) .nil) (by show 1 ≤ sizeLine; decide) fun v25 B26 H27 W28 l29 r30 => ?_
  refine sl_ ?_
  refine var_ rfl ?_
  refine part_ ?_
  refine cst_ ?_
  refine ⟨_, rfl, ?_⟩
  refine part_ ?_
  refine cst_ ?_
  refine ⟨_, rfl, ?_⟩
  refine slC_ W28 (RC.mono (l5.tr (l15.tr (l24.tr l29))) r_script) fun v31 B32 H33 W34 l35 r36 => ?_
  refine cat_ W34 (Rp.mono l35 r30) r36 q37 fun v38 B39 H40 W41 l42 r43 => ?_
  refine tnil_ ?_
  refine itE W41 r43 fun a44 tw45 => ?_
  refine for_t W41 tw45 _ hx205 (fun s σ O B => ∃ (u0' : Option V) (u1' : Option V) (u2' : Option V) (u3' : Option V) (u4' : Option V) (u5' : Option V) (u6' : Option V), σ = [some v_script, some v18, u0', u1', u2', u3', u4', u5', u6'] ∧ O = []) (by rintro _ _ _ _ _ m' ⟨e0', e1', e2', e3', e4', e5', e6', a', b'⟩; exact ⟨e0', e1', e2', e3', e4', e5', e6', a', b'⟩) ⟨none, none, none, none, none, none, none, rfl, rfl⟩ (fun s46 x54 c208 v55 σ' O58 B56 H57 l60 W59 i' r61 hs62 hb63 hr64 => ?_) ?_
  · obtain ⟨u47, u48, u49, u50, u51, u52, u53, rfl, rfl⟩ := i'
    have W59 : Ws [] B H B56 H57 [] := W59
    refine gP_ W59 r61 fun v65 v66 r67 r68 => ?_
    obtain rfl : v65 = V.int x54.1 := r67
    refine gcons_ ?_
    refine gset_ (σ' := [some v_script, some v18, some (V.int x54.1), u48, u49, u50, u51, u52, u53]) rfl ?_
    obtain rfl : v66 = V.int x54.2 := r68
    refine gcons_ ?_
    refine gset_ (σ' := [some v_script, some v18, some (V.int x54.1), some (V.int x54.2), u49, u50, u51, u52, u53]) rfl ?_
    refine gnil_ ?_
    obtain ⟨r70, er70, hs62⟩ := bs hs62
    refine seq_ ?_
    refine asg_ ?_
    refine call_ ?_
    refine tcons_ ?_
    refine var_ rfl ?_
    refine tcons_ ?_
    refine op_ ?_
    refine cst_ ?_
    refine var_ rfl ?_
    refine i0_ ?_
    refine tnil_ ?_
    have L69 := Ws.ln (O1 := []) (O := []) (O2 := []) W59
    refine ⟨B56, x54.2, ((400 : Int) + x54.1), r70, rfl, Ln.call (O1 := []) (O := []) (O2 := []) L69 W59, er70, fun v71 B72 H73 V74 q75 => ?_⟩
    have W76 := Ws.back (O1 := []) (O := []) (O2 := []) W59 (O' := []) V74
    have l77 := (Ws.bb V74)
    have W76 : Ws [] B H B72 H73 [] := W76
    obtain rfl : v71 = V.int r70 := q75
    refine gset_ (σ' := [some v_script, some v18, some (V.int x54.1), some (V.int x54.2), some (V.int r70), u50, u51, u52, u53]) rfl ?_
    refine nx_ ?_
    obtain ⟨q78, hs62⟩ := cks hs62
    obtain ⟨x79, ex79, hs62⟩ := bs hs62
    refine seq_ ?_
    refine asg_ ?_
    refine op_ ?_
    refine var_ rfl ?_
    refine op_ ?_
    refine cb_ ?_
    refine tcons_ ?_
    refine var_ rfl ?_
    refine tnil_ ?_
    refine lenL_ W76 (Rp.mono (l29.tr (l35.tr (l42.tr (l60.tr l77)))) q22) ?_
    refine cst_ ?_
    refine i0_ ?_
    refine iC_ q78 ?_
    refine gas_ (V.int x79) (congrArg V.int (Option.some.inj ex79)) (σ' := [some v_script, some v18, some (V.int x54.1), some (V.int x54.2), some (V.int r70), some (V.int x79), u51, u52, u53]) rfl ?_
    refine nx_ ?_
    obtain ⟨x92, ex92, hs62⟩ := bs hs62
    obtain ⟨q101, hs62⟩ := cks hs62
    obtain ⟨q108, hs62⟩ := cks hs62
    obtain ⟨x115, ex115, hs62⟩ := bs hs62
    refine seq_ ?_
    refine asg_ ?_
    refine op_ ?_
    refine sl_ ?_
    refine var_ rfl ?_
    refine nopart_ ?_
    refine part_ ?_
    refine var_ rfl ?_
    refine ⟨_, rfl, ?_⟩
    refine slL_ W76 (Rp.mono (l29.tr (l35.tr (l42.tr (l60.tr l77)))) q22) fun v80 B81 H82 W83 l84 r85 => ?_
    refine op_ ?_
    refine lst_ ?_
    refine tcons_ ?_
    refine op_ ?_
    refine lst_ ?_
    refine tcons_ ?_
    refine cst_ ?_
    refine tcons_ ?_
    refine cst_ ?_
    refine tnil_ ?_
    refine mkL (xs := ([("" : Str), ("   " : Str)] : List Str)) W83 (.cons (show Rp.R B81 (V.str ("" : Str)) (("" : Str) : Str) from rfl) (.cons (show Rp.R B81 (V.str ("   " : Str)) (("   " : Str) : Str) from rfl) .nil)) (by show 2 ≤ sizeLine; decide) fun v86 B87 H88 W89 l90 r91 => ?_
    refine op_ ?_
    refine op_ ?_
    refine var_ rfl ?_
    refine cst_ ?_
    refine iC_ ⟨by decide, by decide⟩ ?_
    refine cst_ ?_
    refine iC_ (by show (0 : Int) < 2; decide) ?_
    refine ixL_ W89 r91 ex92 fun v93 r94 => ?_
    obtain rfl : v93 = V.str x92 := r94
    refine tnil_ ?_
    refine mkL (xs := ([x92] : List Str)) W89 (.cons (show Rp.R B87 (V.str x92) (x92 : Str) from rfl) .nil) (by show 1 ≤ sizeLine; decide) fun v95 B96 H97 W98 l99 r100 => ?_
    refine op_ ?_
    refine op_ ?_
    refine var_ rfl ?_
    refine cst_ ?_
    refine iC_ ⟨by decide, by decide⟩ ?_
    refine cst_ ?_
    refine iC_ (by show (0 : Int) < 3; decide) ?_
    refine repL_ W98 r100 q101 fun v102 B103 H104 W105 l106 r107 => ?_
    refine cat_ W105 (Rp.mono (l90.tr (l99.tr l106)) r85) r107 q108 fun v109 B110 H111 W112 l113 r114 => ?_
    have r116 : Rp.R B110 v109 (x115 : List Str) := Option.some.inj ex115 ▸ r114
    refine gset_ (σ' := [some v_script, some v18, some (V.int x54.1), some (V.int x54.2), some (V.int r70), some (V.int x79), some v109, u52, u53]) rfl ?_
    refine nx_ ?_
    obtain ⟨r118, er118, hs62⟩ := bs hs62
    obtain ⟨q126, hs62⟩ := cks hs62
    obtain ⟨x127, ex127, hs62⟩ := bs hs62
    refine seq_ ?_
    refine asg_ ?_
    refine PvTk.replV_ ?_
    refine call_ ?_
    refine tcons_ ?_
    refine op_ ?_
    refine var_ rfl ?_
    refine cst_ ?_
    refine iC_ ⟨by decide, by decide⟩ ?_
    refine tnil_ ?_
    have L117 := Ws.ln (O1 := []) (O := []) (O2 := []) W112
    refine ⟨B110, (r70 / (120 : Int)), r118, rfl, Ln.call (O1 := []) (O := []) (O2 := []) L117 W112, er118, fun v119 B120 H121 V122 q123 => ?_⟩
    have W124 := Ws.back (O1 := []) (O := []) (O2 := []) W112 (O' := []) V122
    have l125 := (Ws.bb V122)
    have W124 : Ws [] B H B120 H121 [] := W124
    obtain rfl : v119 = V.str r118 := q123
    refine ⟨_, rfl, ?_⟩
    refine op_ ?_
    refine cst_ ?_
    refine op_ ?_
    refine op_ ?_
    refine var_ rfl ?_
    refine cst_ ?_
    refine iC_ ⟨by decide, by decide⟩ ?_
    refine cst_ ?_
    refine iC_ (by show (0 : Int) < 2; decide) ?_
    refine i0_ ?_
    refine ⟨_, rfl, q126, ?_⟩
    refine gas_ (V.str x127) (congrArg V.str (Option.some.inj ex127)) (σ' := [some v_script, some v18, some (V.int x54.1), some (V.int x54.2), some (V.int r70), some (V.int x79), some v109, some (V.str x127), u53]) rfl ?_
    refine nx_ ?_
    obtain ⟨x128, ex128, hs62⟩ := bs hs62
    refine seq_ ?_
    refine asg_ ?_
    refine cb_ ?_
    refine tcons_ ?_
    refine var_ rfl ?_
    refine tnil_ ?_
    refine lenL_ W124 (Rp.mono l125 r116) ?_
    refine gas_ (V.int x128) (congrArg V.int (Option.some.inj ex128)) (σ' := [some v_script, some v18, some (V.int x54.1), some (V.int x54.2), some (V.int r70), some (V.int x79), some v109, some (V.str x127), some (V.int x128)]) rfl ?_
    refine nx_ ?_
    obtain ⟨q129, hs62⟩ := cks hs62
    obtain ⟨q130, hs62⟩ := cks hs62
    obtain ⟨q137, hs62⟩ := cks hs62
    obtain ⟨q150, hs62⟩ := cks hs62
    obtain ⟨x157, ex157, hs62⟩ := bs hs62
    refine seq_ ?_
    refine asg_ ?_
    refine op_ ?_
    refine op_ ?_
    refine var_ rfl ?_
    refine lst_ ?_
    refine tcons_ ?_
    refine op_ ?_
    refine op_ ?_
    refine cst_ ?_
    refine op_ ?_
    refine op_ ?_
    refine var_ rfl ?_
    refine cst_ ?_
    refine iC_ ⟨by decide, by decide⟩ ?_
    refine cst_ ?_
    refine iC_ (by show (0 : Int) < 3; decide) ?_
    refine mulZ_ q129 ?_
    refine var_ rfl ?_
    refine addS_ q130 ?_
    refine tnil_ ?_
    refine mkL (xs := ([((timesS (" " : Str) ((r70 / (11 : Int)) % (3 : Int))) ++ x127)] : List Str)) W124 (.cons (show Rp.R B120 (V.str ((timesS (" " : Str) ((r70 / (11 : Int)) % (3 : Int))) ++ x127)) (((timesS (" " : Str) ((r70 / (11 : Int)) % (3 : Int))) ++ x127) : Str) from rfl) .nil) (by show 1 ≤ sizeLine; decide) fun v131 B132 H133 W134 l135 r136 => ?_
    refine cat_ W134 (Rp.mono (l125.tr l135) r116) r136 q137 fun v138 B139 H140 W141 l142 r143 => ?_
    refine sl_ ?_
    refine var_ rfl ?_
    refine part_ ?_
    refine var_ rfl ?_
    refine ⟨_, rfl, ?_⟩
    refine nopart_ ?_
    refine slL_ W141 (Rp.mono (l29.tr (l35.tr (l42.tr (l60.tr (l77.tr (l84.tr (l90.tr (l99.tr (l106.tr (l113.tr (l125.tr (l135.tr l142)))))))))))) q22) fun v144 B145 H146 W147 l148 r149 => ?_
    refine cat_ W147 (Rp.mono l148 r143) r149 q150 fun v151 B152 H153 W154 l155 r156 => ?_
    have r158 : Rp.R B152 v151 (x157 : List Str) := Option.some.inj ex157 ▸ r156
    refine gset_ (σ' := [some v_script, some v18, some (V.int x54.1), some (V.int x54.2), some (V.int r70), some (V.int x79), some v151, some (V.str x127), some (V.int x128)]) rfl ?_
    refine nx_ ?_
    obtain ⟨q173, hs62⟩ := cks hs62
    obtain ⟨q180, hs62⟩ := cks hs62
    obtain ⟨r182, er182, hs62⟩ := bs hs62
    obtain ⟨q196, hs62⟩ := cks hs62
    refine if_ (fun v' H' => ∃ B', v' = ((!decide (r182 = (x128, ("row" : Str))))) ∧ Le B152 B' ∧ Ws [] B H B' H' []) (fun Q159 kk160 => ?_) (fun H198 hw => ?_) (fun H198 hw => ?_)
    · refine tst_ ?_
      refine op_ ?_
      refine call_ ?_
      refine tcons_ ?_
      refine m1_ ?_
      refine cst_ ?_
      refine isS_ ?_
      refine op_ ?_
      refine var_ rfl ?_
      refine sl_ ?_
      refine lst_ ?_
      refine tcons_ ?_
      refine cst_ ?_
      refine tcons_ ?_
      refine cst_ ?_
      refine tnil_ ?_
      refine mkL (xs := ([("gate" : Str), ("x" : Str)] : List Str)) W154 (.cons (show Rp.R B152 (V.str ("gate" : Str)) (("gate" : Str) : Str) from rfl) (.cons (show Rp.R B152 (V.str ("x" : Str)) (("x" : Str) : Str) from rfl) .nil)) (by show 2 ≤ sizeLine; decide) fun v161 B162 H163 W164 l165 r166 => ?_
      refine nopart_ ?_
      refine part_ ?_
      refine op_ ?_
      refine op_ ?_
      refine var_ rfl ?_
      refine cst_ ?_
      refine iC_ ⟨by decide, by decide⟩ ?_
      refine cst_ ?_
      refine iC_ (by show (0 : Int) < 3; decide) ?_
      refine ⟨_, rfl, ?_⟩
      refine slL_ W164 r166 fun v167 B168 H169 W170 l171 r172 => ?_
      refine cat_ W170 (Rp.mono (l165.tr l171) r158) r172 q173 fun v174 B175 H176 W177 l178 r179 => ?_
      refine join_ W177 r179 q180 ?_
      refine tnil_ ?_
      have L181 := Ws.ln (O1 := []) (O := []) (O2 := []) W177
      refine ⟨B175, (Txt.join ("\n" : Str) (x157 ++ (cutL ([("gate" : Str), ("x" : Str)] : List Str) none (some ((r70 / (13 : Int)) % (3 : Int)))))), r182, rfl, Ln.call (O1 := []) (O := []) (O2 := []) L181 W177, er182, fun v183 B184 H185 V186 q187 => ?_⟩
      have W188 := Ws.back (O1 := []) (O := []) (O2 := []) W177 (O' := []) V186
      have l189 := (Ws.bb V186)
      have W188 : Ws [] B H B184 H185 [] := W188
      refine tup_ ?_
      refine tcons_ ?_
      refine var_ rfl ?_
      refine tcons_ ?_
      refine cst_ ?_
      refine tnil_ ?_
      refine mk2 W188 (show Rp.R B184 (V.int x128) (x128 : Int) from rfl) (show Rp.R B184 (V.str ("row" : Str)) (("row" : Str) : Str) from rfl) fun v190 B191 H192 W193 l194 r195 => ?_
      refine eqD_n (dat W193 (Rp.mono l194 q187) q196.1) (dat W193 r195 q196.2) ?_
      refine ⟨_, rfl, ?_⟩
      exact kk160 _ _ ⟨B191, rfl, (l165.tr (l171.tr (l178.tr (l189.tr l194)))), W193⟩
    · obtain ⟨B197, c201, l200, W199⟩ := hw
      have c201 := c201.symm
      have hs62 := opT c201 hs62
      refine ret_ ?_
      refine cst_ ?_
      obtain rfl := Option.some.inj hs62
      have hf202 := hr64 _ rfl
      subst hf202
      have h := ct_rt h
      rw [← Option.some.inj h] at k
      have W199' : Ws [] B H B197 H198 [] := W199
      exact k (V.bl false) B197 H198 W199' rfl
    · obtain ⟨B197, c201, l200, W199⟩ := hw
      have c201 := c201.symm
      have hs62 := opF c201 hs62
      refine next_ ?_
      refine nx_ ?_
      rw [← Option.some.inj hs62]
      exact ⟨_, _, B197, rfl, (l60.tr (l77.tr (l84.tr (l90.tr (l99.tr (l106.tr (l113.tr (l125.tr (l135.tr (l142.tr (l148.tr (l155.tr l200)))))))))))), W199, ⟨(some (V.int x54.1)), (some (V.int x54.2)), (some (V.int r70)), (some (V.int x79)), (some v151), (some (V.str x127)), (some (V.int x128)), rfl, rfl⟩⟩
  rintro s214 σ' O213 B209 H210 ef l212 W211 ⟨u215, u216, u217, u218, u219, u220, u221, rfl, rfl⟩
  subst ef
  have h := ct_nx h
  refine nx_ ?_
  obtain ⟨q222, h⟩ := cks h
  obtain ⟨r224, er224, h⟩ := bs h
  refine seq_ ?_
  refine drop_ ?_
  refine call_ ?_
  refine tcons_ ?_
  refine m1_ ?_
  refine cst_ ?_
  refine isS_ ?_
  refine var_ rfl ?_
  refine join_ W211 (Rp.mono (l29.tr (l35.tr (l42.tr l212))) q22) q222 ?_
  refine tnil_ ?_
  have L223 := Ws.ln (O1 := []) (O := []) (O2 := []) W211
  refine ⟨B209, (Txt.join ("\n" : Str) r17), r224, rfl, Ln.call (O1 := []) (O := []) (O2 := []) L223 W211, er224, fun v225 B226 H227 V228 q229 => ?_⟩
  have W230 := Ws.back (O1 := []) (O := []) (O2 := []) W211 (O' := []) V228
  have l231 := (Ws.bb V228)
  have W230 : Ws [] B H B226 H227 [] := W230
  refine nx_ ?_
  refine ret_ ?_
  refine cst_ ?_
  rw [← Option.some.inj h] at k
  have W230' : Ws [] B H B226 H227 [] := W230
  exact k (V.bl true) B226 H227 W230' rfl

end
end G

namespace G
open PySem L2 Pv
section
variable {P : Program} {w : World} {K : PySem.W.Frag} {mg : Str → Option Value} {base : Heap}
abbrev s_BM_init : Stmt := (C8.clsBody (top 2)).getD 0 (.Pass ⟨0, 0, 0, 0⟩)
structure ExT (K : PySem.W.Frag) (mg : Str → Option Value) (BM GE NW BA fI : Addr) (fdI : FuncData) : Prop where
  gBM : mg "BadMachine" = some (.ref BM)
  gGE : mg "GuardError" = some (.ref GE)
  gNW : mg "NoWall" = some (.ref NW)
  gBA : mg "BadAnswer" = some (.ref BA)
  gVE : mg "ValueError" = none
  oex : OexC K BM
  exc : ExcC K BM
  iC : PySem.W.findIn K (.ref BM) "__init__" = some (some (.ref fI))
  tI : PySem.W.typeIn K (.ref fI) = some (.type "function")
  FI : C8.Fun K "__init__" "BadMachine.__init__" s_BM_init fI fdI
  bI : Binds K fdI ["self", "place", "word"] []
  rdGE : PySem.W.readsIn K GE (.type "type") = true
  spGE : PySem.W.specialIn K (.ref GE) "__getattribute__" = some (some (.builtin "type.__getattribute__"))
  vGE : PySem.W.findCls K (.ref GE) (.type "type") "__init__" = some (.val (.builtin "ValueError.__init__"))
  noP : PySem.W.findIn K (.ref BM) "place" = some none
  noW : PySem.W.findIn K (.ref BM) "word" = some none
  exm : PySem.W.exmOne K (.ref BM) (.ref GE) = some true
  k2 : PySem.W.kitOne K (.ref BM) (.type "ValueError") = some true
  k3 : PySem.W.kitAny K (.ref BM) [.ref BA, .ref NW] = some false
def ExOk {K : PySem.W.Frag} {h : Heap} (_ : K.In h) (mg : Str → Option Value) : Prop := ∃ (BM GE NW BA fI : Addr) (fdI : FuncData), ExT K mg BM GE NW BA fI fdI
def sp_BM (C : Addr) : Sp := fun vs H Q _ => ∃ (a : Addr) (x y : V), vs = [.ref a, x, y] ∧ H a = some (exo a C none) ∧
  ∀ dx, H dx = none → dx ≠ a → Q .non (upd (upd (upd H dx (exd dx [("place", x)])) a (exo a C (some dx))) dx (exd dx [("word", y), ("place", x)]))
theorem sc_BM_init : FnScope ["self", "place", "word"] ["self", "place", "word"] (C8.fnScope s_BM_init) := C8.fnScope_by (by decide +kernel)
theorem ok_BM {BM GE NW BA fI : Addr} {fdI : FuncData} (X : ExT K mg BM GE NW BA fI fdI) : FnOk P w K mg base C8.CX0 1 fI fdI ["self", "place", "word"] (sp_BM BM) := by
  refine C8.fn0 X.FI sc_BM_init (fun vs H Q E h => ?_) (fun cdv A outer s H vs Q E hr h => ⟨_, pss_cons (ps_expr (pe_beinit (by rfl) X.gGE X.rdGE X.spGE X.vGE (pa_cons (pv 0) (pa_cons pe_str pa_nil)))) (pss_cons (ps_ost (pv 0) (pv 1)) (pss_one (ps_ost (pv 0) (pv 2)))), ?_⟩)
  · obtain ⟨a, x, y, rfl, _⟩ := h
    rfl
  · obtain ⟨a, x, y, rfl, ha, k⟩ := h
    refine seq_ ?_
    refine drop_ ?_
    refine tcons_ ?_
    refine var_ rfl ?_
    refine tcons_ ?_
    refine cst_ ?_
    refine tnil_ ?_
    refine ⟨a, BM, _, rfl, by show 1 ≤ 1000; decide, X.oex, ha, ?_⟩
    refine nx_ ?_
    refine seq_ ?_
    refine var_ rfl ?_
    refine var_ rfl ?_
    refine ⟨a, BM, rfl, X.oex, X.noP, .inl ⟨ha, fun dx hd hn => ?_⟩⟩
    refine nx_ ?_
    refine var_ rfl ?_
    refine var_ rfl ?_
    refine ⟨a, BM, rfl, X.oex, X.noW, .inr ⟨dx, _, upd_same, by rw [upd_ne hn]; exact upd_same, by show 1 ≤ 900; decide, ?_⟩⟩
    exact k dx hd hn
theorem exH {H : Hp} {a dx C : Addr} {x y : V} (ha : H a = none) (hd : H dx = none) (hn : dx ≠ a) :
    upd (del (upd (upd (upd (upd H a (exo a C none)) dx (exd dx [("place", x)])) a (exo a C (some dx))) dx (exd dx [("word", y), ("place", x)])) a) dx (.xd [("word", y), ("place", x)]) = upd H dx (.xd [("word", y), ("place", x)]) := by
  funext b
  by_cases h1 : b = dx
  · rw [h1, upd_same, upd_same]
  · rw [upd_ne h1, upd_ne h1]
    by_cases h2 : b = a
    · rw [h2, del_same, ha]
    · rw [del_ne h2, upd_ne h1, upd_ne h2, upd_ne h1, upd_ne h2]
theorem Ws.none {A : List Addr} {B0 H0 B H : Hp} : ∀ {O : List (Addr × HO)}, Ws A B0 H0 B H O → Ws A B0 H0 B H []
  | [], W => W
  | _ :: r, W => Ws.none (O := r) (Ws.drop W 0)
def spX_read (C : Addr) : Sp := fun vs H _ E => ∃ (B : Hp) (x_text : Str) (r : Int × Str), vs = [V.str x_text] ∧ Ws [] B H B H [] ∧ m_fault x_text = some r ∧
  ∀ d B' H', Ws [] B H B' H' [] → H' d = some (.xd [("word", V.str r.2), ("place", V.int r.1)]) → E (.ref C) (some d) H'
theorem okX_read [Cs] (T : Tx w K mg) {BM GE NW BA fI : Addr} {fdI : FuncData} (X : ExT K mg BM GE NW BA fI fdI) (c_Draft_init : C8.Mak P w K mg base 1 "Draft" Cs.c_Draft (sp_Draft_init K) []) (c_p_words_of : C8.Cal P w K mg base 1 "words_of" (sp_p_words_of K) []) (c_p_draft_row : C8.Cal P w K mg base 4 "draft_row" (sp_p_draft_row K) []) (c_Machine_init : C8.Mak P w K mg base 1 "Machine" Cs.c_Machine (sp_Machine_init K) []) {f : Addr} {fd : FuncData} (F : C8.Def K mg "read_machine" s_p_read_machine f fd) : FnOk P w K mg base (L2.CX P w) 5 f fd ["text"] (spX_read BM) := by
  refine L2.fnX F sc_p_read_machine (fun vs H Q E h => ?_) (fun cdv A outer s H vs Q E hr h => ?_)
  · obtain ⟨B, x_text, r, rfl, _⟩ := h
    rfl
  obtain ⟨B, x_text, r, rfl, W, h, k⟩ := h
  refine ⟨_, (pss_cons (ps_set (i := 1) sc_p_read_machine.nd rfl (Or.inl rfl) (pe_mk0 c_Draft_init hr (by omega) (by rfl))) (pss_cons (ps_for (passes_of rfl) rfl (k_pie (K := K) (by rfl) T.b_enumerate (pa_cons (pe_m1 PySem.F.slot_str_split PySem.F.type_str_split k_split (pv 0) pe_str) pa_nil)) (k_gtup (K := K) rfl (pgs_cons (pg_name (i := 2) sc_p_read_machine.nd rfl (Or.inl rfl)) (pgs_cons (pg_name (i := 3) sc_p_read_machine.nd rfl (Or.inl rfl)) pgs_nil))) (pss_cons (ps_set (i := 4) sc_p_read_machine.nd rfl (Or.inl rfl) (C8.pe_c c_p_words_of hr (by omega) (by rfl) (pa_cons (pv 3) pa_nil))) (pss_one (ps_if (pt_cmpR op_gt (pe_callB (k_len (K := K)) (by rfl) T.b_len (by decide +kernel) (pa_cons (pv 4) pa_nil)) pe_int (nomark _)) (pss_cons (ps_set (i := 5) sc_p_read_machine.nd rfl (Or.inl rfl) (C8.pe_c c_p_draft_row hr (by omega) (by rfl) (pa_cons (pv 1) (pa_cons (pv 4) pa_nil)))) (pss_one (ps_if (pt_cmpR op_ne (pv 5) pe_str (nomark _)) (pss_one (ps_raise rfl (takes_of rfl rfl rfl rfl) (pmk_oex (CX := C8.CX0) X.oex X.iC X.tI (ok_BM X) (hr.mono (by omega)) X.bI .nil C8.pass0 (by rfl) X.gBM (pa_cons (pv 2) (pa_cons (pv 5) pa_nil))))) pss_nil))) pss_nil)))) (pss_one (ps_ret (C8.pe_mk c_Machine_init hr (by omega) (by rfl) (pa_cons (k_fld (K := K) (pv 1)) (pa_cons (k_fld (K := K) (pv 1)) (pa_cons (k_fld (K := K) (pv 1)) (pa_cons (k_fld (K := K) (pv 1)) (pa_cons (k_fld (K := K) (pv 1)) (pa_cons (k_fld (K := K) (pv 1)) pa_nil))))))))))), ?_⟩
  refine st_ (σ' := [some (V.str x_text), none, none, none, none, none]) rfl ?_
  unfold m_fault at h
  obtain ⟨r8, er8, h⟩ := bs h
  refine seq_ ?_
  refine asg_ ?_
  refine mk_ ?_
  refine tnil_ ?_
  refine mkO_ W fun a1 d2 H3 n4 n5 W6 => ?_
  have W6 : Ws [] B H B H3 [(d2, .own a1), (a1, .ins Cs.c_Draft d2 [])] := W6
  have L7 := Ws.ln (O1 := []) (O := [(d2, .own a1), (a1, .ins Cs.c_Draft d2 [])]) (O2 := []) W6
  refine ⟨B, a1, d2, r8, rfl, Ln.call (O1 := []) (O := [(d2, .own a1), (a1, .ins Cs.c_Draft d2 [])]) (O2 := []) L7 W6, er8, fun B10 H11 a14 l15 a18 l19 a22 l23 a26 l27 a30 l31 a34 l35 a38 l39 V12 n17 n21 n25 n29 n33 n37 n41 o16 o20 o24 o28 o32 o36 o40 => ?_⟩
  have W42 := Ws.back (O1 := []) (O := [(d2, .own a1), (a1, .ins Cs.c_Draft d2 [])]) (O2 := []) W6 (O' := [(d2, .own a1), (a1, .ins Cs.c_Draft d2 [("switches", V.ref a14), ("keepers", V.ref a18), ("gates", V.ref a22), ("nexts", V.ref a26), ("nevers", V.ref a30), ("somes", V.ref a34), ("names", V.ref a38)]), (a14, .lst l15), (a18, .dK l19), (a22, .lst l23), (a26, .dK l27), (a30, .dK l31), (a34, .dK l35), (a38, .dK l39)]) V12
  have l43 := (Ws.bb V12)
  have W42 : Ws [] B H B10 H11 [(d2, .own a1), (a1, .ins Cs.c_Draft d2 [("switches", V.ref a14), ("keepers", V.ref a18), ("gates", V.ref a22), ("nexts", V.ref a26), ("nevers", V.ref a30), ("somes", V.ref a34), ("names", V.ref a38)]), (a14, .lst l15), (a18, .dK l19), (a22, .lst l23), (a26, .dK l27), (a30, .dK l31), (a34, .dK l35), (a38, .dK l39)] := W42
  have n44 := Ws.old W6 n17
  have n45 := Ws.old W6 n21
  have n46 := Ws.old W6 n25
  have n47 := Ws.old W6 n29
  have n48 := Ws.old W6 n33
  have n49 := Ws.old W6 n37
  have n50 := Ws.old W6 n41
  refine ⟨rfl, ?_⟩
  refine gset_ (σ' := [some (V.str x_text), some (V.ref a1), none, none, none, none]) rfl ?_
  refine nx_ ?_
  obtain ⟨q51, h⟩ := cks h
  refine seq_ ?_
  refine for_ ?_
  refine ienum_ ?_
  refine tcons_ ?_
  refine m1_ ?_
  refine var_ rfl ?_
  refine isS_ ?_
  refine cst_ ?_
  refine split_ (by decide +kernel) q51.1 q51.2 W42 fun v52 B53 H54 W55 l56 r57 => ?_
  refine tnil_ ?_
  refine itE W55 r57 fun a58 tw59 => ?_
  refine for_x W55 tw59 rdF h (fun s σ O B => ∃ (u0' : Option V) (u1' : Option V) (u2' : Option V) (u3' : Option V) (l0' : List V) (l1' : List (Key × V)) (l2' : List V) (l3' : List (Key × V)) (l4' : List (Key × V)) (l5' : List (Key × V)) (l6' : List (Key × V)), σ = [some (V.str x_text), some (V.ref a1), u0', u1', u2', u3'] ∧ O = [(d2, .own a1), (a1, .ins Cs.c_Draft d2 [("switches", V.ref a14), ("keepers", V.ref a18), ("gates", V.ref a22), ("nexts", V.ref a26), ("nevers", V.ref a30), ("somes", V.ref a34), ("names", V.ref a38)]), (a14, .lst l0'), (a18, .dK l1'), (a22, .lst l2'), (a26, .dK l3'), (a30, .dK l4'), (a34, .dK l5'), (a38, .dK l6')] ∧ Ow B l0' s.1 ∧ Od B l1' s.2.1 ∧ Ow B l2' s.2.2.1 ∧ Od B l3' s.2.2.2.1 ∧ Od B l4' s.2.2.2.2.1 ∧ Od B l5' s.2.2.2.2.2.1 ∧ Od B l6' s.2.2.2.2.2.2) (by rintro _ _ _ _ _ m' ⟨e0', e1', e2', e3', e4', e5', e6', e7', e8', e9', e10', a', b', f0', f1', f2', f3', f4', f5', f6'⟩; exact ⟨e0', e1', e2', e3', e4', e5', e6', e7', e8', e9', e10', a', b', Ow.mono m' f0', Od.mono m' f1', Ow.mono m' f2', Od.mono m' f3', Od.mono m' f4', Od.mono m' f5', Od.mono m' f6'⟩) ⟨none, none, none, none, l15, l19, l23, l27, l31, l35, l39, rfl, rfl, (Ow.mono l56 o16), (Od.mono l56 o20), (Ow.mono l56 o24), (Od.mono l56 o28), (Od.mono l56 o32), (Od.mono l56 o36), (Od.mono l56 o40)⟩ (fun s60 x65 y v66 σ' O69 B67 H68 l71 W70 i' r72 hs73 he => ?_)
  unfold rdF at hs73
  obtain ⟨u61, u62, u63, u64, l76, l78, l80, l82, l84, l86, l88, rfl, rfl, o77, o79, o81, o83, o85, o87, o89⟩ := i'
  have W70 : Ws [] B H B67 H68 [(d2, .own a1), (a1, .ins Cs.c_Draft d2 [("switches", V.ref a14), ("keepers", V.ref a18), ("gates", V.ref a22), ("nexts", V.ref a26), ("nevers", V.ref a30), ("somes", V.ref a34), ("names", V.ref a38)]), (a14, .lst l76), (a18, .dK l78), (a22, .lst l80), (a26, .dK l82), (a30, .dK l84), (a34, .dK l86), (a38, .dK l88)] := W70
  refine gP_ W70 r72 fun v90 v91 r92 r93 => ?_
  obtain rfl : v90 = V.int x65.1 := r92
  refine gcons_ ?_
  refine gset_ (σ' := [some (V.str x_text), some (V.ref a1), some (V.int x65.1), u62, u63, u64]) rfl ?_
  obtain rfl : v91 = V.str x65.2 := r93
  refine gcons_ ?_
  refine gset_ (σ' := [some (V.str x_text), some (V.ref a1), some (V.int x65.1), some (V.str x65.2), u63, u64]) rfl ?_
  refine gnil_ ?_
  obtain ⟨r95, er95, hs73⟩ := bs hs73
  refine seq_ ?_
  refine asg_ ?_
  refine call_ ?_
  refine tcons_ ?_
  refine var_ rfl ?_
  refine tnil_ ?_
  have L94 := Ws.ln (O1 := [(d2, .own a1), (a1, .ins Cs.c_Draft d2 [("switches", V.ref a14), ("keepers", V.ref a18), ("gates", V.ref a22), ("nexts", V.ref a26), ("nevers", V.ref a30), ("somes", V.ref a34), ("names", V.ref a38)]), (a14, .lst l76), (a18, .dK l78), (a22, .lst l80), (a26, .dK l82), (a30, .dK l84), (a34, .dK l86), (a38, .dK l88)]) (O := []) (O2 := []) W70
  refine ⟨B67, x65.2, r95, rfl, Ln.call (O1 := [(d2, .own a1), (a1, .ins Cs.c_Draft d2 [("switches", V.ref a14), ("keepers", V.ref a18), ("gates", V.ref a22), ("nexts", V.ref a26), ("nevers", V.ref a30), ("somes", V.ref a34), ("names", V.ref a38)]), (a14, .lst l76), (a18, .dK l78), (a22, .lst l80), (a26, .dK l82), (a30, .dK l84), (a34, .dK l86), (a38, .dK l88)]) (O := []) (O2 := []) L94 W70, er95, fun v96 B97 H98 V99 q100 => ?_⟩
  have W101 := Ws.back (O1 := [(d2, .own a1), (a1, .ins Cs.c_Draft d2 [("switches", V.ref a14), ("keepers", V.ref a18), ("gates", V.ref a22), ("nexts", V.ref a26), ("nevers", V.ref a30), ("somes", V.ref a34), ("names", V.ref a38)]), (a14, .lst l76), (a18, .dK l78), (a22, .lst l80), (a26, .dK l82), (a30, .dK l84), (a34, .dK l86), (a38, .dK l88)]) (O := []) (O2 := []) W70 (O' := []) V99
  have l102 := (Ws.bb V99)
  have W101 : Ws [] B H B97 H98 [(d2, .own a1), (a1, .ins Cs.c_Draft d2 [("switches", V.ref a14), ("keepers", V.ref a18), ("gates", V.ref a22), ("nexts", V.ref a26), ("nevers", V.ref a30), ("somes", V.ref a34), ("names", V.ref a38)]), (a14, .lst l76), (a18, .dK l78), (a22, .lst l80), (a26, .dK l82), (a30, .dK l84), (a34, .dK l86), (a38, .dK l88)] := W101
  refine gset_ (σ' := [some (V.str x_text), some (V.ref a1), some (V.int x65.1), some (V.str x65.2), some v96, u64]) rfl ?_
  refine nx_ ?_
  refine if_ (fun v' H' => v' = (decide ((0 : Int) < (r95.length : Int))) ∧ H98 = H') (fun Q103 kk104 => ?_) (fun H98q hw => ?_) (fun H98q hw => ?_)
  · refine tst_ ?_
    refine op_ ?_
    refine cb_ ?_
    refine tcons_ ?_
    refine var_ rfl ?_
    refine tnil_ ?_
    refine lenL_ W101 q100 ?_
    refine cst_ ?_
    refine i0_ ?_
    refine ⟨_, rfl, ?_⟩
    exact kk104 _ _ ⟨rfl, rfl⟩
  · obtain ⟨c105, rfl⟩ := hw
    have c105 := c105.symm
    have hs73 := opT c105 hs73
    obtain ⟨r107, er107, hs73⟩ := bs hs73
    refine seq_ ?_
    refine asg_ ?_
    refine call_ ?_
    refine tcons_ ?_
    refine var_ rfl ?_
    refine tcons_ ?_
    refine var_ rfl ?_
    refine tnil_ ?_
    have L106 := Ws.ln (O1 := []) (O := [(d2, .own a1), (a1, .ins Cs.c_Draft d2 [("switches", V.ref a14), ("keepers", V.ref a18), ("gates", V.ref a22), ("nexts", V.ref a26), ("nevers", V.ref a30), ("somes", V.ref a34), ("names", V.ref a38)]), (a14, .lst l76), (a18, .dK l78), (a22, .lst l80), (a26, .dK l82), (a30, .dK l84), (a34, .dK l86), (a38, .dK l88)]) (O2 := []) W101
    refine ⟨B97, a1, d2, a14, l76, a18, l78, a22, l80, a26, l82, a30, l84, a34, l86, a38, l88, (O_Draft.mk s60.1 s60.2.1 s60.2.2.1 s60.2.2.2.1 s60.2.2.2.2.1 s60.2.2.2.2.2.1 s60.2.2.2.2.2.2), v96, r95, r107, rfl, Ln.call (O1 := []) (O := [(d2, .own a1), (a1, .ins Cs.c_Draft d2 [("switches", V.ref a14), ("keepers", V.ref a18), ("gates", V.ref a22), ("nexts", V.ref a26), ("nevers", V.ref a30), ("somes", V.ref a34), ("names", V.ref a38)]), (a14, .lst l76), (a18, .dK l78), (a22, .lst l80), (a26, .dK l82), (a30, .dK l84), (a34, .dK l86), (a38, .dK l88)]) (O2 := []) L106 W101, (Ow.mono l102 o77), (Od.mono l102 o79), (Ow.mono l102 o81), (Od.mono l102 o83), (Od.mono l102 o85), (Od.mono l102 o87), (Od.mono l102 o89), q100, er107, fun v108 B109 H110 l113 l115 l117 l119 l121 l123 l125 V111 q112 o114 o116 o118 o120 o122 o124 o126 => ?_⟩
    have W127 := Ws.back (O1 := []) (O := [(d2, .own a1), (a1, .ins Cs.c_Draft d2 [("switches", V.ref a14), ("keepers", V.ref a18), ("gates", V.ref a22), ("nexts", V.ref a26), ("nevers", V.ref a30), ("somes", V.ref a34), ("names", V.ref a38)]), (a14, .lst l76), (a18, .dK l78), (a22, .lst l80), (a26, .dK l82), (a30, .dK l84), (a34, .dK l86), (a38, .dK l88)]) (O2 := []) W101 (O' := [(d2, .own a1), (a1, .ins Cs.c_Draft d2 [("switches", V.ref a14), ("keepers", V.ref a18), ("gates", V.ref a22), ("nexts", V.ref a26), ("nevers", V.ref a30), ("somes", V.ref a34), ("names", V.ref a38)]), (a14, .lst l113), (a18, .dK l115), (a22, .lst l117), (a26, .dK l119), (a30, .dK l121), (a34, .dK l123), (a38, .dK l125)]) V111
    have l128 := (Ws.bb V111)
    have W127 : Ws [] B H B109 H110 [(d2, .own a1), (a1, .ins Cs.c_Draft d2 [("switches", V.ref a14), ("keepers", V.ref a18), ("gates", V.ref a22), ("nexts", V.ref a26), ("nevers", V.ref a30), ("somes", V.ref a34), ("names", V.ref a38)]), (a14, .lst l113), (a18, .dK l115), (a22, .lst l117), (a26, .dK l119), (a30, .dK l121), (a34, .dK l123), (a38, .dK l125)] := W127
    obtain rfl : v108 = V.str r107.1 := q112
    refine gset_ (σ' := [some (V.str x_text), some (V.ref a1), some (V.int x65.1), some (V.str x65.2), some v96, some (V.str r107.1)]) rfl ?_
    refine nx_ ?_
    refine if_ (fun v' H' => v' = ((!decide (r107.1 = ("" : Str)))) ∧ H110 = H') (fun Q129 kk130 => ?_) (fun H110q hw => ?_) (fun H110q hw => ?_)
    · refine tst_ ?_
      refine op_ ?_
      refine var_ rfl ?_
      refine cst_ ?_
      refine neS_ ?_
      refine ⟨_, rfl, ?_⟩
      exact kk130 _ _ ⟨rfl, rfl⟩
    · obtain ⟨c131, rfl⟩ := hw
      have c131 := c131.symm
      have hs73 := opT c131 hs73
      have e := he _ (Option.some.inj hs73).symm
      refine tcons_ ?_
      refine var_ rfl ?_
      refine tcons_ ?_
      refine var_ rfl ?_
      refine tnil_ ?_
      refine ⟨by show 2 ≤ 1000; decide, fun a ha => ⟨a, _, _, rfl, upd_same, fun dx hd hne => ⟨rfl, dx, _, by rw [upd_ne hne.symm]; exact upd_same, upd_same, ?_, ?_⟩⟩⟩
      · rw [upd_ne hne] at hd
        exact hd
      rw [upd_ne hne] at hd
      have eH := exH (C := BM) (x := V.int x65.1) (y := V.str r107.1) ha hd hne
      rw [eH]
      have Wz := Ws.newX (Ws.none W127) hd (.xd [("word", V.str r107.1), ("place", V.int x65.1)])
      exact k dx _ _ Wz (by rw [← e]; exact upd_same)
    · obtain ⟨c131, rfl⟩ := hw
      have c131 := c131.symm
      have hs73 := opF c131 hs73
      refine next_ ?_
      refine nx_ ?_
      exact ⟨_, _, B109, (Option.some.inj hs73).symm, (l71.tr (l102.tr l128)), W127, ⟨(some (V.int x65.1)), (some (V.str x65.2)), (some v96), (some (V.str r107.1)), l113, l115, l117, l119, l121, l123, l125, rfl, rfl, o114, o116, o118, o120, o122, o124, o126⟩⟩
  · obtain ⟨c105, rfl⟩ := hw
    have c105 := c105.symm
    have hs73 := opF c105 hs73
    refine next_ ?_
    refine nx_ ?_
    exact ⟨_, _, B97, (Option.some.inj hs73).symm, (l71.tr l102), W101, ⟨(some (V.int x65.1)), (some (V.str x65.2)), (some v96), u64, l76, l78, l80, l82, l84, l86, l88, rfl, rfl, (Ow.mono l102 o77), (Od.mono l102 o79), (Ow.mono l102 o81), (Od.mono l102 o83), (Od.mono l102 o85), (Od.mono l102 o87), (Od.mono l102 o89)⟩⟩

theorem takes0X {X : Cx} : Takes X (fun _ _ _ _ => False) := fun _ _ x => by
  obtain ⟨a, B, sI, pins, σ, H, cls, d, rfl, I, nb, up, sky, na, os, ag, w⟩ := x
  exact w.elim
theorem k_isV {X : Cx} {K : PySem.W.Frag} (hK : X.K = K := by rfl) : CallR X (.builtin "isinstance") (rIsV K) := by subst hK; exact call_isV
theorem k_isVT {X : Cx} {K : PySem.W.Frag} (hK : X.K = K := by rfl) : CallR X (.builtin "isinstance") (rIsVT K) := by subst hK; exact call_isVT
theorem k_xv {X : Cx} {K : PySem.W.Frag} {e : Expr} {f : Str} {te : TE} {pos : Pos} (he : PE X e te) (hb : attributeBase e f X.env (eval e X.env) = eval e X.env := by rfl) (hK : X.K = K := by rfl) : PE X (.Attribute e f pos) (tXv K f te) := by
  subst hK
  exact pe_xv he hb
abbrev s_fault : Stmt := top 40
theorem sc_fault : FnScope ["_law_text", "_law_error", "caught"] ["_law_text"] (C8.fnScope s_fault) := C8.fnScope_by (by decide +kernel)
theorem ok_fault {BM GE NW BA fI fR : Addr} {fdI fdR : FuncData} (X : ExT K mg BM GE NW BA fI fdI) (bIs : mg "isinstance" = none)
    (R : FnOk P w K mg base (L2.CX P w) 5 fR fdR ["text"] (spX_read BM)) (gR : mg "read_machine" = some (.ref fR)) (kR : PySem.W.keepIn K (.ref fR) = true) (bR : Binds K fdR ["text"] [])
    {f : Addr} {fd : FuncData} (F : C8.Def K mg "_law_fault" s_fault f fd) (b : Binds K fd ["_law_text"] []) : C8.Cal P w K mg base 8 "_law_fault" (sp_fault K) [] := by
  refine C8.cal0 F b .nil sc_fault (fun vs H Q E h => ?_) (fun cdv A outer s H vs Q E hr h => ?_)
  · obtain ⟨B, x_text, r, rfl, _⟩ := h
    rfl
  obtain ⟨B, x_text, r, rfl, W, h, k⟩ := h
  refine ⟨_, pss_cons (ps_set (i := 1) sc_fault.nd rfl (Or.inl rfl) pe_non) (pss_cons
    (ps_try_keep (i := 2) (j := 1) (tb := fun W => tDrop (tCallS (spX_read BM) (WE W) (tCons (tVar 0) tNil))) (Wout := fun _ _ _ _ => False) rfl rfl sc_fault.nd rfl rfl ⟨rfl, by decide, Or.inl X.gGE⟩ takes0X
      (fun W pn xe tk _ => pss_one (ps_expr (pe_callS R (hr.mono (by omega)) (by rfl) gR kR bR (fun σ => passAt tk σ) (by exact (pa_cons (pv 0) pa_nil)))))
      (fun a pn => pss_one (ps_set (i := 1) sc_fault.nd rfl (Or.inl rfl) (pv 2))))
    (pss_cons (ps_if (PW.pt (pw_or (pt_not (pt_val (pe_callB (k_isV (K := K)) (by rfl) bIs (by decide +kernel) (pa_cons (pv 1) (pa_cons (pe_glob (v := V.ref BM) (by rfl) X.gBM rfl) pa_nil)))))
      (pw_or (pt_not (pt_val (pe_callB (k_isV (K := K)) (by rfl) bIs (by decide +kernel) (pa_cons (pv 1) (pa_cons (k_tyn "ValueError" (by rfl) X.gVE (by decide +kernel)) pa_nil)))))
      (pw_or1 (pt_val (pe_callB (k_isVT (K := K)) (by rfl) bIs (by decide +kernel) (pa_cons (pv 1) (pa_cons (pe_tup (pa_cons (pe_glob (v := V.ref BA) (by rfl) X.gBA rfl) (pa_cons (pe_glob (v := V.ref NW) (by rfl) X.gNW rfl) pa_nil))) pa_nil)))))))) (pss_one (ps_ret pe_non)) pss_nil)
    (pss_one (ps_ret (pe_tup (pa_cons (k_xv (K := K) (pv 1)) (pa_cons (k_xv (K := K) (pv 1)) pa_nil))))))), ?_⟩
  refine st_ (σ' := [some (V.str x_text), none, none]) rfl ?_
  refine seq_ ?_
  refine asg_ ?_
  refine cst_ ?_
  refine gset_ (σ' := [some (V.str x_text), some V.non, none]) rfl ?_
  refine nx_ ?_
  refine seq_ ?_
  refine drop_ ?_
  refine tcons_ ?_
  refine var_ rfl ?_
  refine tnil_ ?_
  refine ⟨B, x_text, r, rfl, W, h, fun d B1 H1 W1 hd => ?_⟩
  refine ⟨true, X.exm, fun _ a ha => ?_, fun z => Bool.noConfusion z⟩
  show (_ : Ends).nx [some (V.str x_text), some (V.ref a), none] _
  refine nx_ ?_
  have W2 : Ws [] B H B1 (upd H1 a (exv a (.ref BM) (some d))) [] := Ws.newX W1 ha _
  have kp : Kept (upd H1 a (exv a (.ref BM) (some d))) a BM d [("word", V.str r.2), ("place", V.int r.1)] := ⟨upd_same, by rw [upd_ne (fun z => by rw [z, ha] at hd; cases hd)]; exact hd⟩
  generalize upd H1 a (exv a (.ref BM) (some d)) = H2 at W2 kp
  refine seq_ ?_
  refine if_ (fun v' H' => v' = false ∧ Ws [] B H B1 H' [] ∧ Kept H' a BM d [("word", V.str r.2), ("place", V.int r.1)]) (fun Q1 kk => ?_) (fun Hq hw => ?_) (fun Hq hw => ?_)
  · refine tor_ ?_
    refine tnot_ ?_
    refine tB_ ?_
    refine cb_ ?_
    refine tcons_ ?_
    refine var_ rfl ?_
    refine tcons_ ?_
    refine cst_ ?_
    refine tnil_ ?_
    refine ⟨a, BM, d, _, _, _, true, rfl, X.exc, kp, .own BM, by unfold PySem.W.kitOne; rw [if_pos (beq_self_eq_true _)], ?_⟩
    refine ⟨_, rfl, ?_⟩
    refine br_ (fun c => absurd c (by decide)) (fun c => ?_)
    refine tor_ ?_
    refine tnot_ ?_
    refine tB_ ?_
    refine cb_ ?_
    refine tcons_ ?_
    refine var_ rfl ?_
    refine tcons_ ?_
    refine cst_ ?_
    refine tnil_ ?_
    refine ⟨a, BM, d, _, _, _, true, rfl, X.exc, kp, .ty "ValueError", X.k2, ?_⟩
    refine ⟨_, rfl, ?_⟩
    refine br_ (fun c => absurd c (by decide)) (fun c => ?_)
    refine tB_ ?_
    refine cb_ ?_
    refine tcons_ ?_
    refine var_ rfl ?_
    refine tcons_ ?_
    refine tup_ ?_
    refine tcons_ ?_
    refine cst_ ?_
    refine tcons_ ?_
    refine cst_ ?_
    refine tnil_ ?_
    refine ⟨by show 2 ≤ sizeLine; decide, fun t ht => ?_⟩
    refine tnil_ ?_
    have kp2 : Kept (upd H2 t (.tup [V.ref BA, V.ref NW])) a BM d [("word", V.str r.2), ("place", V.int r.1)] := ⟨by rw [upd_ne (fun z => by rw [← z, kp.1] at ht; cases ht)]; exact kp.1, by rw [upd_ne (fun z => by rw [← z, kp.2] at ht; cases ht)]; exact kp.2⟩
    refine ⟨a, BM, d, t, _, _, _, false, rfl, X.exc, kp2, upd_same, .cons (.own BA) (.cons (.own NW) .nil), X.k3, ?_⟩
    refine ⟨_, rfl, ?_⟩
    exact kk _ _ ⟨rfl, Ws.newX W2 ht _, kp2⟩
  · exact absurd hw.1 (by decide)
  · obtain ⟨_, W3, kp3⟩ := hw
    refine next_ ?_
    refine nx_ ?_
    refine ret_ ?_
    refine tup_ ?_
    refine tcons_ ?_
    refine var_ rfl ?_
    refine ⟨a, BM, d, _, V.int r.1, rfl, X.exc, X.noP, kp3, rfl, ?_⟩
    refine tcons_ ?_
    refine var_ rfl ?_
    refine ⟨a, BM, d, _, V.str r.2, rfl, X.exc, X.noW, kp3, rfl, ?_⟩
    refine tnil_ ?_
    refine mk2 W3 (show Rp.R B1 (V.int r.1) r.1 from rfl) (show Rp.R B1 (V.str r.2) r.2 from rfl) fun v B4 H4 W4 l4 r4 => ?_
    exact k v B4 H4 W4 r4
theorem ext_mk {h : Heap} (X : K.In h) (G : h.Ns mainGlobals mg) {BM GE NW BA fI : Addr}
    {nm q : Str} {N : Addr} {bs bm : List Value} {sn : List Str} {sub : List Value} {ab : Bool} {col : Option Bool} {dd : Option Addr} {m0 m1 m2 m3 m5 : Option Value}
    {od an : Option Addr} {sl : Array (Option Value)} {oc kV dc pm cd ct : Value}
    (aBM : PySem.W.nsIn K mainGlobals "BadMachine" = some (some (.ref BM))) (aGE : PySem.W.nsIn K mainGlobals "GuardError" = some (some (.ref GE)))
    (aNW : PySem.W.nsIn K mainGlobals "NoWall" = some (some (.ref NW))) (aBA : PySem.W.nsIn K mainGlobals "BadAnswer" = some (some (.ref BA))) (zVE : PySem.W.nsIn K mainGlobals "ValueError" = some none)
    (xL : K.lookup BM = some (excClassObj nm q BM N bs bm true sn sub ab col dd m0 m1 m2 m3 m5 "ValueError.__new__")) (hbm : PySem.HandSPX.refsVE bm = true)
    (sa : PySem.W.findIn K (.ref BM) "__setattr__" = some (some (.builtin "object.__setattr__"))) (eC : PySem.W.subIn K (.ref BM) (.type "BaseException") = some true) (tC : PySem.W.typeIn K (.ref BM) = some (.type "type")) (kC : PySem.W.keepIn K (.ref BM) = true)
    (ga : PySem.W.findIn K (.ref BM) "__getattribute__" = some (some (.builtin "BaseException.__getattribute__"))) (gg : PySem.W.findIn K (.ref BM) "__getattr__" = some none) (hC : PySem.W.hasDictIn K BM = true)
    (cC : PySem.W.findIn K (.ref BM) "__class__" = some (some (.builtin "object.__class__"))) (cg : PySem.W.specialIn K (.builtin "object.__class__") "__get__" = some (some (.builtin "getset_descriptor.__get__"))) (ck : PySem.W.takesIn K (.builtin "object.__class__") = some true) (cm : PySem.W.mroIn K BM (.type "object") = some true)
    (iC : PySem.W.findIn K (.ref BM) "__init__" = some (some (.ref fI))) (tI : PySem.W.typeIn K (.ref fI) = some (.type "function"))
    (lI : K.lookup fI = some ⟨oc, od, .func (PySem.W.fnOf "__init__" "BadMachine.__init__" (C8.fnArgs s_BM_init) (C8.fnBody s_BM_init) (C8.fnScope s_BM_init) .none kV dc pm an cd ct), sl⟩) (cI : PySem.W.codeIn K cd "BadMachine.__init__" = true)
    (rdGE : PySem.W.readsIn K GE (.type "type") = true) (spGE : PySem.W.specialIn K (.ref GE) "__getattribute__" = some (some (.builtin "type.__getattribute__"))) (vGE : PySem.W.findCls K (.ref GE) (.type "type") "__init__" = some (.val (.builtin "ValueError.__init__")))
    (noP : PySem.W.findIn K (.ref BM) "place" = some none) (noW : PySem.W.findIn K (.ref BM) "word" = some none)
    (eG : PySem.W.subIn K (.ref GE) (.type "BaseException") = some true) (hG : PySem.W.hasDictIn K GE = true) (tG : PySem.W.typeIn K (.ref GE) = some (.type "type")) (sG : PySem.W.subIn K (.ref BM) (.ref GE) = some true)
    (sV : PySem.W.subIn K (.ref BM) (.type "ValueError") = some true)
    (nA : (Value.ref BM == Value.ref BA) = false) (jA : PySem.W.isClsIn K BA = true) (tA : PySem.W.typeIn K (.ref BA) = some (.type "type")) (uA : PySem.W.subIn K (.ref BM) (.ref BA) = some false)
    (nN : (Value.ref BM == Value.ref NW) = false) (jN : PySem.W.isClsIn K NW = true) (tN : PySem.W.typeIn K (.ref NW) = some (.type "type")) (uN : PySem.W.subIn K (.ref BM) (.ref NW) = some false) :
    ExOk X mg := by
  have kc : ∀ {C : Addr} {b : Bool}, (Value.ref BM == Value.ref C) = false → PySem.W.isClsIn K C = true → PySem.W.typeIn K (.ref C) = some (.type "type") → PySem.W.subIn K (.ref BM) (.ref C) = some b → PySem.W.kitOne K (.ref BM) (.ref C) = some b := fun {C b} n j t u => by
    have j' : (PySem.W.clsIn K C).isSome = true := j
    unfold PySem.W.kitOne
    rw [if_neg (by rw [n]; decide)]
    show (if ((PySem.W.clsIn K C).isSome && PySem.W.typeIn K (.ref C) == some (.type "type")) = true then PySem.W.subIn K (.ref BM) (.ref C) else none) = some b
    rw [if_pos (by rw [j', t] <;> rfl)]
    exact u
  have F : C8.Fun K "__init__" "BadMachine.__init__" s_BM_init fI _ := ⟨⟨oc, od, .none, kV, dc, pm, an, cd, ct, sl, rfl, lI, cI⟩⟩
  refine ⟨BM, GE, NW, BA, fI, _, ⟨PySem.W.mg_of X G aBM, PySem.W.mg_of X G aGE, PySem.W.mg_of X G aNW, PySem.W.mg_of X G aBA, PySem.W.mg_none_of X G zVE, ⟨⟨nm, q, N, bs, bm, sn, sub, ab, col, dd, m0, m1, m2, m3, m5, xL, hbm⟩, sa, eC, tC, kC⟩, ⟨ga, gg, eC, hC, cC, cg, ck, cm⟩, iC, tI, F,
    F.binds rfl fun _ _ _ _ _ _ us hl => match us, hl with | [_, _, _], _ => rfl, rdGE, spGE, vGE, noP, noW, PySem.W.exm_ref eG hG tG sG, ?_, ?_⟩⟩
  · unfold PySem.W.kitOne
    rw [if_neg (fun z => by cases (beq_iff_eq.mp z))]
    show (if PySem.W.kitMeta "ValueError" = true then PySem.W.subIn K (.ref BM) (.type "ValueError") else none) = some true
    rw [if_pos (by decide +kernel)]
    exact sV
  · unfold PySem.W.kitAny
    rw [kc nA jA tA uA]
    show PySem.W.kitAny K (.ref BM) [.ref NW] = some false
    unfold PySem.W.kitAny
    rw [kc nN jN tN uN]
    rfl
end
end G

namespace G
open PySem L2 Pv
section
def DefOk {K : PySem.W.Frag} {h : Heap} (_ : K.In h) (mg : Str → Option Value) (name : Str) (st : Stmt) (ps : List Str) : Prop := ∃ f fd, C8.Def K mg name st f fd ∧ Binds K fd ps []
def FunOk (K : PySem.W.Frag) (C : Addr) (name qual : Str) (st : Stmt) (ps : List Str) : Prop := ∃ f fd, PySem.W.findIn K (.ref C) name = some (some (.ref f)) ∧ PySem.W.isFn K (.ref f) = true ∧ PySem.W.keepIn K (.ref f) = true ∧ C8.Fun K name qual st f fd ∧ Binds K fd ps []
theorem def_mk {K : PySem.W.Frag} {h : Heap} {mg : Str → Option Value} {st : Stmt} {ps : List Str} {f : Addr} {od an : Option Addr} {sl : Array (Option Value)} {oc kV dc pm cd ct : Value} {name : Str} (X : K.In h) (G : h.Ns mainGlobals mg)
    (hb : ∀ (kV dc pm : Value) (an : Option Addr) (cdv ct : Value) (us : List Value), us.length = ps.length → bindArgs (PySem.W.fnOf name name (C8.fnArgs st) (C8.fnBody st) (C8.fnScope st) .none kV dc pm an cdv ct) ⟨us, []⟩ = pure (ps.zip us))
    (a : PySem.W.nsIn K mainGlobals name = some (some (.ref f))) (l : K.lookup f = some ⟨oc, od, .func (PySem.W.fnOf name name (C8.fnArgs st) (C8.fnBody st) (C8.fnScope st) .none kV dc pm an cd ct), sl⟩) (c : PySem.W.codeIn K cd name = true) (k : PySem.W.keepIn K (.ref f) = true) : DefOk X mg name st ps := by
  have F : C8.Fun K name name st f _ := ⟨⟨oc, od, .none, kV, dc, pm, an, cd, ct, sl, rfl, l, c⟩⟩
  exact ⟨f, _, ⟨F, PySem.W.mg_of X G a, k⟩, F.binds rfl hb⟩
theorem fun_mk' {K : PySem.W.Frag} {st : Stmt} {ps : List Str} {f : Addr} {od an : Option Addr} {sl : Array (Option Value)} {oc kV dc pm cd ct : Value} {name qual : Str} {C : Addr} (hb : ∀ (kV dc pm : Value) (an : Option Addr) (cdv ct : Value) (us : List Value), us.length = ps.length → bindArgs (PySem.W.fnOf name qual (C8.fnArgs st) (C8.fnBody st) (C8.fnScope st) .none kV dc pm an cdv ct) ⟨us, []⟩ = pure (ps.zip us))
    (a : PySem.W.findIn K (.ref C) name = some (some (.ref f))) (i : PySem.W.isFn K (.ref f) = true) (l : K.lookup f = some ⟨oc, od, .func (PySem.W.fnOf name qual (C8.fnArgs st) (C8.fnBody st) (C8.fnScope st) .none kV dc pm an cd ct), sl⟩) (c : PySem.W.codeIn K cd qual = true) (k : PySem.W.keepIn K (.ref f) = true) : FunOk K C name qual st ps := by
  have F : C8.Fun K name qual st f _ := ⟨⟨oc, od, .none, kV, dc, pm, an, cd, ct, sl, rfl, l, c⟩⟩
  exact ⟨f, _, a, i, k, F, F.binds rfl hb⟩
def Cls_Machine {K : PySem.W.Frag} {h : Heap} (_ : K.In h) (mg : Str → Option Value) : Prop := ∃ C, mg "Machine" = some (.ref C) ∧ Cls K C ∧ PySem.W.makesIn K C = true ∧ PySem.W.keepIn K (.ref C) = true ∧ NoAttr K C "switches" ∧ NoAttr K C "keepers" ∧ NoAttr K C "gates" ∧ NoAttr K C "nexts" ∧ NoAttr K C "nevers" ∧ NoAttr K C "somes" ∧ FunOk K C "__init__" "Machine.__init__" s_Machine_init ["self", "switches", "keepers", "gates", "nexts", "nevers", "somes"]
def Cls_Draft {K : PySem.W.Frag} {h : Heap} (_ : K.In h) (mg : Str → Option Value) : Prop := ∃ C, mg "Draft" = some (.ref C) ∧ Cls K C ∧ PySem.W.makesIn K C = true ∧ PySem.W.keepIn K (.ref C) = true ∧ NoAttr K C "switches" ∧ NoAttr K C "keepers" ∧ NoAttr K C "gates" ∧ NoAttr K C "nexts" ∧ NoAttr K C "nevers" ∧ NoAttr K C "somes" ∧ NoAttr K C "names" ∧ FunOk K C "__init__" "Draft.__init__" s_Draft_init ["self"]
theorem law_mk {P : Program} {w : World} {K : PySem.W.Frag} {h : Heap} {mg : Str → Option Value} {fa f : Addr} {od an : Option Addr} {sl : Array (Option Value)} {oc kV dc pm cd ct : Value} (X : K.In h) (G : h.Ns mainGlobals mg) (hfa : mg "law" = some (.ref fa))
    (d_cell_at : DefOk X mg "_law_cell_at" s_cell_at ["_law_script", "_law_k"])
    (d_mix : DefOk X mg "_law_mix" s_mix ["_law_cell", "_law_k"])
    (d_rich : DefOk X mg "_law_rich" s_rich ["_law_cell", "_law_k"])
    (d_pick : DefOk X mg "_law_pick" s_pick ["_law_left", "_law_many"])
    (d_spelt : DefOk X mg "_law_spelt" s_spelt ["_law_left", "_law_told"])
    (d_p_plain_name : DefOk X mg "plain_name" s_p_plain_name ["literal"])
    (d_literal : DefOk X mg "_law_literal" s_literal ["_law_left", "_law_names"])
    (d_wishes : DefOk X mg "_law_wishes" s_wishes ["_law_left", "_law_names", "_law_told", "_law_many"])
    (d_machine_digits : DefOk X mg "_law_machine_digits" s_machine_digits ["_law_cells", "_law_sizes"])
    (d_machine : DefOk X mg "_law_machine" s_machine ["_law_script", "_law_sizes"])
    (d_p_words_of : DefOk X mg "words_of" s_p_words_of ["row"])
    (d_p_is_name : DefOk X mg "is_name" s_p_is_name ["word"])
    (d_p_is_literal : DefOk X mg "is_literal" s_p_is_literal ["word"])
    (d_p_lacks : DefOk X mg "lacks" s_p_lacks ["draft", "literal"])
    (d_p_first_due : DefOk X mg "first_due" s_p_first_due ["twice", "lacking", "many"])
    (d_p_switch_row : DefOk X mg "switch_row" s_p_switch_row ["draft", "words"])
    (d_p_keep_row : DefOk X mg "keep_row" s_p_keep_row ["draft", "words"])
    (d_p_gate_row : DefOk X mg "gate_row" s_p_gate_row ["draft", "words"])
    (d_p_next_row : DefOk X mg "next_row" s_p_next_row ["draft", "words"])
    (d_wish_row_nevers : DefOk X mg "wish_row" s_wish_row_nevers ["draft", "wishes", "words"])
    (d_wish_row_somes : DefOk X mg "wish_row" s_wish_row_somes ["draft", "wishes", "words"])
    (d_p_draft_row : DefOk X mg "draft_row" s_p_draft_row ["draft", "words"])
    (d_p_read_machine : DefOk X mg "read_machine" s_p_read_machine ["text"])
    (d_first_text : DefOk X mg "_law_first_text" s_first_text ["_law_first"])
    (d_rows : DefOk X mg "_law_rows" s_rows ["_law_m"])
    (d_odd : DefOk X mg "_law_odd" s_odd ["_law_number"])
    (d_fault : DefOk X mg "_law_fault" s_fault ["_law_text"]) (xx : ExOk X mg) (z_isinstance : PySem.W.nsIn K mainGlobals "isinstance" = some none) (z_shr : PySem.W.nsIn K cStatics sharingNotToldKey = some none)
    (K_Machine : Cls_Machine X mg)
    (K_Draft : Cls_Draft X mg)
    {t_LETTERS : Tok} (y_LETTERS : PySem.W.nsIn K mainGlobals "LETTERS" = some (some (.str ("abcdefghijklmnopqrstuvwxyz" : Str) t_LETTERS)))
    {t_MOST_GATES : Tok} (y_MOST_GATES : PySem.W.nsIn K mainGlobals "MOST_GATES" = some (some (.int 60 t_MOST_GATES)))
    {t_MOST_KEEPERS : Tok} (y_MOST_KEEPERS : PySem.W.nsIn K mainGlobals "MOST_KEEPERS" = some (some (.int 16 t_MOST_KEEPERS)))
    {t_MOST_SWITCHES : Tok} (y_MOST_SWITCHES : PySem.W.nsIn K mainGlobals "MOST_SWITCHES" = some (some (.int 12 t_MOST_SWITCHES)))
    {t_MOST_WISHES : Tok} (y_MOST_WISHES : PySem.W.nsIn K mainGlobals "MOST_WISHES" = some (some (.int 8 t_MOST_WISHES)))
    {d_FIRSTS : Addr} (y_FIRSTS : PySem.W.nsIn K mainGlobals "FIRSTS" = some (some (.ref d_FIRSTS))) (kd_FIRSTS : KDc K w d_FIRSTS G_FIRSTS)
    (z_all : PySem.W.nsIn K mainGlobals "all" = some none)
    (z_dict : PySem.W.nsIn K mainGlobals "dict" = some none)
    (z_enumerate : PySem.W.nsIn K mainGlobals "enumerate" = some none)
    (z_len : PySem.W.nsIn K mainGlobals "len" = some none)
    (z_list : PySem.W.nsIn K mainGlobals "list" = some none)
    (z_range : PySem.W.nsIn K mainGlobals "range" = some none)
    (a : PySem.W.nsIn K mainGlobals "law" = some (some (.ref f))) (l : K.lookup f = some ⟨oc, od, .func (PySem.W.fnOf "law" "law" (C8.fnArgs s_law) (C8.fnBody s_law) (C8.fnScope s_law) .none kV dc pm an cd ct), sl⟩) (c : PySem.W.codeIn K cd "law" = true) :
    ∃ fd : FuncData, (∀ (s : Shared) (v : Value), BindsTo s fd ⟨[v], []⟩ [("_law_script", v)]) ∧ ∀ base : Heap, K.In base → base.Ns mainGlobals mg → FnOk P w K mg base C8.CX0 9 fa fd ["_law_script"] (sp_law K) := by
  have e := hfa.symm.trans (PySem.W.mg_of X G a)
  cases e
  obtain ⟨C_Machine, mg_Machine, cls_Machine, mk_Machine, kp_Machine, na_Machine_switches, na_Machine_keepers, na_Machine_gates, na_Machine_nexts, na_Machine_nevers, na_Machine_somes, ⟨f_Machine_init, fd_Machine_init, at_Machine_init, fn_Machine_init, kp_Machine_init, F_Machine_init, B_Machine_init⟩⟩ := K_Machine
  obtain ⟨C_Draft, mg_Draft, cls_Draft, mk_Draft, kp_Draft, na_Draft_switches, na_Draft_keepers, na_Draft_gates, na_Draft_nexts, na_Draft_nevers, na_Draft_somes, na_Draft_names, ⟨f_Draft_init, fd_Draft_init, at_Draft_init, fn_Draft_init, kp_Draft_init, F_Draft_init, B_Draft_init⟩⟩ := K_Draft
  letI I : Cs := ⟨C_Machine, C_Draft, d_FIRSTS⟩
  have T : Tx w K mg := ⟨cls_Machine, na_Machine_switches, na_Machine_keepers, na_Machine_gates, na_Machine_nexts, na_Machine_nevers, na_Machine_somes, cls_Draft, na_Draft_switches, na_Draft_keepers, na_Draft_gates, na_Draft_nexts, na_Draft_nevers, na_Draft_somes, na_Draft_names, PySem.W.mg_none_of X G z_all, PySem.W.mg_none_of X G z_dict, PySem.W.mg_none_of X G z_enumerate, PySem.W.mg_none_of X G z_len, PySem.W.mg_none_of X G z_list, PySem.W.mg_none_of X G z_range, ⟨_, PySem.W.mg_of X G y_LETTERS, ⟨_, rfl⟩⟩, ⟨_, PySem.W.mg_of X G y_MOST_GATES, ⟨_, rfl⟩⟩, ⟨_, PySem.W.mg_of X G y_MOST_KEEPERS, ⟨_, rfl⟩⟩, ⟨_, PySem.W.mg_of X G y_MOST_SWITCHES, ⟨_, rfl⟩⟩, ⟨_, PySem.W.mg_of X G y_MOST_WISHES, ⟨_, rfl⟩⟩, ⟨_, PySem.W.mg_of X G y_FIRSTS, rfl⟩, kd_FIRSTS⟩
  obtain ⟨f_fault, fd_fault, D_fault, B_fault⟩ := d_fault
  obtain ⟨BM, GE, NW, BA, fI, fdI, XX⟩ := xx
  obtain ⟨f_cell_at, fd_cell_at, D_cell_at, B_cell_at⟩ := d_cell_at
  obtain ⟨f_mix, fd_mix, D_mix, B_mix⟩ := d_mix
  obtain ⟨f_rich, fd_rich, D_rich, B_rich⟩ := d_rich
  obtain ⟨f_pick, fd_pick, D_pick, B_pick⟩ := d_pick
  obtain ⟨f_spelt, fd_spelt, D_spelt, B_spelt⟩ := d_spelt
  obtain ⟨f_p_plain_name, fd_p_plain_name, D_p_plain_name, B_p_plain_name⟩ := d_p_plain_name
  obtain ⟨f_literal, fd_literal, D_literal, B_literal⟩ := d_literal
  obtain ⟨f_wishes, fd_wishes, D_wishes, B_wishes⟩ := d_wishes
  obtain ⟨f_machine_digits, fd_machine_digits, D_machine_digits, B_machine_digits⟩ := d_machine_digits
  obtain ⟨f_machine, fd_machine, D_machine, B_machine⟩ := d_machine
  obtain ⟨f_p_words_of, fd_p_words_of, D_p_words_of, B_p_words_of⟩ := d_p_words_of
  obtain ⟨f_p_is_name, fd_p_is_name, D_p_is_name, B_p_is_name⟩ := d_p_is_name
  obtain ⟨f_p_is_literal, fd_p_is_literal, D_p_is_literal, B_p_is_literal⟩ := d_p_is_literal
  obtain ⟨f_p_lacks, fd_p_lacks, D_p_lacks, B_p_lacks⟩ := d_p_lacks
  obtain ⟨f_p_first_due, fd_p_first_due, D_p_first_due, B_p_first_due⟩ := d_p_first_due
  obtain ⟨f_p_switch_row, fd_p_switch_row, D_p_switch_row, B_p_switch_row⟩ := d_p_switch_row
  obtain ⟨f_p_keep_row, fd_p_keep_row, D_p_keep_row, B_p_keep_row⟩ := d_p_keep_row
  obtain ⟨f_p_gate_row, fd_p_gate_row, D_p_gate_row, B_p_gate_row⟩ := d_p_gate_row
  obtain ⟨f_p_next_row, fd_p_next_row, D_p_next_row, B_p_next_row⟩ := d_p_next_row
  obtain ⟨f_wish_row_nevers, fd_wish_row_nevers, D_wish_row_nevers, B_wish_row_nevers⟩ := d_wish_row_nevers
  obtain ⟨f_wish_row_somes, fd_wish_row_somes, D_wish_row_somes, B_wish_row_somes⟩ := d_wish_row_somes
  obtain ⟨f_p_draft_row, fd_p_draft_row, D_p_draft_row, B_p_draft_row⟩ := d_p_draft_row
  obtain ⟨f_p_read_machine, fd_p_read_machine, D_p_read_machine, B_p_read_machine⟩ := d_p_read_machine
  obtain ⟨f_first_text, fd_first_text, D_first_text, B_first_text⟩ := d_first_text
  obtain ⟨f_rows, fd_rows, D_rows, B_rows⟩ := d_rows
  obtain ⟨f_odd, fd_odd, D_odd, B_odd⟩ := d_odd
  refine ⟨PySem.W.fnOf "law" "law" (C8.fnArgs s_law) (C8.fnBody s_law) (C8.fnScope s_law) .none kV dc pm an cd ct, fun s v => .of_eq rfl, fun base _ _ => ?_⟩
  have c_cell_at := ok_cell_at (P := P) (w := w) (base := base) T D_cell_at B_cell_at
  have c_mix := ok_mix (P := P) (w := w) (base := base) T D_mix B_mix
  have c_rich := ok_rich (P := P) (w := w) (base := base) T c_mix D_rich B_rich
  have c_pick := ok_pick (P := P) (w := w) (base := base) T D_pick B_pick
  have c_spelt := ok_spelt (P := P) (w := w) (base := base) T c_pick D_spelt B_spelt
  have c_Machine_init := ok_Machine_init (P := P) (w := w) (base := base) T ⟨mk_Machine, at_Machine_init, fn_Machine_init, kp_Machine⟩ mg_Machine F_Machine_init B_Machine_init
  have c_p_plain_name := ok_p_plain_name (P := P) (w := w) (base := base) T D_p_plain_name B_p_plain_name
  have c_literal := ok_literal (P := P) (w := w) (base := base) T c_pick D_literal B_literal
  have c_wishes := ok_wishes (P := P) (w := w) (base := base) T c_spelt c_literal D_wishes B_wishes
  have c_machine_digits := ok_machine_digits (P := P) (w := w) (base := base) T c_rich c_pick c_spelt c_literal c_wishes D_machine_digits B_machine_digits
  have c_machine := ok_machine (P := P) (w := w) (base := base) T c_cell_at c_rich c_machine_digits D_machine B_machine
  have c_Draft_init := ok_Draft_init (P := P) (w := w) (base := base) T ⟨mk_Draft, at_Draft_init, fn_Draft_init, kp_Draft⟩ mg_Draft F_Draft_init B_Draft_init
  have c_p_words_of := ok_p_words_of (P := P) (w := w) (base := base) T D_p_words_of B_p_words_of
  have c_p_is_name := ok_p_is_name (P := P) (w := w) (base := base) T D_p_is_name B_p_is_name
  have c_p_is_literal := ok_p_is_literal (P := P) (w := w) (base := base) T c_p_plain_name c_p_is_name D_p_is_literal B_p_is_literal
  have c_p_lacks := ok_p_lacks (P := P) (w := w) (base := base) T c_p_plain_name D_p_lacks B_p_lacks
  have c_p_first_due := ok_p_first_due (P := P) (w := w) (base := base) T D_p_first_due B_p_first_due
  have c_p_switch_row := ok_p_switch_row (P := P) (w := w) (base := base) T c_p_is_name c_p_first_due D_p_switch_row B_p_switch_row
  have c_p_keep_row := ok_p_keep_row (P := P) (w := w) (base := base) T c_p_is_name c_p_first_due D_p_keep_row B_p_keep_row
  have c_p_gate_row := ok_p_gate_row (P := P) (w := w) (base := base) T c_p_is_name c_p_is_literal c_p_lacks c_p_first_due D_p_gate_row B_p_gate_row
  have c_p_next_row := ok_p_next_row (P := P) (w := w) (base := base) T c_p_is_name c_p_is_literal c_p_lacks c_p_first_due D_p_next_row B_p_next_row
  have c_wish_row_nevers := ok_wish_row_nevers (P := P) (w := w) (base := base) T c_p_is_name c_p_is_literal c_p_lacks c_p_first_due D_wish_row_nevers B_wish_row_nevers
  have c_wish_row_somes := ok_wish_row_somes (P := P) (w := w) (base := base) T c_p_is_name c_p_is_literal c_p_lacks c_p_first_due D_wish_row_somes B_wish_row_somes
  have c_p_draft_row := ok_p_draft_row (P := P) (w := w) (base := base) T c_p_switch_row c_p_keep_row c_p_gate_row c_p_next_row c_wish_row_nevers c_wish_row_somes D_p_draft_row B_p_draft_row
  have c_p_read_machine := ok_p_read_machine (P := P) (w := w) (base := base) T c_Draft_init c_p_words_of c_p_draft_row c_Machine_init D_p_read_machine B_p_read_machine
  have c_first_text := ok_first_text (P := P) (w := w) (base := base) T D_first_text B_first_text
  have c_rows := ok_rows (P := P) (w := w) (base := base) T c_first_text D_rows B_rows
  have c_odd := ok_odd (P := P) (w := w) (base := base) T D_odd B_odd
  have c_fault := ok_fault (P := P) (w := w) (base := base) XX (PySem.W.mg_none_of X G z_isinstance) (okX_read T XX c_Draft_init c_p_words_of c_p_draft_row c_Machine_init D_p_read_machine) D_p_read_machine.mgf D_p_read_machine.kp B_p_read_machine D_fault B_fault
  exact ok_law T z_shr c_machine c_rows c_mix c_odd c_fault c_p_read_machine ⟨⟨oc, od, .none, kV, dc, pm, an, cd, ct, sl, rfl, l, c⟩⟩
theorem walk {l : PySem.W.OpenLaw} {q : Program} {loose : List Str} {XP : (Str → Option Value) → Heap → Prop} {YP : World → Heap → Prop} {d : DefRec} {K : Params → PySem.W.Frag} (hn : l.most = some 63) (hdf : d.params.defaults = [])
    (hY : ∀ (w : World) (h : Heap), YP w h → (K w.params).In h)
    (F : ∀ (w : World) (mg : Str → Option Value) (fa : Addr) (h : Heap), (K w.params).In h → h.Ns mainGlobals mg → mg d.name = some (.ref fa) →
      ∃ fd : FuncData, (∀ (s : Shared) (u : Value), BindsTo s fd ⟨[u], []⟩ [("_law_script", u)]) ∧ ∀ base : Heap, (K w.params).In base → base.Ns mainGlobals mg → FnOk l.prog w (K w.params) mg base C8.CX0 9 fa fd ["_law_script"] (sp_law (K w.params))) :
    PySem.W.WalkO q loose XP YP l.row.toRowW d [] (fun f vs => PySem.call f vs) :=
  L2.walk_of (n := 63) (k := 9) (x := "_law_script") (CX := fun _ => C8.CX0) (sp := fun w => sp_law (K w.params)) hn (by decide) hdf ⟨rfl, by decide, by decide⟩ hY F
    (fun _ H a ns hl _ hS => ⟨H, .ref a, ⟨ns⟩, true, rfl, Ws.start H, ⟨a, rfl, hS, hl⟩, law_true ns hl, fun w B' H' _ r => r⟩) fun _ _ _ _ _ z => z
end
end G
set_option maxRecDepth 100000 in
set_option maxHeartbeats 0 in
theorem PySem.Challenge.cw_everguard_k03_rows_of_no_form_holds : PySem.Challenge.rw_everguard_k03_rows_of_no_form.Holds := by
  w_on; o_law; k_head; (case hw => w_witness2)
  k_fill
  refine G.walk (l := PySem.Challenge.rw_everguard_k03_rows_of_no_form) rfl rfl (fun w h Y => PySem.W.kIn_of Y) ?F
  case F =>
    intro w mg fa h KX GN hmg
    have d_cell_at : G.DefOk KX mg "_law_cell_at" G.s_cell_at ["_law_script", "_law_k"] := by
      refine' G.def_mk KX GN (fun _ _ _ _ _ _ us hl => match us, hl with | [_, _], _ => rfl) ?a ?l ?c ?k
      (case a => k_is); (case l => k_is); (case c => k_is); (case k => k_is)
    have d_mix : G.DefOk KX mg "_law_mix" G.s_mix ["_law_cell", "_law_k"] := by
      refine' G.def_mk KX GN (fun _ _ _ _ _ _ us hl => match us, hl with | [_, _], _ => rfl) ?a ?l ?c ?k
      (case a => k_is); (case l => k_is); (case c => k_is); (case k => k_is)
    have d_rich : G.DefOk KX mg "_law_rich" G.s_rich ["_law_cell", "_law_k"] := by
      refine' G.def_mk KX GN (fun _ _ _ _ _ _ us hl => match us, hl with | [_, _], _ => rfl) ?a ?l ?c ?k
      (case a => k_is); (case l => k_is); (case c => k_is); (case k => k_is)
    have d_pick : G.DefOk KX mg "_law_pick" G.s_pick ["_law_left", "_law_many"] := by
      refine' G.def_mk KX GN (fun _ _ _ _ _ _ us hl => match us, hl with | [_, _], _ => rfl) ?a ?l ?c ?k
      (case a => k_is); (case l => k_is); (case c => k_is); (case k => k_is)
    have d_spelt : G.DefOk KX mg "_law_spelt" G.s_spelt ["_law_left", "_law_told"] := by
      refine' G.def_mk KX GN (fun _ _ _ _ _ _ us hl => match us, hl with | [_, _], _ => rfl) ?a ?l ?c ?k
      (case a => k_is); (case l => k_is); (case c => k_is); (case k => k_is)
    have d_p_plain_name : G.DefOk KX mg "plain_name" G.s_p_plain_name ["literal"] := by
      refine' G.def_mk KX GN (fun _ _ _ _ _ _ us hl => match us, hl with | [_], _ => rfl) ?a ?l ?c ?k
      (case a => k_is); (case l => k_is); (case c => k_is); (case k => k_is)
    have d_literal : G.DefOk KX mg "_law_literal" G.s_literal ["_law_left", "_law_names"] := by
      refine' G.def_mk KX GN (fun _ _ _ _ _ _ us hl => match us, hl with | [_, _], _ => rfl) ?a ?l ?c ?k
      (case a => k_is); (case l => k_is); (case c => k_is); (case k => k_is)
    have d_wishes : G.DefOk KX mg "_law_wishes" G.s_wishes ["_law_left", "_law_names", "_law_told", "_law_many"] := by
      refine' G.def_mk KX GN (fun _ _ _ _ _ _ us hl => match us, hl with | [_, _, _, _], _ => rfl) ?a ?l ?c ?k
      (case a => k_is); (case l => k_is); (case c => k_is); (case k => k_is)
    have d_machine_digits : G.DefOk KX mg "_law_machine_digits" G.s_machine_digits ["_law_cells", "_law_sizes"] := by
      refine' G.def_mk KX GN (fun _ _ _ _ _ _ us hl => match us, hl with | [_, _], _ => rfl) ?a ?l ?c ?k
      (case a => k_is); (case l => k_is); (case c => k_is); (case k => k_is)
    have d_machine : G.DefOk KX mg "_law_machine" G.s_machine ["_law_script", "_law_sizes"] := by
      refine' G.def_mk KX GN (fun _ _ _ _ _ _ us hl => match us, hl with | [_, _], _ => rfl) ?a ?l ?c ?k
      (case a => k_is); (case l => k_is); (case c => k_is); (case k => k_is)
    have d_p_words_of : G.DefOk KX mg "words_of" G.s_p_words_of ["row"] := by
      refine' G.def_mk KX GN (fun _ _ _ _ _ _ us hl => match us, hl with | [_], _ => rfl) ?a ?l ?c ?k
      (case a => k_is); (case l => k_is); (case c => k_is); (case k => k_is)
    have d_p_is_name : G.DefOk KX mg "is_name" G.s_p_is_name ["word"] := by
      refine' G.def_mk KX GN (fun _ _ _ _ _ _ us hl => match us, hl with | [_], _ => rfl) ?a ?l ?c ?k
      (case a => k_is); (case l => k_is); (case c => k_is); (case k => k_is)
    have d_p_is_literal : G.DefOk KX mg "is_literal" G.s_p_is_literal ["word"] := by
      refine' G.def_mk KX GN (fun _ _ _ _ _ _ us hl => match us, hl with | [_], _ => rfl) ?a ?l ?c ?k
      (case a => k_is); (case l => k_is); (case c => k_is); (case k => k_is)
    have d_p_lacks : G.DefOk KX mg "lacks" G.s_p_lacks ["draft", "literal"] := by
      refine' G.def_mk KX GN (fun _ _ _ _ _ _ us hl => match us, hl with | [_, _], _ => rfl) ?a ?l ?c ?k
      (case a => k_is); (case l => k_is); (case c => k_is); (case k => k_is)
    have d_p_first_due : G.DefOk KX mg "first_due" G.s_p_first_due ["twice", "lacking", "many"] := by
      refine' G.def_mk KX GN (fun _ _ _ _ _ _ us hl => match us, hl with | [_, _, _], _ => rfl) ?a ?l ?c ?k
      (case a => k_is); (case l => k_is); (case c => k_is); (case k => k_is)
    have d_p_switch_row : G.DefOk KX mg "switch_row" G.s_p_switch_row ["draft", "words"] := by
      refine' G.def_mk KX GN (fun _ _ _ _ _ _ us hl => match us, hl with | [_, _], _ => rfl) ?a ?l ?c ?k
      (case a => k_is); (case l => k_is); (case c => k_is); (case k => k_is)
    have d_p_keep_row : G.DefOk KX mg "keep_row" G.s_p_keep_row ["draft", "words"] := by
      refine' G.def_mk KX GN (fun _ _ _ _ _ _ us hl => match us, hl with | [_, _], _ => rfl) ?a ?l ?c ?k
      (case a => k_is); (case l => k_is); (case c => k_is); (case k => k_is)
    have d_p_gate_row : G.DefOk KX mg "gate_row" G.s_p_gate_row ["draft", "words"] := by
      refine' G.def_mk KX GN (fun _ _ _ _ _ _ us hl => match us, hl with | [_, _], _ => rfl) ?a ?l ?c ?k
      (case a => k_is); (case l => k_is); (case c => k_is); (case k => k_is)
    have d_p_next_row : G.DefOk KX mg "next_row" G.s_p_next_row ["draft", "words"] := by
      refine' G.def_mk KX GN (fun _ _ _ _ _ _ us hl => match us, hl with | [_, _], _ => rfl) ?a ?l ?c ?k
      (case a => k_is); (case l => k_is); (case c => k_is); (case k => k_is)
    have d_wish_row_nevers : G.DefOk KX mg "wish_row" G.s_wish_row_nevers ["draft", "wishes", "words"] := by
      refine' G.def_mk KX GN (fun _ _ _ _ _ _ us hl => match us, hl with | [_, _, _], _ => rfl) ?a ?l ?c ?k
      (case a => k_is); (case l => k_is); (case c => k_is); (case k => k_is)
    have d_wish_row_somes : G.DefOk KX mg "wish_row" G.s_wish_row_somes ["draft", "wishes", "words"] := by
      refine' G.def_mk KX GN (fun _ _ _ _ _ _ us hl => match us, hl with | [_, _, _], _ => rfl) ?a ?l ?c ?k
      (case a => k_is); (case l => k_is); (case c => k_is); (case k => k_is)
    have d_p_draft_row : G.DefOk KX mg "draft_row" G.s_p_draft_row ["draft", "words"] := by
      refine' G.def_mk KX GN (fun _ _ _ _ _ _ us hl => match us, hl with | [_, _], _ => rfl) ?a ?l ?c ?k
      (case a => k_is); (case l => k_is); (case c => k_is); (case k => k_is)
    have d_p_read_machine : G.DefOk KX mg "read_machine" G.s_p_read_machine ["text"] := by
      refine' G.def_mk KX GN (fun _ _ _ _ _ _ us hl => match us, hl with | [_], _ => rfl) ?a ?l ?c ?k
      (case a => k_is); (case l => k_is); (case c => k_is); (case k => k_is)
    have d_first_text : G.DefOk KX mg "_law_first_text" G.s_first_text ["_law_first"] := by
      refine' G.def_mk KX GN (fun _ _ _ _ _ _ us hl => match us, hl with | [_], _ => rfl) ?a ?l ?c ?k
      (case a => k_is); (case l => k_is); (case c => k_is); (case k => k_is)
    have d_rows : G.DefOk KX mg "_law_rows" G.s_rows ["_law_m"] := by
      refine' G.def_mk KX GN (fun _ _ _ _ _ _ us hl => match us, hl with | [_], _ => rfl) ?a ?l ?c ?k
      (case a => k_is); (case l => k_is); (case c => k_is); (case k => k_is)
    have d_odd : G.DefOk KX mg "_law_odd" G.s_odd ["_law_number"] := by
      refine' G.def_mk KX GN (fun _ _ _ _ _ _ us hl => match us, hl with | [_], _ => rfl) ?a ?l ?c ?k
      (case a => k_is); (case l => k_is); (case c => k_is); (case k => k_is)
    have d_fault : G.DefOk KX mg "_law_fault" G.s_fault ["_law_text"] := by
      refine' G.def_mk KX GN (fun _ _ _ _ _ _ us hl => match us, hl with | [_], _ => rfl) ?a ?l ?c ?k
      (case a => k_is); (case l => k_is); (case c => k_is); (case k => k_is)
    have xx : G.ExOk KX mg := by
      refine' G.ext_mk KX GN ?aBM ?aGE ?aNW ?aBA ?zVE ?xL ?hbm ?sa ?eC ?tC ?kC ?ga ?gg ?hC ?cC ?cg ?ck ?cm ?iC ?tI ?lI ?cI ?rdGE ?spGE ?vGE ?noP ?noW ?eG ?hG ?tG ?sG ?sV ?nA ?jA ?tA ?uA ?nN ?jN ?tN ?uN
      (case aBM => k_is)
      (case aGE => k_is)
      (case aNW => k_is)
      (case aBA => k_is)
      (case zVE => k_is)
      (case xL => k_is)
      (case hbm => decide +kernel)
      (case sa => first | rfl | k_is)
      (case eC => first | rfl | k_is)
      (case tC => first | rfl | k_is)
      (case kC => first | rfl | k_is)
      (case ga => first | rfl | k_is)
      (case gg => first | rfl | k_is)
      (case hC => first | rfl | k_is)
      (case cC => first | rfl | k_is)
      (case cg => first | rfl | k_is)
      (case ck => first | rfl | k_is)
      (case cm => first | rfl | k_is)
      (case iC => first | rfl | k_is)
      (case tI => first | rfl | k_is)
      (case lI => first | rfl | k_is)
      (case cI => first | rfl | k_is)
      (case rdGE => first | rfl | k_is)
      (case spGE => first | rfl | k_is)
      (case vGE => first | rfl | k_is)
      (case noP => first | rfl | k_is)
      (case noW => first | rfl | k_is)
      (case eG => first | rfl | k_is)
      (case hG => first | rfl | k_is)
      (case tG => first | rfl | k_is)
      (case sG => first | rfl | k_is)
      (case sV => first | rfl | k_is)
      (case jA => first | rfl | k_is)
      (case tA => first | rfl | k_is)
      (case uA => first | rfl | k_is)
      (case jN => first | rfl | k_is)
      (case tN => first | rfl | k_is)
      (case uN => first | rfl | k_is)
      (case nA => rfl)
      (case nN => rfl)
    have K_Machine : G.Cls_Machine KX mg := by
      refine' ⟨_, PySem.W.mg_of KX GN ?aC, ⟨?pg, ?hd, ?po, ?sa⟩, ?mk, ?kc, ?n_switches, ?n_keepers, ?n_gates, ?n_nexts, ?n_nevers, ?n_somes, G.fun_mk' (fun _ _ _ _ _ _ us hl => match us, hl with | [_, _, _, _, _, _, _], _ => rfl) ?a_Machine_init ?i_Machine_init ?l_Machine_init ?c_Machine_init ?k_Machine_init⟩
      (case aC => k_is)
      (case pg => k_is)
      (case hd => k_is)
      (case po => k_is)
      (case sa => k_is)
      (case mk => k_is)
      (case kc => k_is)
      (case n_switches => show PySem.W.findIn _ _ _ = some none; k_is)
      (case n_keepers => show PySem.W.findIn _ _ _ = some none; k_is)
      (case n_gates => show PySem.W.findIn _ _ _ = some none; k_is)
      (case n_nexts => show PySem.W.findIn _ _ _ = some none; k_is)
      (case n_nevers => show PySem.W.findIn _ _ _ = some none; k_is)
      (case n_somes => show PySem.W.findIn _ _ _ = some none; k_is)
      (case a_Machine_init => k_is)
      (case i_Machine_init => k_is)
      (case l_Machine_init => k_is)
      (case c_Machine_init => k_is)
      (case k_Machine_init => k_is)
    have K_Draft : G.Cls_Draft KX mg := by
      refine' ⟨_, PySem.W.mg_of KX GN ?aC, ⟨?pg, ?hd, ?po, ?sa⟩, ?mk, ?kc, ?n_switches, ?n_keepers, ?n_gates, ?n_nexts, ?n_nevers, ?n_somes, ?n_names, G.fun_mk' (fun _ _ _ _ _ _ us hl => match us, hl with | [_], _ => rfl) ?a_Draft_init ?i_Draft_init ?l_Draft_init ?c_Draft_init ?k_Draft_init⟩
      (case aC => k_is)
      (case pg => k_is)
      (case hd => k_is)
      (case po => k_is)
      (case sa => k_is)
      (case mk => k_is)
      (case kc => k_is)
      (case n_switches => show PySem.W.findIn _ _ _ = some none; k_is)
      (case n_keepers => show PySem.W.findIn _ _ _ = some none; k_is)
      (case n_gates => show PySem.W.findIn _ _ _ = some none; k_is)
      (case n_nexts => show PySem.W.findIn _ _ _ = some none; k_is)
      (case n_nevers => show PySem.W.findIn _ _ _ = some none; k_is)
      (case n_somes => show PySem.W.findIn _ _ _ = some none; k_is)
      (case n_names => show PySem.W.findIn _ _ _ = some none; k_is)
      (case a_Draft_init => k_is)
      (case i_Draft_init => k_is)
      (case l_Draft_init => k_is)
      (case c_Draft_init => k_is)
      (case k_Draft_init => k_is)
    refine' G.law_mk KX GN hmg d_cell_at d_mix d_rich d_pick d_spelt d_p_plain_name d_literal d_wishes d_machine_digits d_machine d_p_words_of d_p_is_name d_p_is_literal d_p_lacks d_p_first_due d_p_switch_row d_p_keep_row d_p_gate_row d_p_next_row d_wish_row_nevers d_wish_row_somes d_p_draft_row d_p_read_machine d_first_text d_rows d_odd d_fault xx ?z_isinstance ?z_shr K_Machine K_Draft ?y_LETTERS ?y_MOST_GATES ?y_MOST_KEEPERS ?y_MOST_SWITCHES ?y_MOST_WISHES ?y_FIRSTS (Pv.kdc_of ?l_FIRSTS ?q_FIRSTS ?o_FIRSTS) ?z_all ?z_dict ?z_enumerate ?z_len ?z_list ?z_range ?a ?l ?c
    (case y_FIRSTS => k_is)
    (case l_FIRSTS => k_is)
    (case q_FIRSTS => exact (.cons (v := .int 0) rfl ⟨_, rfl⟩ (fun _ => rfl) (.cons (v := .int 1) rfl ⟨_, rfl⟩ (fun _ => rfl) (.cons (v := .non) rfl rfl (fun _ => rfl) .nil))))
    (case o_FIRSTS => decide)
    (case y_LETTERS => k_is)
    (case y_MOST_GATES => k_is)
    (case y_MOST_KEEPERS => k_is)
    (case y_MOST_SWITCHES => k_is)
    (case y_MOST_WISHES => k_is)
    (case z_all => k_is)
    (case z_dict => k_is)
    (case z_enumerate => k_is)
    (case z_isinstance => k_is)
    (case z_shr => k_is)
    (case z_len => k_is)
    (case z_list => k_is)
    (case z_range => k_is)
    (case a => k_is)
    (case l => k_is)
    (case c => k_is)
#print axioms PySem.Challenge.cw_everguard_k03_rows_of_no_form_holds
