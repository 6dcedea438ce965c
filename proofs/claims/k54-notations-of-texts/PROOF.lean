import PyProof.Rows.All
import Wide.All
import OpenK.AllK
import Wide.FinOn
import HandS.ForMost
import HandS.ForExc
import HandS.IsInst
import HandS.Evl
import HandS.Defaults
import HandS.TupAny
import HandS.Wide
import HandS.WideBits
import HandS.Flow
import PyProof.StrOps2
import PyProof.ReprRoads
import HandS.Ends
import PyProof.Rows.Digits
import PyProof.ListStr
import HandS.Text
import HandS.MapJoin
import KE.KIntText
import HandS.Replace
import PyProof.ReprBulk
import PyProof.FitsInt
import HandS.HeadHook2
import PySem.Challenge.RW_slashlevels_k54_notations_of_texts
import HandS.Head0
import HandS.Head1
import HandS.Head2
import HandS.HeadEnd
import KE.KStateDown
set_option Elab.async false
set_option linter.all false
set_option maxRecDepth 100000
set_option maxHeartbeats 0
namespace DL
open PySem L2
open Evl (Ex Ex.refl Ex.trans Ex.new)

/-! ### data -/
inductive D where
  | non | bl (b : Bool) | int (i : Int) | str (x : Str)
  | lst (xs : List D) | tup (xs : List D) | rd (xs : List D)
  | obj (C : Addr) (fs : List Str) (ds : List D) | adr (a : Addr)

section
variable (K : PySem.W.Frag) (G : Hp)
mutual
def Rp : D → V → Prop
  | .non, v => v = .non
  | .bl b, v => v = .bl b
  | .int i, v => v = .int i
  | .str x, v => v = .str x
  | .lst ds, v => ∃ a vs, v = .ref a ∧ G a = some (.lst vs) ∧ RpAll ds vs
  | .tup ds, v => ∃ a vs, v = .ref a ∧ SqT K G a vs ∧ RpAll ds vs
  | .rd ds, v => ∃ a vs, v = .ref a ∧ SqL K G a vs ∧ RpAll ds vs
  | .obj C fs ds, v => ∃ a dx vs, v = .ref a ∧ G a = some (.ins C dx (fs.zip vs)) ∧ RpAll ds vs ∧ fs.length = vs.length
  | .adr a, v => v = .ref a
def RpAll : List D → List V → Prop
  | [], vs => vs = []
  | d :: ds, vs => ∃ v ws, vs = v :: ws ∧ Rp d v ∧ RpAll ds ws
end
end
section
variable {K : PySem.W.Frag} {G G' : Hp}
mutual
theorem Rp.mono (e : Ex G G') : ∀ (d : D) (v : V), Rp K G d v → Rp K G' d v
  | .non, _, h => h
  | .bl _, _, h => h
  | .int _, _, h => h
  | .str _, _, h => h
  | .lst ds, v, h => by
    obtain ⟨a, vs, e1, e2, e3⟩ := h
    exact ⟨a, vs, e1, e a _ e2, RpAll.mono e ds vs e3⟩
  | .tup ds, v, h => by
    obtain ⟨a, vs, e1, e2, e3⟩ := h
    exact ⟨a, vs, e1, Evl.ex_t e e2, RpAll.mono e ds vs e3⟩
  | .rd ds, v, h => by
    obtain ⟨a, vs, e1, e2, e3⟩ := h
    exact ⟨a, vs, e1, Evl.ex_l e e2, RpAll.mono e ds vs e3⟩
  | .obj C fs ds, v, h => by
    obtain ⟨a, dx, vs, e1, e2, e3, e4⟩ := h
    exact ⟨a, dx, vs, e1, e a _ e2, RpAll.mono e ds vs e3, e4⟩
  | .adr _, _, h => h
theorem RpAll.mono (e : Ex G G') : ∀ (ds : List D) (vs : List V), RpAll K G ds vs → RpAll K G' ds vs
  | [], _, h => h
  | d :: ds, vs, h => by
    obtain ⟨v, ws, e1, e2, e3⟩ := h
    exact ⟨v, ws, e1, Rp.mono e d v e2, RpAll.mono e ds ws e3⟩
end
theorem RpAll.len : ∀ {ds : List D} {vs : List V}, RpAll K G ds vs → vs.length = ds.length
  | [], _, h => by
    have h' : _ = [] := h
    subst h'; rfl
  | d :: ds, vs, h => by
    obtain ⟨v, ws, rfl, _, e3⟩ := h
    simp [RpAll.len e3]
theorem RpAll.get : ∀ {ds : List D} {vs : List V} {i : Nat} {d : D}, RpAll K G ds vs → ds[i]? = some d → ∃ v, vs[i]? = some v ∧ Rp K G d v
  | [], _, _, _, h, e => by simp at e
  | x :: ds, vs, 0, d, h, e => by
    obtain ⟨v, ws, rfl, h1, _⟩ := h
    simp at e; subst e
    exact ⟨v, rfl, h1⟩
  | x :: ds, vs, i + 1, d, h, e => by
    obtain ⟨v, ws, rfl, _, h2⟩ := h
    obtain ⟨u, e1, e2⟩ := RpAll.get (i := i) h2 (by simpa using e)
    exact ⟨u, by simpa using e1, e2⟩
theorem RpAll.getV : ∀ {ds : List D} {vs : List V} {i : Nat} {v : V}, RpAll K G ds vs → vs[i]? = some v → ∃ d, ds[i]? = some d ∧ Rp K G d v
  | [], _, i, v, h, e => by
    have h' : _ = [] := h
    subst h'; simp at e
  | x :: ds, vs, 0, v, h, e => by
    obtain ⟨u, ws, rfl, h1, _⟩ := h
    simp at e; subst e
    exact ⟨x, rfl, h1⟩
  | x :: ds, vs, i + 1, v, h, e => by
    obtain ⟨u, ws, rfl, _, h2⟩ := h
    obtain ⟨d, e1, e2⟩ := RpAll.getV (i := i) h2 (by simpa using e)
    exact ⟨d, by simpa using e1, e2⟩
theorem RpAll.append : ∀ {ds es : List D} {vs ws : List V}, RpAll K G ds vs → RpAll K G es ws → RpAll K G (ds ++ es) (vs ++ ws)
  | [], _, _, _, h, h2 => by
    have h' : _ = [] := h
    subst h'; exact h2
  | x :: ds, es, vs, ws, h, h2 => by
    obtain ⟨v, us, rfl, h1, h3⟩ := h
    exact ⟨v, us ++ ws, rfl, h1, RpAll.append h3 h2⟩
theorem RpAll.set : ∀ {ds : List D} {vs : List V} (i : Nat) {d : D} {v : V}, RpAll K G ds vs → Rp K G d v → RpAll K G (ds.set i d) (vs.set i v)
  | [], _, _, _, _, h, _ => by
    have h' : _ = [] := h
    subst h'; rfl
  | x :: ds, vs, 0, d, v, h, r => by
    obtain ⟨u, ws, rfl, _, h2⟩ := h
    exact ⟨v, ws, rfl, r, h2⟩
  | x :: ds, vs, i + 1, d, v, h, r => by
    obtain ⟨u, ws, rfl, h1, h2⟩ := h
    exact ⟨u, ws.set i v, rfl, h1, RpAll.set i h2 r⟩
theorem RpAll.take : ∀ {ds : List D} {vs : List V} (n : Nat), RpAll K G ds vs → RpAll K G (ds.take n) (vs.take n)
  | _, _, 0, _ => by simp [RpAll]
  | [], _, n + 1, h => by
    have h' : _ = [] := h
    subst h'; simp [RpAll]
  | x :: ds, vs, n + 1, h => by
    obtain ⟨u, ws, rfl, h1, h2⟩ := h
    exact ⟨u, ws.take n, rfl, h1, RpAll.take n h2⟩
theorem RpAll.drop : ∀ {ds : List D} {vs : List V} (n : Nat), RpAll K G ds vs → RpAll K G (ds.drop n) (vs.drop n)
  | _, _, 0, h => h
  | [], _, n + 1, h => by
    have h' : _ = [] := h
    subst h'; simp [RpAll]
  | x :: ds, vs, n + 1, h => by
    obtain ⟨u, ws, rfl, h1, h2⟩ := h
    exact RpAll.drop n h2
theorem RpAll.nil : RpAll K G [] [] := rfl
theorem RpAll.cons {d : D} {v : V} {ds : List D} {vs : List V} (h : Rp K G d v) (t : RpAll K G ds vs) : RpAll K G (d :: ds) (v :: vs) := ⟨v, vs, rfl, h, t⟩
theorem RpAll.reverse : ∀ {ds : List D} {vs : List V}, RpAll K G ds vs → RpAll K G ds.reverse vs.reverse
  | [], _, h => by
    have h' : _ = [] := h
    subst h'; rfl
  | x :: ds, vs, h => by
    obtain ⟨u, ws, rfl, h1, h2⟩ := h
    rw [List.reverse_cons, List.reverse_cons]
    exact RpAll.append (RpAll.reverse h2) (RpAll.cons h1 RpAll.nil)
theorem RpAll.replicate {d : D} {v : V} (h : Rp K G d v) : ∀ n, RpAll K G (List.replicate n d) (List.replicate n v)
  | 0 => rfl
  | n + 1 => by
    rw [List.replicate_succ, List.replicate_succ]
    exact RpAll.cons h (RpAll.replicate h n)
theorem RpAll.map {α : Type} {f : α → D} {g : α → V} (h : ∀ x, Rp K G (f x) (g x)) : ∀ l : List α, RpAll K G (l.map f) (l.map g)
  | [] => rfl
  | x :: l => RpAll.cons (h x) (RpAll.map h l)
theorem RpAll.mapInv {α : Type} {f : α → D} {g : α → V} (h : ∀ x v, Rp K G (f x) v → v = g x) : ∀ (l : List α) (vs : List V), RpAll K G (l.map f) vs → vs = l.map g
  | [], _, e => e
  | x :: l, vs, e => by
    obtain ⟨v, ws, rfl, h1, h2⟩ := e
    rw [h x v h1, RpAll.mapInv h l ws h2]
    rfl
theorem RpAll.ints (l : List Int) {vs : List V} (h : RpAll K G (l.map D.int) vs) : vs = l.map V.int := RpAll.mapInv (K := K) (G := G) (f := D.int) (g := V.int) (fun x v (e : Rp K G (D.int x) v) => (show v = V.int x from e)) l vs h
theorem RpAll.bls (l : List Bool) {vs : List V} (h : RpAll K G (l.map D.bl) vs) : vs = l.map V.bl := RpAll.mapInv (K := K) (G := G) (f := D.bl) (g := V.bl) (fun x v (e : Rp K G (D.bl x) v) => (show v = V.bl x from e)) l vs h
theorem RpAll.strs (l : List Str) {vs : List V} (h : RpAll K G (l.map D.str) vs) : vs = l.map V.str := RpAll.mapInv (K := K) (G := G) (f := D.str) (g := V.str) (fun x v (e : Rp K G (D.str x) v) => (show v = V.str x from e)) l vs h
end

/-! ### states -/
inductive Sl where
  | no | d (x : D) | own (io : Bool) (xs : List D)
abbrev DS := List Sl
def nth : DS → Nat → Sl
  | [], _ => .no
  | x :: _, 0 => x
  | _ :: r, i + 1 => nth r i
def put : DS → Nat → Sl → DS
  | [], _, _ => []
  | _ :: r, 0, y => y :: r
  | x :: r, i + 1, y => x :: put r i y
theorem put_len : ∀ (s : DS) (i : Nat) (y : Sl), (put s i y).length = s.length
  | [], _, _ => rfl
  | _ :: _, 0, _ => rfl
  | _ :: r, i + 1, y => by simp [put, put_len r i y]
theorem nth_put_ne : ∀ (s : DS) {i j : Nat} (y : Sl), i ≠ j → nth (put s i y) j = nth s j
  | [], _, _, _, _ => rfl
  | _ :: _, 0, 0, _, h => absurd rfl h
  | _ :: _, 0, j + 1, _, _ => rfl
  | _ :: _, i + 1, 0, _, _ => rfl
  | _ :: r, i + 1, j + 1, y, h => nth_put_ne r y (fun e => h (congrArg Nat.succ e))
theorem nth_put_eq : ∀ (s : DS) {i : Nat} (y : Sl), i < s.length → nth (put s i y) i = y
  | [], _, _, h => absurd h (Nat.not_lt_zero _)
  | _ :: _, 0, _, _ => rfl
  | _ :: r, i + 1, y, h => nth_put_eq r y (Nat.lt_of_succ_lt_succ h)
theorem nth_lt : ∀ (s : DS) {i : Nat}, nth s i ≠ .no → i < s.length
  | [], _, h => absurd rfl h
  | _ :: _, 0, _ => Nat.zero_lt_succ _
  | _ :: r, i + 1, h => Nat.succ_lt_succ (nth_lt r h)
theorem put_ge : ∀ (s : DS) {i : Nat} (y : Sl), s.length ≤ i → put s i y = s
  | [], _, _, _ => rfl
  | _ :: _, 0, _, h => absurd h (Nat.not_succ_le_zero _)
  | x :: r, i + 1, y, h => by rw [put, put_ge r y (Nat.le_of_succ_le_succ h)]
/-- the slot holds an argument that is handed back -/
def isIo (s : DS) (i : Nat) : Bool := match nth s i with
  | .own true _ => true
  | _ => false

/-- what stood when the def began: its heap, what was known, the lists it hands back -/
structure Cc where
  H0 : Hp
  G0 : Hp
  ios : Nat → Option Addr

structure At (K : PySem.W.Frag) (c : Cc) (G : Hp) (s : DS) (σ : St) (H : Hp) : Prop where
  g0 : Ex c.G0 G
  gh : Ex G H
  ke : ∀ a o, c.H0 a = some o → (∀ i, c.ios i ≠ some a) → H a = some o
  th : ∀ a o, c.H0 a = some o → ∃ o', H a = some o'
  fr : ∀ a o, G a = some o → c.G0 a = some o ∨ c.H0 a = none
  len : s.length = σ.length
  sd : ∀ i x, nth s i = .d x → ∃ v, σ[i]? = some (some v) ∧ Rp K G x v
  so : ∀ i b xs, nth s i = .own b xs → ∃ l vs, σ[i]? = some (some (.ref l)) ∧ G l = none ∧ H l = some (.lst vs) ∧ RpAll K G xs vs ∧ (if b then c.ios i = some l else c.H0 l = none)
  dj : ∀ i j b b' xs ys l, i ≠ j → nth s i = .own b xs → nth s j = .own b' ys → σ[i]? = some (some (.ref l)) → σ[j]? = some (some (.ref l)) → False
  iok : ∀ i l, c.ios i = some l → ∃ xs, nth s i = .own true xs

section
variable {K : PySem.W.Frag} {c : Cc} {G G' H H' : Hp} {s : DS} {σ : St}
theorem ex_upd {p : Addr} {o : HO} (h : G p = none) : Ex G (upd G p o) := Ex.new h
theorem none_of_ex (e : Ex G H) {p : Addr} (h : H p = none) : G p = none := by
  cases q : G p with
  | none => rfl
  | some o => rw [e p o q] at h; cases h
/-- the heap grows, the knowledge grows by what is new -/
theorem At.grow (A : At K c G s σ H) (eg : Ex G G') (gh : Ex G' H') (eh : Ex H H') (fr : ∀ a o, G' a = some o → G a = some o ∨ H a = none) : At K c G' s σ H' where
  g0 := A.g0.trans eg
  gh := gh
  ke := fun a o e n => eh a o (A.ke a o e n)
  th := fun a o e => let ⟨o', e'⟩ := A.th a o e; ⟨o', eh a o' e'⟩
  fr := fun a o e => by
    rcases fr a o e with q | q
    · exact A.fr a o q
    · right
      cases h : c.H0 a with
      | none => rfl
      | some u => obtain ⟨u', e'⟩ := A.th a u h; rw [q] at e'; cases e'
  len := A.len
  sd := fun i x e => let ⟨v, e1, e2⟩ := A.sd i x e; ⟨v, e1, Rp.mono eg x v e2⟩
  so := fun i b xs e => by
    obtain ⟨l, vs, e1, e2, e3, e4, e5⟩ := A.so i b xs e
    refine ⟨l, vs, e1, ?_, eh l _ e3, RpAll.mono eg xs vs e4, e5⟩
    cases h : G' l with
    | none => rfl
    | some u =>
      rcases fr l u h with q | q
      · rw [e2] at q; cases q
      · rw [e3] at q; cases q
  dj := A.dj
  iok := A.iok
/-- a new object, known -/
theorem At.alloc (A : At K c G s σ H) {p : Addr} {o : HO} (hp : H p = none) : At K c (upd G p o) s σ (upd H p o) := by
  have gp := none_of_ex A.gh hp
  refine A.grow (ex_upd gp) (fun a u e => ?_) (ex_upd hp) (fun a u e => ?_)
  · by_cases h : a = p
    · subst h; rw [upd_same] at e ⊢; exact e
    · rw [upd_ne h] at e ⊢; exact A.gh a u e
  · by_cases h : a = p
    · subst h; exact .inr hp
    · rw [upd_ne h] at e; exact .inl e
/-- a new object that is not known (its owner comes) -/
theorem At.lay (A : At K c G s σ H) {p : Addr} {o : HO} (hp : H p = none) : At K c G s σ (upd H p o) :=
  A.grow (Ex.refl G) (A.gh.trans (ex_upd hp)) (ex_upd hp) (fun _ _ e => .inl e)
theorem At.lt (A : At K c G s σ H) {i : Nat} (h : i < s.length) : i < σ.length := by rw [← A.len]; exact h
theorem get_set_ne {i j : Nat} {x : Option V} (h : i ≠ j) : (σ.set i x)[j]? = σ[j]? := List.getElem?_set_ne h
/-- a shared value goes into a slot -/
theorem At.setD (A : At K c G s σ H) {i : Nat} {x : D} {v : V} (r : Rp K G x v) (hi : isIo s i = false) : At K c G (put s i (.d x)) (σ.set i (some v)) H where
  g0 := A.g0
  gh := A.gh
  ke := A.ke
  th := A.th
  fr := A.fr
  len := by rw [put_len, List.length_set]; exact A.len
  sd := fun j y e => by
    by_cases h : i = j
    · subst h
      have hl : i < s.length := by
        by_cases hl : i < s.length
        · exact hl
        · rw [put_ge s _ (Nat.le_of_not_lt hl)] at e
          exact absurd (nth_lt s (by rw [e]; intro z; cases z)) hl
      rw [nth_put_eq s _ hl] at e
      cases e
      exact ⟨v, by rw [List.getElem?_set_self (A.lt hl)], r⟩
    · rw [nth_put_ne s _ h] at e
      obtain ⟨u, e1, e2⟩ := A.sd j y e
      exact ⟨u, by rw [get_set_ne h]; exact e1, e2⟩
  so := fun j b xs e => by
    by_cases h : i = j
    · subst h
      by_cases hl : i < s.length
      · rw [nth_put_eq s _ hl] at e; cases e
      · rw [put_ge s _ (Nat.le_of_not_lt hl)] at e
        exact absurd (nth_lt s (by rw [e]; intro z; cases z)) hl
    · rw [nth_put_ne s _ h] at e
      obtain ⟨l, vs, e1, e2⟩ := A.so j b xs e
      exact ⟨l, vs, by rw [get_set_ne h]; exact e1, e2⟩
  dj := fun j k b b' xs ys l n e1 e2 e3 e4 => by
    have hj : i ≠ j := by
      rintro rfl
      by_cases hl : i < s.length
      · rw [nth_put_eq s _ hl] at e1; cases e1
      · rw [put_ge s _ (Nat.le_of_not_lt hl)] at e1
        exact absurd (nth_lt s (by rw [e1]; intro z; cases z)) hl
    have hk : i ≠ k := by
      rintro rfl
      by_cases hl : i < s.length
      · rw [nth_put_eq s _ hl] at e2; cases e2
      · rw [put_ge s _ (Nat.le_of_not_lt hl)] at e2
        exact absurd (nth_lt s (by rw [e2]; intro z; cases z)) hl
    rw [nth_put_ne s _ hj] at e1
    rw [nth_put_ne s _ hk] at e2
    rw [get_set_ne hj] at e3
    rw [get_set_ne hk] at e4
    exact A.dj j k b b' xs ys l n e1 e2 e3 e4
  iok := fun j l e => by
    obtain ⟨xs, h⟩ := A.iok j l e
    have hj : i ≠ j := by
      rintro rfl
      unfold isIo at hi
      rw [h] at hi
      cases hi
    exact ⟨xs, by rw [nth_put_ne s _ hj]; exact h⟩
/-- what holds of a slot may be forgotten -/
theorem At.drop (A : At K c G s σ H) {i : Nat} (hi : isIo s i = false) : At K c G (put s i .no) σ H where
  g0 := A.g0
  gh := A.gh
  ke := A.ke
  th := A.th
  fr := A.fr
  len := by rw [put_len]; exact A.len
  sd := fun j y e => by
    by_cases h : i = j
    · subst h
      by_cases hl : i < s.length
      · rw [nth_put_eq s _ hl] at e; cases e
      · rw [put_ge s _ (Nat.le_of_not_lt hl)] at e
        exact A.sd i y e
    · rw [nth_put_ne s _ h] at e
      exact A.sd j y e
  so := fun j b xs e => by
    by_cases h : i = j
    · subst h
      by_cases hl : i < s.length
      · rw [nth_put_eq s _ hl] at e; cases e
      · rw [put_ge s _ (Nat.le_of_not_lt hl)] at e
        exact A.so i b xs e
    · rw [nth_put_ne s _ h] at e
      exact A.so j b xs e
  dj := fun j k b b' xs ys l n e1 e2 e3 e4 => by
    have f : ∀ j b xs, nth (put s i .no) j = .own b xs → nth s j = .own b xs := fun j b xs e => by
      by_cases h : i = j
      · subst h
        by_cases hl : i < s.length
        · rw [nth_put_eq s _ hl] at e; cases e
        · rw [put_ge s _ (Nat.le_of_not_lt hl)] at e
          exact e
      · rw [nth_put_ne s _ h] at e
        exact e
    exact A.dj j k b b' xs ys l n (f j b xs e1) (f k b' ys e2) e3 e4
  iok := fun j l e => by
    obtain ⟨xs, h⟩ := A.iok j l e
    have hj : i ≠ j := by
      rintro rfl
      unfold isIo at hi
      rw [h] at hi
      cases hi
    exact ⟨xs, by rw [nth_put_ne s _ hj]; exact h⟩
/-- a new list of one's own -/
structure Mine (K : PySem.W.Frag) (c : Cc) (G : Hp) (s : DS) (σ : St) (H : Hp) (p : Addr) (xs : List D) : Prop where
  at_ : ∃ vs, H p = some (.lst vs) ∧ RpAll K G xs vs
  gp : G p = none
  h0 : c.H0 p = none
  ne : ∀ i b ys, nth s i = .own b ys → σ[i]? ≠ some (some (.ref p))
theorem At.setO (A : At K c G s σ H) {i : Nat} {xs : List D} {p : Addr} (M : Mine K c G s σ H p xs) (hi : isIo s i = false) : At K c G (put s i (.own false xs)) (σ.set i (some (.ref p))) H := by
  have A1 := (A.drop hi)
  have inj : ∀ j b ys, nth (put s i (.own false xs)) j = .own b ys → i ≠ j → nth s j = .own b ys := fun j b ys e h => by rw [nth_put_ne s _ h] at e; exact e
  refine ⟨A.g0, A.gh, A.ke, A.th, A.fr, by rw [put_len, List.length_set]; exact A.len, fun j y e => ?_, fun j b ys e => ?_, fun j k b b' ys zs l n e1 e2 e3 e4 => ?_, fun j l e => ?_⟩
  · by_cases h : i = j
    · subst h
      by_cases hl : i < s.length
      · rw [nth_put_eq s _ hl] at e; cases e
      · rw [put_ge s _ (Nat.le_of_not_lt hl)] at e
        exact absurd (nth_lt s (by rw [e]; intro z; cases z)) hl
    · rw [nth_put_ne s _ h] at e
      obtain ⟨v, e1, e2⟩ := A.sd j y e
      exact ⟨v, by rw [get_set_ne h]; exact e1, e2⟩
  · by_cases h : i = j
    · subst h
      by_cases hl : i < s.length
      · rw [nth_put_eq s _ hl] at e
        cases e
        obtain ⟨vs, e1, e2⟩ := M.at_
        exact ⟨p, vs, by rw [List.getElem?_set_self (A.lt hl)], M.gp, e1, e2, M.h0⟩
      · rw [put_ge s _ (Nat.le_of_not_lt hl)] at e
        exact absurd (nth_lt s (by rw [e]; intro z; cases z)) hl
    · rw [nth_put_ne s _ h] at e
      obtain ⟨l, vs, e1, e2⟩ := A.so j b ys e
      exact ⟨l, vs, by rw [get_set_ne h]; exact e1, e2⟩
  · have lt : ∀ j b ys, nth (put s i (.own false xs)) j = .own b ys → i = j → i < σ.length := fun j b ys e h => by
      subst h
      have := nth_lt _ (show nth (put s i (.own false xs)) i ≠ .no by rw [e]; intro z; cases z)
      rw [put_len] at this
      exact A.lt this
    by_cases hj : i = j
    · have hk : i ≠ k := fun e => n (hj.symm.trans e)
      have hl := lt j b ys e1 hj
      subst hj
      rw [List.getElem?_set_self hl] at e3
      cases e3
      rw [get_set_ne hk] at e4
      exact M.ne k b' zs (inj k b' zs e2 hk) e4
    · by_cases hk : i = k
      · have hl := lt k b' zs e2 hk
        subst hk
        rw [List.getElem?_set_self hl] at e4
        cases e4
        rw [get_set_ne hj] at e3
        exact M.ne j b ys (inj j b ys e1 hj) e3
      · rw [get_set_ne hj] at e3
        rw [get_set_ne hk] at e4
        exact A.dj j k b b' ys zs l n (inj j b ys e1 hj) (inj k b' zs e2 hk) e3 e4
  · obtain ⟨ys, h⟩ := A.iok j l e
    have hj : i ≠ j := by
      rintro rfl
      unfold isIo at hi
      rw [h] at hi
      cases hi
    exact ⟨ys, by rw [nth_put_ne s _ hj]; exact h⟩
/-- a list of one's own becomes shared -/
theorem At.freeze (A : At K c G s σ H) {i : Nat} {xs : List D} (h : nth s i = .own false xs) : ∃ l G', σ[i]? = some (some (.ref l)) ∧ Ex G G' ∧ Rp K G' (.lst xs) (.ref l) ∧ At K c G' (put s i (.d (.lst xs))) σ H ∧ ∀ a u, G' a = some u → G a = some u ∨ a = l := by
  obtain ⟨l, vs, e1, e2, e3, e4, e5⟩ := A.so i false xs h
  have e5' : c.H0 l = none := e5
  have eg : Ex G (upd G l (.lst vs)) := ex_upd e2
  have rp : Rp K (upd G l (.lst vs)) (.lst xs) (.ref l) := ⟨l, vs, rfl, upd_same, RpAll.mono eg xs vs e4⟩
  have hl : i < s.length := nth_lt s (by rw [h]; intro z; cases z)
  refine ⟨l, upd G l (.lst vs), e1, eg, rp, ⟨A.g0.trans eg, fun a u e => ?_, A.ke, A.th, fun a u e => ?_, by rw [put_len]; exact A.len, fun j y e => ?_, fun j b ys e => ?_, fun j k b b' ys zs m n q1 q2 q3 q4 => ?_, fun j m e => ?_⟩, fun a u q => ?_⟩
  · by_cases ha : a = l
    · subst ha; rw [upd_same] at e; rw [e3]; exact e
    · rw [upd_ne ha] at e; exact A.gh a u e
  · by_cases ha : a = l
    · subst ha; exact .inr e5'
    · rw [upd_ne ha] at e; exact A.fr a u e
  · by_cases hj : i = j
    · subst hj
      rw [nth_put_eq s _ hl] at e
      cases e
      exact ⟨_, e1, rp⟩
    · rw [nth_put_ne s _ hj] at e
      obtain ⟨v, q1, q2⟩ := A.sd j y e
      exact ⟨v, q1, Rp.mono eg y v q2⟩
  · by_cases hj : i = j
    · subst hj
      rw [nth_put_eq s _ hl] at e
      cases e
    · rw [nth_put_ne s _ hj] at e
      obtain ⟨m, ws, q1, q2, q3, q4, q5⟩ := A.so j b ys e
      refine ⟨m, ws, q1, ?_, q3, RpAll.mono eg ys ws q4, q5⟩
      have hm : m ≠ l := fun z => by
        subst z
        exact A.dj i j false b xs ys m hj h e e1 q1
      rw [upd_ne hm]
      exact q2
  · have hj : i ≠ j := by
      rintro rfl
      rw [nth_put_eq s _ hl] at q1; cases q1
    have hk : i ≠ k := by
      rintro rfl
      rw [nth_put_eq s _ hl] at q2; cases q2
    rw [nth_put_ne s _ hj] at q1
    rw [nth_put_ne s _ hk] at q2
    exact A.dj j k b b' ys zs m n q1 q2 q3 q4
  · obtain ⟨ys, q⟩ := A.iok j m e
    have hj : i ≠ j := by
      rintro rfl
      rw [h] at q; cases q
    exact ⟨ys, by rw [nth_put_ne s _ hj]; exact q⟩
  · by_cases ha : a = l
    · exact .inr ha
    · rw [upd_ne ha] at q; exact .inl q
/-- a list of one's own leaves its slot -/
theorem At.move (A : At K c G s σ H) {i : Nat} {xs : List D} (h : nth s i = .own false xs) : ∃ l, σ[i]? = some (some (.ref l)) ∧ At K c G (put s i .no) σ H ∧ Mine K c G (put s i .no) σ H l xs := by
  obtain ⟨l, vs, e1, e2, e3, e4, e5⟩ := A.so i false xs h
  have hl : i < s.length := nth_lt s (by rw [h]; intro z; cases z)
  refine ⟨l, e1, A.drop (by unfold isIo; rw [h]), ⟨⟨vs, e3, e4⟩, e2, e5, fun j b ys e q => ?_⟩⟩
  have hj : i ≠ j := by
    rintro rfl
    rw [nth_put_eq s _ hl] at e; cases e
  rw [nth_put_ne s _ hj] at e
  exact A.dj i j false b xs ys l hj h e e1 q
/-- a new list becomes shared -/
theorem At.share (A : At K c G s σ H) {p : Addr} {xs : List D} (M : Mine K c G s σ H p xs) : ∃ G', Ex G G' ∧ Rp K G' (.lst xs) (.ref p) ∧ At K c G' s σ H ∧ ∀ a u, G' a = some u → G a = some u ∨ a = p := by
  obtain ⟨vs, e3, e4⟩ := M.at_
  have eg : Ex G (upd G p (.lst vs)) := ex_upd M.gp
  have rp : Rp K (upd G p (.lst vs)) (.lst xs) (.ref p) := ⟨p, vs, rfl, upd_same, RpAll.mono eg xs vs e4⟩
  refine ⟨upd G p (.lst vs), eg, rp, ⟨A.g0.trans eg, fun a u e => ?_, A.ke, A.th, fun a u e => ?_, A.len, fun j y e => ?_, fun j b ys e => ?_, A.dj, A.iok⟩, fun a u q => ?_⟩
  · by_cases ha : a = p
    · subst ha; rw [upd_same] at e; rw [e3]; exact e
    · rw [upd_ne ha] at e; exact A.gh a u e
  · by_cases ha : a = p
    · subst ha; exact .inr M.h0
    · rw [upd_ne ha] at e; exact A.fr a u e
  · obtain ⟨v, q1, q2⟩ := A.sd j y e
    exact ⟨v, q1, Rp.mono eg y v q2⟩
  · obtain ⟨m, ws, q1, q2, q3, q4, q5⟩ := A.so j b ys e
    refine ⟨m, ws, q1, ?_, q3, RpAll.mono eg ys ws q4, q5⟩
    have hm : m ≠ p := fun z => by
      subst z
      exact M.ne j b ys e q1
    rw [upd_ne hm]
    exact q2
  · by_cases ha : a = p
    · exact .inr ha
    · rw [upd_ne ha] at q; exact .inl q
/-- a list of one's own changes -/
theorem At.change (A : At K c G s σ H) {i : Nat} {b : Bool} {xs ys : List D} {l : Addr} {ws : List V} (h : nth s i = .own b xs) (hl : σ[i]? = some (some (.ref l))) (r : RpAll K G ys ws) :
    At K c G (put s i (.own b ys)) σ (upd H l (.lst ws)) := by
  obtain ⟨l', vs, e1, e2, e3, e4, e5⟩ := A.so i b xs h
  rw [hl] at e1
  cases e1
  have hlt : i < s.length := nth_lt s (by rw [h]; intro z; cases z)
  have inj : ∀ j b' zs, nth (put s i (.own b ys)) j = .own b' zs → ∃ ts, nth s j = .own b' ts := fun j b' zs e => by
    by_cases hj : i = j
    · subst hj; rw [nth_put_eq s _ hlt] at e; cases e; exact ⟨_, h⟩
    · rw [nth_put_ne s _ hj] at e; exact ⟨_, e⟩
  refine ⟨A.g0, fun a u e => ?_, fun a u e n => ?_, fun a u e => ?_, A.fr, by rw [put_len]; exact A.len, fun j y e => ?_, fun j b' zs e => ?_, fun j k b1 b2 zs ts m n q1 q2 q3 q4 => ?_, fun j m e => ?_⟩
  · have ha : a ≠ l := fun z => by subst z; rw [e2] at e; cases e
    rw [upd_ne ha]; exact A.gh a u e
  · have ha : a ≠ l := fun z => by
      subst z
      cases b with
      | true => exact n i e5
      | false => exact absurd ((show c.H0 a = none from e5).symm.trans e) (by intro z; cases z)
    rw [upd_ne ha]; exact A.ke a u e n
  · by_cases ha : a = l
    · subst ha; exact ⟨_, upd_same⟩
    · rw [upd_ne ha]; exact A.th a u e
  · have hj : i ≠ j := by
      rintro rfl
      rw [nth_put_eq s _ hlt] at e; cases e
    rw [nth_put_ne s _ hj] at e
    exact A.sd j y e
  · by_cases hj : i = j
    · subst hj
      rw [nth_put_eq s _ hlt] at e
      cases e
      exact ⟨l, ws, hl, e2, upd_same, r, e5⟩
    · rw [nth_put_ne s _ hj] at e
      obtain ⟨m, us, q1, q2, q3, q4, q5⟩ := A.so j b' zs e
      have hm : m ≠ l := fun z => by
        subst z
        exact A.dj i j b b' xs zs m hj h e hl q1
      exact ⟨m, us, q1, q2, by rw [upd_ne hm]; exact q3, q4, q5⟩
  · obtain ⟨zs', h1⟩ := inj j b1 zs q1
    obtain ⟨ts', h2⟩ := inj k b2 ts q2
    exact A.dj j k b1 b2 zs' ts' m n h1 h2 q3 q4
  · obtain ⟨zs, q⟩ := A.iok j m e
    by_cases hj : i = j
    · subst hj
      rw [h] at q
      cases q
      exact ⟨ys, nth_put_eq s _ hlt⟩
    · exact ⟨zs, by rw [nth_put_ne s _ hj]; exact q⟩
end
end DL
namespace DL
open PySem L2
open Evl (Ex Ex.refl Ex.trans Ex.new)

/-! ### what an expression, a test, an argument list, a statement is worth over data -/
inductive Am where
  | d (x : D) | sl (i : Nat)
inductive Ag where
  | d (x : D) | own (xs : List D)
abbrev WE := DS → (D → DS → Prop) → Prop
abbrev WO := DS → (List D → DS → Prop) → Prop
abbrev WT := DS → (Bool → DS → Prop) → Prop
abbrev WA := DS → (List Am → DS → Prop) → Prop
structure DE where
  nx : DS → Prop
  rt : Ag → DS → Prop
  bk : DS → Prop
  ct : DS → Prop
abbrev WS := DE → DS → Prop

/-- new, or a list of one's own -/
def New (s : DS) (σ : St) (H : Hp) (a : Addr) : Prop := H a = none ∨ ∃ (i : Nat) (b : Bool) (xs : List D), nth s i = .own b xs ∧ σ[i]? = some (some (.ref a))
/-- only lists of one's own have changed -/
structure Stp (s : DS) (σ : St) (G H : Hp) (s' : DS) (G' H' : Hp) : Prop where
  eg : Ex G G'
  fra : ∀ a o, H a = some o → (∀ (i : Nat) b xs, nth s i = .own b xs → σ[i]? ≠ some (some (.ref a))) → H' a = some o
  shr : ∀ (i : Nat) b xs, nth s' i = .own b xs → ∃ ys, nth s i = .own b ys
  th : ∀ a o, H a = some o → ∃ o', H' a = some o'
  fr : ∀ a o, G' a = some o → G a = some o ∨ New s σ H a
theorem Stp.refl {s : DS} {σ : St} {G H : Hp} : Stp s σ G H s G H := ⟨Ex.refl G, fun _ _ e _ => e, fun _ _ xs e => ⟨xs, e⟩, fun _ o e => ⟨o, e⟩, fun _ _ e => .inl e⟩
theorem New.back {s s1 : DS} {σ : St} {G H G1 H1 : Hp} (a : Stp s σ G H s1 G1 H1) {x : Addr} (h : New s1 σ H1 x) : New s σ H x := by
  rcases h with h | ⟨i, b, xs, q, e⟩
  · left
    cases z : H x with
    | none => rfl
    | some o => obtain ⟨o', e'⟩ := a.th x o z; rw [h] at e'; cases e'
  · obtain ⟨ys, q'⟩ := a.shr i b xs q
    exact .inr ⟨i, b, ys, q', e⟩
theorem Stp.trans {s s1 s2 : DS} {σ : St} {G H G1 H1 G2 H2 : Hp} (a : Stp s σ G H s1 G1 H1) (b : Stp s1 σ G1 H1 s2 G2 H2) : Stp s σ G H s2 G2 H2 :=
  ⟨a.eg.trans b.eg, fun x o e n => b.fra x o (a.fra x o e n) fun i b' xs q => let ⟨ys, q'⟩ := a.shr i b' xs q; n i b' ys q', fun i b' xs q => let ⟨ys, q'⟩ := b.shr i b' xs q; a.shr i b' ys q',
    fun x o e => let ⟨o', e'⟩ := a.th x o e; b.th x o' e', fun x o e => by
      rcases b.fr x o e with q | q
      · exact a.fr x o q
      · exact .inr (New.back a q)⟩
theorem Stp.new {s : DS} {σ : St} {G H G' : Hp} {p : Addr} {o : HO} (hp : H p = none) (e : Ex G G') (fr : ∀ a u, G' a = some u → G a = some u ∨ a = p) : Stp s σ G H s G' (upd H p o) :=
  ⟨e, fun a u q _ => by rw [upd_ne (ne_of_none q hp)]; exact q, fun _ _ xs e => ⟨xs, e⟩, fun a u q => ⟨u, by rw [upd_ne (ne_of_none q hp)]; exact q⟩, fun a u q => by
    rcases fr a u q with z | z
    · exact .inl z
    · exact .inr (.inl (by rw [z]; exact hp))⟩
theorem upd_fr {G : Hp} {p : Addr} {o : HO} : ∀ a u, upd G p o a = some u → G a = some u ∨ a = p := fun a u q => by
  by_cases h : a = p
  · exact .inr h
  · rw [upd_ne h] at q; exact .inl q
theorem Stp.put {s s' : DS} {σ : St} {G H G' H' : Hp} {i : Nat} {y : Sl} (a : Stp s σ G H s' G' H') (hy : ∀ b xs, y = .own b xs → ∃ ys, nth s' i = .own b ys) : Stp s σ G H (put s' i y) G' H' :=
  ⟨a.eg, a.fra, fun j b xs q => by
    by_cases h : i = j
    · subst h
      by_cases hl : i < s'.length
      · rw [nth_put_eq s' _ hl] at q
        obtain ⟨ys, z⟩ := hy b xs q
        exact a.shr i b ys z
      · rw [put_ge s' _ (Nat.le_of_not_lt hl)] at q
        exact a.shr i b xs q
    · rw [nth_put_ne s' _ h] at q
      exact a.shr j b xs q, a.th, a.fr⟩
theorem Stp.know {s s' : DS} {σ : St} {G H G' H' G2 : Hp} (a : Stp s σ G H s' G' H') (e : Ex G' G2) {p : Addr} (hp : New s σ H p) (f : ∀ x u, G2 x = some u → G' x = some u ∨ x = p) : Stp s σ G H s' G2 H' :=
  ⟨a.eg.trans e, a.fra, a.shr, a.th, fun x o q => by
    rcases f x o q with z | z
    · exact a.fr x o z
    · exact .inr (by rw [z]; exact hp)⟩

section
variable (K : PySem.W.Frag) (c : Cc)
def ED (te : TE) (s : DS) (P : D → DS → Prop) : Prop := ∀ G σ H (Q : VK), At K c G s σ H →
  (∀ v d s' G' H', Stp s σ G H s' G' H' → At K c G' s' σ H' → Rp K G' d v → P d s' → Q v H') → te σ H Q
def EO (te : TE) (s : DS) (P : List D → DS → Prop) : Prop := ∀ G σ H (Q : VK), At K c G s σ H →
  (∀ p xs s' G' H', Stp s σ G H s' G' H' → At K c G' s' σ H' → Mine K c G' s' σ H' p xs → New s σ H p → P xs s' → Q (.ref p) H') → te σ H Q
def TD (tt : TT) (s : DS) (P : Bool → DS → Prop) : Prop := ∀ G σ H (Q : Bool → Hp → Prop), At K c G s σ H →
  (∀ b s' G' H', Stp s σ G H s' G' H' → At K c G' s' σ H' → P b s' → Q b H') → tt σ H Q
/-- the arguments' values -/
def AmOk (G : Hp) (σ : St) : List Am → List V → Prop
  | [], vs => vs = []
  | .d x :: as, vs => ∃ v ws, vs = v :: ws ∧ Rp K G x v ∧ AmOk G σ as ws
  | .sl i :: as, vs => ∃ v ws, vs = v :: ws ∧ σ[i]? = some (some v) ∧ AmOk G σ as ws
def AD (ta : TA) (s : DS) (P : List Am → DS → Prop) : Prop := ∀ G σ H (Q : List V → Hp → Prop), At K c G s σ H →
  (∀ vs as s' G' H', Stp s σ G H s' G' H' → At K c G' s' σ H' → AmOk K G' σ as vs → P as s' → Q vs H') → ta σ H Q
/-- what a def hands back -/
def RsOk (G : Hp) (s : DS) (σ : St) (H : Hp) : Ag → V → Prop
  | .d x, v => Rp K G x v
  | .own xs, v => ∃ p, v = .ref p ∧ Mine K c G s σ H p xs
structure EndsOk (G0 : Hp) (De : DE) (En : Ends) : Prop where
  nx : ∀ G s σ H, Ex G0 G → At K c G s σ H → De.nx s → En.nx σ H
  bk : ∀ G s σ H, Ex G0 G → At K c G s σ H → De.bk s → En.bk σ H
  ct : ∀ G s σ H, Ex G0 G → At K c G s σ H → De.ct s → En.ct σ H
  rt : ∀ G s σ H v r, Ex G0 G → At K c G s σ H → RsOk K c G s σ H r v → De.rt r s → En.rt v H
def SD (t : TS) (De : DE) (s : DS) : Prop := ∀ G σ H (En : Ends), At K c G s σ H → EndsOk K c G De En → t En σ H
/-- a target: the slots js are stored -/
def GD (g : TG) (js : List Nat) (x : D) (s : DS) (P : DS → Prop) : Prop := ∀ G σ H v (Q : St → Hp → Prop), At K c G s σ H → Rp K G x v →
  (∀ s' σ', At K c G s' σ' H → σ'.length = σ.length → (∀ i, i ∉ js → σ'[i]? = σ[i]?) → (∀ (i : Nat) b xs, nth s' i = .own b xs → nth s i = .own b xs ∧ i ∉ js) → P s' → Q σ' H) → g v σ H Q
end
theorem EndsOk.mono {K : PySem.W.Frag} {c : Cc} {G G' : Hp} {De : DE} {En : Ends} (E : EndsOk K c G De En) (e : Ex G G') : EndsOk K c G' De En :=
  ⟨fun G s σ H q => E.nx G s σ H (e.trans q), fun G s σ H q => E.bk G s σ H (e.trans q), fun G s σ H q => E.ct G s σ H (e.trans q), fun G s σ H v r q => E.rt G s σ H v r (e.trans q)⟩
theorem AmOk.mono {K : PySem.W.Frag} {G G' : Hp} {σ : St} (e : Ex G G') : ∀ (as : List Am) (vs : List V), AmOk K G σ as vs → AmOk K G' σ as vs
  | [], _, h => h
  | .d x :: as, vs, h => by
    obtain ⟨v, ws, e1, e2, e3⟩ := h
    exact ⟨v, ws, e1, Rp.mono e x v e2, AmOk.mono e as ws e3⟩
  | .sl i :: as, vs, h => by
    obtain ⟨v, ws, e1, e2, e3⟩ := h
    exact ⟨v, ws, e1, e2, AmOk.mono e as ws e3⟩

structure PX (X : Cx) (e : Expr) (F : WE) : Prop where
  ex : ∃ te, PE X e te ∧ ∀ c s P, F s P → ED X.K c te s P
structure PO (X : Cx) (e : Expr) (F : WO) : Prop where
  ex : ∃ te, PE X e te ∧ ∀ c s P, F s P → EO X.K c te s P
structure PQ (X : Cx) (e : Expr) (F : WT) : Prop where
  ex : ∃ tt, PT X e tt ∧ ∀ c s P, F s P → TD X.K c tt s P
structure PQW (X : Cx) (e : Expr) (F : WT) : Prop where
  ex : ∃ tt, PW X e tt ∧ ∀ c s P, F s P → TD X.K c tt s P
structure PXA (X : Cx) (es : List Expr) (F : WA) : Prop where
  ex : ∃ ta, PA X es ta ∧ ∀ c s P, F s P → AD X.K c ta s P
structure PSD (X : Cx) (st : Stmt) (F : WS) : Prop where
  ex : ∃ t, PS X st t ∧ ∀ c s De, F De s → SD X.K c t De s
structure PSsD (X : Cx) (st : List Stmt) (F : WS) : Prop where
  ex : ∃ t, PSs X st t ∧ ∀ c s De, F De s → SD X.K c t De s
abbrev WG := D → DS → (DS → Prop) → Prop
structure PGD (X : Cx) (tg : Expr) (js : List Nat) (F : WG) : Prop where
  ex : ∃ g, PG X tg g ∧ ∀ c s x P, F x s P → GD X.K c g js x s P

section
variable {X : Cx} {e a b : Expr} {pos : Pos}

/-- a new list as a value -/
def wSh (F : WO) : WE := fun s P => F s fun xs s' => P (.lst xs) s'
theorem PO.x {F : WO} (h : PO X e F) : PX X e (wSh F) := by
  obtain ⟨te, h1, h2⟩ := h.ex
  refine ⟨te, h1, fun c s P hf G σ H Q A k => ?_⟩
  refine h2 c s _ hf G σ H Q A fun p xs s' G' H' e1 A1 M nw hp => ?_
  obtain ⟨G2, e2, r, A2, f2⟩ := A1.share M
  exact k _ _ s' G2 H' (e1.know e2 nw f2) A2 r hp

/-! ### names, constants -/
def wVar (i : Nat) : WE := fun s P => match nth s i with
  | .d x => P x s
  | .own false xs => P (.lst xs) (put s i (.d (.lst xs)))
  | _ => False
def wC (x : D) : WE := fun s P => P x s
theorem px_of (te : TE) (x : D) (v : V) (h : PE X e te) (ht : te = tC v) (r : ∀ G, Rp X.K G x v) : PX X e (wC x) := by
  subst ht
  exact ⟨_, h, fun c s P hf G σ H Q A k => k v x s G H Stp.refl A (r G) hf⟩
theorem px_var (i : Nat) {x : Str} (hN : X.N[i]? = some x := by rfl) (hv : Vis X.env.scope x := by first | exact Or.inl rfl | exact Or.inr (Or.inl rfl) | exact Or.inr (Or.inr rfl)) (hd : (x == ("__debug__" : Str)) = false := by decide)
    (hcd : (x == ("__classdict__" : Str)) = false := by decide) : PX X (.Name x pos) (wVar i) := by
  refine ⟨tVar i, pe_var hN hv hd hcd, fun c s P hf G σ H Q A k => ?_⟩
  unfold wVar at hf
  cases h : nth s i with
  | no => rw [h] at hf; exact hf.elim
  | d x =>
    rw [h] at hf
    obtain ⟨v, e1, e2⟩ := A.sd i x h
    exact ⟨v, e1, k v x s G H Stp.refl A e2 hf⟩
  | own io xs =>
    cases io with
    | true => rw [h] at hf; exact hf.elim
    | false =>
      rw [h] at hf
      obtain ⟨l, G', e1, e2, r, A2, f2⟩ := A.freeze h
      exact ⟨.ref l, e1, k _ _ _ G' H (Stp.put (Stp.refl.know e2 (.inr ⟨i, false, xs, h, e1⟩) f2) (fun _ _ z => by cases z)) A2 r hf⟩
theorem px_int {i j pos} : PX X (.Constant (.int i) j pos) (wC (.int i)) := px_of _ _ (.int i) pe_int rfl fun _ => rfl
theorem px_bl {b j pos} : PX X (.Constant (.bool b) j pos) (wC (.bl b)) := px_of _ _ (.bl b) pe_bl rfl fun _ => rfl
theorem px_non {j pos} : PX X (.Constant .none j pos) (wC .non) := px_of _ _ .non pe_non rfl fun _ => rfl
theorem px_str {x j pos} : PX X (.Constant (.str x) j pos) (wC (.str x)) := px_of _ _ (.str x) pe_str rfl fun _ => rfl
theorem px_globI {x : Str} {i : Int} {t : Tok} (hm : X.mg x = some (.int i t)) (hg : Gl X x := by rfl) (hd : (x == ("__debug__" : Str)) = false := by decide) : PX X (.Name x pos) (wC (.int i)) := px_of _ _ (.int i) (pe_glob (v := .int i) hg hm ⟨_, rfl⟩ hd) rfl fun _ => rfl
theorem px_globS {x y : Str} {t : Tok} (hm : X.mg x = some (.str y t)) (hg : Gl X x := by rfl) (hd : (x == ("__debug__" : Str)) = false := by decide) : PX X (.Name x pos) (wC (.str y)) := px_of _ _ (.str y) (pe_glob (v := .str y) hg hm ⟨_, rfl⟩ hd) rfl fun _ => rfl

/-! ### operators by their data -/
/-- r does on values what f does on data: nothing new -/
def RV (K : PySem.W.Frag) (r : R2) (f : D → D → (D → Prop) → Prop) : Prop := ∀ (G H : Hp) (x y : V) (d1 d2 : D) (P : D → Prop) (Q : VK), Ex G H → Rp K G d1 x → Rp K G d2 y → f d1 d2 P →
  (∀ v d, Rp K G d v → P d → Q v H) → r x y H Q
/-- .. a new list -/
def RO (K : PySem.W.Frag) (r : R2) (f : D → D → (List D → Prop) → Prop) : Prop := ∀ (G H : Hp) (x y : V) (d1 d2 : D) (P : List D → Prop) (Q : VK), Ex G H → Rp K G d1 x → Rp K G d2 y → f d1 d2 P →
  (∀ p vs xs, H p = none → RpAll K G xs vs → P xs → Q (.ref p) (upd H p (.lst vs))) → r x y H Q
def RW1 (K : PySem.W.Frag) (r : V → Hp → VK → Prop) (f : D → (D → Prop) → Prop) : Prop := ∀ (G H : Hp) (x : V) (d1 : D) (P : D → Prop) (Q : VK), Ex G H → Rp K G d1 x → f d1 P →
  (∀ v d, Rp K G d v → P d → Q v H) → r x H Q
def wOp (f : D → D → (D → Prop) → Prop) (Fa Fb : WE) : WE := fun s P => Fa s fun x s1 => Fb s1 fun y s2 => f x y fun d => P d s2
def wOpO (f : D → D → (List D → Prop) → Prop) (Fa Fb : WE) : WO := fun s P => Fa s fun x s1 => Fb s1 fun y s2 => f x y fun d => P d s2
def wUn (f : D → (D → Prop) → Prop) (Fa : WE) : WE := fun s P => Fa s fun x s1 => f x fun d => P d s1
theorem ed_op {K : PySem.W.Frag} {r : R2} {f : D → D → (D → Prop) → Prop} (hr : RV K r f) {ta tb : TE} {Fa Fb : WE} (ha : ∀ c s P, Fa s P → ED K c ta s P) (hb : ∀ c s P, Fb s P → ED K c tb s P) :
    ∀ c s P, wOp f Fa Fb s P → ED K c (tOp r ta tb) s P := fun c s P hf G σ H Q A k =>
  ha c s _ hf G σ H _ A fun v d1 s1 G1 H1 e1 A1 r1 hf1 => hb c s1 _ hf1 G1 σ H1 _ A1 fun u d2 s2 G2 H2 e2 A2 r2 hf2 =>
    hr G2 H2 v u d1 d2 _ Q A2.gh (Rp.mono e2.eg d1 v r1) r2 hf2 fun z d rz hp => k z d s2 G2 H2 (e1.trans e2) A2 rz hp
theorem Mine.new {K : PySem.W.Frag} {c : Cc} {G H : Hp} {s : DS} {σ : St} (A : At K c G s σ H) {p : Addr} {vs : List V} {xs : List D} (hp : H p = none) (r : RpAll K G xs vs) : Mine K c G s σ (upd H p (.lst vs)) p xs :=
  ⟨⟨vs, upd_same, r⟩, none_of_ex A.gh hp, (by
    cases h : c.H0 p with
    | none => rfl
    | some o => obtain ⟨o', e⟩ := A.th p o h; rw [hp] at e; cases e), fun i b ys e q => by
    obtain ⟨l, ws, e1, e2, e3, _⟩ := A.so i b ys e
    rw [q] at e1
    cases e1
    rw [hp] at e3
    cases e3⟩
theorem eo_op {K : PySem.W.Frag} {r : R2} {f : D → D → (List D → Prop) → Prop} (hr : RO K r f) {ta tb : TE} {Fa Fb : WE} (ha : ∀ c s P, Fa s P → ED K c ta s P) (hb : ∀ c s P, Fb s P → ED K c tb s P) :
    ∀ c s P, wOpO f Fa Fb s P → EO K c (tOp r ta tb) s P := fun c s P hf G σ H Q A k =>
  ha c s _ hf G σ H _ A fun v d1 s1 G1 H1 e1 A1 r1 hf1 => hb c s1 _ hf1 G1 σ H1 _ A1 fun u d2 s2 G2 H2 e2 A2 r2 hf2 =>
    hr G2 H2 v u d1 d2 _ Q A2.gh (Rp.mono e2.eg d1 v r1) r2 hf2 fun p vs xs hp rz hP => k p xs s2 G2 (upd H2 p (.lst vs)) ((e1.trans e2).trans (Stp.new hp (Ex.refl G2) fun _ _ q => .inl q)) (A2.lay hp) (Mine.new A2 hp rz) (New.back (e1.trans e2) (.inl hp)) hP
theorem px_op {op : Operator} {r : R2} {f : D → D → (D → Prop) → Prop} {Fa Fb : WE} (ho : OpR X (binaryOp op) r) (hr : RV X.K r f) (ha : PX X a Fa) (hb : PX X b Fb) : PX X (.BinOp a op b pos) (wOp f Fa Fb) := by
  obtain ⟨ta, a1, a2⟩ := ha.ex
  obtain ⟨tb, b1, b2⟩ := hb.ex
  exact ⟨_, pe_op ho a1 b1, ed_op hr a2 b2⟩
theorem po_op {op : Operator} {r : R2} {f : D → D → (List D → Prop) → Prop} {Fa Fb : WE} (ho : OpR X (binaryOp op) r) (hr : RO X.K r f) (ha : PX X a Fa) (hb : PX X b Fb) : PO X (.BinOp a op b pos) (wOpO f Fa Fb) := by
  obtain ⟨ta, a1, a2⟩ := ha.ex
  obtain ⟨tb, b1, b2⟩ := hb.ex
  exact ⟨_, pe_op ho a1 b1, eo_op hr a2 b2⟩
theorem px_cmp {op : CmpOp} {r : R2} {f : D → D → (D → Prop) → Prop} {Fa Fb : WE} (ho : OpR X (compareOp op) r) (hr : RV X.K r f) (ha : PX X a Fa) (hb : PX X b Fb) (hm : behindInMarks op b = false) : PX X (.Compare a [op] [b] pos) (wOp f Fa Fb) := by
  obtain ⟨ta, a1, a2⟩ := ha.ex
  obtain ⟨tb, b1, b2⟩ := hb.ex
  exact ⟨_, pe_cmpR ho a1 b1 hm, ed_op hr a2 b2⟩
/-- the bool that an expression gives -/
def asB : D → (Bool → Prop) → Prop
  | .bl b, P => P b
  | _, _ => False
def wTest (F : WE) : WT := fun s P => F s fun d s' => asB d fun b => P b s'
theorem td_test {K : PySem.W.Frag} {te : TE} {F : WE} (h : ∀ c s P, F s P → ED K c te s P) : ∀ c s P, wTest F s P → TD K c (tTest te) s P := fun c s P hf G σ H Q A k =>
  h c s _ hf G σ H _ A fun v d s1 G1 H1 e1 A1 r1 hp => by
    cases d with
    | bl b => exact ⟨b, r1, k b s1 G1 H1 e1 A1 hp⟩
    | _ => exact hp.elim
theorem td_B {K : PySem.W.Frag} {te : TE} {F : WE} (h : ∀ c s P, F s P → ED K c te s P) : ∀ c s P, wTest F s P → TD K c (tB te) s P := fun c s P hf G σ H Q A k =>
  h c s _ hf G σ H _ A fun v d s1 G1 H1 e1 A1 r1 hp => by
    cases d with
    | bl b => exact ⟨b, r1, k b s1 G1 H1 e1 A1 hp⟩
    | _ => exact hp.elim
theorem pq_cmp {op : CmpOp} {r : R2} {f : D → D → (D → Prop) → Prop} {Fa Fb : WE} (ho : OpR X (compareOp op) r) (hr : RV X.K r f) (ha : PX X a Fa) (hb : PX X b Fb) (hm : behindInMarks op b = false) : PQ X (.Compare a [op] [b] pos) (wTest (wOp f Fa Fb)) := by
  obtain ⟨ta, a1, a2⟩ := ha.ex
  obtain ⟨tb, b1, b2⟩ := hb.ex
  exact ⟨_, pt_cmpR ho a1 b1 hm, td_test (ed_op hr a2 b2)⟩
theorem pq_val {F : WE} (h : PX X e F) (he : ∀ whole, isTrue e X.env whole = (do let v ← whole; standAt e.pos; holding [v] (truthy v)) := by intro _; rfl) : PQ X e (wTest F) := by
  obtain ⟨te, h1, h2⟩ := h.ex
  exact ⟨_, pt_val h1 he, td_B h2⟩

/-! ### and, or, not, if -/
def wAnd (F G : WT) : WT := fun s P => F s fun b s1 => if b = true then G s1 P else P false s1
def wOr (F G : WT) : WT := fun s P => F s fun b s1 => if b = true then P true s1 else G s1 P
def wNot (F : WT) : WT := fun s P => F s fun b s1 => P (!b) s1
variable {rest : List Expr}
theorem pqw_and1 {F : WT} (ha : PQ X a F) : PQW X (.BoolOp .And [a] pos) F := by
  obtain ⟨ta, a1, a2⟩ := ha.ex
  exact ⟨_, pw_and1 a1, a2⟩
theorem pqw_or1 {F : WT} (ha : PQ X a F) : PQW X (.BoolOp .Or [a] pos) F := by
  obtain ⟨ta, a1, a2⟩ := ha.ex
  exact ⟨_, pw_or1 a1, a2⟩
theorem pqw_and {F G : WT} (ha : PQ X a F) (hb : PQW X (.BoolOp .And (b :: rest) pos) G) : PQW X (.BoolOp .And (a :: b :: rest) pos) (wAnd F G) := by
  obtain ⟨ta, a1, a2⟩ := ha.ex
  obtain ⟨tb, b1, b2⟩ := hb.ex
  refine ⟨_, pw_and a1 b1, fun c s P hf G0 σ H Q A k => ?_⟩
  refine a2 c s _ hf G0 σ H _ A fun v s1 G1 H1 e1 A1 hp => ?_
  cases v with
  | true =>
    show (if true = true then _ else _)
    rw [if_pos rfl] at hp ⊢
    exact b2 c s1 _ hp G1 σ H1 _ A1 fun v s2 G2 H2 e2 A2 hp2 => k v s2 G2 H2 (e1.trans e2) A2 hp2
  | false =>
    show (if false = true then _ else _)
    rw [if_neg Bool.false_ne_true] at hp ⊢
    exact k false s1 G1 H1 e1 A1 hp
theorem pqw_or {F G : WT} (ha : PQ X a F) (hb : PQW X (.BoolOp .Or (b :: rest) pos) G) : PQW X (.BoolOp .Or (a :: b :: rest) pos) (wOr F G) := by
  obtain ⟨ta, a1, a2⟩ := ha.ex
  obtain ⟨tb, b1, b2⟩ := hb.ex
  refine ⟨_, pw_or a1 b1, fun c s P hf G0 σ H Q A k => ?_⟩
  refine a2 c s _ hf G0 σ H _ A fun v s1 G1 H1 e1 A1 hp => ?_
  cases v with
  | false =>
    show (if false = true then _ else _)
    rw [if_neg Bool.false_ne_true] at hp ⊢
    exact b2 c s1 _ hp G1 σ H1 _ A1 fun v s2 G2 H2 e2 A2 hp2 => k v s2 G2 H2 (e1.trans e2) A2 hp2
  | true =>
    show (if true = true then _ else _)
    rw [if_pos rfl] at hp ⊢
    exact k true s1 G1 H1 e1 A1 hp
theorem PQW.q {F : WT} (h : PQW X e F) : PQ X e F := by
  obtain ⟨t, h1, h2⟩ := h.ex
  exact ⟨_, h1.pt, h2⟩
theorem pq_not {F : WT} (ha : PQ X a F) : PQ X (.UnaryOp .Not a pos) (wNot F) := by
  obtain ⟨ta, a1, a2⟩ := ha.ex
  refine ⟨_, pt_not a1, fun c s P hf G0 σ H Q A k => ?_⟩
  exact a2 c s _ hf G0 σ H _ A fun v s1 G1 H1 e1 A1 hp => k _ s1 G1 H1 e1 A1 hp
def wAndV (F G : WE) : WE := fun s P => F s fun d s1 => asB d fun b => if b = true then G s1 P else P (.bl false) s1
def wOrV (F G : WE) : WE := fun s P => F s fun d s1 => asB d fun b => if b = true then P (.bl true) s1 else G s1 P
def wNotV (F : WE) : WE := fun s P => F s fun d s1 => asB d fun b => P (.bl (!b)) s1
theorem px_one {op} {F : WE} (h : PX X a F) : PX X (.BoolOp op [a] pos) F := by
  obtain ⟨t, h1, h2⟩ := h.ex
  exact ⟨_, pe_one h1, h2⟩
theorem px_and {F G : WE} (ha : PX X a F) (hb : PX X (.BoolOp .And (b :: rest) pos) G) : PX X (.BoolOp .And (a :: b :: rest) pos) (wAndV F G) := by
  obtain ⟨ta, a1, a2⟩ := ha.ex
  obtain ⟨tb, b1, b2⟩ := hb.ex
  refine ⟨_, pe_and a1 b1, fun c s P hf G0 σ H Q A k => ?_⟩
  refine a2 c s _ hf G0 σ H _ A fun v d s1 G1 H1 e1 A1 r1 hp => ?_
  cases d with
  | bl v =>
    refine ⟨v, r1, ?_⟩
    have hp : (if v = true then _ else _) := hp
    cases v with
    | true =>
      rw [if_pos rfl] at hp ⊢
      exact b2 c s1 _ hp G1 σ H1 _ A1 fun v d s2 G2 H2 e2 A2 r2 hp2 => k v d s2 G2 H2 (e1.trans e2) A2 r2 hp2
    | false =>
      rw [if_neg Bool.false_ne_true] at hp ⊢
      exact k _ _ s1 G1 H1 e1 A1 (show Rp X.K G1 (.bl false) (.bl false) from rfl) hp
  | _ => exact (show False from hp).elim
theorem px_or {F G : WE} (ha : PX X a F) (hb : PX X (.BoolOp .Or (b :: rest) pos) G) : PX X (.BoolOp .Or (a :: b :: rest) pos) (wOrV F G) := by
  obtain ⟨ta, a1, a2⟩ := ha.ex
  obtain ⟨tb, b1, b2⟩ := hb.ex
  refine ⟨_, pe_or a1 b1, fun c s P hf G0 σ H Q A k => ?_⟩
  refine a2 c s _ hf G0 σ H _ A fun v d s1 G1 H1 e1 A1 r1 hp => ?_
  cases d with
  | bl v =>
    refine ⟨v, r1, ?_⟩
    have hp : (if v = true then _ else _) := hp
    cases v with
    | false =>
      rw [if_neg Bool.false_ne_true] at hp ⊢
      exact b2 c s1 _ hp G1 σ H1 _ A1 fun v d s2 G2 H2 e2 A2 r2 hp2 => k v d s2 G2 H2 (e1.trans e2) A2 r2 hp2
    | true =>
      rw [if_pos rfl] at hp ⊢
      exact k _ _ s1 G1 H1 e1 A1 (show Rp X.K G1 (.bl true) (.bl true) from rfl) hp
  | _ => exact (show False from hp).elim
theorem px_not {F : WE} (ha : PX X a F) : PX X (.UnaryOp .Not a pos) (wNotV F) := by
  obtain ⟨ta, a1, a2⟩ := ha.ex
  refine ⟨_, pe_not a1, fun c s P hf G0 σ H Q A k => ?_⟩
  refine a2 c s _ hf G0 σ H _ A fun v d s1 G1 H1 e1 A1 r1 hp => ?_
  cases d with
  | bl v => exact ⟨v, r1, k _ _ s1 G1 H1 e1 A1 (show Rp X.K G1 (.bl (!v)) (.bl (!v)) from rfl) hp⟩
  | _ => exact (show False from hp).elim
def wIf (F : WT) (A B : WE) : WE := fun s P => F s fun b s1 => if b = true then A s1 P else B s1 P
theorem px_if {c : Expr} {F : WT} {A B : WE} (hc : PQ X c F) (ha : PX X a A) (hb : PX X b B) : PX X (.IfExp c a b pos) (wIf F A B) := by
  obtain ⟨tc, c1, c2⟩ := hc.ex
  obtain ⟨ta, a1, a2⟩ := ha.ex
  obtain ⟨tb, b1, b2⟩ := hb.ex
  refine ⟨_, pe_ifExp c1 a1 b1, fun c s P hf G0 σ H Q A k => ?_⟩
  refine c2 c s _ hf G0 σ H _ A fun v s1 G1 H1 e1 A1 hp => ?_
  cases v with
  | true =>
    show (if true = true then _ else _)
    rw [if_pos rfl] at hp ⊢
    exact a2 c s1 _ hp G1 σ H1 _ A1 fun v d s2 G2 H2 e2 A2 r2 hp2 => k v d s2 G2 H2 (e1.trans e2) A2 r2 hp2
  | false =>
    show (if false = true then _ else _)
    rw [if_neg Bool.false_ne_true] at hp ⊢
    exact b2 c s1 _ hp G1 σ H1 _ A1 fun v d s2 G2 H2 e2 A2 r2 hp2 => k v d s2 G2 H2 (e1.trans e2) A2 r2 hp2
def wIfO (F : WT) (A B : WO) : WO := fun s P => F s fun b s1 => if b = true then A s1 P else B s1 P
theorem po_if {c : Expr} {F : WT} {A B : WO} (hc : PQ X c F) (ha : PO X a A) (hb : PO X b B) : PO X (.IfExp c a b pos) (wIfO F A B) := by
  obtain ⟨tc, c1, c2⟩ := hc.ex
  obtain ⟨ta, a1, a2⟩ := ha.ex
  obtain ⟨tb, b1, b2⟩ := hb.ex
  refine ⟨_, pe_ifExp c1 a1 b1, fun c s P hf G0 σ H Q A k => ?_⟩
  refine c2 c s _ hf G0 σ H _ A fun v s1 G1 H1 e1 A1 hp => ?_
  cases v with
  | true =>
    show (if true = true then _ else _)
    rw [if_pos rfl] at hp ⊢
    exact a2 c s1 _ hp G1 σ H1 _ A1 fun p xs s2 G2 H2 e2 A2 r2 nw hp2 => k p xs s2 G2 H2 (e1.trans e2) A2 r2 (New.back e1 nw) hp2
  | false =>
    show (if false = true then _ else _)
    rw [if_neg Bool.false_ne_true] at hp ⊢
    exact b2 c s1 _ hp G1 σ H1 _ A1 fun p xs s2 G2 H2 e2 A2 r2 nw hp2 => k p xs s2 G2 H2 (e1.trans e2) A2 r2 (New.back e1 nw) hp2

/-! ### arguments, displays -/
def waNil : WA := fun s P => P [] s
def waCons (F : WE) (R : WA) : WA := fun s P => F s fun x s1 => R s1 fun as s2 => P (.d x :: as) s2
def waOwn (i : Nat) (R : WA) : WA := fun s P => R s fun as s2 => P (.sl i :: as) s2
theorem pa_n : PXA X [] waNil := ⟨_, pa_nil, fun c s P hf G σ H Q A k => k [] [] s G H Stp.refl A rfl hf⟩
theorem pa_c {es : List Expr} {F : WE} {R : WA} (ha : PX X e F) (hr : PXA X es R) (hs : starEach (e :: es) X.env = (false, eval e X.env) :: starEach es X.env := by rfl) : PXA X (e :: es) (waCons F R) := by
  obtain ⟨ta, a1, a2⟩ := ha.ex
  obtain ⟨tb, b1, b2⟩ := hr.ex
  refine ⟨_, pa_cons a1 b1 hs, fun c s P hf G σ H Q A k => ?_⟩
  refine a2 c s _ hf G σ H _ A fun v d s1 G1 H1 e1 A1 r1 hp => ?_
  exact b2 c s1 _ hp G1 σ H1 _ A1 fun vs as s2 G2 H2 e2 A2 r2 hp2 => k (v :: vs) (.d d :: as) s2 G2 H2 (e1.trans e2) A2 ⟨v, vs, rfl, Rp.mono e2.eg d v r1, r2⟩ hp2
def isOwn (s : DS) (i : Nat) : Prop := match nth s i with
  | .own _ _ => True
  | _ => False
def waOwn' (i : Nat) (R : WA) : WA := fun s P => isOwn s i ∧ R s fun as s2 => P (.sl i :: as) s2
/-- a list of one's own, handed on by its name -/
theorem pa_o (i : Nat) {x : Str} {es : List Expr} {R : WA} (hr : PXA X es R) (hN : X.N[i]? = some x := by rfl) (hv : Vis X.env.scope x := by first | exact Or.inl rfl | exact Or.inr (Or.inl rfl) | exact Or.inr (Or.inr rfl)) (hd : (x == ("__debug__" : Str)) = false := by decide)
    (hcd : (x == ("__classdict__" : Str)) = false := by decide) (hs : starEach (.Name x pos :: es) X.env = (false, eval (.Name x pos) X.env) :: starEach es X.env := by rfl) : PXA X (.Name x pos :: es) (waOwn' i R) := by
  obtain ⟨tb, b1, b2⟩ := hr.ex
  refine ⟨_, pa_cons (pe_var hN hv hd hcd) b1 hs, fun c s P hf G σ H Q A k => ?_⟩
  obtain ⟨ho, hf⟩ := hf
  unfold isOwn at ho
  cases h : nth s i with
  | own io xs =>
    obtain ⟨l, ws, e1, _⟩ := A.so i io xs h
    refine ⟨_, e1, ?_⟩
    exact b2 c s _ hf G σ H _ A fun vs as s2 G2 H2 e2 A2 r2 hp2 => k (.ref l :: vs) (.sl i :: as) s2 G2 H2 e2 A2 ⟨_, vs, rfl, e1, r2⟩ hp2
  | _ => rw [h] at ho; exact ho.elim
/-- all arguments are data -/
def allD : List Am → (List D → Prop) → Prop
  | [], P => P []
  | .d x :: as, P => allD as fun xs => P (x :: xs)
  | .sl _ :: _, _ => False
theorem allD_ok {K : PySem.W.Frag} {G : Hp} {σ : St} : ∀ {as : List Am} {vs : List V} {P : List D → Prop}, AmOk K G σ as vs → allD as P → ∃ xs, RpAll K G xs vs ∧ P xs
  | [], vs, P, h, hp => ⟨[], h, hp⟩
  | .d x :: as, vs, P, h, hp => by
    obtain ⟨v, ws, rfl, e2, e3⟩ := h
    obtain ⟨xs, r, hp⟩ := allD_ok e3 hp
    exact ⟨x :: xs, ⟨v, ws, rfl, e2, r⟩, hp⟩
  | .sl _ :: _, _, _, _, hp => hp.elim
def wTup (R : WA) : WE := fun s P => R s fun as s1 => allD as fun xs => xs.length ≤ 16777216 ∧ P (.tup xs) s1
def wLst (R : WA) : WO := fun s P => R s fun as s1 => allD as fun xs => xs.length ≤ 16777216 ∧ P xs s1
theorem px_tup {es : List Expr} {x1} {R : WA} (h : PXA X es R) : PX X (.Tuple es x1 pos) (wTup R) := by
  obtain ⟨ta, a1, a2⟩ := h.ex
  refine ⟨_, pe_tup a1, fun c s P hf G σ H Q A k => ?_⟩
  refine a2 c s _ hf G σ H _ A fun vs as s1 G1 H1 e1 A1 r1 hp => ?_
  obtain ⟨xs, rx, hz, hp⟩ := allD_ok r1 hp
  refine ⟨by rw [rx.len]; exact hz, fun p hp1 => ?_⟩
  have g := none_of_ex A1.gh hp1
  exact k (.ref p) (.tup xs) s1 _ _ (e1.trans (Stp.new hp1 (ex_upd g) upd_fr)) (A1.alloc hp1) ⟨p, vs, rfl, Evl.st_of upd_same, RpAll.mono (ex_upd g) xs vs rx⟩ hp
theorem po_lst {es : List Expr} {R : WA} (h : PXA X es R) : PO X (.List es pos) (wLst R) := by
  obtain ⟨ta, a1, a2⟩ := h.ex
  refine ⟨_, pe_lst a1, fun c s P hf G σ H Q A k => ?_⟩
  refine a2 c s _ hf G σ H _ A fun vs as s1 G1 H1 e1 A1 r1 hp => ?_
  obtain ⟨xs, rx, hz, hp⟩ := allD_ok r1 hp
  exact ⟨by rw [rx.len]; exact hz, fun p hp1 => k p xs s1 G1 _ (e1.trans (Stp.new hp1 (Ex.refl G1) fun _ _ q => .inl q)) (A1.lay hp1) (Mine.new A1 hp1 rx) (New.back e1 (.inl hp1)) hp⟩
end

/-! ### statements -/
section
variable {X : Cx} {pos : Pos}
def wsNil : WS := fun De s => De.nx s
def wSeq (t u : WS) : WS := fun De s => t ⟨u De, De.rt, De.bk, De.ct⟩ s
theorem sd_nil : PSsD X [] wsNil := ⟨_, pss_nil, fun c s De hf G σ H En A E => E.nx G s σ H (Ex.refl G) A hf⟩
theorem sd_cons {st : Stmt} {rest : List Stmt} {t u : WS} (h1 : PSD X st t) (h2 : PSsD X rest u) : PSsD X (st :: rest) (wSeq t u) := by
  obtain ⟨ta, a1, a2⟩ := h1.ex
  obtain ⟨tb, b1, b2⟩ := h2.ex
  exact ⟨_, pss_cons a1 b1, fun c s De hf G σ H En A E => a2 c s _ hf G σ H _ A ⟨fun G1 s1 σ1 H1 eg A1 hp => b2 c s1 De hp G1 σ1 H1 En A1 (E.mono eg), E.bk, E.ct, E.rt⟩⟩
theorem sd_one {st : Stmt} {t : WS} (h1 : PSD X st t) : PSsD X [st] t := by
  obtain ⟨ta, a1, a2⟩ := h1.ex
  exact ⟨_, pss_one a1, a2⟩
theorem sd_pass : PSD X (.Pass pos) wsNil := ⟨_, ps_pass, fun c s De hf G σ H En A E => E.nx G s σ H (Ex.refl G) A hf⟩
def wBreak : WS := fun De s => De.bk s
def wCont : WS := fun De s => De.ct s
theorem sd_break : PSD X (.Break pos) wBreak := ⟨_, ps_break, fun c s De hf G σ H En A E => E.bk G s σ H (Ex.refl G) A hf⟩
theorem sd_cont : PSD X (.Continue pos) wCont := ⟨_, ps_continue, fun c s De hf G σ H En A E => E.ct G s σ H (Ex.refl G) A hf⟩
def wDrop (F : WE) : WS := fun De s => F s fun _ s1 => De.nx s1
theorem sd_expr {e : Expr} {F : WE} (h : PX X e F) (hs : swapsWith e none pos.line X.env = pure false := by rfl) : PSD X (.Expr e pos) (wDrop F) := by
  obtain ⟨te, h1, h2⟩ := h.ex
  exact ⟨_, ps_expr h1 hs, fun c s De hf G σ H En A E => h2 c s _ hf G σ H _ A fun v d s1 G1 H1 e1 A1 r1 hp => E.nx G1 s1 σ H1 e1.eg A1 hp⟩
def wRet (F : WE) : WS := fun De s => F s fun d s1 => De.rt (.d d) s1
def wRetO (F : WO) : WS := fun De s => F s fun d s1 => De.rt (.own d) s1
def wRetN : WS := fun De s => De.rt (.d .non) s
theorem sd_ret {e : Expr} {F : WE} (h : PX X e F) : PSD X (.Return (some e) pos) (wRet F) := by
  obtain ⟨te, h1, h2⟩ := h.ex
  exact ⟨_, ps_ret h1, fun c s De hf G σ H En A E => h2 c s _ hf G σ H _ A fun v d s1 G1 H1 e1 A1 r1 hp => E.rt G1 s1 σ H1 v (.d d) e1.eg A1 r1 hp⟩
theorem sd_retO {e : Expr} {F : WO} (h : PO X e F) : PSD X (.Return (some e) pos) (wRetO F) := by
  obtain ⟨te, h1, h2⟩ := h.ex
  exact ⟨_, ps_ret h1, fun c s De hf G σ H En A E => h2 c s _ hf G σ H _ A fun p xs s1 G1 H1 e1 A1 M _ hp => E.rt G1 s1 σ H1 (.ref p) (.own xs) e1.eg A1 ⟨p, rfl, M⟩ hp⟩
theorem sd_retN : PSD X (.Return none pos) wRetN := ⟨_, ps_retN, fun c s De hf G σ H En A E => E.rt G s σ H .non (.d .non) (Ex.refl G) A rfl hf⟩
/-- a list of one's own handed out by its name -/
def wVarO (i : Nat) : WO := fun s P => match nth s i with
  | .own false xs => P xs (put s i .no)
  | _ => False
theorem po_var (i : Nat) {x : Str} (hN : X.N[i]? = some x := by rfl) (hv : Vis X.env.scope x := by first | exact Or.inl rfl | exact Or.inr (Or.inl rfl) | exact Or.inr (Or.inr rfl)) (hd : (x == ("__debug__" : Str)) = false := by decide)
    (hcd : (x == ("__classdict__" : Str)) = false := by decide) : PO X (.Name x pos) (wVarO i) := by
  refine ⟨tVar i, pe_var hN hv hd hcd, fun c s P hf G σ H Q A k => ?_⟩
  unfold wVarO at hf
  cases h : nth s i with
  | own io xs =>
    cases io with
    | true => rw [h] at hf; exact hf.elim
    | false =>
      rw [h] at hf
      obtain ⟨l, e1, A2, M⟩ := A.move h
      exact ⟨.ref l, e1, k _ _ _ G H (Stp.put Stp.refl (fun _ _ z => by cases z)) A2 M (.inr ⟨i, false, xs, h, e1⟩) hf⟩
  | _ => rw [h] at hf; exact hf.elim
def wIfS (F : WT) (t u : WS) : WS := fun De s => F s fun b s1 => if b = true then t De s1 else u De s1
theorem sd_if {c : Expr} {a b : List Stmt} {F : WT} {t u : WS} (hc : PQ X c F) (ha : PSsD X a t) (hb : PSsD X b u) : PSD X (.If c a b pos) (wIfS F t u) := by
  obtain ⟨tc, c1, c2⟩ := hc.ex
  obtain ⟨ta, a1, a2⟩ := ha.ex
  obtain ⟨tb, b1, b2⟩ := hb.ex
  refine ⟨_, ps_if c1 a1 b1, fun c s De hf G σ H En A E => ?_⟩
  refine c2 c s _ hf G σ H _ A fun v s1 G1 H1 e1 A1 hp => ?_
  cases v with
  | true =>
    show (if true = true then _ else _)
    rw [if_pos rfl] at hp ⊢
    exact a2 c s1 De hp G1 σ H1 En A1 (E.mono e1.eg)
  | false =>
    show (if false = true then _ else _)
    rw [if_neg Bool.false_ne_true] at hp ⊢
    exact b2 c s1 De hp G1 σ H1 En A1 (E.mono e1.eg)
def wSet (i : Nat) (F : WE) : WS := fun De s => F s fun d s1 => isIo s1 i = false ∧ De.nx (put s1 i (.d d))
def wSetO (i : Nat) (F : WO) : WS := fun De s => F s fun d s1 => isIo s1 i = false ∧ De.nx (put s1 i (.own false d))
theorem sd_set (i : Nat) {x : Str} {e : Expr} {F : WE} {pos' : Pos} (hN : X.N.Nodup) (he : PX X e F) (hi : X.N[i]? = some x := by rfl) (hx : Loc X.env.scope x := by first | exact Or.inl rfl | exact Or.inr rfl)
    (hs : swapsWith e (some (.Name x pos')) pos.line X.env = pure false := by rfl) (hf : X.fn x = true ∨ X.env.scope.names.lookup x = some .local := by first | exact .inl rfl | exact .inr rfl | assumption) :
    PSD X (.Assign [.Name x pos'] e pos) (wSet i F) := by
  obtain ⟨te, h1, h2⟩ := he.ex
  exact ⟨_, ps_set hN hi hx h1 hs hf, fun c s De hf G σ H En A E => h2 c s _ hf G σ H _ A fun v d s1 G1 H1 e1 A1 r1 ⟨hio, hp⟩ => E.nx G1 _ _ H1 e1.eg (A1.setD r1 hio) hp⟩
theorem sd_setO (i : Nat) {x : Str} {e : Expr} {F : WO} {pos' : Pos} (hN : X.N.Nodup) (he : PO X e F) (hi : X.N[i]? = some x := by rfl) (hx : Loc X.env.scope x := by first | exact Or.inl rfl | exact Or.inr rfl)
    (hs : swapsWith e (some (.Name x pos')) pos.line X.env = pure false := by rfl) (hf : X.fn x = true ∨ X.env.scope.names.lookup x = some .local := by first | exact .inl rfl | exact .inr rfl | assumption) :
    PSD X (.Assign [.Name x pos'] e pos) (wSetO i F) := by
  obtain ⟨te, h1, h2⟩ := he.ex
  exact ⟨_, ps_set hN hi hx h1 hs hf, fun c s De hf G σ H En A E => h2 c s _ hf G σ H _ A fun p xs s1 G1 H1 e1 A1 M _ ⟨hio, hp⟩ => E.nx G1 _ _ H1 e1.eg (A1.setO M hio) hp⟩
def wNever : WS := fun _ _ => False
theorem sd_never {st : Stmt} : PSD X st wNever := ⟨_, ps_never, fun c s De hf => hf.elim⟩
end
end DL
namespace DL
open PySem L2 PySem.Spec PyProof.Rows
open Evl (Ex Ex.refl Ex.trans Ex.new)

/-! ### promises over data -/
abbrev FS := List Ag → (Ag → List Ag → Prop) → Prop
structure ArgsAt (K : PySem.W.Frag) (G H : Hp) (vs : List V) (ags : List Ag) : Prop where
  len : vs.length = ags.length
  sd : ∀ (i : Nat) x, ags[i]? = some (.d x) → ∃ v, vs[i]? = some v ∧ Rp K G x v
  so : ∀ (i : Nat) xs, ags[i]? = some (.own xs) → ∃ l ws, vs[i]? = some (.ref l) ∧ G l = none ∧ H l = some (.lst ws) ∧ RpAll K G xs ws
  dj : ∀ (i j : Nat) xs ys l, i ≠ j → ags[i]? = some (.own xs) → ags[j]? = some (.own ys) → vs[i]? = some (.ref l) → vs[j]? = some (.ref l) → False
def OwnA (vs : List V) (ags : List Ag) (a : Addr) : Prop := ∃ (i : Nat) (xs : List D), ags[i]? = some (.own xs) ∧ vs[i]? = some (.ref a)
structure After (K : PySem.W.Frag) (G H G' H' : Hp) (vs : List V) (ags ags' : List Ag) : Prop where
  eg : Ex G G'
  gh : Ex G' H'
  ke : ∀ a o, H a = some o → ¬ OwnA vs ags a → H' a = some o
  th : ∀ a o, H a = some o → ∃ o', H' a = some o'
  fr : ∀ a o, G' a = some o → G a = some o ∨ H a = none
  args : ArgsAt K G' H' vs ags'
  kind : ∀ (i : Nat) xs, ags[i]? = some (.own xs) → ∃ ys, ags'[i]? = some (.own ys)
def RsAt (K : PySem.W.Frag) (G' H' H : Hp) : Ag → V → Prop
  | .d x, v => Rp K G' x v
  | .own xs, v => ∃ p ws, v = .ref p ∧ H p = none ∧ G' p = none ∧ H' p = some (.lst ws) ∧ RpAll K G' xs ws
def spD (K : PySem.W.Frag) (F : FS) : Sp := fun vs H Q _ => ∃ G ags P, Ex G H ∧ ArgsAt K G H vs ags ∧ F ags P ∧ ∀ v r ags' G' H', After K G H G' H' vs ags ags' → RsAt K G' H' H r v → P r ags' → Q v H'

def ownB (s : DS) (i : Nat) : Bool := match nth s i with
  | .own _ _ => true
  | _ => false
def amsOk (s : DS) : List Am → List Nat → Bool
  | [], _ => true
  | .d _ :: as, seen => amsOk s as seen
  | .sl i :: as, seen => ownB s i && !seen.contains i && amsOk s as (i :: seen)
def toAg (s : DS) : Am → Ag
  | .d x => .d x
  | .sl i => match nth s i with
    | .own _ xs => .own xs
    | _ => .d .non
def updAm (s : DS) : List Am → List Ag → DS
  | [], _ => s
  | _, [] => s
  | .d _ :: as, _ :: gs => updAm s as gs
  | .sl i :: as, g :: gs => match g, nth s i with
    | .own xs, .own b _ => updAm (put s i (.own b xs)) as gs
    | _, _ => updAm s as gs
theorem ownB_ex {s : DS} {i : Nat} (h : ownB s i = true) : ∃ b xs, nth s i = .own b xs := by
  unfold ownB at h
  cases e : nth s i with
  | own b xs => exact ⟨b, xs, rfl⟩
  | _ => rw [e] at h; cases h
theorem toAg_own {s : DS} {j : Nat} {b : Bool} {ys : List D} (q : nth s j = .own b ys) : toAg s (.sl j) = .own ys := by
  show (match nth s j with
    | .own _ xs => Ag.own xs
    | _ => .d .non) = .own ys
  rw [q]
theorem amsOk_own {s : DS} : ∀ {as : List Am} {seen : List Nat} {k i : Nat}, amsOk s as seen = true → as[k]? = some (.sl i) → ownB s i = true ∧ i ∉ seen
  | [], _, _, _, _, e => by simp at e
  | .d x :: as, seen, 0, i, h, e => by simp at e
  | .d x :: as, seen, k + 1, i, h, e => amsOk_own (as := as) (k := k) (show amsOk s as seen = true from h) (by simpa using e)
  | .sl j :: as, seen, 0, i, h, e => by
    simp at e; subst e
    unfold amsOk at h
    simp only [Bool.and_eq_true, Bool.not_eq_true', List.contains_eq_mem, decide_eq_false_iff_not] at h
    exact h.1
  | .sl j :: as, seen, k + 1, i, h, e => by
    unfold amsOk at h
    simp only [Bool.and_eq_true] at h
    obtain ⟨h1, h2⟩ := amsOk_own (as := as) (k := k) h.2 (by simpa using e)
    exact ⟨h1, fun z => h2 (List.mem_cons_of_mem _ z)⟩
theorem amsOk_inj {s : DS} : ∀ {as : List Am} {seen : List Nat} {k m i : Nat}, amsOk s as seen = true → as[k]? = some (.sl i) → as[m]? = some (.sl i) → k = m
  | [], _, _, _, _, _, e, _ => by simp at e
  | .d x :: as, seen, 0, _, i, h, e, _ => by simp at e
  | .d x :: as, seen, _, 0, i, h, _, e => by simp at e
  | .d x :: as, seen, k + 1, m + 1, i, h, e, e' => by rw [amsOk_inj (as := as) (k := k) (m := m) (show amsOk s as seen = true from h) (by simpa using e) (by simpa using e')]
  | .sl j :: as, seen, 0, 0, i, h, e, e' => rfl
  | .sl j :: as, seen, 0, m + 1, i, h, e, e' => by
    simp at e; subst e
    unfold amsOk at h
    simp only [Bool.and_eq_true] at h
    exact absurd (List.mem_cons_self) (amsOk_own (as := as) (k := m) h.2 (by simpa using e')).2
  | .sl j :: as, seen, k + 1, 0, i, h, e, e' => by
    simp at e'; subst e'
    unfold amsOk at h
    simp only [Bool.and_eq_true] at h
    exact absurd (List.mem_cons_self) (amsOk_own (as := as) (k := k) h.2 (by simpa using e)).2
  | .sl j :: as, seen, k + 1, m + 1, i, h, e, e' => by
    unfold amsOk at h
    simp only [Bool.and_eq_true] at h
    rw [amsOk_inj (as := as) (k := k) (m := m) h.2 (by simpa using e) (by simpa using e')]
theorem upd_len : ∀ (as : List Am) (gs : List Ag) (s : DS), (updAm s as gs).length = s.length
  | [], _, s => rfl
  | _ :: _, [], s => by unfold updAm; rfl
  | .d _ :: as, g :: gs, s => by unfold updAm; exact upd_len as gs s
  | .sl i :: as, g :: gs, s => by
    unfold updAm
    split
    · rw [upd_len as gs, put_len]
    · exact upd_len as gs s
theorem upd_ne' : ∀ (as : List Am) (gs : List Ag) (s : DS) (i : Nat), (∀ (k : Nat), as[k]? ≠ some (.sl i)) → nth (updAm s as gs) i = nth s i
  | [], _, s, i, _ => rfl
  | _ :: _, [], s, i, _ => by unfold updAm; rfl
  | .d _ :: as, g :: gs, s, i, h => by
    unfold updAm
    exact upd_ne' as gs s i fun k => by simpa using h (k + 1)
  | .sl j :: as, g :: gs, s, i, h => by
    have hj : j ≠ i := fun e => h 0 (by simp [e])
    unfold updAm
    split
    · rw [upd_ne' as gs _ i fun k => by simpa using h (k + 1), nth_put_ne s _ hj]
    · exact upd_ne' as gs s i fun k => by simpa using h (k + 1)
theorem upd_at : ∀ (as : List Am) (gs : List Ag) (s : DS) (seen : List Nat) (k i : Nat) (b : Bool) (xs ys : List D), amsOk s as seen = true → as[k]? = some (.sl i) → gs[k]? = some (.own ys) → nth s i = .own b xs →
    nth (updAm s as gs) i = .own b ys
  | [], _, s, _, k, i, b, xs, ys, _, e, _, _ => by simp at e
  | _ :: _, [], s, _, k, i, b, xs, ys, _, _, e, _ => by simp at e
  | .d _ :: as, g :: gs, s, seen, 0, i, b, xs, ys, h, e, _, _ => by simp at e
  | .d _ :: as, g :: gs, s, seen, k + 1, i, b, xs, ys, h, e, e2, e3 => by
    unfold updAm
    exact upd_at as gs s seen k i b xs ys (show amsOk s as seen = true from h) (by simpa using e) (by simpa using e2) e3
  | .sl j :: as, g :: gs, s, seen, 0, i, b, xs, ys, h, e, e2, e3 => by
    simp at e e2
    subst e e2
    unfold amsOk at h
    simp only [Bool.and_eq_true] at h
    unfold updAm
    rw [e3]
    show nth (updAm (put s j (.own b ys)) as gs) j = _
    rw [upd_ne' as gs _ j fun k q => absurd (List.mem_cons_self) (amsOk_own (as := as) (k := k) h.2 q).2]
    exact nth_put_eq s _ (nth_lt s (by rw [e3]; intro z; cases z))
  | .sl j :: as, g :: gs, s, seen, k + 1, i, b, xs, ys, h, e, e2, e3 => by
    have h0 := h
    unfold amsOk at h
    simp only [Bool.and_eq_true] at h
    have hj : j ≠ i := fun z => by
      subst z
      exact absurd (List.mem_cons_self) (amsOk_own (as := as) (k := k) h.2 (by simpa using e)).2
    have ok2 : ∀ (t : DS) (sn : List Nat) (qs : List Am), (∀ m, ownB t m = ownB s m) → amsOk t qs sn = amsOk s qs sn := by
      intro t sn qs hm
      induction qs generalizing sn with
      | nil => rfl
      | cons q qs ih =>
        cases q with
        | d x => exact ih sn
        | sl m => unfold amsOk; rw [hm m, ih]
    unfold updAm
    split
    · rename_i x1 x2 x3 x4 x5
      refine upd_at as gs _ (j :: seen) k i b xs ys ?_ (by simpa using e) (by simpa using e2) (by rw [nth_put_ne s _ hj]; exact e3)
      rw [ok2 _ _ _ fun m => ?_]
      · exact h.2
      · by_cases hm : j = m
        · subst hm
          unfold ownB
          rw [nth_put_eq s _ (nth_lt s (by rw [x5]; intro z; cases z)), x5]
        · unfold ownB
          rw [nth_put_ne s _ hm]
    · exact upd_at as gs s (j :: seen) k i b xs ys h.2 (by simpa using e) (by simpa using e2) e3
theorem AmOk.len {K : PySem.W.Frag} {G : Hp} {σ : L2.St} : ∀ {as : List Am} {vs : List V}, AmOk K G σ as vs → vs.length = as.length
  | [], _, h => by
    have h' : _ = [] := h
    subst h'; rfl
  | .d x :: as, vs, h => by
    obtain ⟨v, ws, rfl, _, e3⟩ := h
    simp [AmOk.len e3]
  | .sl i :: as, vs, h => by
    obtain ⟨v, ws, rfl, _, e3⟩ := h
    simp [AmOk.len e3]
theorem AmOk.getD {K : PySem.W.Frag} {G : Hp} {σ : L2.St} : ∀ {as : List Am} {vs : List V} {k : Nat} {x : D}, AmOk K G σ as vs → as[k]? = some (.d x) → ∃ v, vs[k]? = some v ∧ Rp K G x v
  | [], _, _, _, _, e => by simp at e
  | .d y :: as, vs, 0, x, h, e => by
    obtain ⟨v, ws, rfl, e2, e3⟩ := h
    simp at e; subst e
    exact ⟨v, rfl, e2⟩
  | .d y :: as, vs, k + 1, x, h, e => by
    obtain ⟨v, ws, rfl, e2, e3⟩ := h
    obtain ⟨u, h1, h2⟩ := AmOk.getD (k := k) e3 (by simpa using e)
    exact ⟨u, by simpa using h1, h2⟩
  | .sl i :: as, vs, 0, x, h, e => by simp at e
  | .sl i :: as, vs, k + 1, x, h, e => by
    obtain ⟨v, ws, rfl, e2, e3⟩ := h
    obtain ⟨u, h1, h2⟩ := AmOk.getD (k := k) e3 (by simpa using e)
    exact ⟨u, by simpa using h1, h2⟩
theorem AmOk.getS {K : PySem.W.Frag} {G : Hp} {σ : L2.St} : ∀ {as : List Am} {vs : List V} {k i : Nat}, AmOk K G σ as vs → as[k]? = some (.sl i) → ∃ v, vs[k]? = some v ∧ σ[i]? = some (some v)
  | [], _, _, _, _, e => by simp at e
  | .d y :: as, vs, 0, i, h, e => by simp at e
  | .d y :: as, vs, k + 1, i, h, e => by
    obtain ⟨v, ws, rfl, e2, e3⟩ := h
    obtain ⟨u, h1, h2⟩ := AmOk.getS (k := k) e3 (by simpa using e)
    exact ⟨u, by simpa using h1, h2⟩
  | .sl j :: as, vs, 0, i, h, e => by
    obtain ⟨v, ws, rfl, e2, e3⟩ := h
    simp at e; subst e
    exact ⟨v, rfl, e2⟩
  | .sl j :: as, vs, k + 1, i, h, e => by
    obtain ⟨v, ws, rfl, e2, e3⟩ := h
    obtain ⟨u, h1, h2⟩ := AmOk.getS (k := k) e3 (by simpa using e)
    exact ⟨u, by simpa using h1, h2⟩

section
variable {K : PySem.W.Frag} {c : Cc} {G G' H H' : Hp} {s : DS} {σ : L2.St} {as : List Am} {vs dvs : List V} {dv : List D}
theorem args_of (A : At K c G s σ H) (r : AmOk K G σ as vs) (ok : amsOk s as [] = true) (rd : RpAll K G dv dvs) : ArgsAt K G H (vs ++ dvs) (as.map (toAg s) ++ dv.map Ag.d) := by
  have hl := r.len
  have hd := rd.len
  have cut : ∀ {i : Nat} {g : Ag}, (as.map (toAg s) ++ dv.map Ag.d)[i]? = some g → (∃ a, i < as.length ∧ as[i]? = some a ∧ toAg s a = g) ∨ (as.length ≤ i ∧ ∃ x, dv[i - as.length]? = some x ∧ Ag.d x = g) := fun {i g} e => by
    by_cases h : i < as.length
    · rw [List.getElem?_append_left (by simpa using h), List.getElem?_map] at e
      obtain ⟨a, e1, e2⟩ := Option.map_eq_some_iff.mp e
      exact .inl ⟨a, h, e1, e2⟩
    · rw [List.getElem?_append_right (by simpa using Nat.le_of_not_lt h), List.length_map, List.getElem?_map] at e
      obtain ⟨a, e1, e2⟩ := Option.map_eq_some_iff.mp e
      exact .inr ⟨Nat.le_of_not_lt h, a, e1, e2⟩
  have own : ∀ {i : Nat} {xs : List D}, (as.map (toAg s) ++ dv.map Ag.d)[i]? = some (.own xs) → ∃ j b, as[i]? = some (.sl j) ∧ nth s j = .own b xs ∧ i < vs.length := fun {i xs} e => by
    rcases cut e with ⟨a, h, e1, e2⟩ | ⟨_, x, _, e2⟩
    · cases a with
      | d x => cases e2
      | sl j =>
        obtain ⟨b, ys, q⟩ := ownB_ex (amsOk_own ok e1).1
        rw [toAg_own q] at e2
        cases e2
        exact ⟨j, b, e1, q, by rw [hl]; exact h⟩
    · cases e2
  refine ⟨by simp [hl, hd], fun i x e => ?_, fun i xs e => ?_, fun i j xs ys l n e1 e2 e3 e4 => ?_⟩
  · rcases cut e with ⟨a, h, e1, e2⟩ | ⟨h, y, e1, e2⟩
    · cases a with
      | d y =>
        cases e2
        obtain ⟨v, q1, q2⟩ := r.getD e1
        exact ⟨v, by rw [List.getElem?_append_left (by rw [hl]; exact h)]; exact q1, q2⟩
      | sl j =>
        obtain ⟨b, ys, q⟩ := ownB_ex (amsOk_own ok e1).1
        rw [toAg_own q] at e2
        cases e2
    · cases e2
      obtain ⟨v, q1, q2⟩ := rd.get e1
      exact ⟨v, by rw [List.getElem?_append_right (by rw [hl]; exact h), hl]; exact q1, q2⟩
  · obtain ⟨j, b, e1, q, hi⟩ := own e
    obtain ⟨v, q1, q2⟩ := r.getS e1
    obtain ⟨l, ws, p1, p2, p3, p4, _⟩ := A.so j b xs q
    rw [q2] at p1
    cases p1
    exact ⟨l, ws, by rw [List.getElem?_append_left hi]; exact q1, p2, p3, p4⟩
  · obtain ⟨i', b, q1, q2, hi⟩ := own e1
    obtain ⟨j', b', q1', q2', hj⟩ := own e2
    rw [List.getElem?_append_left hi] at e3
    rw [List.getElem?_append_left hj] at e4
    obtain ⟨v, p1, p2⟩ := r.getS q1
    obtain ⟨v', p1', p2'⟩ := r.getS q1'
    rw [e3] at p1; cases p1
    rw [e4] at p1'; cases p1'
    refine A.dj i' j' b b' xs ys l (fun z => n ?_) q2 q2' p2 p2'
    subst z
    exact amsOk_inj ok q1 q1'
/-- behind a call -/
theorem At.called (A : At K c G s σ H) (r : AmOk K G σ as vs) (ok : amsOk s as [] = true) (rd : RpAll K G dv dvs) {ags' : List Ag} (F : After K G H G' H' (vs ++ dvs) (as.map (toAg s) ++ dv.map Ag.d) ags') : At K c G' (updAm s as ags') σ H' := by
  have AA := args_of A r ok rd
  have hl := r.len
  have ag : ∀ {k i : Nat} {b : Bool} {xs : List D}, as[k]? = some (.sl i) → nth s i = .own b xs → (as.map (toAg s) ++ dv.map Ag.d)[k]? = some (.own xs) := fun {k i b xs} e q => by
    have h : k < as.length := (List.getElem?_eq_some_iff.mp e).1
    rw [List.getElem?_append_left (by simpa using h), List.getElem?_map, e]
    show some (toAg s (.sl i)) = _
    rw [toAg_own q]
  have oa : ∀ {a : Addr}, OwnA (vs ++ dvs) (as.map (toAg s) ++ dv.map Ag.d) a → ∃ (k i : Nat) (b : Bool) (xs : List D), as[k]? = some (Am.sl i) ∧ nth s i = .own b xs ∧ σ[i]? = some (some (.ref a)) := fun {a} ⟨k, xs, e, ev⟩ => by
    by_cases h : k < as.length
    · rw [List.getElem?_append_left (by simpa using h), List.getElem?_map] at e
      obtain ⟨m, e1, e2⟩ := Option.map_eq_some_iff.mp e
      cases m with
      | d x => cases e2
      | sl j =>
        obtain ⟨b, ys, q⟩ := ownB_ex (amsOk_own ok e1).1
        rw [toAg_own q] at e2
        cases e2
        obtain ⟨v, q1, q2⟩ := r.getS e1
        rw [List.getElem?_append_left (by rw [hl]; exact h), q1] at ev
        cases ev
        exact ⟨k, j, b, xs, e1, q, q2⟩
    · rw [List.getElem?_append_right (by simpa using Nat.le_of_not_lt h), List.getElem?_map] at e
      obtain ⟨m, e1, e2⟩ := Option.map_eq_some_iff.mp e
      cases e2
  -- each own slot's fate
  have fate : ∀ (i : Nat) (b : Bool) (xs : List D), nth s i = .own b xs → ∃ ys, nth (updAm s as ags') i = .own b ys ∧ ∀ l, σ[i]? = some (some (.ref l)) → G' l = none ∧ ∃ ws, H' l = some (.lst ws) ∧ RpAll K G' ys ws := fun i b xs q => by
    obtain ⟨l, ws, e1, e2, e3, e4, e5⟩ := A.so i b xs q
    by_cases hk : ∃ k : Nat, as[k]? = some (Am.sl i)
    · obtain ⟨k, hk⟩ := hk
      have g := ag hk q
      obtain ⟨ys, gy⟩ := F.kind k xs g
      obtain ⟨l', ws', p1, p2, p3, p4⟩ := F.args.so k ys gy
      have h : k < as.length := (List.getElem?_eq_some_iff.mp hk).1
      obtain ⟨v, q1, q2⟩ := r.getS hk
      rw [List.getElem?_append_left (by rw [hl]; exact h), q1] at p1
      cases p1
      refine ⟨ys, upd_at as ags' s [] k i b xs ys ok hk gy q, fun m hm => ?_⟩
      rw [q2] at hm
      cases hm
      exact ⟨p2, ws', p3, p4⟩
    · refine ⟨xs, by rw [upd_ne' as ags' s i fun k z => hk ⟨k, z⟩]; exact q, fun m hm => ?_⟩
      rw [e1] at hm
      cases hm
      refine ⟨?_, ws, F.ke l _ e3 fun z => ?_, RpAll.mono F.eg xs ws e4⟩
      · cases h : G' l with
        | none => rfl
        | some u =>
          rcases F.fr l u h with z | z
          · rw [e2] at z; cases z
          · rw [e3] at z; cases z
      · obtain ⟨k, j, b', ys, z1, z2, z3⟩ := oa z
        have hij : i ≠ j := fun z => hk ⟨k, z ▸ z1⟩
        exact A.dj i j b b' xs ys l hij q z2 e1 z3
  -- an own slot behind it was one
  have back : ∀ (i : Nat) (b : Bool) (ys : List D), nth (updAm s as ags') i = .own b ys → ∃ xs, nth s i = .own b xs := fun i b ys q => by
    by_cases hk : ∃ k : Nat, as[k]? = some (Am.sl i)
    · obtain ⟨k, hk⟩ := hk
      obtain ⟨b', xs, z⟩ := ownB_ex (amsOk_own ok hk).1
      obtain ⟨ys', z2, _⟩ := fate i b' xs z
      rw [q] at z2
      cases z2
      exact ⟨xs, z⟩
    · rw [upd_ne' as ags' s i fun k z => hk ⟨k, z⟩] at q
      exact ⟨ys, q⟩
  refine ⟨A.g0.trans F.eg, F.gh, fun a o e n => ?_, fun a o e => ?_, fun a o e => ?_, by rw [upd_len]; exact A.len, fun i x e => ?_, fun i b ys e => ?_, fun i j b b' xs ys l n e1 e2 e3 e4 => ?_, fun i l e => ?_⟩
  · refine F.ke a o (A.ke a o e n) fun z => ?_
    obtain ⟨k, i, b, xs, z1, z2, z3⟩ := oa z
    obtain ⟨l, ws, e1, _, _, _, e5⟩ := A.so i b xs z2
    rw [z3] at e1
    cases e1
    cases b with
    | true => exact n i e5
    | false => exact absurd ((show c.H0 a = none from e5).symm.trans e) (by intro z; cases z)
  · obtain ⟨o', e'⟩ := A.th a o e
    exact F.th a o' e'
  · rcases F.fr a o e with z | z
    · exact A.fr a o z
    · right
      cases h : c.H0 a with
      | none => rfl
      | some u => obtain ⟨u', e'⟩ := A.th a u h; rw [z] at e'; cases e'
  · have q : nth s i = .d x := by
      by_cases hk : ∃ k : Nat, as[k]? = some (Am.sl i)
      · obtain ⟨k, hk⟩ := hk
        obtain ⟨b', xs, z⟩ := ownB_ex (amsOk_own ok hk).1
        obtain ⟨ys', z2, _⟩ := fate i b' xs z
        rw [e] at z2
        cases z2
      · rw [upd_ne' as ags' s i fun k z => hk ⟨k, z⟩] at e
        exact e
    obtain ⟨v, e1, e2⟩ := A.sd i x q
    exact ⟨v, e1, Rp.mono F.eg x v e2⟩
  · obtain ⟨xs, q⟩ := back i b ys e
    obtain ⟨ys', z2, z3⟩ := fate i b xs q
    rw [e] at z2
    cases z2
    obtain ⟨l, ws, e1, e2, e3, e4, e5⟩ := A.so i b xs q
    obtain ⟨p1, ws', p2, p3⟩ := z3 l e1
    exact ⟨l, ws', e1, p1, p2, p3, e5⟩
  · obtain ⟨xs', q⟩ := back i b xs e1
    obtain ⟨ys', q'⟩ := back j b' ys e2
    exact A.dj i j b b' xs' ys' l n q q' e3 e4
  · obtain ⟨xs, q⟩ := A.iok i l e
    obtain ⟨ys, z, _⟩ := fate i true xs q
    exact ⟨ys, z⟩
end

section
variable {K : PySem.W.Frag} {c : Cc} {G G' H H' : Hp} {s : DS} {σ : L2.St} {as : List Am} {vs dvs : List V} {dv : List D}
theorem stp_called (A : At K c G s σ H) (r : AmOk K G σ as vs) (ok : amsOk s as [] = true) (rd : RpAll K G dv dvs) {ags' : List Ag} (F : After K G H G' H' (vs ++ dvs) (as.map (toAg s) ++ dv.map Ag.d) ags') : Stp s σ G H (updAm s as ags') G' H' := by
  have hl := r.len
  refine ⟨F.eg, fun a o e n => F.ke a o e fun z => ?_, fun i b xs q => ?_, F.th, fun a o e => by
    rcases F.fr a o e with z | z
    · exact .inl z
    · exact .inr (.inl z)⟩
  · obtain ⟨k, xs, e1, ev⟩ := z
    by_cases h : k < as.length
    · rw [List.getElem?_append_left (by simpa using h), List.getElem?_map] at e1
      obtain ⟨m, p1, p2⟩ := Option.map_eq_some_iff.mp e1
      cases m with
      | d x => cases p2
      | sl j =>
        obtain ⟨b, ys, q⟩ := ownB_ex (amsOk_own ok p1).1
        obtain ⟨v, q1, q2⟩ := r.getS p1
        rw [List.getElem?_append_left (by rw [hl]; exact h), q1] at ev
        cases ev
        exact n j b ys q q2
    · rw [List.getElem?_append_right (by simpa using Nat.le_of_not_lt h), List.getElem?_map] at e1
      obtain ⟨m, p1, p2⟩ := Option.map_eq_some_iff.mp e1
      cases p2
  · by_cases hk : ∃ k : Nat, as[k]? = some (Am.sl i)
    · obtain ⟨k, hk⟩ := hk
      obtain ⟨b', ys, z⟩ := ownB_ex (amsOk_own ok hk).1
      have g : (as.map (toAg s) ++ dv.map Ag.d)[k]? = some (.own ys) := by
        have h : k < as.length := (List.getElem?_eq_some_iff.mp hk).1
        rw [List.getElem?_append_left (by simpa using h), List.getElem?_map, hk]
        show some (toAg s (.sl i)) = _
        rw [toAg_own z]
      obtain ⟨zs, gz⟩ := F.kind k ys g
      have e := upd_at as ags' s [] k i b' ys zs ok hk gz z
      rw [q] at e
      cases e
      exact ⟨ys, z⟩
    · rw [upd_ne' as ags' s i fun k z => hk ⟨k, z⟩] at q
      exact ⟨xs, q⟩
end
def agD : Ag → D
  | .d x => x
  | .own xs => .lst xs
def wCall (F : FS) (dv : List D) (R : WA) : WE := fun s P => R s fun as s1 => amsOk s1 as [] = true ∧ F (as.map (toAg s1) ++ dv.map Ag.d) fun r ags' => P (agD r) (updAm s1 as ags')
def ownR : Ag → (List D → Prop) → Prop
  | .own xs, P => P xs
  | .d _, _ => False
def wCallO (F : FS) (dv : List D) (R : WA) : WO := fun s P => R s fun as s1 => amsOk s1 as [] = true ∧ F (as.map (toAg s1) ++ dv.map Ag.d) fun r ags' => ownR r fun xs => P xs (updAm s1 as ags')
section
variable {X : Cx} {e : Expr} {es : List Expr} {pos p : Pos} {x : Str} {f : Addr} {fd : FuncData} {ps : List Str} {k : Nat} {F : FS} {ds : List Value} {dvs : List V} {dv : List D} {R : WA} {CX : CXT}
theorem mine_of {K : PySem.W.Frag} {c : Cc} {G G' H H' : Hp} {s s' : DS} {σ : L2.St} (A : At K c G s σ H) (A' : At K c G' s' σ H') {q : Addr} {xs : List D} {ws : List V} (h : H q = none) (g : G' q = none) (e : H' q = some (.lst ws)) (r : RpAll K G' xs ws)
    (back : ∀ i b ys, nth s' i = .own b ys → ∃ b' xs, nth s i = .own b' xs) : Mine K c G' s' σ H' q xs := by
  refine ⟨⟨ws, e, r⟩, g, ?_, fun i b ys z q1 => ?_⟩
  · cases z : c.H0 q with
    | none => rfl
    | some u => obtain ⟨u', z'⟩ := A.th q u z; rw [h] at z'; cases z'
  · obtain ⟨b', xs', z1⟩ := back i b ys z
    obtain ⟨l, ws', e1, _, e3, _⟩ := A.so i b' xs' z1
    rw [q1] at e1
    cases e1
    rw [h] at e3
    cases e3
theorem upd_back {s : DS} {as : List Am} {gs : List Ag} (ok : amsOk s as [] = true) : ∀ i b ys, nth (updAm s as gs) i = .own b ys → ∃ b' xs, nth s i = .own b' xs := fun i b ys q => by
  by_cases hk : ∃ k : Nat, as[k]? = some (Am.sl i)
  · obtain ⟨k, hk⟩ := hk
    exact ownB_ex (amsOk_own ok hk).1
  · rw [upd_ne' as gs s i fun k z => hk ⟨k, z⟩] at q
    exact ⟨b, ys, q⟩
theorem ed_call {K : PySem.W.Frag} {ta : TA} {E : XK} (h : ∀ c s P, R s P → AD K c ta s P) (rd : ∀ G, RpAll K G dv dvs) : ∀ c s P, wCall F dv R s P → ED K c (tCall (spD K F) dvs E ta) s P := fun c s P hf G σ H Q A k =>
  h c s _ hf G σ H _ A fun vs as s1 G1 H1 e1 A1 r1 ⟨ok, hp⟩ => ⟨G1, _, _, A1.gh, args_of A1 r1 ok (rd G1), hp, fun v r ags' G' H' B rs hP => by
    have A2 := At.called A1 r1 ok (rd G1) B
    cases r with
    | d z => exact k v z _ G' H' (e1.trans (stp_called A1 r1 ok (rd G1) B)) A2 rs hP
    | own xs =>
      obtain ⟨q, ws, rfl, q1, q2, q3, q4⟩ := rs
      have M : Mine K c G' (updAm s1 as ags') σ H' q xs := mine_of A1 A2 q1 q2 q3 q4 (upd_back ok)
      obtain ⟨G2, e2, r2, A3, f2⟩ := A2.share M
      exact k _ _ _ G2 H' ((e1.trans (stp_called A1 r1 ok (rd G1) B)).know e2 (New.back e1 (.inl q1)) f2) A3 r2 hP⟩
theorem eo_call {K : PySem.W.Frag} {ta : TA} {E : XK} (h : ∀ c s P, R s P → AD K c ta s P) (rd : ∀ G, RpAll K G dv dvs) : ∀ c s P, wCallO F dv R s P → EO K c (tCall (spD K F) dvs E ta) s P := fun c s P hf G σ H Q A k =>
  h c s _ hf G σ H _ A fun vs as s1 G1 H1 e1 A1 r1 ⟨ok, hp⟩ => ⟨G1, _, _, A1.gh, args_of A1 r1 ok (rd G1), hp, fun v r ags' G' H' B rs hP => by
    have A2 := At.called A1 r1 ok (rd G1) B
    cases r with
    | d z => exact (show False from hP).elim
    | own xs =>
      obtain ⟨q, ws, rfl, q1, q2, q3, q4⟩ := rs
      exact k q xs _ G' H' (e1.trans (stp_called A1 r1 ok (rd G1) B)) A2 (mine_of A1 A2 q1 q2 q3 q4 (upd_back ok)) (New.back e1 (.inl q1)) hP⟩
theorem px_call (Fn : FnOk X.prog X.w X.K X.mg X.base CX0 k f fd ps (spD X.K F)) (hr : Room k X.A) (hm : X.mg x = some (.ref f)) (hk : PySem.W.keepIn X.K (.ref f) = true) (hb : Binds X.K fd ps ds) (hd : Vals dvs ds) (rd : ∀ G, RpAll X.K G dv dvs) (ha : PXA X (e :: es) R)
    (hg : Gl X x := by rfl) (he : starEach (e :: es) X.env = (false, eval e X.env) :: starEach es X.env := by rfl) (hpl : (backTo pos (starEach es X.env)).any (·.1) = false := by rfl) (hdb : (x == ("__debug__" : Str)) = false := by decide) :
    PX X (.Call (.Name x p) (e :: es) [] pos) (wCall F dv R) := by
  obtain ⟨ta, a1, a2⟩ := ha.ex
  exact ⟨_, pe_call (E := E0) Fn hr hg hm hk hb hd pass0 a1 (he := he) (hpl := hpl) (hdb := hdb), ed_call a2 rd⟩
theorem po_call (Fn : FnOk X.prog X.w X.K X.mg X.base CX0 k f fd ps (spD X.K F)) (hr : Room k X.A) (hm : X.mg x = some (.ref f)) (hk : PySem.W.keepIn X.K (.ref f) = true) (hb : Binds X.K fd ps ds) (hd : Vals dvs ds) (rd : ∀ G, RpAll X.K G dv dvs) (ha : PXA X (e :: es) R)
    (hg : Gl X x := by rfl) (he : starEach (e :: es) X.env = (false, eval e X.env) :: starEach es X.env := by rfl) (hpl : (backTo pos (starEach es X.env)).any (·.1) = false := by rfl) (hdb : (x == ("__debug__" : Str)) = false := by decide) :
    PO X (.Call (.Name x p) (e :: es) [] pos) (wCallO F dv R) := by
  obtain ⟨ta, a1, a2⟩ := ha.ex
  exact ⟨_, pe_call (E := E0) Fn hr hg hm hk hb hd pass0 a1 (he := he) (hpl := hpl) (hdb := hdb), eo_call a2 rd⟩
end

/-! ### a def keeps its promise -/
def agS : Ag → Sl
  | .d x => .d x
  | .own xs => .own true xs
def initS (ags : List Ag) (n : Nat) : DS := ags.map agS ++ List.replicate (n - ags.length) .no
def outs (s : DS) : List Ag → Nat → List Ag
  | [], _ => []
  | .d x :: r, i => .d x :: outs s r (i + 1)
  | .own _ :: r, i => (match nth s i with | .own _ ys => .own ys | _ => .own []) :: outs s r (i + 1)
def endsD (ags : List Ag) (P : Ag → List Ag → Prop) : DE := ⟨fun s => P (.d .non) (outs s ags 0), fun r s => P r (outs s ags 0), fun _ => False, fun _ => False⟩
theorem nth_get : ∀ (s : DS) (i : Nat), nth s i = (s[i]?).getD .no
  | [], i => by simp [nth]
  | _ :: _, 0 => rfl
  | _ :: r, i + 1 => by rw [nth, nth_get r i]; simp
theorem outs_get : ∀ (ags : List Ag) (s : DS) (j i : Nat), (outs s ags j)[i]? = (ags[i]?).map fun g => match g with
    | .d x => .d x
    | .own _ => match nth s (j + i) with
      | .own _ ys => .own ys
      | _ => .own []
  | [], s, j, i => by simp [outs]
  | .d x :: r, s, j, 0 => by simp [outs]
  | .own _ :: r, s, j, 0 => by simp [outs]
  | .d x :: r, s, j, i + 1 => by
    have := outs_get r s (j + 1) i
    simp only [outs, List.getElem?_cons_succ]
    rw [this, show j + 1 + i = j + (i + 1) by omega]
  | .own _ :: r, s, j, i + 1 => by
    have := outs_get r s (j + 1) i
    simp only [outs, List.getElem?_cons_succ]
    rw [this, show j + 1 + i = j + (i + 1) by omega]
theorem fn_in {P : Program} {w : World} {K : PySem.W.Frag} {mg : Str → Option Value} {base : Heap} {qual : Str} {st : Stmt} {f : Addr} {N ps : List Str} {F : FS} {W : WS} (len : ∀ ags Q, F ags Q → ags.length = ps.length) (hn : ps.length ≤ N.length)
    (hw : ∀ ags Q, F ags Q → W (endsD ags Q) (initS ags N.length)) {cdv : Value} {A : Around} {outer : List Env} {s : Shared} {H : Hp} {E : XK} {vs : List V} {Q : VK}
    (d : PSsD ((cxOf CX0 P w K mg base N qual (defScope st) f cdv A outer s H E).nox) (defBody st) W) (h : spD K F vs H Q E) :
    ∃ t, PSs (cxOf CX0 P w K mg base N qual (defScope st) f cdv A outer s H E) (defBody st) t ∧ t { nx := fun _ H2 => Q .non H2, rt := Q } (L2.start N vs) H := by
  obtain ⟨G, ags, Pq, gh, a, h, q⟩ := h
  obtain ⟨t, h1, h2⟩ := d.ex
  refine ⟨t, h1.nox, ?_⟩
  have hl := len ags Pq h
  have hvl : vs.length ≤ N.length := by rw [a.len, hl]; exact hn
  let c : Cc := ⟨H, G, fun i => match ags[i]? with
    | some (.own _) => (match vs[i]? with
      | some (.ref l) => some l
      | _ => none)
    | _ => none⟩
  have slot : ∀ i, nth (initS ags N.length) i = ((ags[i]?).map agS).getD .no := fun i => by
    rw [nth_get]
    unfold initS
    by_cases hi : i < ags.length
    · rw [List.getElem?_append_left (by simpa using hi), List.getElem?_map]
    · rw [List.getElem?_append_right (by simpa using Nat.le_of_not_lt hi), List.getElem?_eq_none (Nat.le_of_not_lt hi)]
      simp only [List.getElem?_replicate]
      split <;> rfl
  have sig : ∀ {i : Nat} {v : V}, vs[i]? = some v → (L2.start N vs)[i]? = some (some v) := fun {i v} e => by
    unfold L2.start
    have hi : i < vs.length := (List.getElem?_eq_some_iff.mp e).1
    rw [List.getElem?_append_left (by simpa using hi), List.getElem?_map, e]
    rfl
  have A0 : At K c G (initS ags N.length) (L2.start N vs) H := by
    refine ⟨Ex.refl _, gh, fun _ _ e _ => e, fun _ o e => ⟨o, e⟩, fun _ _ e => .inl e, ?_, fun i y e => ?_, fun i b xs e => ?_, fun i j b b' xs ys l n e1 e2 e3 e4 => ?_, fun i l e => ?_⟩
    · unfold initS L2.start
      simp
      rw [a.len]
    · rw [slot] at e
      cases q1 : ags[i]? with
      | none => rw [q1] at e; cases e
      | some g =>
        rw [q1] at e
        cases g with
        | d z =>
          have e' : Sl.d z = .d y := e
          cases e'
          obtain ⟨v, p1, p2⟩ := a.sd i _ q1
          exact ⟨v, sig p1, p2⟩
        | own z =>
          have e' : Sl.own true z = .d y := e
          cases e'
    · rw [slot] at e
      cases q1 : ags[i]? with
      | none => rw [q1] at e; cases e
      | some g =>
        rw [q1] at e
        cases g with
        | d z =>
          have e' : Sl.d z = .own b xs := e
          cases e'
        | own z =>
          have e' : Sl.own true z = .own b xs := e
          cases e'
          obtain ⟨l, ws, p1, p2, p3, p4⟩ := a.so i _ q1
          refine ⟨l, ws, sig p1, p2, p3, p4, ?_⟩
          show c.ios i = some l
          show (match ags[i]? with
            | some (.own _) => (match vs[i]? with
              | some (.ref l) => some l
              | _ => none)
            | _ => none) = some l
          rw [q1, p1]
    · have own : ∀ {i : Nat} {b : Bool} {xs : List D}, nth (initS ags N.length) i = .own b xs → ags[i]? = some (.own xs) := fun {i b xs} e => by
        rw [slot] at e
        cases q1 : ags[i]? with
        | none => rw [q1] at e; cases e
        | some g =>
          rw [q1] at e
          cases g with
          | d z =>
            have e' : Sl.d z = .own b xs := e
            cases e'
          | own z =>
            have e' : Sl.own true z = .own b xs := e
            cases e'
            rfl
      obtain ⟨m, _, p1, _⟩ := a.so i xs (own e1)
      obtain ⟨m', _, p1', _⟩ := a.so j ys (own e2)
      rw [sig p1] at e3
      rw [sig p1'] at e4
      cases e3
      cases e4
      exact a.dj i j xs ys l n (own e1) (own e2) p1 p1'
    · have e : (match ags[i]? with
        | some (.own _) => (match vs[i]? with
          | some (.ref l) => some l
          | _ => none)
        | _ => none) = some l := e
      cases q1 : ags[i]? with
      | none => rw [q1] at e; cases e
      | some g =>
        rw [q1] at e
        cases g with
        | d z => cases e
        | own z =>
          refine ⟨z, ?_⟩
          rw [slot, q1]
          rfl
  have fin : ∀ G' s' σ' H' v r, Ex G G' → At K c G' s' σ' H' → RsOk K c G' s' σ' H' r v → Pq r (outs s' ags 0) → Q v H' := fun G' s' σ' H' v r _ A1 rs hp => by
    have iosOf : ∀ {i : Nat} {xs : List D} {l : Addr}, ags[i]? = some (.own xs) → vs[i]? = some (.ref l) → c.ios i = some l := fun {i xs l} e1 e2 => by
      show (match ags[i]? with
        | some (.own _) => (match vs[i]? with
          | some (.ref l) => some l
          | _ => none)
        | _ => none) = some l
      rw [e1, e2]
    have outOwn : ∀ {i : Nat} {ys : List D}, (outs s' ags 0)[i]? = some (.own ys) → ∃ xs l ws, ags[i]? = some (.own xs) ∧ vs[i]? = some (.ref l) ∧ G' l = none ∧ H' l = some (.lst ws) ∧ RpAll K G' ys ws := fun {i ys} e => by
      rw [outs_get] at e
      obtain ⟨g, e1, e2⟩ := Option.map_eq_some_iff.mp e
      cases g with
      | d z => cases e2
      | own xs =>
        obtain ⟨l, ws, p1, p2, p3, p4⟩ := a.so i xs e1
        obtain ⟨zs, hz⟩ := A1.iok i l (iosOf e1 p1)
        have e2 : (match nth s' (0 + i) with
          | .own _ ys => Ag.own ys
          | _ => Ag.own []) = .own ys := e2
        rw [Nat.zero_add, hz] at e2
        cases e2
        obtain ⟨l', ws', r1, r2, r3, r4, r5⟩ := A1.so i true ys hz
        have r5 : c.ios i = some l' := r5
        rw [iosOf e1 p1] at r5
        cases r5
        exact ⟨xs, l, ws', e1, p1, r2, r3, r4⟩
    have B : After K G H G' H' vs ags (outs s' ags 0) := by
      refine ⟨A1.g0, A1.gh, fun b o e n => A1.ke b o e fun i z => n ?_, A1.th, A1.fr, ⟨?_, fun i y e => ?_, fun i ys e => ?_, fun i j xs ys l n e1 e2 e3 e4 => ?_⟩, fun i xs e => ?_⟩
      · have z : (match ags[i]? with
          | some (.own _) => (match vs[i]? with
            | some (.ref l) => some l
            | _ => none)
          | _ => none) = some b := z
        cases q1 : ags[i]? with
        | none => rw [q1] at z; cases z
        | some g =>
          rw [q1] at z
          cases g with
          | d y => cases z
          | own xs =>
            obtain ⟨l, ws, p1, _⟩ := a.so i xs q1
            rw [p1] at z
            cases z
            exact ⟨i, xs, q1, p1⟩
      · rw [a.len]
        have : ∀ (l : List Ag) (j : Nat), (outs s' l j).length = l.length := by
          intro l
          induction l with
          | nil => intro _; rfl
          | cons g r ih => intro j; cases g <;> simp [outs, ih]
        rw [this]
      · rw [outs_get] at e
        obtain ⟨g, e1, e2⟩ := Option.map_eq_some_iff.mp e
        cases g with
        | d z =>
          cases e2
          obtain ⟨v, p1, p2⟩ := a.sd i _ e1
          exact ⟨v, p1, Rp.mono A1.g0 _ v p2⟩
        | own z =>
          have e2 : (match nth s' (0 + i) with
            | .own _ ys => Ag.own ys
            | _ => Ag.own []) = .d y := e2
          split at e2 <;> cases e2
      · obtain ⟨xs, l, ws, _, p1, p2, p3, p4⟩ := outOwn e
        exact ⟨l, ws, p1, p2, p3, p4⟩
      · obtain ⟨xs', l1, ws1, q1, p1, _⟩ := outOwn e1
        obtain ⟨ys', l2, ws2, q2, p2, _⟩ := outOwn e2
        exact a.dj i j xs' ys' l n q1 q2 e3 e4
      · rw [outs_get, e]
        show ∃ ys, some (match nth s' (0 + i) with
            | .own _ ys => Ag.own ys
            | _ => Ag.own []) = some (.own ys)
        split
        · exact ⟨_, rfl⟩
        · exact ⟨_, rfl⟩
    refine q v r _ G' H' B ?_ hp
    cases r with
    | d z => exact rs
    | own xs =>
      obtain ⟨p, rfl, M⟩ := rs
      obtain ⟨ws, m1, m2⟩ := M.at_
      exact ⟨p, ws, rfl, M.h0, M.gp, m1, m2⟩
  exact h2 c _ _ (hw ags Pq h) G _ H _ A0 ⟨fun G' s' σ' H' eg A1 hp => fin G' s' σ' H' .non (.d .non) eg A1 rfl hp, fun _ _ _ _ _ _ hp => hp.elim, fun _ _ _ _ _ _ hp => hp.elim, fin⟩
theorem fnD {P : Program} {w : World} {K : PySem.W.Frag} {mg : Str → Option Value} {base : Heap} {x qual : Str} {st : Stmt} {f : Addr} {fd : FuncData} {N ps : List Str} {k : Nat} {F : FS} {W : WS} {dvs : List V} {kws : List (Str × V)} (Fn : FunD K x qual (defArgs st) (defBody st) (defScope st) dvs kws f fd) (S : FnScope N ps (defScope st))
    (len : ∀ ags Q, F ags Q → ags.length = ps.length) (hn : ps.length ≤ N.length)
    (body : ∀ (cdv : Value) (A : Around) (outer : List Env) (s : Shared) (H : Hp) (E : XK), Room k (A.deeper (envOfC qual (defScope st) s.heap.objs.size f cdv)) →
      PSsD ((cxOf CX0 P w K mg base N qual (defScope st) f cdv A outer s H E).nox) (defBody st) W)
    (hw : ∀ ags Q, F ags Q → W (endsD ags Q) (initS ags N.length)) : FnOk P w K mg base CX0 (k + 1) f fd ps (spD K F) := by
  refine Fn.ok S (fun vs H Q E h => ?_) (fun cdv A outer s H vs Q E hr h => ?_)
  · obtain ⟨G, ags, P, _, a, h, _⟩ := h
    rw [a.len]
    exact len ags P h
  · exact fn_in len hn hw (body cdv A outer s H E hr) h
end DL
namespace DL
open PySem L2
open Evl (Ex Ex.refl Ex.trans Ex.new)

/-! ### targets -/
section
variable {X : Cx} {pos : Pos}
def wgName (i : Nat) : WG := fun x s P => isIo s i = false ∧ P (put s i (.d x))
theorem pg_nm (i : Nat) {x : Str} (hN : X.N.Nodup) (hi : X.N[i]? = some x := by rfl) (hx : Loc X.env.scope x := by first | exact Or.inl rfl | exact Or.inr rfl) (hf : X.fn x = true ∨ X.env.scope.names.lookup x = some .local := by first | exact .inl rfl | exact .inr rfl | assumption) :
    PGD X (.Name x pos) [i] (wgName i) := by
  refine ⟨gName i, pg_name hN hi hx hf, fun c s x P hf G σ H v Q A r k => ?_⟩
  obtain ⟨hio, hp⟩ := hf
  refine k _ _ (A.setD r hio) (by rw [List.length_set]) (fun j hj => get_set_ne (fun e => hj (by simp [e]))) (fun j b xs q => ?_) hp
  by_cases h : i = j
  · subst h
    by_cases hl : i < s.length
    · rw [nth_put_eq s _ hl] at q; cases q
    · rw [put_ge s _ (Nat.le_of_not_lt hl)] at q
      exact absurd (nth_lt s (by rw [q]; intro z; cases z)) hl
  · rw [nth_put_ne s _ h] at q
    exact ⟨q, by simp [Ne.symm h]⟩
abbrev WGs := List D → DS → (DS → Prop) → Prop
def wgNil : WGs := fun xs s P => xs = [] ∧ P s
def wgCons (F : WG) (R : WGs) : WGs := fun xs s P => match xs with
  | x :: r => F x s fun s1 => R r s1 P
  | [] => False
def GDs (K : PySem.W.Frag) (c : Cc) (g : TGs) (js : List Nat) (xs : List D) (s : DS) (P : DS → Prop) : Prop := ∀ G σ H vs (Q : St → Hp → Prop), At K c G s σ H → RpAll K G xs vs →
  (∀ s' σ', At K c G s' σ' H → σ'.length = σ.length → (∀ i, i ∉ js → σ'[i]? = σ[i]?) → (∀ (i : Nat) b xs, nth s' i = .own b xs → nth s i = .own b xs ∧ i ∉ js) → P s' → Q σ' H) → g vs σ H Q
structure PGsD (X : Cx) (tg : List Expr) (js : List Nat) (F : WGs) : Prop where
  ex : ∃ g, PGs X tg g ∧ ∀ c s xs P, F xs s P → GDs X.K c g js xs s P
theorem pgs_n : PGsD X [] [] wgNil := ⟨gNil, pgs_nil, fun c s xs P hf G σ H vs Q A r k => by
  obtain ⟨rfl, hp⟩ := hf
  have r' : vs = [] := r
  exact ⟨r', k s σ A rfl (fun _ _ => rfl) (fun _ _ _ q => ⟨q, by simp⟩) hp⟩⟩
theorem pgs_c {e : Expr} {es : List Expr} {js ks : List Nat} {F : WG} {R : WGs} (h1 : PGD X e js F) (h2 : PGsD X es ks R) (hs : (assignEach (e :: es) X.env).map (·.2) = assign e X.env :: (assignEach es X.env).map (·.2) := by rfl) : PGsD X (e :: es) (js ++ ks) (wgCons F R) := by
  obtain ⟨ta, a1, a2⟩ := h1.ex
  obtain ⟨tb, b1, b2⟩ := h2.ex
  refine ⟨gCons ta tb, pgs_cons a1 b1 hs, fun c s xs P hf G σ H vs Q A r k => ?_⟩
  cases xs with
  | nil => exact (show False from hf).elim
  | cons x xs =>
    obtain ⟨v, ws, rfl, r1, r2⟩ := r
    refine ⟨v, ws, rfl, ?_⟩
    refine a2 c s x _ hf G σ H v _ A r1 fun s1 σ1 A1 l1 f1 o1 hp => ?_
    refine b2 c s1 xs _ hp G σ1 H ws _ A1 r2 fun s2 σ2 A2 l2 f2 o2 hp2 => ?_
    refine k s2 σ2 A2 (l2.trans l1) (fun i hi => ?_) (fun i b zs q => ?_) hp2
    · rw [List.mem_append, not_or] at hi
      exact (f2 i hi.2).trans (f1 i hi.1)
    · obtain ⟨q1, n1⟩ := o2 i b zs q
      obtain ⟨q2, n2⟩ := o1 i b zs q1
      exact ⟨q2, by rw [List.mem_append, not_or]; exact ⟨n2, n1⟩⟩
def wgTup (n : Nat) (R : WGs) : WG := fun x s P => match x with
  | .tup xs => xs.length = n ∧ R xs s P
  | _ => False
theorem pg_tp {es : List Expr} {k n : Nat} {js : List Nat} {R : WGs} (hc : X.calm = true) (h : PGsD X es js R) (hn : (assignEach es X.env).length = n := by rfl) (hst : (assignEach es X.env).findIdx? (·.1) = none := by rfl) : PGD X (.Tuple es k pos) js (wgTup n R) := by
  obtain ⟨t, t1, t2⟩ := h.ex
  refine ⟨_, pg_tup hc t1 hn hst, fun c s x P hf G σ H v Q A r kk => ?_⟩
  cases x with
  | tup xs =>
    obtain ⟨hl, hf⟩ := hf
    obtain ⟨a, vs, rfl, q1, q2⟩ := r
    exact ⟨a, vs, rfl, Evl.ex_t A.gh q1, by rw [q2.len, hl], t2 c s xs P hf G σ H vs Q A q2 kk⟩
  | _ => exact (show False from hf).elim
/-- a target that is stored at once: x = e, a, b = e -/
def wAsg (F : WE) (g : WG) : WS := fun De s => F s fun d s1 => g d s1 De.nx
theorem sd_asg {e tg : Expr} {F : WE} {js : List Nat} {g : WG} (he : PX X e F) (hg : PGD X tg js g) (hs : swapsWithSole [tg] e pos.line X.env = pure false := by rfl) (hw : swappedStores [tg] e X.env = pure none := by rfl)
    (h1 : (assignEach [tg] X.env).map (·.2) = [assign tg X.env] := by rfl) : PSD X (.Assign [tg] e pos) (wAsg F g) := by
  obtain ⟨te, h3, h2⟩ := he.ex
  obtain ⟨tg, g1, g2⟩ := hg.ex
  exact ⟨_, ps_asg h3 g1 hs hw h1, fun c s De hf G σ H En A E => h2 c s _ hf G σ H _ A fun v d s1 G1 H1 e1 A1 r1 hp => g2 c s1 d _ hp G1 σ H1 v _ A1 r1 fun s2 σ2 A2 _ _ _ hp2 => E.nx G1 s2 σ2 H1 e1.eg A2 hp2⟩
end

/-! ### what is walked -/
structure Walks (K : PySem.W.Frag) (J : It) (G : Hp) (xs : List D) : Prop where
  go : ∀ i H, Ex G H → i < xs.length → J.go i H
  yld : ∀ (i : Nat) H v H', Ex G H → ∀ d, xs[i]? = some d → J.yld i H v H' → (H' = H ∧ Rp K G d v) ∨ ∃ T ws ds, d = .tup ds ∧ v = .ref T ∧ H T = none ∧ H' = upd H T (.tup ws) ∧ RpAll K G ds ws
  stop : ∀ H, Ex G H → J.stop xs.length H
abbrev WI := DS → (List D → DS → Prop) → Prop
def ID (K : PySem.W.Frag) (c : Cc) (wi : TI) (s : DS) (P : List D → DS → Prop) : Prop := ∀ G σ H (R : It → Hp → Prop), At K c G s σ H →
  (∀ xs s' G' H' J, Stp s σ G H s' G' H' → At K c G' s' σ H' → Walks K J G' xs → P xs s' → R J H') → wi σ H R
structure PID (X : Cx) (tg iter : Expr) (F : WI) : Prop where
  ex : ∃ wi, PI X tg iter wi ∧ ∀ c s P, F s P → ID X.K c wi s P

section
variable {X : Cx} {pos : Pos} {tg : Expr}
def asL : D → (List D → Prop) → Prop
  | .lst xs, P => P xs
  | .rd xs, P => P xs
  | _, _ => False
def asT : D → (List D → Prop) → Prop
  | .tup xs, P => P xs
  | _, _ => False
def wiL (F : WE) : WI := fun s P => F s fun d s1 => asL d fun xs => P xs s1
def wiT (F : WE) : WI := fun s P => F s fun d s1 => asT d fun xs => P xs s1
theorem asL_ok {K : PySem.W.Frag} {G : Hp} {d : D} {v : V} {P : List D → Prop} (r : Rp K G d v) (h : asL d P) : ∃ a vs xs, v = .ref a ∧ SqL K G a vs ∧ RpAll K G xs vs ∧ P xs ∧ (d = .lst xs ∨ d = .rd xs) := by
  cases d with
  | lst xs =>
    obtain ⟨a, vs, rfl, q1, q2⟩ := r
    exact ⟨a, vs, xs, rfl, Evl.sq_of q1, q2, h, .inl rfl⟩
  | rd xs =>
    obtain ⟨a, vs, rfl, q1, q2⟩ := r
    exact ⟨a, vs, xs, rfl, q1, q2, h, .inr rfl⟩
  | _ => exact (show False from h).elim
theorem walks_list {K : PySem.W.Frag} {G : Hp} {a : Addr} {vs : List V} {xs : List D} (q : SqL K G a vs) (r : RpAll K G xs vs) : Walks K (Itl K a) G xs where
  go := fun i H e hi => by
    have hl := r.len
    have h : i < vs.length := by rw [hl]; exact hi
    exact ⟨vs, vs[i], Evl.ex_l e q, List.getElem?_eq_getElem h⟩
  yld := fun i H v H' e d hd y => by
    obtain ⟨rfl, y⟩ := y
    obtain ⟨u, h1, h2⟩ := r.get hd
    have e1 := y vs (Evl.ex_l e q)
    rw [h1] at e1
    cases e1
    exact .inl ⟨rfl, h2⟩
  stop := fun H e => ⟨vs, Evl.ex_l e q, by rw [r.len]; exact Nat.le_refl _⟩
theorem walks_tup {K : PySem.W.Frag} {G : Hp} {a : Addr} {vs : List V} {xs : List D} (q : SqT K G a vs) (r : RpAll K G xs vs) : Walks K (Itt K a) G xs where
  go := fun i H e hi => by
    have hl := r.len
    have h : i < vs.length := by rw [hl]; exact hi
    exact ⟨vs, vs[i], Evl.ex_t e q, List.getElem?_eq_getElem h⟩
  yld := fun i H v H' e d hd y => by
    obtain ⟨rfl, y⟩ := y
    obtain ⟨u, h1, h2⟩ := r.get hd
    have e1 := y vs (Evl.ex_t e q)
    rw [h1] at e1
    cases e1
    exact .inl ⟨rfl, h2⟩
  stop := fun H e => ⟨vs, Evl.ex_t e q, by rw [r.len]; exact Nat.le_refl _⟩
theorem pi_l {l : Expr} {F : WE} (h : PX X l F) : PID X tg l (wiL F) := by
  obtain ⟨tl, h1, h2⟩ := h.ex
  refine ⟨_, pi_list h1, fun c s P hf G σ H R A k => ?_⟩
  refine h2 c s _ hf G σ H _ A fun v d s1 G1 H1 e1 A1 r1 hp => ?_
  obtain ⟨a, vs, xs, rfl, q1, q2, hp, _⟩ := asL_ok r1 hp
  exact ⟨a, rfl, ⟨vs, Evl.ex_l A1.gh q1⟩, k xs s1 G1 H1 _ e1 A1 (walks_list q1 q2) hp⟩
theorem pi_t {l : Expr} {F : WE} (h : PX X l F) : PID X tg l (wiT F) := by
  obtain ⟨tl, h1, h2⟩ := h.ex
  refine ⟨_, pi_tup h1, fun c s P hf G σ H R A k => ?_⟩
  refine h2 c s _ hf G σ H _ A fun v d s1 G1 H1 e1 A1 r1 hp => ?_
  cases d with
  | tup xs =>
    obtain ⟨a, vs, rfl, q1, q2⟩ := r1
    exact ⟨a, rfl, ⟨vs, Evl.ex_t A1.gh q1⟩, k xs s1 G1 H1 _ e1 A1 (walks_tup q1 q2) hp⟩
  | _ => exact (show False from hp).elim
/-- a list or a tuple -/
def iAny (K : PySem.W.Frag) (tl : TE) : TI := fun σ H R => tl σ H fun z H2 => ∃ q, z = .ref q ∧ (((∃ zs, SqL K H2 q zs) ∧ R (Itl K q) H2) ∨ ((∃ zs, SqT K H2 q zs) ∧ R (Itt K q) H2))
theorem pi_any0 {l : Expr} {tl : TE} (hl : PE X l tl) : PI X tg l (iAny X.K tl) := by
  refine ⟨fun pp s0 τ H R J0 hh => thn (hl.run pp s0 τ H _ J0 hh) fun u s2 ⟨z, H2, J, rz, q, eq, hq⟩ => ?_⟩
  subst eq
  obtain rfl : u = Value.ref q := rz
  have fresh := J.fpOk (H' := H2) (Nat.le_refl s2.heap.objs.size) (J.hok.fresh (Nat.le_refl _))
  have one : ∀ b ∈ [s2.heap.objs.size], FpOk X pp H2 b := fun b hb => by
    rw [List.mem_singleton.mp hb]
    exact fresh
  rcases hq with ⟨⟨zs, hz⟩, hR⟩ | ⟨⟨zs, hz⟩, hR⟩
  · obtain ⟨its, _, pl, _⟩ := J.list hz
    exact wpAny_pyIter_list pl.isList ⟨_, _, _, _, H2, rfl, J.kept (t' := s2.toks) (fun b o e => Heap.get?_push_of_some _ e), turn_list q s2.heap.objs.size, ⟨_, Heap.get?_push_size _ rfl, rfl, rfl⟩, one, hR⟩
  · obtain ⟨its, _, pl, _⟩ := J.tuple hz
    exact wpAny_pyIter_tuple (show Heap.IsTuple s2.heap q its.toArray from pl) ⟨_, _, _, _, H2, rfl, J.kept (t' := s2.toks) (fun b o e => Heap.get?_push_of_some _ e), turn_tuple q s2.heap.objs.size, ⟨_, Heap.get?_push_size _ rfl, rfl, rfl⟩, one, hR⟩
def asA : D → (List D → Prop) → Prop
  | .lst xs, P => P xs
  | .rd xs, P => P xs
  | .tup xs, P => P xs
  | _, _ => False
def wiA (F : WE) : WI := fun s P => F s fun d s1 => asA d fun xs => P xs s1
theorem pi_a {l : Expr} {F : WE} (h : PX X l F) : PID X tg l (wiA F) := by
  obtain ⟨tl, h1, h2⟩ := h.ex
  refine ⟨_, pi_any0 h1, fun c s P hf G σ H R A k => ?_⟩
  refine h2 c s _ hf G σ H _ A fun v d s1 G1 H1 e1 A1 r1 hp => ?_
  cases d with
  | lst xs =>
    obtain ⟨a, vs, rfl, q1, q2⟩ := r1
    exact ⟨a, rfl, .inl ⟨⟨vs, Evl.sq_of (A1.gh a _ q1)⟩, k xs s1 G1 H1 _ e1 A1 (walks_list (Evl.sq_of q1) q2) hp⟩⟩
  | rd xs =>
    obtain ⟨a, vs, rfl, q1, q2⟩ := r1
    exact ⟨a, rfl, .inl ⟨⟨vs, Evl.ex_l A1.gh q1⟩, k xs s1 G1 H1 _ e1 A1 (walks_list q1 q2) hp⟩⟩
  | tup xs =>
    obtain ⟨a, vs, rfl, q1, q2⟩ := r1
    exact ⟨a, rfl, .inr ⟨⟨vs, Evl.ex_t A1.gh q1⟩, k xs s1 G1 H1 _ e1 A1 (walks_tup q1 q2) hp⟩⟩
  | _ => exact (show False from hp).elim
/-- 0, 1, .. n - 1; lo .. -/
def rangeD (lo : Int) (n : Nat) : List D := (List.range n).map fun (i : Nat) => D.int (lo + (i : Int))
theorem walks_range {K : PySem.W.Frag} {G : Hp} (lo : Int) (n : Nat) : Walks K (Itr lo n) G (rangeD lo n) where
  go := fun i H e hi => (show i < n by simpa [rangeD] using hi)
  yld := fun i H v H' e d hd y => by
    obtain ⟨rfl, rfl⟩ := y
    refine .inl ⟨rfl, ?_⟩
    unfold rangeD at hd
    rw [List.getElem?_map] at hd
    obtain ⟨j, h1, h2⟩ := Option.map_eq_some_iff.mp hd
    obtain ⟨h3, h4⟩ := List.getElem?_eq_some_iff.mp h1
    rw [List.getElem_range] at h4
    subst h4 h2
    rfl
  stop := fun H e => by show n ≤ _; simp [rangeD]
def wiR1 (R : WA) : WI := fun s P => R s fun as s1 => allD as fun xs => match xs with
  | [.int n] => (-(2 ^ 62) ≤ n ∧ n < 2 ^ 62) ∧ P (rangeD 0 n.toNat) s1
  | _ => False
def wiR2 (R : WA) : WI := fun s P => R s fun as s1 => allD as fun xs => match xs with
  | [.int m, .int n] => (-(2 ^ 62) ≤ m ∧ m < 2 ^ 62 ∧ -(2 ^ 62) ≤ n ∧ n < 2 ^ 62) ∧ P (rangeD m (n - m).toNat) s1
  | _ => False
theorem pi_r1 {a : Expr} {R : WA} {p : Pos} (hm : X.mg "range" = none) (ha : PXA X [a] R) (hg : Gl X "range" := by rfl) (hs : starEach [a] X.env = [(false, eval a X.env)] := by rfl) : PID X tg (.Call (.Name "range" p) [a] [] pos) (wiR1 R) := by
  obtain ⟨ta, a1, a2⟩ := ha.ex
  refine ⟨_, pi_range1 hg hm a1 hs, fun c s P hf G σ H R A k => ?_⟩
  refine a2 c s _ hf G σ H _ A fun vs as s1 G1 H1 e1 A1 r1 hp => ?_
  obtain ⟨xs, rx, hp⟩ := allD_ok r1 hp
  split at hp
  · obtain ⟨hb, hp⟩ := hp
    obtain ⟨v, ws, rfl, rfl, rfl⟩ := rx
    exact ⟨_, rfl, hb.1, hb.2, k _ s1 G1 H1 _ e1 A1 (walks_range _ _) hp⟩
  · exact hp.elim
theorem pi_r2 {a b : Expr} {R : WA} {p : Pos} (hm : X.mg "range" = none) (ha : PXA X [a, b] R) (hg : Gl X "range" := by rfl) (hs : starEach [a, b] X.env = [(false, eval a X.env), (false, eval b X.env)] := by rfl) (hs2 : starEach [b] X.env = [(false, eval b X.env)] := by rfl) :
    PID X tg (.Call (.Name "range" p) [a, b] [] pos) (wiR2 R) := by
  obtain ⟨ta, a1, a2⟩ := ha.ex
  refine ⟨_, pi_range2 hg hm a1 hs hs2, fun c s P hf G σ H R A k => ?_⟩
  refine a2 c s _ hf G σ H _ A fun vs as s1 G1 H1 e1 A1 r1 hp => ?_
  obtain ⟨xs, rx, hp⟩ := allD_ok r1 hp
  split at hp
  · obtain ⟨hb, hp⟩ := hp
    obtain ⟨v, ws, rfl, rfl, v2, ws2, rfl, rfl, rfl⟩ := rx
    exact ⟨_, _, rfl, hb, k _ s1 G1 H1 _ e1 A1 (walks_range _ _) hp⟩
  · exact hp.elim
/-- a text, sign by sign -/
def signsD (x : Str) : List D := x.cps.toList.map fun c => D.str ⟨#[c]⟩
def asS : D → (Str → Prop) → Prop
  | .str x, P => P x
  | _, _ => False
def wiS (F : WE) : WI := fun s P => F s fun d s1 => asS d fun x => P (signsD x) s1
theorem pi_s {l : Expr} {F : WE} (h : PX X l F) : PID X tg l (wiS F) := by
  obtain ⟨tl, h1, h2⟩ := h.ex
  refine ⟨_, pi_str h1, fun c s P hf G σ H R A k => ?_⟩
  refine h2 c s _ hf G σ H _ A fun v d s1 G1 H1 e1 A1 r1 hp => ?_
  cases d with
  | str x =>
    refine ⟨x, r1, k _ s1 G1 H1 _ e1 A1 ⟨fun i H e hi => (show i < x.cps.size by simpa [signsD] using hi), fun i H v H' e d hd y => ?_, fun H e => ?_⟩ hp⟩
    · obtain ⟨rfl, c', hc, rfl⟩ := y
      refine .inl ⟨rfl, ?_⟩
      unfold signsD at hd
      rw [List.getElem?_map, Array.getElem?_toList, hc] at hd
      cases hd
      rfl
    · show x.cps.size ≤ _
      simp [signsD]
  | _ => exact (show False from hp).elim
/-- zip, enumerate, reversed -/
theorem walks_zip {K : PySem.W.Frag} {G : Hp} {a b : Addr} {vs ws : List V} {xs ys : List D} (q : SqL K G a vs) (r : RpAll K G xs vs) (q' : SqL K G b ws) (r' : RpAll K G ys ws) : Walks K (Itz K a b) G (List.zipWith (fun x y => D.tup [x, y]) xs ys) where
  go := fun i H e hi => by
    have hl := r.len
    have hl' := r'.len
    rw [List.length_zipWith] at hi
    have h1 : i < vs.length := by omega
    have h2 : i < ws.length := by omega
    exact ⟨vs, ws, vs[i], ws[i], Evl.ex_l e q, Evl.ex_l e q', List.getElem?_eq_getElem h1, List.getElem?_eq_getElem h2⟩
  yld := fun i H v H' e d hd y => by
    obtain ⟨T, x, z, rfl, hT, rfl, f1, f2⟩ := y
    rw [List.getElem?_zipWith] at hd
    split at hd
    · rename_i d1 d2 e1 e2
      cases hd
      obtain ⟨u, p1, p2⟩ := r.get e1
      obtain ⟨u', p1', p2'⟩ := r'.get e2
      have g1 := f1 vs (Evl.ex_l e q)
      have g2 := f2 ws (Evl.ex_l e q')
      rw [p1] at g1; cases g1
      rw [p1'] at g2; cases g2
      exact .inr ⟨T, [x, z], [d1, d2], rfl, rfl, hT, rfl, .cons p2 (.cons p2' .nil)⟩
    · cases hd
  stop := fun H e => by
    refine ⟨vs, ws, Evl.ex_l e q, Evl.ex_l e q', ?_⟩
    rw [List.length_zipWith, r.len, r'.len]
    omega
def wiZip (R : WA) : WI := fun s P => R s fun as s1 => allD as fun zs => match zs with
  | [x, y] => asL x fun xs => asL y fun ys => P (List.zipWith (fun x y => D.tup [x, y]) xs ys) s1
  | _ => False
theorem pi_zp {e e2 : Expr} {R : WA} {p tpos : Pos} {elts : List Expr} {kk : Nat} (hm : X.mg "zip" = none) (ha : PXA X [e, e2] R) (hg : Gl X "zip" := by rfl)
    (hs : starEach [e, e2] X.env = (false, eval e X.env) :: starEach [e2] X.env := by rfl) (hpl : (backTo pos (starEach [e2] X.env)).any (·.1) = false := by rfl) : PID X (.Tuple elts kk tpos) (.Call (.Name "zip" p) [e, e2] [] pos) (wiZip R) := by
  obtain ⟨ta, a1, a2⟩ := ha.ex
  refine ⟨_, pi_zip hg hm a1 hs hpl, fun c s P hf G σ H R A k => ?_⟩
  refine a2 c s _ hf G σ H _ A fun vs as s1 G1 H1 e1 A1 r1 hp => ?_
  obtain ⟨xs, rx, hp⟩ := allD_ok r1 hp
  split at hp
  · obtain ⟨v, ws, rfl, q1, v2, ws2, rfl, q2, rfl⟩ := rx
    obtain ⟨a, vs, xs, rfl, p1, p2, hp, _⟩ := asL_ok q1 hp
    obtain ⟨b, us, ys, rfl, p3, p4, hp, _⟩ := asL_ok q2 hp
    exact ⟨a, b, vs, us, rfl, Evl.ex_l A1.gh p1, Evl.ex_l A1.gh p3, k _ s1 G1 H1 _ e1 A1 (walks_zip p1 p2 p3 p4) hp⟩
  · exact hp.elim
def enumD : Nat → List D → List D
  | _, [] => []
  | i, x :: r => .tup [.int (i : Int), x] :: enumD (i + 1) r
theorem enumD_get : ∀ (l : List D) (j i : Nat), (enumD j l)[i]? = (l[i]?).map fun x => .tup [.int ((j + i : Nat) : Int), x]
  | [], j, i => by simp [enumD]
  | x :: r, j, 0 => by simp [enumD]
  | x :: r, j, i + 1 => by
    simp only [enumD, List.getElem?_cons_succ]
    rw [enumD_get r (j + 1) i, show j + 1 + i = j + (i + 1) by omega]
theorem enumD_len : ∀ (l : List D) (j : Nat), (enumD j l).length = l.length
  | [], _ => rfl
  | x :: r, j => by simp [enumD, enumD_len r]
theorem walks_enum {K : PySem.W.Frag} {G : Hp} {a : Addr} {vs : List V} {xs : List D} (q : SqL K G a vs) (r : RpAll K G xs vs) : Walks K (Ite K a) G (enumD 0 xs) where
  go := fun i H e hi => by
    have hl := r.len
    rw [enumD_len] at hi
    have h1 : i < vs.length := by omega
    exact ⟨vs, vs[i], Evl.ex_l e q, List.getElem?_eq_getElem h1⟩
  yld := fun i H v H' e d hd y => by
    obtain ⟨T, x, rfl, hT, rfl, f1⟩ := y
    rw [enumD_get] at hd
    obtain ⟨d1, e1, rfl⟩ := Option.map_eq_some_iff.mp hd
    obtain ⟨u, p1, p2⟩ := r.get e1
    have g1 := f1 vs (Evl.ex_l e q)
    rw [p1] at g1; cases g1
    exact .inr ⟨T, [.int (i : Nat), x], [.int ((0 + i : Nat) : Int), d1], rfl, rfl, hT, rfl, .cons (by rw [Nat.zero_add]; rfl) (.cons p2 .nil)⟩
  stop := fun H e => ⟨vs, Evl.ex_l e q, by rw [enumD_len, r.len]; exact Nat.le_refl _⟩
def wiEnum (R : WA) : WI := fun s P => R s fun as s1 => allD as fun zs => match zs with
  | [x] => asL x fun xs => P (enumD 0 xs) s1
  | _ => False
theorem pi_en {e : Expr} {R : WA} {p tpos : Pos} {elts : List Expr} {kk : Nat} (hm : X.mg "enumerate" = none) (ha : PXA X [e] R) (hg : Gl X "enumerate" := by rfl) (hs : starEach [e] X.env = [(false, eval e X.env)] := by rfl) : PID X (.Tuple elts kk tpos) (.Call (.Name "enumerate" p) [e] [] pos) (wiEnum R) := by
  obtain ⟨ta, a1, a2⟩ := ha.ex
  refine ⟨_, pi_enum hg hm a1 hs, fun c s P hf G σ H R A k => ?_⟩
  refine a2 c s _ hf G σ H _ A fun vs as s1 G1 H1 e1 A1 r1 hp => ?_
  obtain ⟨xs, rx, hp⟩ := allD_ok r1 hp
  split at hp
  · obtain ⟨v, ws, rfl, q1, rfl⟩ := rx
    obtain ⟨a, vs, xs, rfl, p1, p2, hp, _⟩ := asL_ok q1 hp
    exact ⟨a, vs, rfl, Evl.ex_l A1.gh p1, k _ s1 G1 H1 _ e1 A1 (walks_enum p1 p2) hp⟩
  · exact hp.elim
end

/-! ### for, while -/
section
variable {X : Cx} {pos : Pos}
def wFor (Fi : WI) (g : WG) (body : WS) : WS := fun De s => Fi s fun xs s1 => ∃ I : Nat → DS → Prop, I 0 s1 ∧ (∀ (i : Nat) x s', xs[i]? = some x → I i s' → g x s' fun s2 => body ⟨I (i + 1), De.rt, De.nx, I (i + 1)⟩ s2) ∧ ∀ s', I xs.length s' → De.nx s'
/-- the item that came, known behind it -/
theorem At.yield {K : PySem.W.Frag} {c : Cc} {G G0 : Hp} {s : DS} {σ : L2.St} {H H' : Hp} (A : At K c G s σ H) (e : Ex G0 G) {d : D} {v : V} (h : (H' = H ∧ Rp K G0 d v) ∨ ∃ T ws ds, d = .tup ds ∧ v = .ref T ∧ H T = none ∧ H' = upd H T (.tup ws) ∧ RpAll K G0 ds ws) :
    ∃ G', Ex G G' ∧ At K c G' s σ H' ∧ Rp K G' d v ∧ Stp s σ G H s G' H' := by
  rcases h with ⟨rfl, r⟩ | ⟨T, ws, ds, rfl, rfl, hT, rfl, r⟩
  · exact ⟨G, Ex.refl G, A, Rp.mono e d v r, Stp.refl⟩
  · have g := none_of_ex A.gh hT
    exact ⟨upd G T (.tup ws), ex_upd g, A.alloc hT, ⟨T, ws, rfl, Evl.st_of upd_same, RpAll.mono (e.trans (ex_upd g)) ds ws r⟩, Stp.new hT (ex_upd g) upd_fr⟩
theorem sd_for {tg iter : Expr} {body : List Stmt} {Fi : WI} {js : List Nat} {g : WG} {W : WS} (hp : PassesOwn (model X.prog X.w) X.A X.env X.xe) (hc : X.calm = true) (hi : PID X tg iter Fi) (hg : PGD X tg js g) (hb : PSsD X body W) (hs : ∀ x, foldedSetIterable iter X.env x = pure x := by intro _; rfl) :
    PSD X (.For tg iter body [] pos) (wFor Fi g W) := by
  obtain ⟨wi, i1, i2⟩ := hi.ex
  obtain ⟨tg, g1, g2⟩ := hg.ex
  obtain ⟨tb, b1, b2⟩ := hb.ex
  refine ⟨_, ps_for hp hc i1 g1 b1 hs, fun c s De hf G σ H En A E => ?_⟩
  refine i2 c s _ hf G σ H _ A fun xs s1 G1 H1 J e1 A1 wk ⟨I, h0, hstep, hend⟩ => ?_
  refine ⟨fun i m σ' H' => m = xs.length - i ∧ i ≤ xs.length ∧ ∃ G' s', Ex G1 G' ∧ At X.K c G' s' σ' H' ∧ I i s', ⟨xs.length, by simp, Nat.zero_le _, G1, s1, Ex.refl G1, A1, h0⟩, ?_⟩
  rintro i m σ' H' ⟨rfl, hi, G', s', eg, A', hI⟩
  by_cases hlt : i < xs.length
  · refine .inr ⟨wk.go i H' (eg.trans A'.gh) hlt, fun σ'' H'' => ∃ G2 s2, Ex G1 G2 ∧ At X.K c G2 s2 σ'' H'' ∧ I (i + 1) s2, fun σ'' H'' p => ⟨xs.length - (i + 1), by omega, rfl, hlt, p⟩, fun v H2 y => ?_⟩
    have hd : xs[i]? = some xs[i] := List.getElem?_eq_getElem hlt
    obtain ⟨G2, eg2, A2, r2, _⟩ := A'.yield eg (wk.yld i H' v H2 (eg.trans A'.gh) _ hd y)
    refine g2 c s' _ _ (hstep i _ s' hd hI) G2 σ' H2 v _ A2 r2 fun s3 σ3 A3 _ _ _ hp3 => ?_
    exact b2 c s3 _ hp3 G2 σ3 H2 _ A3 ⟨fun G4 s4 σ4 H4 eg4 A4 h4 => ⟨G4, s4, (eg.trans eg2).trans eg4, A4, h4⟩, fun G4 s4 σ4 H4 eg4 A4 h4 => E.nx G4 s4 σ4 H4 (((e1.eg.trans eg).trans eg2).trans eg4) A4 h4,
      fun G4 s4 σ4 H4 eg4 A4 h4 => ⟨G4, s4, (eg.trans eg2).trans eg4, A4, h4⟩, fun G4 s4 σ4 H4 v r eg4 A4 rs h4 => E.rt G4 s4 σ4 H4 v r (((e1.eg.trans eg).trans eg2).trans eg4) A4 rs h4⟩
  · have e : i = xs.length := by omega
    subst e
    exact .inl ⟨wk.stop H' (eg.trans A'.gh), E.nx G' s' σ' H' (e1.eg.trans eg) A' (hend s' hI)⟩
def wWhile (t : WT) (body : WS) : WS := fun De s => ∃ I : Nat → DS → Prop, (∃ m, I m s) ∧ ∀ m s', I m s' → t s' fun b s2 => if b = true then body ⟨fun s3 => ∃ m', m' < m ∧ I m' s3, De.rt, De.nx, fun s3 => ∃ m', m' < m ∧ I m' s3⟩ s2 else De.nx s2
theorem sd_while {cnd : Expr} {body : List Stmt} {t : WT} {W : WS} (hp : PassesOwn (model X.prog X.w) X.A X.env X.xe) (hc : PQ X cnd t) (hb : PSsD X body W) : PSD X (.While cnd body [] pos) (wWhile t W) := by
  obtain ⟨tc, c1, c2⟩ := hc.ex
  obtain ⟨tb, b1, b2⟩ := hb.ex
  refine ⟨_, ps_while hp c1 b1, fun c s De hf G σ H En A E => ?_⟩
  obtain ⟨I, ⟨m0, h0⟩, hstep⟩ := hf
  refine ⟨fun m σ' H' => ∃ G' s', Ex G G' ∧ At X.K c G' s' σ' H' ∧ I m s', ⟨m0, G, s, Ex.refl G, A, h0⟩, ?_⟩
  rintro m σ' H' ⟨G', s', eg, A', hI⟩
  refine c2 c s' _ (hstep m s' hI) G' σ' H' _ A' fun b s2 G2 H2 e2 A2 hp2 => ?_
  cases b with
  | true =>
    rw [if_pos rfl] at hp2 ⊢
    refine ⟨fun σ'' H'' => ∃ m', m' < m ∧ ∃ G3 s3, Ex G G3 ∧ At X.K c G3 s3 σ'' H'' ∧ I m' s3, fun σ'' H'' p => p, ?_⟩
    exact b2 c s2 _ hp2 G2 σ' H2 _ A2 ⟨fun G4 s4 σ4 H4 eg4 A4 ⟨m', l, h4⟩ => ⟨m', l, G4, s4, (eg.trans e2.eg).trans eg4, A4, h4⟩, fun G4 s4 σ4 H4 eg4 A4 h4 => E.nx G4 s4 σ4 H4 ((eg.trans e2.eg).trans eg4) A4 h4,
      fun G4 s4 σ4 H4 eg4 A4 ⟨m', l, h4⟩ => ⟨m', l, G4, s4, (eg.trans e2.eg).trans eg4, A4, h4⟩, fun G4 s4 σ4 H4 v r eg4 A4 rs h4 => E.rt G4 s4 σ4 H4 v r ((eg.trans e2.eg).trans eg4) A4 rs h4⟩
  | false =>
    rw [if_neg Bool.false_ne_true] at hp2 ⊢
    exact E.nx G2 s2 σ' H2 (eg.trans e2.eg) A2 hp2
end
end DL
namespace DL
open PySem L2
open Evl (Ex Ex.refl Ex.trans Ex.new)

/-! ### the reading that a worth gives, the same in every block -/
def cE (K : PySem.W.Frag) (F : WE) : TE := fun σ H Q => ∃ c s G P, At K c G s σ H ∧ F s P ∧ ∀ v d s' G' H', Stp s σ G H s' G' H' → At K c G' s' σ H' → Rp K G' d v → P d s' → Q v H'
def cT (K : PySem.W.Frag) (F : WT) : TT := fun σ H Q => ∃ c s G P, At K c G s σ H ∧ F s P ∧ ∀ b s' G' H', Stp s σ G H s' G' H' → At K c G' s' σ H' → P b s' → Q b H'
def cG (K : PySem.W.Frag) (js : List Nat) (F : WG) : TG := fun v σ H Q => ∃ c s G x P, At K c G s σ H ∧ Rp K G x v ∧ F x s P ∧
  ∀ s' σ', At K c G s' σ' H → σ'.length = σ.length → (∀ i, i ∉ js → σ'[i]? = σ[i]?) → (∀ (i : Nat) b xs, nth s' i = .own b xs → nth s i = .own b xs ∧ i ∉ js) → P s' → Q σ' H
structure PQs (X : Cx) (ifs : List Expr) (F : WT) : Prop where
  ex : ∃ tt, PTs X ifs tt ∧ ∀ c s P, F s P → TD X.K c tt s P
section
variable {X : Cx} {e : Expr} {es : List Expr}
theorem PX.can {F : WE} (h : PX X e F) : PE X e (cE X.K F) := by
  obtain ⟨te, a1, a2⟩ := h.ex
  refine ⟨fun pins s σ H Q I hq => ?_⟩
  obtain ⟨c, s0, G, P, A, hf, k⟩ := hq
  exact a1.run pins s σ H Q I (a2 c s0 P hf G σ H Q A k)
theorem PQs.can {F : WT} (h : PQs X es F) : PTs X es (cT X.K F) := by
  obtain ⟨te, a1, a2⟩ := h.ex
  refine ⟨fun pins s σ H Q I hq => ?_⟩
  obtain ⟨c, s0, G, P, A, hf, k⟩ := hq
  exact a1.run pins s σ H Q I (a2 c s0 P hf G σ H Q A k)
theorem PGD.can {js : List Nat} {F : WG} (h : PGD X e js F) : PG X e (cG X.K js F) := by
  obtain ⟨te, a1, a2⟩ := h.ex
  refine ⟨fun pins s σ H v u Q I r hq => ?_⟩
  obtain ⟨c, s0, G, x, P, A, rx, hf, k⟩ := hq
  exact a1.run pins s σ H v u Q I r (a2 c s0 x P hf G σ H v Q A rx k)
def wYes : WT := fun s P => P true s
theorem pq_nil : PQs X [] wYes := ⟨tYes, pts_nil, fun c s P hf G σ H Q A k => k true s G H Stp.refl A hf⟩
theorem pq_1 {F : WT} (h : PQ X e F) : PQs X [e] F := by
  obtain ⟨te, a1, a2⟩ := h.ex
  exact ⟨te, pts_one a1, a2⟩
end

/-! ### slots forgotten -/
def wipeS (s : DS) : List Nat → DS
  | [] => s
  | v :: vs => put (wipeS s vs) v .no
theorem wipeS_len (s : DS) : ∀ vs, (wipeS s vs).length = s.length
  | [] => rfl
  | v :: vs => by rw [wipeS, put_len, wipeS_len s vs]
theorem wipeS_no (s : DS) : ∀ {vs : List Nat} {v : Nat}, v ∈ vs → nth (wipeS s vs) v = .no
  | [], v, h => by cases h
  | w :: vs, v, h => by
    rw [wipeS]
    by_cases hw : w = v
    · subst hw
      by_cases hl : w < (wipeS s vs).length
      · rw [nth_put_eq _ _ hl]
      · rw [put_ge _ _ (Nat.le_of_not_lt hl)]
        cases hh : nth (wipeS s vs) w with
        | no => rfl
        | _ => exact absurd (nth_lt _ (by rw [hh]; intro z; cases z)) hl
    · rw [nth_put_ne _ _ hw]
      rcases List.mem_cons.mp h with z | z
      · exact absurd z.symm hw
      · exact wipeS_no s z
theorem wipeS_ne (s : DS) : ∀ {vs : List Nat} {v : Nat}, v ∉ vs → nth (wipeS s vs) v = nth s v
  | [], v, _ => rfl
  | w :: vs, v, h => by
    rw [List.mem_cons, not_or] at h
    rw [wipeS, nth_put_ne _ _ (Ne.symm h.1), wipeS_ne s h.2]
theorem wipe_ne (σ : L2.St) : ∀ {vs : List Nat} {v : Nat}, v ∉ vs → (wipe σ vs)[v]? = σ[v]?
  | [], v, _ => rfl
  | w :: vs, v, h => by
    rw [List.mem_cons, not_or] at h
    rw [wipe, List.getElem?_set_ne (Ne.symm h.1), wipe_ne σ h.2]
theorem wipe_in (σ : L2.St) : ∀ {vs : List Nat} {v : Nat}, v ∈ vs → v < σ.length → (wipe σ vs)[v]? = some none
  | [], v, h, _ => by cases h
  | w :: vs, v, h, hl => by
    rw [wipe]
    by_cases hw : w = v
    · subst hw
      rw [List.getElem?_set_self (by rw [wipe_length]; exact hl)]
    · rw [List.getElem?_set_ne hw]
      rcases List.mem_cons.mp h with z | z
      · exact absurd z.symm hw
      · exact wipe_in σ z hl
theorem wipe_ext {σ τ : L2.St} {vs : List Nat} (hl : τ.length = σ.length) (h : ∀ i, i ∉ vs → τ[i]? = σ[i]?) : wipe τ vs = wipe σ vs := by
  apply List.ext_getElem?
  intro i
  by_cases hi : i ∈ vs
  · by_cases hb : i < σ.length
    · rw [wipe_in τ hi (by rw [hl]; exact hb), wipe_in σ hi hb]
    · rw [List.getElem?_eq_none (by rw [wipe_length, hl]; exact Nat.le_of_not_lt hb), List.getElem?_eq_none (by rw [wipe_length]; exact Nat.le_of_not_lt hb)]
  · rw [wipe_ne τ hi, wipe_ne σ hi, h i hi]
section
variable {K : PySem.W.Frag} {c : Cc} {G G' H H' : Hp} {s : DS} {σ τ : L2.St} {vs : List Nat}
/-- other slots' values where nothing is said -/
theorem At.other (A : At K c G s σ H) (hl : τ.length = σ.length) (h : ∀ i, nth s i ≠ .no → τ[i]? = σ[i]?) : At K c G s τ H where
  g0 := A.g0
  gh := A.gh
  ke := A.ke
  th := A.th
  fr := A.fr
  len := by rw [hl]; exact A.len
  sd := fun i x e => by rw [h i (by rw [e]; intro z; cases z)]; exact A.sd i x e
  so := fun i b xs e => by rw [h i (by rw [e]; intro z; cases z)]; exact A.so i b xs e
  dj := fun i j b b' xs ys l n e1 e2 e3 e4 => by
    rw [h i (by rw [e1]; intro z; cases z)] at e3
    rw [h j (by rw [e2]; intro z; cases z)] at e4
    exact A.dj i j b b' xs ys l n e1 e2 e3 e4
  iok := A.iok
theorem At.drops (A : At K c G s σ H) : ∀ {vs : List Nat}, (∀ v ∈ vs, isIo s v = false) → At K c G (wipeS s vs) σ H
  | [], _ => A
  | v :: vs, h => by
    have B := At.drops A (vs := vs) fun w hw => h w (List.mem_cons_of_mem _ hw)
    refine B.drop ?_
    by_cases hv : v ∈ vs
    · unfold isIo
      rw [wipeS_no s hv]
    · have := h v List.mem_cons_self
      unfold isIo at this ⊢
      rw [wipeS_ne s hv]
      exact this
theorem Stp.drops {s' : DS} (a : Stp s σ G H s' G' H') (vs : List Nat) : Stp s σ G H (wipeS s' vs) G' H' :=
  ⟨a.eg, a.fra, fun i b xs q => by
    by_cases hi : i ∈ vs
    · rw [wipeS_no s' hi] at q; cases q
    · rw [wipeS_ne s' hi] at q; exact a.shr i b xs q, a.th, a.fr⟩
/-- an object that none knows changes -/
theorem At.poke (A : At K c G s σ H) {p : Addr} {o : HO} (gp : G p = none) (h0 : c.H0 p = none) (ne : ∀ (i : Nat) b xs, nth s i = .own b xs → σ[i]? ≠ some (some (.ref p))) : At K c G s σ (upd H p o) where
  g0 := A.g0
  gh := fun a u e => by
    have : a ≠ p := fun z => by subst z; rw [gp] at e; cases e
    rw [upd_ne this]; exact A.gh a u e
  ke := fun a u e n => by
    have : a ≠ p := fun z => by subst z; rw [h0] at e; cases e
    rw [upd_ne this]; exact A.ke a u e n
  th := fun a u e => by
    have : a ≠ p := fun z => by subst z; rw [h0] at e; cases e
    rw [upd_ne this]; exact A.th a u e
  fr := A.fr
  len := A.len
  sd := A.sd
  so := fun i b xs e => by
    obtain ⟨l, vs, e1, e2, e3, e4⟩ := A.so i b xs e
    have : l ≠ p := fun z => by subst z; exact ne i b xs e e1
    exact ⟨l, vs, e1, e2, by rw [upd_ne this]; exact e3, e4⟩
  dj := A.dj
  iok := A.iok
end

/-! ### comprehensions -/
def ioFree (s : DS) (vs : List Nat) : Bool := vs.all fun v => !isIo s v
def wLc (vs : List Nat) (Fi : WI) (g : WG) (t : WT) (e : WE) : WO := fun s P => Fi s fun xs s1 => ioFree s1 vs = true ∧ ∃ I : Nat → List D → DS → Prop, I 0 [] (wipeS s1 vs) ∧
  (∀ (i : Nat) x acc s', xs[i]? = some x → I i acc s' → g x s' fun s2 => t s2 fun b s3 => if b = true then e s3 fun d s4 => acc.length < 16777216 ∧ I (i + 1) (acc ++ [d]) (wipeS s4 vs) else I (i + 1) acc (wipeS s3 vs)) ∧ ∀ acc s', I xs.length acc s' → P acc s'
section
variable {X : Cx}
theorem eo_lc {K : PySem.W.Frag} {wi : TI} {Fi : WI} {js vs : List Nat} {g : WG} {t : WT} {e : WE} (hi : ∀ c s P, Fi s P → ID K c wi s P) (hjs : js.all (fun j => vs.contains j) = true) :
    ∀ c s P, wLc vs Fi g t e s P → EO K c (tLc wi (cG K js g) (cT K t) (cE K e) vs) s P := fun c s P hf G σ H Q A k =>
  hi c s _ hf G σ H _ A fun xs s1 G1 H1 J e1 A1 wk ⟨hio, I, h0, hstep, hend⟩ => fun Dl hD => by
    have js_vs : ∀ i, i ∉ vs → i ∉ js := fun i hn hj => hn (by
      have := List.all_eq_true.mp hjs i hj
      simpa using this)
    have hio' : ∀ v ∈ vs, isIo s1 v = false := fun v hv => by simpa using List.all_eq_true.mp hio v hv
    have gD : G1 Dl = none := none_of_ex A1.gh hD
    have h0D : c.H0 Dl = none := by
      cases z : c.H0 Dl with
      | none => rfl
      | some o => obtain ⟨o', e'⟩ := A1.th Dl o z; rw [hD] at e'; cases e'
    have nD : ∀ (i : Nat) b ys, nth s1 i = .own b ys → σ[i]? ≠ some (some (.ref Dl)) := fun i b ys q z => by
      obtain ⟨l, ws, p1, p2, p3, _⟩ := A1.so i b ys q
      rw [z] at p1
      cases p1
      rw [hD] at p3
      cases p3
    refine ⟨fun i m H' => m = xs.length - i ∧ i ≤ xs.length ∧ ∃ G' s' acc ws, Stp s1 σ G1 H1 s' G' H' ∧ At K c G' s' σ H' ∧ G' Dl = none ∧ H' Dl = some (.lst ws) ∧ RpAll K G' acc ws ∧ I i acc s' ∧ ∀ v ∈ vs, nth s' v = .no,
      ⟨xs.length, by simp, Nat.zero_le _, G1, wipeS s1 vs, [], [], (Stp.new hD (Ex.refl G1) fun _ _ q => .inl q).drops vs, (A1.lay hD).drops hio', gD, upd_same, rfl, h0, fun v hv => wipeS_no s1 hv⟩, ?_⟩
    rintro i m H' ⟨rfl, hi, G', s', acc, ws, st, A', gd, hd', ra, hI, hno⟩
    have nD' : ∀ (j : Nat) b ys, nth s' j = .own b ys → σ[j]? ≠ some (some (.ref Dl)) := fun j b ys q => by
      obtain ⟨zs, q'⟩ := st.shr j b ys q
      exact nD j b zs q'
    by_cases hlt : i < xs.length
    · refine .inr ⟨wk.go i H' (st.eg.trans A'.gh) hlt, fun H'' => ∃ G2 s2 acc2 ws2, Stp s1 σ G1 H1 s2 G2 H'' ∧ At K c G2 s2 σ H'' ∧ G2 Dl = none ∧ H'' Dl = some (.lst ws2) ∧ RpAll K G2 acc2 ws2 ∧ I (i + 1) acc2 s2 ∧ ∀ v ∈ vs, nth s2 v = .no,
        fun H'' p => ⟨xs.length - (i + 1), by omega, rfl, hlt, p⟩, fun v H2 y => ?_⟩
      have hx : xs[i]? = some xs[i] := List.getElem?_eq_getElem hlt
      obtain ⟨G2, eg2, A2, r2, st2⟩ := A'.yield st.eg (wk.yld i H' v H2 (st.eg.trans A'.gh) _ hx y)
      -- the block's slots
      have slotEq : ∀ j, nth s' j ≠ .no → (wipe σ vs)[j]? = σ[j]? := fun j hj => wipe_ne σ fun hv => hj (hno j hv)
      have Aw : At K c G2 s' (wipe σ vs) H2 := A2.other (wipe_length σ vs) slotEq
      have hd2 : H2 Dl = some (.lst ws) := st2.fra Dl _ hd' nD'
      have gd2 : G2 Dl = none := by
        cases z : G2 Dl with
        | none => rfl
        | some o =>
          rcases st2.fr Dl o z with q | q | ⟨j, b, ys, q, q'⟩
          · rw [gd] at q; cases q
          · rw [hd'] at q; cases q
          · exact absurd q' (nD' j b ys q)
      refine ⟨c, s', G2, xs[i], _, Aw, r2, hstep i _ acc s' hx hI, fun s2 σ2 A3 l3 f3 o3 hp3 => ?_⟩
      have f3' : ∀ j, j ∉ vs → σ2[j]? = σ[j]? := fun j hj => (f3 j (js_vs j hj)).trans (wipe_ne σ hj)
      have l3' : σ2.length = σ.length := l3.trans (wipe_length σ vs)
      have own3 : ∀ (j : Nat) b ys, nth s2 j = .own b ys → nth s' j = .own b ys ∧ j ∉ vs := fun j b ys q => by
        obtain ⟨q1, _⟩ := o3 j b ys q
        refine ⟨q1, fun hv => ?_⟩
        rw [hno j hv] at q1
        cases q1
      have nD3 : ∀ (j : Nat) b ys, nth s2 j = .own b ys → σ2[j]? ≠ some (some (.ref Dl)) := fun j b ys q => by
        obtain ⟨q1, hv⟩ := own3 j b ys q
        rw [f3' j hv]
        exact nD' j b ys q1
      -- between the turns: the state as it was, the block's slots forgotten
      have back : ∀ {s4 : DS} {G4 H4 : Hp}, Stp s2 σ2 G2 H2 s4 G4 H4 → At K c G4 s4 σ2 H4 → At K c G4 (wipeS s4 vs) σ H4 ∧ Stp s1 σ G1 H1 (wipeS s4 vs) G4 H4 ∧ H4 Dl = some (.lst ws) ∧ G4 Dl = none := fun {s4 G4 H4} st4 A4 => by
        have io4 : ∀ v ∈ vs, isIo s4 v = false := fun v hv => by
          unfold isIo
          cases z : nth s4 v with
          | own b ys =>
            obtain ⟨zs, q⟩ := st4.shr v b ys z
            exact absurd hv (own3 v b zs q).2
          | _ => rfl
        have B := (A4.drops io4).other (τ := σ) l3'.symm fun j hj => (f3' j fun hv => hj (wipeS_no s4 hv)).symm
        have st5 : Stp s' σ G2 H2 (wipeS s4 vs) G4 H4 := by
          refine ⟨st4.eg, fun a o q n => st4.fra a o q fun j b ys z => ?_, fun j b ys z => ?_, st4.th, fun a o q => ?_⟩
          · obtain ⟨q1, hv⟩ := own3 j b ys z
            rw [f3' j hv]
            exact n j b ys q1
          · by_cases hv : j ∈ vs
            · rw [wipeS_no s4 hv] at z; cases z
            · rw [wipeS_ne s4 hv] at z
              obtain ⟨zs, q⟩ := st4.shr j b ys z
              exact ⟨zs, (own3 j b zs q).1⟩
          · rcases st4.fr a o q with z | z | ⟨j, b, ys, z1, z2⟩
            · exact .inl z
            · exact .inr (.inl z)
            · obtain ⟨q1, hv⟩ := own3 j b ys z1
              rw [f3' j hv] at z2
              exact .inr (.inr ⟨j, b, ys, q1, z2⟩)
        refine ⟨B, (st.trans st2).trans st5, st4.fra Dl _ hd2 nD3, ?_⟩
        cases z : G4 Dl with
        | none => rfl
        | some o =>
          rcases st4.fr Dl o z with q | q | ⟨j, b, ys, q, q'⟩
          · rw [gd2] at q; cases q
          · rw [hd2] at q; cases q
          · exact absurd q' (nD3 j b ys q)
      refine ⟨(wipe_ext l3' f3'), ?_⟩
      refine ⟨c, s2, G2, _, A3, hp3, fun b s3 G3 H3 st3 A4 hb => ?_⟩
      cases b with
      | false =>
        rw [if_neg Bool.false_ne_true] at hb ⊢
        obtain ⟨B, S, d1, d2⟩ := back st3 A4
        exact ⟨G3, wipeS s3 vs, acc, ws, S, B, d2, d1, RpAll.mono (eg2.trans st3.eg) acc ws ra, hb, fun v hv => wipeS_no s3 hv⟩
      | true =>
        rw [if_pos rfl] at hb ⊢
        refine ⟨c, s3, G3, _, A4, hb, fun y d s4 G4 H4 st4 A5 rd ⟨hz, hI2⟩ => ?_⟩
        obtain ⟨B, S, d1, d2⟩ := back (st3.trans st4) A5
        have hlen : ws.length < sizeLine := by
          have e1 : ws.length = acc.length := ra.len
          have e2 : sizeLine = 16777216 := sizeLine_eq
          omega
        refine ⟨ws, d1, hlen, G4, wipeS s4 vs, acc ++ [d], ws ++ [y], ?_, ?_, d2, upd_same, (RpAll.mono ((eg2.trans st3.eg).trans st4.eg) acc ws ra).append (.cons rd .nil), hI2, fun v hv => wipeS_no s4 hv⟩
        · have ne : ∀ a o, H1 a = some o → a ≠ Dl := fun a o q z => by rw [z, hD] at q; cases q
          refine ⟨S.eg, fun a o q n => ?_, S.shr, fun a o q => ?_, S.fr⟩
          · rw [upd_ne (ne a o q)]
            exact S.fra a o q n
          · rw [upd_ne (ne a o q)]
            exact S.th a o q
        · refine B.poke d2 h0D fun j b ys q => ?_
          obtain ⟨zs, q'⟩ := S.shr j b ys q
          exact nD j b zs q'
    · have e : i = xs.length := by omega
      subst e
      exact .inl ⟨wk.stop H' (st.eg.trans A'.gh), k Dl acc s' G' H' (e1.trans st) A' ⟨⟨ws, hd', ra⟩, gd, h0D, nD'⟩ (New.back e1 (.inl hD)) (hend acc s' hI)⟩
theorem po_lc {elt tg iter : Expr} {ifs : List Expr} {scope : Scope} {own : List (Str × Nat)} {pos : Pos} {js : List Nat} {Fi : WI} {g : WG} {t : WT} {e : WE} (hc : X.calm = true) (hN : X.N.Nodup) (hi : PID X tg iter Fi) (ok : blkC X.N X.env.scope scope own = true)
    (hg : ∀ (s : Shared) (H : Hp) (C : Addr) (cl : List (Str × Addr)) (fp : List Addr), PGD (X.blk s H scope (compEnvC scope cl C X.env) fp) tg js g) (ht : ∀ (s : Shared) (H : Hp) (C : Addr) (cl : List (Str × Addr)) (fp : List Addr), PQs (X.blk s H scope (compEnvC scope cl C X.env) fp) ifs t)
    (he : ∀ (s : Shared) (H : Hp) (C : Addr) (cl : List (Str × Addr)) (fp : List Addr), PX (X.blk s H scope (compEnvC scope cl C X.env) fp) elt e) (hjs : js.all (fun j => (own.map (·.2)).contains j) = true := by rfl) (hs : ∀ x, foldedSetIterable iter X.env x = pure x := by intro _; rfl) :
    PO X (.ListComp elt [⟨tg, iter, ifs, 0⟩] scope pos) (wLc (own.map (·.2)) Fi g t e) := by
  obtain ⟨wi, i1, i2⟩ := hi.ex
  exact ⟨_, pe_lc (g := cG X.K js g) (tt := cT X.K t) (te := cE X.K e) hc hN i1 (blkOk_by ok) (fun s H C cl fp => (hg s H C cl fp).can) (fun s H C cl fp => (ht s H C cl fp).can) (fun s H C cl fp => (he s H C cl fp).can) hs, eo_lc i2 hjs⟩
/-- name = [..] -/
theorem sd_lc (i : Nat) {y : Str} {py : Pos} {elt tg iter : Expr} {ifs : List Expr} {scope : Scope} {own : List (Str × Nat)} {pos spos : Pos} {js : List Nat} {Fi : WI} {g : WG} {t : WT} {e : WE} (hc : X.calm = true) (hN : X.N.Nodup) (hi : PID X tg iter Fi) (ok : blkC X.N X.env.scope scope own = true)
    (hg : ∀ (s : Shared) (H : Hp) (C : Addr) (cl : List (Str × Addr)) (fp : List Addr), PGD (X.blk s H scope (compEnvC scope cl C X.env) fp) tg js g) (ht : ∀ (s : Shared) (H : Hp) (C : Addr) (cl : List (Str × Addr)) (fp : List Addr), PQs (X.blk s H scope (compEnvC scope cl C X.env) fp) ifs t)
    (he : ∀ (s : Shared) (H : Hp) (C : Addr) (cl : List (Str × Addr)) (fp : List Addr), PX (X.blk s H scope (compEnvC scope cl C X.env) fp) elt e)
    (hsw : swapsWith (.ListComp elt [⟨tg, iter, ifs, 0⟩] scope pos) (some (.Name y py)) spos.line X.env = pure true) (hy : X.N[i]? = some y := by rfl) (hyl : X.env.scope.names.lookup y = some .local := by rfl)
    (hjs : js.all (fun j => (own.map (·.2)).contains j) = true := by rfl) (hs : ∀ x, foldedSetIterable iter X.env x = pure x := by intro _; rfl) :
    PSD X (.Assign [.Name y py] (.ListComp elt [⟨tg, iter, ifs, 0⟩] scope pos) spos) (wSetO i (wLc (own.map (·.2)) Fi g t e)) := by
  obtain ⟨wi, i1, i2⟩ := hi.ex
  refine ⟨_, ps_setLc (g := cG X.K js g) (tt := cT X.K t) (te := cE X.K e) hc hN hy hyl hsw i1 (blkOk_by ok) (fun s H C cl fp => (hg s H C cl fp).can) (fun s H C cl fp => (ht s H C cl fp).can) (fun s H C cl fp => (he s H C cl fp).can) hs, fun c s De hf G σ H En A E => ?_⟩
  exact eo_lc i2 hjs c s _ hf G σ H _ A fun p xs s1 G1 H1 e1 A1 M _ ⟨hio, hp⟩ => E.nx G1 _ _ H1 e1.eg (A1.setO M hio) hp
end
end DL
namespace DL
open PySem L2
open Evl (Ex Ex.refl Ex.trans Ex.new)

/-! ### whole numbers -/
/-- a product that the machine makes: one factor small, or both together not too large -/
def CMulU (i j : Int) : Prop := CMul i j ∨ CMulW i j
theorem op_mulU {X : Cx} : OpR X (binaryOp .Mult) (rI CMulU fun i j => .int (i * j)) := opI fun _ _ _ _ _ _ _ hc q => PyProof.Rows.mul_int q (hc.elim CMul.ok CMulW.ok)
theorem mulR {i j : Int} (h1 : -(2 ^ 64) < j) (h2 : j < 2 ^ 64) : CMulU i j := .inl (.inr ⟨h1, h2⟩)
theorem mulL {i j : Int} (h1 : -(2 ^ 64) < i) (h2 : i < 2 ^ 64) : CMulU i j := .inl (.inl ⟨h1, h2⟩)
def oAdd : D → D → (D → Prop) → Prop
  | .int i, .int j, P => P (.int (i + j))
  | _, _, _ => False
def oSub : D → D → (D → Prop) → Prop
  | .int i, .int j, P => P (.int (i - j))
  | _, _, _ => False
def oMul : D → D → (D → Prop) → Prop
  | .int i, .int j, P => CMulU i j ∧ P (.int (i * j))
  | _, _, _ => False
def oFdiv : D → D → (D → Prop) → Prop
  | .int i, .int j, P => CDivW i j ∧ P (.int (i / j))
  | _, _, _ => False
def oMod : D → D → (D → Prop) → Prop
  | .int i, .int j, P => 0 < j ∧ P (.int (i % j))
  | _, _, _ => False
def oPow : D → D → (D → Prop) → Prop
  | .int i, .int j, P => CPow i j ∧ P (.int (i ^ j.toNat))
  | _, _, _ => False
def oShr : D → D → (D → Prop) → Prop
  | .int i, .int j, P => 0 ≤ j ∧ P (.int (i / 2 ^ j.toNat))
  | _, _, _ => False
def oLt : D → D → (D → Prop) → Prop
  | .int i, .int j, P => P (.bl (decide (i < j)))
  | _, _, _ => False
def oLe : D → D → (D → Prop) → Prop
  | .int i, .int j, P => P (.bl (decide (i ≤ j)))
  | _, _, _ => False
def oGt : D → D → (D → Prop) → Prop
  | .int i, .int j, P => P (.bl (decide (j < i)))
  | _, _, _ => False
def oGe : D → D → (D → Prop) → Prop
  | .int i, .int j, P => P (.bl (decide (j ≤ i)))
  | _, _, _ => False
def oNeg : D → (D → Prop) → Prop
  | .int i, P => P (.int (-i))
  | _, _ => False
section
variable {K : PySem.W.Frag} {X : Cx} {a b : Expr} {pos : Pos} {Fa Fb : WE}
theorem rv_I {C : Int → Int → Prop} {g : Int → Int → Int} {f : D → D → (D → Prop) → Prop} (h : ∀ i j P, f (.int i) (.int j) P → C i j ∧ P (.int (g i j))) (h0 : ∀ x y P, f x y P → ∃ i j, x = .int i ∧ y = .int j) : RV K (rI C fun i j => .int (g i j)) f := by
  intro G H x y d1 d2 P Q e r1 r2 hf k
  obtain ⟨i, j, rfl, rfl⟩ := h0 _ _ _ hf
  obtain ⟨hc, hp⟩ := h i j P hf
  exact ⟨i, j, r1, r2, hc, k _ _ (show Rp K G (.int (g i j)) (.int (g i j)) from rfl) hp⟩
theorem rv_I0 {g : Int → Int → Int} {f : D → D → (D → Prop) → Prop} (h : ∀ i j P, f (.int i) (.int j) P → P (.int (g i j))) (h0 : ∀ x y P, f x y P → ∃ i j, x = .int i ∧ y = .int j) : RV K (rI0 fun i j => .int (g i j)) f := by
  intro G H x y d1 d2 P Q e r1 r2 hf k
  obtain ⟨i, j, rfl, rfl⟩ := h0 _ _ _ hf
  exact ⟨i, j, r1, r2, k _ _ (show Rp K G (.int (g i j)) (.int (g i j)) from rfl) (h i j P hf)⟩
theorem rv_B0 {g : Int → Int → Bool} {f : D → D → (D → Prop) → Prop} (h : ∀ i j P, f (.int i) (.int j) P → P (.bl (g i j))) (h0 : ∀ x y P, f x y P → ∃ i j, x = .int i ∧ y = .int j) : RV K (rI0 fun i j => .bl (g i j)) f := by
  intro G H x y d1 d2 P Q e r1 r2 hf k
  obtain ⟨i, j, rfl, rfl⟩ := h0 _ _ _ hf
  exact ⟨i, j, r1, r2, k _ _ (show Rp K G (.bl (g i j)) (.bl (g i j)) from rfl) (h i j P hf)⟩
theorem rv_add : RV K (rI0 fun i j => .int (i + j)) oAdd := rv_I0 (fun _ _ _ h => h) fun x y P h => by cases x <;> first | (cases y <;> first | exact ⟨_, _, rfl, rfl⟩ | exact (show False from h).elim) | exact (show False from h).elim
theorem rv_sub : RV K (rI0 fun i j => .int (i - j)) oSub := rv_I0 (fun _ _ _ h => h) fun x y P h => by cases x <;> first | (cases y <;> first | exact ⟨_, _, rfl, rfl⟩ | exact (show False from h).elim) | exact (show False from h).elim
theorem rv_mul : RV K (rI CMulU fun i j => .int (i * j)) oMul := rv_I (fun _ _ _ h => h) fun x y P h => by cases x <;> first | (cases y <;> first | exact ⟨_, _, rfl, rfl⟩ | exact (show False from h).elim) | exact (show False from h).elim
theorem rv_fdiv : RV K (rI CDivW fun i j => .int (i / j)) oFdiv := rv_I (fun _ _ _ h => h) fun x y P h => by cases x <;> first | (cases y <;> first | exact ⟨_, _, rfl, rfl⟩ | exact (show False from h).elim) | exact (show False from h).elim
theorem rv_mod : RV K (rI (fun _ j => 0 < j) fun i j => .int (i % j)) oMod := rv_I (fun _ _ _ h => h) fun x y P h => by cases x <;> first | (cases y <;> first | exact ⟨_, _, rfl, rfl⟩ | exact (show False from h).elim) | exact (show False from h).elim
theorem rv_pow : RV K (rI CPow fun i j => .int (i ^ j.toNat)) oPow := rv_I (fun _ _ _ h => h) fun x y P h => by cases x <;> first | (cases y <;> first | exact ⟨_, _, rfl, rfl⟩ | exact (show False from h).elim) | exact (show False from h).elim
theorem rv_shr : RV K (rI (fun _ j => 0 ≤ j) fun i j => .int (i / 2 ^ j.toNat)) oShr := rv_I (fun _ _ _ h => h) fun x y P h => by cases x <;> first | (cases y <;> first | exact ⟨_, _, rfl, rfl⟩ | exact (show False from h).elim) | exact (show False from h).elim
theorem rv_lt : RV K (rI0 fun i j => .bl (decide (i < j))) oLt := rv_B0 (fun _ _ _ h => h) fun x y P h => by cases x <;> first | (cases y <;> first | exact ⟨_, _, rfl, rfl⟩ | exact (show False from h).elim) | exact (show False from h).elim
theorem rv_le : RV K (rI0 fun i j => .bl (decide (i ≤ j))) oLe := rv_B0 (fun _ _ _ h => h) fun x y P h => by cases x <;> first | (cases y <;> first | exact ⟨_, _, rfl, rfl⟩ | exact (show False from h).elim) | exact (show False from h).elim
theorem rv_gt : RV K (rI0 fun i j => .bl (decide (j < i))) oGt := rv_B0 (fun _ _ _ h => h) fun x y P h => by cases x <;> first | (cases y <;> first | exact ⟨_, _, rfl, rfl⟩ | exact (show False from h).elim) | exact (show False from h).elim
theorem rv_ge : RV K (rI0 fun i j => .bl (decide (j ≤ i))) oGe := rv_B0 (fun _ _ _ h => h) fun x y P h => by cases x <;> first | (cases y <;> first | exact ⟨_, _, rfl, rfl⟩ | exact (show False from h).elim) | exact (show False from h).elim
theorem px_add (ha : PX X a Fa) (hb : PX X b Fb) : PX X (.BinOp a .Add b pos) (wOp oAdd Fa Fb) := px_op op_add rv_add ha hb
theorem px_sub (ha : PX X a Fa) (hb : PX X b Fb) : PX X (.BinOp a .Sub b pos) (wOp oSub Fa Fb) := px_op op_sub rv_sub ha hb
theorem px_mul (ha : PX X a Fa) (hb : PX X b Fb) : PX X (.BinOp a .Mult b pos) (wOp oMul Fa Fb) := px_op op_mulU rv_mul ha hb
theorem px_fdiv (ha : PX X a Fa) (hb : PX X b Fb) : PX X (.BinOp a .FloorDiv b pos) (wOp oFdiv Fa Fb) := px_op op_fdivW rv_fdiv ha hb
theorem px_mod (ha : PX X a Fa) (hb : PX X b Fb) : PX X (.BinOp a .Mod b pos) (wOp oMod Fa Fb) := px_op op_mod rv_mod ha hb
theorem px_pow (ha : PX X a Fa) (hb : PX X b Fb) : PX X (.BinOp a .Pow b pos) (wOp oPow Fa Fb) := px_op op_pow rv_pow ha hb
theorem px_shr (ha : PX X a Fa) (hb : PX X b Fb) : PX X (.BinOp a .RShift b pos) (wOp oShr Fa Fb) := px_op op_shr rv_shr ha hb
theorem px_lt (ha : PX X a Fa) (hb : PX X b Fb) : PX X (.Compare a [.Lt] [b] pos) (wOp oLt Fa Fb) := px_cmp op_lt rv_lt ha hb (nomark _)
theorem px_le (ha : PX X a Fa) (hb : PX X b Fb) : PX X (.Compare a [.LtE] [b] pos) (wOp oLe Fa Fb) := px_cmp op_le rv_le ha hb (nomark _)
theorem px_gt (ha : PX X a Fa) (hb : PX X b Fb) : PX X (.Compare a [.Gt] [b] pos) (wOp oGt Fa Fb) := px_cmp op_gt rv_gt ha hb (nomark _)
theorem px_ge (ha : PX X a Fa) (hb : PX X b Fb) : PX X (.Compare a [.GtE] [b] pos) (wOp oGe Fa Fb) := px_cmp op_ge rv_ge ha hb (nomark _)
theorem pq_lt (ha : PX X a Fa) (hb : PX X b Fb) : PQ X (.Compare a [.Lt] [b] pos) (wTest (wOp oLt Fa Fb)) := pq_cmp op_lt rv_lt ha hb (nomark _)
theorem pq_le (ha : PX X a Fa) (hb : PX X b Fb) : PQ X (.Compare a [.LtE] [b] pos) (wTest (wOp oLe Fa Fb)) := pq_cmp op_le rv_le ha hb (nomark _)
theorem pq_gt (ha : PX X a Fa) (hb : PX X b Fb) : PQ X (.Compare a [.Gt] [b] pos) (wTest (wOp oGt Fa Fb)) := pq_cmp op_gt rv_gt ha hb (nomark _)
theorem pq_ge (ha : PX X a Fa) (hb : PX X b Fb) : PQ X (.Compare a [.GtE] [b] pos) (wTest (wOp oGe Fa Fb)) := pq_cmp op_ge rv_ge ha hb (nomark _)
theorem px_neg (ha : PX X a Fa) : PX X (.UnaryOp .USub a pos) (wUn oNeg Fa) := by
  obtain ⟨ta, a1, a2⟩ := ha.ex
  refine ⟨_, pe_un un_neg a1, fun c s P hf G σ H Q A k => ?_⟩
  refine a2 c s _ hf G σ H _ A fun v d s1 G1 H1 e1 A1 r1 hp => ?_
  cases d with
  | int i => exact ⟨i, r1, k _ _ s1 G1 H1 e1 A1 (show Rp X.K G1 (.int (-i)) (.int (-i)) from rfl) hp⟩
  | _ => exact (show False from hp).elim
end

/-! ### scalars: ==, !=, is None -/
def deq : D → D → Option Bool
  | .int i, .int j => some (decide (i = j))
  | .str x, .str y => some (decide (x = y))
  | .bl a, .bl b => some (a == b)
  | .non, .non => some true
  | .non, .int _ => some false
  | .int _, .non => some false
  | .non, .str _ => some false
  | .str _, .non => some false
  | .non, .bl _ => some false
  | .bl _, .non => some false
  | .int _, .str _ => some false
  | .str _, .int _ => some false
  | .bl _, .str _ => some false
  | .str _, .bl _ => some false
  | _, _ => none
def oEq (x y : D) (P : D → Prop) : Prop := match deq x y with
  | some b => P (.bl b)
  | none => False
def oNe (x y : D) (P : D → Prop) : Prop := match deq x y with
  | some b => P (.bl (!b))
  | none => False
def isNonD : D → Bool
  | .non => true
  | _ => false
def oIsN (x y : D) (P : D → Prop) : Prop := match y with
  | .non => P (.bl (isNonD x))
  | _ => False
def oIsNot (x y : D) (P : D → Prop) : Prop := match y with
  | .non => P (.bl (!isNonD x))
  | _ => False
section
variable {K : PySem.W.Frag} {X : Cx} {a b : Expr} {pos : Pos} {Fa Fb : WE}
theorem deq_ok {G : Hp} {x y : D} {v w : V} {k : Bool} (h : deq x y = some k) (r1 : Rp K G x v) (r2 : Rp K G y w) : scal v w = true ∧ decide (v = w) = k := by
  cases x <;> cases y <;> first
    | (cases h; done)
    | (have r1' : v = _ := r1
       have r2' : w = _ := r2
       subst r1' r2'
       cases h
       refine ⟨rfl, ?_⟩
       first
         | rfl
         | (simp; done)
         | (rename_i p q; by_cases e : p = q
            · subst e; simp
            · simp [e]))
    | (exact absurd h (by intro z; cases z))
theorem rv_eq : RV K rEq oEq := by
  intro G H x y d1 d2 P Q e r1 r2 hf k
  unfold oEq at hf
  cases h : deq d1 d2 with
  | none => rw [h] at hf; exact hf.elim
  | some b =>
    rw [h] at hf
    obtain ⟨h1, h2⟩ := deq_ok h r1 r2
    exact ⟨h1, by rw [h2]; exact k _ _ (show Rp K G (.bl b) (.bl b) from rfl) hf⟩
theorem rv_ne : RV K rNe oNe := by
  intro G H x y d1 d2 P Q e r1 r2 hf k
  unfold oNe at hf
  cases h : deq d1 d2 with
  | none => rw [h] at hf; exact hf.elim
  | some b =>
    rw [h] at hf
    obtain ⟨h1, h2⟩ := deq_ok h r1 r2
    exact ⟨h1, by rw [h2]; exact k _ _ (show Rp K G (.bl (!b)) (.bl (!b)) from rfl) hf⟩
theorem px_eq (ha : PX X a Fa) (hb : PX X b Fb) : PX X (.Compare a [.Eq] [b] pos) (wOp oEq Fa Fb) := px_cmp op_eq rv_eq ha hb (nomark _)
theorem px_ne (ha : PX X a Fa) (hb : PX X b Fb) : PX X (.Compare a [.NotEq] [b] pos) (wOp oNe Fa Fb) := px_cmp op_ne rv_ne ha hb (nomark _)
theorem pq_eq (ha : PX X a Fa) (hb : PX X b Fb) : PQ X (.Compare a [.Eq] [b] pos) (wTest (wOp oEq Fa Fb)) := pq_cmp op_eq rv_eq ha hb (nomark _)
theorem pq_ne (ha : PX X a Fa) (hb : PX X b Fb) : PQ X (.Compare a [.NotEq] [b] pos) (wTest (wOp oNe Fa Fb)) := pq_cmp op_ne rv_ne ha hb (nomark _)
theorem isN_ok {G : Hp} {x : D} {v : V} (r : Rp K G x v) : decide (v = .non) = isNonD x := by
  cases x with
  | non => have r' : v = _ := r; subst r'; rfl
  | bl _ => have r' : v = _ := r; subst r'; simp [isNonD]
  | int _ => have r' : v = _ := r; subst r'; simp [isNonD]
  | str _ => have r' : v = _ := r; subst r'; simp [isNonD]
  | adr _ => have r' : v = _ := r; subst r'; simp [isNonD]
  | lst _ => obtain ⟨_, _, rfl, _⟩ := r; simp [isNonD]
  | tup _ => obtain ⟨_, _, rfl, _⟩ := r; simp [isNonD]
  | rd _ => obtain ⟨_, _, rfl, _⟩ := r; simp [isNonD]
  | obj _ _ _ => obtain ⟨_, _, _, rfl, _⟩ := r; simp [isNonD]
theorem rv_isN : RV K (fun x y H Q => y = .non ∧ Q (.bl (decide (x = .non))) H) oIsN := by
  intro G H x y d1 d2 P Q e r1 r2 hf k
  cases d2 with
  | non => exact ⟨r2, by rw [isN_ok r1]; exact k _ _ (show Rp K G (.bl (isNonD d1)) (.bl (isNonD d1)) from rfl) hf⟩
  | _ => exact (show False from hf).elim
theorem rv_isNot : RV K (fun x y H Q => y = .non ∧ Q (.bl (!decide (x = .non))) H) oIsNot := by
  intro G H x y d1 d2 P Q e r1 r2 hf k
  cases d2 with
  | non => exact ⟨r2, by rw [isN_ok r1]; exact k _ _ (show Rp K G (.bl (!isNonD d1)) (.bl (!isNonD d1)) from rfl) hf⟩
  | _ => exact (show False from hf).elim
theorem px_isN (ha : PX X a Fa) (hb : PX X b Fb) : PX X (.Compare a [.Is] [b] pos) (wOp oIsN Fa Fb) := px_cmp op_isN rv_isN ha hb (nomark _)
theorem px_isNot (ha : PX X a Fa) (hb : PX X b Fb) : PX X (.Compare a [.IsNot] [b] pos) (wOp oIsNot Fa Fb) := px_cmp op_notN rv_isNot ha hb (nomark _)
theorem pq_isN (ha : PX X a Fa) (hb : PX X b Fb) : PQ X (.Compare a [.Is] [b] pos) (wTest (wOp oIsN Fa Fb)) := pq_cmp op_isN rv_isN ha hb (nomark _)
theorem pq_isNot (ha : PX X a Fa) (hb : PX X b Fb) : PQ X (.Compare a [.IsNot] [b] pos) (wTest (wOp oIsNot Fa Fb)) := pq_cmp op_notN rv_isNot ha hb (nomark _)
end

/-! ### texts -/
def oAddS : D → D → (D → Prop) → Prop
  | .str i, .str j, P => i.length + j.length ≤ 16777216 ∧ P (.str (i ++ j))
  | _, _, _ => False
def oLeS : D → D → (D → Prop) → Prop
  | .str i, .str j, P => P (.bl (!decide (j.cps.toList < i.cps.toList)))
  | _, _, _ => False
def oLtS : D → D → (D → Prop) → Prop
  | .str i, .str j, P => P (.bl (decide (i.cps.toList < j.cps.toList)))
  | _, _, _ => False
/-- one sign in a text -/
def oInS : D → D → (D → Prop) → Prop
  | .str x, .str z, P => ∃ c, x = ⟨#[c]⟩ ∧ P (.bl (decide (c ∈ z.cps.toList)))
  | _, _, _ => False
def oNotInS : D → D → (D → Prop) → Prop
  | .str x, .str z, P => ∃ c, x = ⟨#[c]⟩ ∧ P (.bl (!decide (c ∈ z.cps.toList)))
  | _, _, _ => False
section
variable {K : PySem.W.Frag} {X : Cx} {a b : Expr} {pos : Pos} {Fa Fb : WE}
theorem px_addS (ha : PX X a Fa) (hb : PX X b Fb) : PX X (.BinOp a .Add b pos) (wOp oAddS Fa Fb) := px_op op_add_str (fun G H x y d1 d2 P Q e r1 r2 hf k => by
  cases d1 <;> cases d2 <;> first
    | (obtain ⟨h1, h2⟩ := hf; exact ⟨_, _, r1, r2, by rw [sizeLine_eq]; exact h1, k _ _ (show Rp X.K G (.str _) (.str _) from rfl) h2⟩)
    | exact (show False from hf).elim) ha hb
theorem rv_leS : RV K (fun x y H Q => ∃ i j, x = .str i ∧ y = .str j ∧ Q (.bl (!decide (j.cps.toList < i.cps.toList))) H) oLeS := fun G H x y d1 d2 P Q e r1 r2 hf k => by
  cases d1 <;> cases d2 <;> first
    | (exact ⟨_, _, r1, r2, k _ _ (show Rp K G (.bl _) (.bl _) from rfl) hf⟩)
    | exact (show False from hf).elim
theorem rv_ltS : RV K (fun x y H Q => ∃ i j, x = .str i ∧ y = .str j ∧ Q (.bl (decide (i.cps.toList < j.cps.toList))) H) oLtS := fun G H x y d1 d2 P Q e r1 r2 hf k => by
  cases d1 <;> cases d2 <;> first
    | (exact ⟨_, _, r1, r2, k _ _ (show Rp K G (.bl _) (.bl _) from rfl) hf⟩)
    | exact (show False from hf).elim
theorem px_leS (ha : PX X a Fa) (hb : PX X b Fb) : PX X (.Compare a [.LtE] [b] pos) (wOp oLeS Fa Fb) := px_cmp op_le_str rv_leS ha hb (nomark _)
theorem rv_inS : RV K (fun x y H Q => ∃ (c : Nat) (z : Str), x = .str ⟨#[c]⟩ ∧ y = .str z ∧ Q (.bl (decide (c ∈ z.cps.toList))) H) oInS := fun G H x y d1 d2 P Q e r1 r2 hf k => by
  cases d1 <;> cases d2 <;> first
    | (obtain ⟨c, rfl, hp⟩ := hf; exact ⟨c, _, r1, r2, k _ _ (show Rp K G (.bl _) (.bl _) from rfl) hp⟩)
    | exact (show False from hf).elim
theorem rv_notInS : RV K (fun x y H Q => ∃ (c : Nat) (z : Str), x = .str ⟨#[c]⟩ ∧ y = .str z ∧ Q (.bl (!decide (c ∈ z.cps.toList))) H) oNotInS := fun G H x y d1 d2 P Q e r1 r2 hf k => by
  cases d1 <;> cases d2 <;> first
    | (obtain ⟨c, rfl, hp⟩ := hf; exact ⟨c, _, r1, r2, k _ _ (show Rp K G (.bl _) (.bl _) from rfl) hp⟩)
    | exact (show False from hf).elim
theorem px_inS (ha : PX X a Fa) (hb : PX X b Fb) (hm : behindInMarks .In b = false := by rfl) : PX X (.Compare a [.In] [b] pos) (wOp oInS Fa Fb) := px_cmp op_in_sign rv_inS ha hb hm
theorem pq_inS (ha : PX X a Fa) (hb : PX X b Fb) (hm : behindInMarks .In b = false := by rfl) : PQ X (.Compare a [.In] [b] pos) (wTest (wOp oInS Fa Fb)) := pq_cmp op_in_sign rv_inS ha hb hm
theorem px_notInS (ha : PX X a Fa) (hb : PX X b Fb) (hm : behindInMarks .NotIn b = false := by rfl) : PX X (.Compare a [.NotIn] [b] pos) (wOp oNotInS Fa Fb) := px_cmp op_notIn_sign rv_notInS ha hb hm
theorem pq_notInS (ha : PX X a Fa) (hb : PX X b Fb) (hm : behindInMarks .NotIn b = false := by rfl) : PQ X (.Compare a [.NotIn] [b] pos) (wTest (wOp oNotInS Fa Fb)) := pq_cmp op_notIn_sign rv_notInS ha hb hm
end

/-! ### data at any depth: ==, != -/
mutual
def D.py : D → Option PyData
  | .non => some .none
  | .bl b => some (.bool b)
  | .int i => some (.int i)
  | .str x => some (.str x)
  | .lst xs => (D.pys xs).map .list
  | .rd xs => (D.pys xs).map .list
  | .tup xs => (D.pys xs).map .tuple
  | _ => none
def D.pys : List D → Option (List PyData)
  | [] => some []
  | x :: r => match D.py x, D.pys r with
    | some y, some ys => some (y :: ys)
    | _, _ => none
end
section
variable {K : PySem.W.Frag} {G : Hp}
mutual
theorem Rp.dp : ∀ (d : D) (v : V) (q : PyData), Rp K G d v → d.py = some q → Dp K G v q
  | .non, v, q, r, e => by cases (show v = _ from r); cases e; exact .non
  | .bl b, v, q, r, e => by cases (show v = _ from r); cases e; exact .bl b
  | .int i, v, q, r, e => by cases (show v = _ from r); cases e; exact .int i
  | .str x, v, q, r, e => by cases (show v = _ from r); cases e; exact .str x
  | .lst xs, v, q, r, e => by
    obtain ⟨a, vs, rfl, h1, h2⟩ := r
    obtain ⟨ys, e1, rfl⟩ := Option.map_eq_some_iff.mp (show (D.pys xs).map .list = some q from e)
    exact .lst (Evl.sq_of h1) (RpAll.dp xs vs ys h2 e1)
  | .rd xs, v, q, r, e => by
    obtain ⟨a, vs, rfl, h1, h2⟩ := r
    obtain ⟨ys, e1, rfl⟩ := Option.map_eq_some_iff.mp (show (D.pys xs).map .list = some q from e)
    exact .lst h1 (RpAll.dp xs vs ys h2 e1)
  | .tup xs, v, q, r, e => by
    obtain ⟨a, vs, rfl, h1, h2⟩ := r
    obtain ⟨ys, e1, rfl⟩ := Option.map_eq_some_iff.mp (show (D.pys xs).map .tuple = some q from e)
    exact .tup h1 (RpAll.dp xs vs ys h2 e1)
  | .obj _ _ _, _, _, _, e => by cases e
  | .adr _, _, _, _, e => by cases e
theorem RpAll.dp : ∀ (ds : List D) (vs : List V) (qs : List PyData), RpAll K G ds vs → D.pys ds = some qs → DpAll K G vs qs
  | [], vs, qs, r, e => by cases (show vs = [] from r); cases e; exact .nil
  | d :: ds, vs, qs, r, e => by
    obtain ⟨v, ws, rfl, r1, r2⟩ := r
    have e : (match D.py d, D.pys ds with
      | some y, some ys => some (y :: ys)
      | _, _ => none) = some qs := e
    cases h1 : D.py d with
    | none => rw [h1] at e; cases e
    | some y =>
      cases h2 : D.pys ds with
      | none => rw [h1, h2] at e; cases e
      | some ys =>
        rw [h1, h2] at e
        cases e
        exact .cons (Rp.dp d v y r1 h1) (RpAll.dp ds ws ys r2 h2)
end
mutual
theorem Dp.mono {H : Hp} (e : Ex G H) : ∀ (q : PyData) (v : V), Dp K G v q → Dp K H v q
  | .none, _, h => by cases h; exact .non
  | .bool _, _, h => by cases h; exact .bl _
  | .int _, _, h => by cases h; exact .int _
  | .str _, _, h => by cases h; exact .str _
  | .list qs, _, h => by
    cases h with
    | lst h1 h2 => exact .lst (Evl.ex_l e h1) (DpAll.mono e qs _ h2)
  | .tuple qs, _, h => by
    cases h with
    | tup h1 h2 => exact .tup (Evl.ex_t e h1) (DpAll.mono e qs _ h2)
  | .dict _, _, h => by cases h
theorem DpAll.mono {H : Hp} (e : Ex G H) : ∀ (qs : List PyData) (vs : List V), DpAll K G vs qs → DpAll K H vs qs
  | [], _, h => by cases h; exact .nil
  | q :: qs, _, h => by
    cases h with
    | cons h1 h2 => exact .cons (Dp.mono e q _ h1) (DpAll.mono e qs _ h2)
end
end
def oEqD (x y : D) (P : D → Prop) : Prop := match x.py, y.py with
  | some a, some b => SeqAt.shaped a = true ∧ SeqAt.shaped b = true ∧ P (.bl (PyData.eqv a b))
  | _, _ => False
def oNeD (x y : D) (P : D → Prop) : Prop := match x.py, y.py with
  | some a, some b => SeqAt.shaped a = true ∧ SeqAt.shaped b = true ∧ P (.bl (!PyData.eqv a b))
  | _, _ => False
/-- the left side a list of one's own, by its name -/
def ownL (s : DS) (i : Nat) (P : List D → Prop) : Prop := match nth s i with
  | .own _ xs => P xs
  | _ => False
def scD : D → Prop
  | .bl _ => True
  | .int _ => True
  | .str _ => True
  | .non => True
  | _ => False
def wOpL (i : Nat) (f : D → D → (D → Prop) → Prop) (Fb : WE) : WE := fun s P => isOwn s i ∧ Fb s fun y s1 => ownL s1 i fun xs => f (.lst xs) y fun d => scD d ∧ P d s1
section
variable {K : PySem.W.Frag} {X : Cx} {a b : Expr} {pos : Pos} {Fa Fb : WE}
theorem rv_eqD : RV K (rEqD K) oEqD := fun G H x y d1 d2 P Q e r1 r2 hf k => by
  unfold oEqD at hf
  split at hf
  · rename_i p q h1 h2
    exact ⟨p, q, Dp.mono e _ _ (Rp.dp _ _ _ r1 h1), Dp.mono e _ _ (Rp.dp _ _ _ r2 h2), hf.1, hf.2.1, k _ _ (show Rp K G (.bl _) (.bl _) from rfl) hf.2.2⟩
  · exact hf.elim
theorem rv_neD : RV K (rNeD K) oNeD := fun G H x y d1 d2 P Q e r1 r2 hf k => by
  unfold oNeD at hf
  split at hf
  · rename_i p q h1 h2
    exact ⟨p, q, Dp.mono e _ _ (Rp.dp _ _ _ r1 h1), Dp.mono e _ _ (Rp.dp _ _ _ r2 h2), hf.1, hf.2.1, k _ _ (show Rp K G (.bl _) (.bl _) from rfl) hf.2.2⟩
  · exact hf.elim
theorem px_eqD {k : Nat} (hr : Room k X.A) (ha : PX X a Fa) (hb : PX X b Fb) : PX X (.Compare a [.Eq] [b] pos) (wOp oEqD Fa Fb) := px_cmp (op_eqD (by have := hr.un; omega)) rv_eqD ha hb (nomark _)
theorem px_neD {k : Nat} (hr : Room k X.A) (ha : PX X a Fa) (hb : PX X b Fb) : PX X (.Compare a [.NotEq] [b] pos) (wOp oNeD Fa Fb) := px_cmp (op_neD (by have := hr.un; omega)) rv_neD ha hb (nomark _)
theorem pq_eqD {k : Nat} (hr : Room k X.A) (ha : PX X a Fa) (hb : PX X b Fb) : PQ X (.Compare a [.Eq] [b] pos) (wTest (wOp oEqD Fa Fb)) := pq_cmp (op_eqD (by have := hr.un; omega)) rv_eqD ha hb (nomark _)
theorem pq_neD {k : Nat} (hr : Room k X.A) (ha : PX X a Fa) (hb : PX X b Fb) : PQ X (.Compare a [.NotEq] [b] pos) (wTest (wOp oNeD Fa Fb)) := pq_cmp (op_neD (by have := hr.un; omega)) rv_neD ha hb (nomark _)
theorem ed_opL {r : R2} {f : D → D → (D → Prop) → Prop} (hr : RV K r f) (i : Nat) {tb : TE} (hb : ∀ c s P, Fb s P → ED K c tb s P) : ∀ c s P, wOpL i f Fb s P → ED K c (tOp r (tVar i) tb) s P := fun c s P ⟨ho, hf⟩ G σ H Q A k => by
  unfold isOwn at ho
  cases h : nth s i with
  | own io xs =>
    obtain ⟨l, ws, e1, _⟩ := A.so i io xs h
    refine ⟨_, e1, ?_⟩
    refine hb c s _ hf G σ H _ A fun u y s1 G1 H1 st A1 r2 hp => ?_
    unfold ownL at hp
    cases h1 : nth s1 i with
    | own io1 xs1 =>
      rw [h1] at hp
      obtain ⟨l1, ws1, p1, p2, p3, p4, _⟩ := A1.so i io1 xs1 h1
      rw [e1] at p1
      cases p1
      have eg : Ex G1 (upd G1 l (.lst ws1)) := ex_upd p2
      have gh : Ex (upd G1 l (.lst ws1)) H1 := fun a o q => by
        by_cases ha : a = l
        · subst ha; rw [upd_same] at q; rw [p3]; exact q
        · rw [upd_ne ha] at q; exact A1.gh a o q
      refine hr (upd G1 l (.lst ws1)) H1 (.ref l) u (.lst xs1) y _ Q gh ⟨l, ws1, rfl, upd_same, RpAll.mono eg xs1 ws1 p4⟩ (Rp.mono eg y u r2) hp fun v d rd ⟨sc, hP⟩ => ?_
      refine k v d s1 G1 H1 st A1 ?_ hP
      cases d <;> first | exact rd | exact sc.elim
    | _ => rw [h1] at hp; exact hp.elim
  | _ => rw [h] at ho; exact ho.elim
theorem pq_cmpL {op : CmpOp} {r : R2} {f : D → D → (D → Prop) → Prop} (ho : OpR X (compareOp op) r) (hr : RV X.K r f) (i : Nat) {x : Str} {pos' : Pos} (hb : PX X b Fb) (hm : behindInMarks op b = false) (hN : X.N[i]? = some x := by rfl) (hv : Vis X.env.scope x := by first | exact Or.inl rfl | exact Or.inr (Or.inl rfl) | exact Or.inr (Or.inr rfl)) (hd : (x == ("__debug__" : Str)) = false := by decide)
    (hcd : (x == ("__classdict__" : Str)) = false := by decide) : PQ X (.Compare (.Name x pos') [op] [b] pos) (wTest (wOpL i f Fb)) := by
  obtain ⟨tb, b1, b2⟩ := hb.ex
  exact ⟨_, pt_cmpR ho (pe_var hN hv hd hcd) b1 hm, td_test (ed_opL hr i b2)⟩
theorem px_cmpL {op : CmpOp} {r : R2} {f : D → D → (D → Prop) → Prop} (ho : OpR X (compareOp op) r) (hr : RV X.K r f) (i : Nat) {x : Str} {pos' : Pos} (hb : PX X b Fb) (hm : behindInMarks op b = false) (hN : X.N[i]? = some x := by rfl) (hv : Vis X.env.scope x := by first | exact Or.inl rfl | exact Or.inr (Or.inl rfl) | exact Or.inr (Or.inr rfl)) (hd : (x == ("__debug__" : Str)) = false := by decide)
    (hcd : (x == ("__classdict__" : Str)) = false := by decide) : PX X (.Compare (.Name x pos') [op] [b] pos) (wOpL i f Fb) := by
  obtain ⟨tb, b1, b2⟩ := hb.ex
  exact ⟨_, pe_cmpR ho (pe_var hN hv hd hcd) b1 hm, ed_opL hr i b2⟩
end
end DL
namespace DL
open PySem L2
open Evl (Ex Ex.refl Ex.trans Ex.new)

/-! ### lists: +, * -/
def oCat : D → D → (List D → Prop) → Prop
  | .lst xs, .lst ys, P => xs.length + ys.length ≤ 16777216 ∧ P (xs ++ ys)
  | _, _, _ => False
def oRepL : D → D → (List D → Prop) → Prop
  | .lst xs, .int k, P => (-(2 ^ 63) ≤ k ∧ k < 2 ^ 63 ∧ xs.length * k.toNat ≤ 16777216) ∧ P (List.replicate k.toNat xs).flatten
  | _, _, _ => False
section
variable {K : PySem.W.Frag} {X : Cx} {a b : Expr} {pos : Pos} {Fa Fb : WE}
theorem RpAll.flat {G : Hp} {xs : List D} {vs : List V} (h : RpAll K G xs vs) : ∀ n, RpAll K G (List.replicate n xs).flatten (List.replicate n vs).flatten
  | 0 => rfl
  | n + 1 => by
    rw [List.replicate_succ, List.replicate_succ, List.flatten_cons, List.flatten_cons]
    exact h.append (RpAll.flat h n)
theorem po_cat (ha : PX X a Fa) (hb : PX X b Fb) : PO X (.BinOp a .Add b pos) (wOpO oCat Fa Fb) := po_op op_cat (fun G H x y d1 d2 P Q e r1 r2 hf k => by
  cases d1 <;> first
    | exact (show False from hf).elim
    | (cases d2 <;> first
        | exact (show False from hf).elim
        | (obtain ⟨hz, hp⟩ := hf
           obtain ⟨l, vs, rfl, h1, h2⟩ := r1
           obtain ⟨l', ws, rfl, h1', h2'⟩ := r2
           exact ⟨l, l', vs, ws, rfl, rfl, e l _ h1, e l' _ h1', by rw [sizeLine_eq, h2.len, h2'.len]; exact hz, fun p hp1 => k p _ _ hp1 (h2.append h2') hp⟩))) ha hb
theorem po_rep (ha : PX X a Fa) (hb : PX X b Fb) : PO X (.BinOp a .Mult b pos) (wOpO oRepL Fa Fb) := po_op op_rep (fun G H x y d1 d2 P Q e r1 r2 hf k => by
  cases d1 <;> first
    | exact (show False from hf).elim
    | (cases d2 <;> first
        | exact (show False from hf).elim
        | (obtain ⟨⟨h1, h2, hz⟩, hp⟩ := hf
           obtain ⟨l, vs, rfl, q1, q2⟩ := r1
           exact ⟨l, _, vs, rfl, r2, e l _ q1, h1, h2, by rw [sizeLine_eq, q2.len]; exact hz, fun p hp1 => k p _ _ hp1 (q2.flat _) hp⟩))) ha hb
end

/-! ### subscripts -/
def pick (xs : List D) (i : Int) (P : D → Prop) : Prop := match atI xs i with
  | some d => P d
  | none => False
def oIx : D → D → (D → Prop) → Prop
  | .lst xs, .int i, P => pick xs i P
  | .rd xs, .int i, P => pick xs i P
  | .tup xs, .int i, P => pick xs i P
  | .str z, .int i, P => z.length ≤ 16777216 ∧ (match atI z.cps.toList i with
    | some c => P (.str ⟨#[c]⟩)
    | none => False)
  | _, _, _ => False
theorem atI_rp {K : PySem.W.Frag} {G : Hp} {xs : List D} {vs : List V} {i : Int} {d : D} (r : RpAll K G xs vs) (h : atI xs i = some d) : ∃ v, atI vs i = some v ∧ Rp K G d v := by
  unfold atI at h ⊢
  rw [r.len]
  obtain ⟨j, h1, h2⟩ := Option.bind_eq_some_iff.mp h
  obtain ⟨v, h3, h4⟩ := r.get h2
  exact ⟨v, by rw [h1]; exact h3, h4⟩
section
variable {K : PySem.W.Frag} {X : Cx} {a b : Expr} {pos : Pos} {Fa Fb : WE}
theorem rv_ix : RV K (rIx K) oIx := fun G H x y d1 d2 P Q e r1 r2 hf k => by
  cases d1 <;> cases d2 <;> try exact (show False from hf).elim
  · obtain ⟨hz, hp⟩ := hf
    split at hp
    · rename_i c hc
      exact .inr (.inr ⟨_, _, c, r1, r2, by rw [sizeLine_eq]; exact hz, hc, k _ _ (show Rp K G (.str _) (.str _) from rfl) hp⟩)
    · exact hp.elim
  · have hf : pick _ _ P := hf
    unfold pick at hf
    split at hf
    · rename_i d hd
      obtain ⟨l, vs, rfl, h1, h2⟩ := r1
      obtain ⟨v, q1, q2⟩ := atI_rp h2 hd
      exact .inl ⟨l, vs, _, v, rfl, r2, Evl.sq_of (e l _ h1), q1, k _ _ q2 hf⟩
    · exact hf.elim
  · have hf : pick _ _ P := hf
    unfold pick at hf
    split at hf
    · rename_i d hd
      obtain ⟨l, vs, rfl, h1, h2⟩ := r1
      obtain ⟨v, q1, q2⟩ := atI_rp h2 hd
      exact .inr (.inl ⟨l, vs, _, v, rfl, r2, Evl.ex_t e h1, q1, k _ _ q2 hf⟩)
    · exact hf.elim
  · have hf : pick _ _ P := hf
    unfold pick at hf
    split at hf
    · rename_i d hd
      obtain ⟨l, vs, rfl, h1, h2⟩ := r1
      obtain ⟨v, q1, q2⟩ := atI_rp h2 hd
      exact .inl ⟨l, vs, _, v, rfl, r2, Evl.ex_l e h1, q1, k _ _ q2 hf⟩
    · exact hf.elim
theorem px_ix (ha : PX X a Fa) (hb : PX X b Fb) (hs : PlainIx b := by intro _ _; rfl) : PX X (.Subscript a b pos) (wOp oIx Fa Fb) := by
  obtain ⟨ta, a1, a2⟩ := ha.ex
  obtain ⟨tb, b1, b2⟩ := hb.ex
  exact ⟨_, pe_ix ix_seq a1 b1 hs, ed_op rv_ix a2 b2⟩
/-- found[..], found a list of one's own -/
def wIxO (i : Nat) (Fb : WE) : WE := fun s P => isOwn s i ∧ Fb s fun y s1 => ownL s1 i fun xs => match y with
  | .int j => pick xs j fun d => P d s1
  | _ => False
theorem px_ixO (i : Nat) {x : Str} {pos' : Pos} (hb : PX X b Fb) (hs : PlainIx b := by intro _ _; rfl) (hN : X.N[i]? = some x := by rfl) (hv : Vis X.env.scope x := by first | exact Or.inl rfl | exact Or.inr (Or.inl rfl) | exact Or.inr (Or.inr rfl)) (hd : (x == ("__debug__" : Str)) = false := by decide)
    (hcd : (x == ("__classdict__" : Str)) = false := by decide) : PX X (.Subscript (.Name x pos') b pos) (wIxO i Fb) := by
  obtain ⟨tb, b1, b2⟩ := hb.ex
  refine ⟨_, pe_ix ix_list (pe_var hN hv hd hcd) b1 hs, fun c s P ⟨ho, hf⟩ G σ H Q A k => ?_⟩
  unfold isOwn at ho
  cases h : nth s i with
  | own io xs =>
    obtain ⟨l, ws, e1, _⟩ := A.so i io xs h
    refine ⟨_, e1, ?_⟩
    refine b2 c s _ hf G σ H _ A fun u y s1 G1 H1 st A1 r2 hp => ?_
    unfold ownL at hp
    cases h1 : nth s1 i with
    | own io1 xs1 =>
      rw [h1] at hp
      obtain ⟨l1, ws1, p1, p2, p3, p4, _⟩ := A1.so i io1 xs1 h1
      rw [e1] at p1
      cases p1
      cases y with
      | int j =>
        have hp : pick xs1 j _ := hp
        unfold pick at hp
        split at hp
        · rename_i d hd
          obtain ⟨v, q1, q2⟩ := atI_rp p4 hd
          exact ⟨l, ws1, j, v, rfl, r2, Evl.sq_of p3, q1, k v d s1 G1 H1 st A1 q2 hp⟩
        · exact hp.elim
      | _ => exact (show False from hp).elim
    | _ => rw [h1] at hp; exact hp.elim
  | _ => rw [h] at ho; exact ho.elim

/-! ### slices -/
abbrev WP := DS → (Option Int → DS → Prop) → Prop
def OD (K : PySem.W.Frag) (c : Cc) (t : TO) (s : DS) (P : Option Int → DS → Prop) : Prop := ∀ G σ H (Q : Option Int → Hp → Prop), At K c G s σ H →
  (∀ o s' G' H', Stp s σ G H s' G' H' → At K c G' s' σ H' → P o s' → Q o H') → t σ H Q
structure PP (X : Cx) (e : Option Expr) (F : WP) : Prop where
  ex : ∃ t, L2.PO X e t ∧ ∀ c s P, F s P → OD X.K c t s P
def wpN : WP := fun s P => P none s
def wpS (F : WE) : WP := fun s P => F s fun d s1 => match d with
  | .int i => P (some i) s1
  | _ => False
theorem pp_n : PP X none wpN := ⟨_, po_none, fun c s P hf G σ H Q A k => k none s G H Stp.refl A hf⟩
theorem pp_s {F : WE} (h : PX X a F) : PP X (some a) (wpS F) := by
  obtain ⟨ta, a1, a2⟩ := h.ex
  refine ⟨_, po_some a1, fun c s P hf G σ H Q A k => ?_⟩
  refine a2 c s _ hf G σ H _ A fun v d s1 G1 H1 e1 A1 r1 hp => ?_
  cases d with
  | int i => exact ⟨i, r1, k _ s1 G1 H1 e1 A1 hp⟩
  | _ => exact (show False from hp).elim
/-- the items of xs[lo:hi] -/
def cutD {α : Type} (xs : List α) (lo hi : Option Int) : List α := (xs.drop (HT.sIx xs.length 0 lo)).take (HT.sIx xs.length xs.length hi - HT.sIx xs.length 0 lo)
theorem cut_rp {G : Hp} {xs : List D} {vs : List V} (r : RpAll K G xs vs) (lo hi : Option Int) : RpAll K G (cutD xs lo hi) (cutV vs lo hi) := by
  unfold cutD cutV
  rw [r.len]
  exact (r.drop _).take _
def wSlL (Fa : WE) (Fl Fh : WP) : WO := fun s P => Fa s fun x s1 => Fl s1 fun lo s2 => Fh s2 fun hi s3 => asL x fun xs => P (cutD xs lo hi) s3
def wSlS (Fa : WE) (Fl Fh : WP) : WE := fun s P => Fa s fun x s1 => Fl s1 fun lo s2 => Fh s2 fun hi s3 => asS x fun z => z.length ≤ 16777216 ∧ P (.str (cutS z lo hi)) s3
def wSlT (Fa : WE) (Fl Fh : WP) : WE := fun s P => Fa s fun x s1 => Fl s1 fun lo s2 => Fh s2 fun hi s3 => asT x fun xs => P (.tup (cutD xs lo hi)) s3
variable {lo hi : Option Expr} {p2 : Pos} {Fl Fh : WP}
theorem po_sl (ha : PX X a Fa) (hl : PP X lo Fl) (hh : PP X hi Fh) : PO X (.Subscript a (.Slice lo hi none p2) pos) (wSlL Fa Fl Fh) := by
  obtain ⟨ta, a1, a2⟩ := ha.ex
  obtain ⟨tl, l1, l2⟩ := hl.ex
  obtain ⟨th, h1, h2⟩ := hh.ex
  refine ⟨_, pe_slice sl_list a1 l1 h1, fun c s P hf G σ H Q A k => ?_⟩
  refine a2 c s _ hf G σ H _ A fun v d s1 G1 H1 e1 A1 r1 hp => ?_
  refine l2 c s1 _ hp G1 σ H1 _ A1 fun o1 s2 G2 H2 e2 A2 hp => ?_
  refine h2 c s2 _ hp G2 σ H2 _ A2 fun o2 s3 G3 H3 e3 A3 hp => ?_
  obtain ⟨l, vs, xs, rfl, q1, q2, hp, _⟩ := asL_ok (Rp.mono (e2.trans e3).eg d v r1) hp
  refine ⟨l, vs, rfl, Evl.ex_l A3.gh q1, fun p hp1 => ?_⟩
  exact k p _ s3 G3 _ (((e1.trans e2).trans e3).trans (Stp.new hp1 (Ex.refl G3) fun _ _ q => .inl q)) (A3.lay hp1) (Mine.new A3 hp1 (cut_rp q2 o1 o2)) (New.back ((e1.trans e2).trans e3) (.inl hp1)) hp
theorem px_slS (ha : PX X a Fa) (hl : PP X lo Fl) (hh : PP X hi Fh) : PX X (.Subscript a (.Slice lo hi none p2) pos) (wSlS Fa Fl Fh) := by
  obtain ⟨ta, a1, a2⟩ := ha.ex
  obtain ⟨tl, l1, l2⟩ := hl.ex
  obtain ⟨th, h1, h2⟩ := hh.ex
  refine ⟨_, pe_slice sl_str a1 l1 h1, fun c s P hf G σ H Q A k => ?_⟩
  refine a2 c s _ hf G σ H _ A fun v d s1 G1 H1 e1 A1 r1 hp => ?_
  refine l2 c s1 _ hp G1 σ H1 _ A1 fun o1 s2 G2 H2 e2 A2 hp => ?_
  refine h2 c s2 _ hp G2 σ H2 _ A2 fun o2 s3 G3 H3 e3 A3 hp => ?_
  cases d with
  | str z =>
    obtain ⟨hz, hp⟩ := hp
    exact ⟨z, r1, by rw [sizeLine_eq]; exact hz, k _ _ s3 G3 H3 ((e1.trans e2).trans e3) A3 (show Rp X.K G3 (.str _) (.str _) from rfl) hp⟩
  | _ => exact (show False from hp).elim
theorem px_slT (ha : PX X a Fa) (hl : PP X lo Fl) (hh : PP X hi Fh) : PX X (.Subscript a (.Slice lo hi none p2) pos) (wSlT Fa Fl Fh) := by
  obtain ⟨ta, a1, a2⟩ := ha.ex
  obtain ⟨tl, l1, l2⟩ := hl.ex
  obtain ⟨th, h1, h2⟩ := hh.ex
  refine ⟨_, pe_slice sl_tupA a1 l1 h1, fun c s P hf G σ H Q A k => ?_⟩
  refine a2 c s _ hf G σ H _ A fun v d s1 G1 H1 e1 A1 r1 hp => ?_
  refine l2 c s1 _ hp G1 σ H1 _ A1 fun o1 s2 G2 H2 e2 A2 hp => ?_
  refine h2 c s2 _ hp G2 σ H2 _ A2 fun o2 s3 G3 H3 e3 A3 hp => ?_
  cases d with
  | tup xs =>
    obtain ⟨l, vs, rfl, q1, q2⟩ := Rp.mono (e2.trans e3).eg _ v r1
    have E := (e1.trans e2).trans e3
    refine ⟨l, vs, rfl, Evl.ex_t A3.gh q1, fun hw => ?_, fun _ p hp1 => ?_⟩
    · refine k (.ref l) (.tup (cutD xs o1 o2)) s3 G3 H3 E A3 ⟨l, vs, rfl, q1, ?_⟩ hp
      have c1 := cut_rp q2 o1 o2
      have c2 : cutV vs o1 o2 = vs := by
        unfold cutV
        rw [hw.1, hw.2, List.drop_zero, Nat.sub_zero, List.take_length]
      rw [c2] at c1
      exact c1
    · have g := none_of_ex A3.gh hp1
      exact k (.ref p) (.tup (cutD xs o1 o2)) s3 _ _ (E.trans (Stp.new hp1 (ex_upd g) upd_fr)) (A3.alloc hp1) ⟨p, _, rfl, Evl.st_of upd_same, RpAll.mono (ex_upd g) _ _ (cut_rp q2 o1 o2)⟩ hp
  | _ => exact (show False from hp).elim
end

/-! ### built-ins by name -/
def RC (K : PySem.W.Frag) (r : List V → Hp → VK → Prop) (f : List D → (D → Prop) → Prop) : Prop := ∀ (G H : Hp) (vs : List V) (ds : List D) (P : D → Prop) (Q : VK), Ex G H → RpAll K G ds vs → f ds P → (∀ v d, Rp K G d v → P d → Q v H) → r vs H Q
def RCO (K : PySem.W.Frag) (r : List V → Hp → VK → Prop) (f : List D → (List D → Prop) → Prop) : Prop := ∀ (G H : Hp) (vs : List V) (ds : List D) (P : List D → Prop) (Q : VK), Ex G H → RpAll K G ds vs → f ds P → (∀ p ws xs, H p = none → RpAll K G xs ws → P xs → Q (.ref p) (upd H p (.lst ws))) → r vs H Q
def wCB (f : List D → (D → Prop) → Prop) (R : WA) : WE := fun s P => R s fun as s1 => allD as fun xs => f xs fun d => P d s1
def wCBO (f : List D → (List D → Prop) → Prop) (R : WA) : WO := fun s P => R s fun as s1 => allD as fun xs => f xs fun d => P d s1
/-- .. of one list of one's own, by its name: a scalar comes -/
def wCBo (f : List D → (D → Prop) → Prop) (i : Nat) : WE := fun s P => ownL s i fun xs => f [.lst xs] fun d => scD d ∧ P d s
section
variable {K : PySem.W.Frag} {X : Cx} {e : Expr} {es : List Expr} {pos p : Pos} {x : Str} {R : WA} {id T : String}
theorem ed_cb {r : List V → Hp → VK → Prop} {f : List D → (D → Prop) → Prop} (hr : RC K r f) {ta : TA} (ha : ∀ c s P, R s P → AD K c ta s P) : ∀ c s P, wCB f R s P → ED K c (tCB r ta) s P := fun c s P hf G σ H Q A k =>
  ha c s _ hf G σ H _ A fun vs as s1 G1 H1 e1 A1 r1 hp => by
    obtain ⟨xs, rx, hp⟩ := allD_ok r1 hp
    exact hr G1 H1 vs xs _ Q A1.gh rx hp fun v d rd hP => k v d s1 G1 H1 e1 A1 rd hP
theorem eo_cb {r : List V → Hp → VK → Prop} {f : List D → (List D → Prop) → Prop} (hr : RCO K r f) {ta : TA} (ha : ∀ c s P, R s P → AD K c ta s P) : ∀ c s P, wCBO f R s P → EO K c (tCB r ta) s P := fun c s P hf G σ H Q A k =>
  ha c s _ hf G σ H _ A fun vs as s1 G1 H1 e1 A1 r1 hp => by
    obtain ⟨xs, rx, hp⟩ := allD_ok r1 hp
    exact hr G1 H1 vs xs _ Q A1.gh rx hp fun p ws ys hp1 rd hP => k p ys s1 G1 _ (e1.trans (Stp.new hp1 (Ex.refl G1) fun _ _ q => .inl q)) (A1.lay hp1) (Mine.new A1 hp1 rd) (New.back e1 (.inl hp1)) hP
theorem ed_cbo {r : List V → Hp → VK → Prop} {f : List D → (D → Prop) → Prop} (hr : RC K r f) (i : Nat) : ∀ c s P, wCBo f i s P → ED K c (tCB r (tCons (tVar i) tNil)) s P := fun c s P hf G σ H Q A k => by
  unfold wCBo ownL at hf
  cases h1 : nth s i with
  | own io xs =>
    rw [h1] at hf
    obtain ⟨l, ws, p1, p2, p3, p4, _⟩ := A.so i io xs h1
    have eg : Ex G (upd G l (.lst ws)) := ex_upd p2
    have gh : Ex (upd G l (.lst ws)) H := fun a o q => by
      by_cases ha : a = l
      · subst ha; rw [upd_same] at q; rw [p3]; exact q
      · rw [upd_ne ha] at q; exact A.gh a o q
    refine ⟨_, p1, ?_⟩
    refine hr (upd G l (.lst ws)) H [.ref l] [.lst xs] _ Q gh (.cons ⟨l, ws, rfl, upd_same, RpAll.mono eg xs ws p4⟩ .nil) hf fun v d rd ⟨sc, hP⟩ => ?_
    refine k v d s G H Stp.refl A ?_ hP
    cases d <;> first | exact rd | exact sc.elim
  | _ => rw [h1] at hf; exact hf.elim
theorem px_cb {r : List V → Hp → VK → Prop} {f : List D → (D → Prop) → Prop} (hc : CallR X (.builtin id) r) (hr : RC X.K r f) (hm : X.mg x = none) (hv : bootBuiltins x = some (.builtin id)) (ha : PXA X (e :: es) R) (hg : Gl X x := by rfl) (hn : x ≠ "__name__" := by decide) (hdb : (x == ("__debug__" : Str)) = false := by decide)
    (he : starEach (e :: es) X.env = (false, eval e X.env) :: starEach es X.env := by rfl) (hpl : (backTo pos (starEach es X.env)).any (·.1) = false := by rfl) : PX X (.Call (.Name x p) (e :: es) [] pos) (wCB f R) := by
  obtain ⟨ta, a1, a2⟩ := ha.ex
  exact ⟨_, pe_callB hc hg hm hv a1 hn hdb (by first | exact he | assumption) (by first | exact hpl | assumption), ed_cb hr a2⟩
theorem po_cb {r : List V → Hp → VK → Prop} {f : List D → (List D → Prop) → Prop} (hc : CallR X (.builtin id) r) (hr : RCO X.K r f) (hm : X.mg x = none) (hv : bootBuiltins x = some (.builtin id)) (ha : PXA X (e :: es) R) (hg : Gl X x := by rfl) (hn : x ≠ "__name__" := by decide) (hdb : (x == ("__debug__" : Str)) = false := by decide)
    (he : starEach (e :: es) X.env = (false, eval e X.env) :: starEach es X.env := by rfl) (hpl : (backTo pos (starEach es X.env)).any (·.1) = false := by rfl) : PO X (.Call (.Name x p) (e :: es) [] pos) (wCBO f R) := by
  obtain ⟨ta, a1, a2⟩ := ha.ex
  exact ⟨_, pe_callB hc hg hm hv a1 hn hdb (by first | exact he | assumption) (by first | exact hpl | assumption), eo_cb hr a2⟩
theorem px_ct {r : List V → Hp → VK → Prop} {f : List D → (D → Prop) → Prop} (hc : CallR X (.type T) r) (hr : RC X.K r f) (hm : X.mg x = none) (hv : bootBuiltins x = some (.type T)) (ha : PXA X (e :: es) R) (hg : Gl X x := by rfl) (hn : x ≠ "__name__" := by decide) (hdb : (x == ("__debug__" : Str)) = false := by decide)
    (he : starEach (e :: es) X.env = (false, eval e X.env) :: starEach es X.env := by rfl) (hpl : (backTo pos (starEach es X.env)).any (·.1) = false := by rfl) : PX X (.Call (.Name x p) (e :: es) [] pos) (wCB f R) := by
  obtain ⟨ta, a1, a2⟩ := ha.ex
  exact ⟨_, pe_callTy hc hg hm hv a1 hn hdb (by first | exact he | assumption) (by first | exact hpl | assumption), ed_cb hr a2⟩
theorem po_ct {r : List V → Hp → VK → Prop} {f : List D → (List D → Prop) → Prop} (hc : CallR X (.type T) r) (hr : RCO X.K r f) (hm : X.mg x = none) (hv : bootBuiltins x = some (.type T)) (ha : PXA X (e :: es) R) (hg : Gl X x := by rfl) (hn : x ≠ "__name__" := by decide) (hdb : (x == ("__debug__" : Str)) = false := by decide)
    (he : starEach (e :: es) X.env = (false, eval e X.env) :: starEach es X.env := by rfl) (hpl : (backTo pos (starEach es X.env)).any (·.1) = false := by rfl) : PO X (.Call (.Name x p) (e :: es) [] pos) (wCBO f R) := by
  obtain ⟨ta, a1, a2⟩ := ha.ex
  exact ⟨_, pe_callTy hc hg hm hv a1 hn hdb (by first | exact he | assumption) (by first | exact hpl | assumption), eo_cb hr a2⟩
end
end DL
namespace DL
open PySem L2
open Evl (Ex Ex.refl Ex.trans Ex.new)

/-! ### which built-ins -/
def bLen : List D → (D → Prop) → Prop
  | [.lst xs], P => P (.int (xs.length : Int))
  | [.rd xs], P => P (.int (xs.length : Int))
  | [.tup xs], P => P (.int (xs.length : Int))
  | [.str z], P => z.length ≤ 16777216 ∧ P (.int (z.length : Int))
  | _, _ => False
def blsOf : List D → Option (List Bool)
  | [] => some []
  | .bl b :: r => (blsOf r).map (b :: ·)
  | _ => none
def intsOf : List D → Option (List Int)
  | [] => some []
  | .int b :: r => (intsOf r).map (b :: ·)
  | _ => none
def strsOf : List D → Option (List Str)
  | [] => some []
  | .str b :: r => (strsOf r).map (b :: ·)
  | _ => none
def bAll : List D → (D → Prop) → Prop
  | [.lst xs], P => match blsOf xs with
    | some bs => P (.bl (bs.all id))
    | none => False
  | _, _ => False
def bAny : List D → (D → Prop) → Prop
  | [.lst xs], P => match blsOf xs with
    | some bs => P (.bl (bs.any id))
    | none => False
  | _, _ => False
def bSum : List D → (D → Prop) → Prop
  | [.lst xs], P => match intsOf xs with
    | some ns => P (.int ns.sum)
    | none => False
  | _, _ => False
def bMax2 : List D → (D → Prop) → Prop
  | [.int i, .int j], P => P (.int (if j > i then j else i))
  | _, _ => False
def bMin2 : List D → (D → Prop) → Prop
  | [.int i, .int j], P => P (.int (if j < i then j else i))
  | _, _ => False
def bInt : List D → (D → Prop) → Prop
  | [.int i], P => P (.int i)
  | [.bl k], P => P (.int (if k then 1 else 0))
  | _, _ => False
def bOrd : List D → (D → Prop) → Prop
  | [.str x], P => x.length = 1 ∧ P (.int (x.cps.getD 0 0 : Nat))
  | _, _ => False
def bAbs : List D → (D → Prop) → Prop
  | [.int i], P => P (.int (if i < 0 then -i else i))
  | _, _ => False
def bStrI : List D → (D → Prop) → Prop
  | [.int i], P => i.natAbs.log2 < 1920 ∧ P (.str (toString i))
  | _, _ => False
def bList : List D → (List D → Prop) → Prop
  | [.lst xs], P => P xs
  | [.rd xs], P => P xs
  | [.tup xs], P => P xs
  | _, _ => False
theorem blsOf_eq : ∀ {xs : List D} {bs : List Bool}, blsOf xs = some bs → xs = bs.map D.bl
  | [], bs, h => by cases h; rfl
  | x :: r, bs, h => by
    cases x <;> first
      | (obtain ⟨cs, h1, rfl⟩ := Option.map_eq_some_iff.mp h; rw [blsOf_eq h1]; rfl)
      | (cases h)
theorem intsOf_eq : ∀ {xs : List D} {bs : List Int}, intsOf xs = some bs → xs = bs.map D.int
  | [], bs, h => by cases h; rfl
  | x :: r, bs, h => by
    cases x <;> first
      | (obtain ⟨cs, h1, rfl⟩ := Option.map_eq_some_iff.mp h; rw [intsOf_eq h1]; rfl)
      | (cases h)
theorem strsOf_eq : ∀ {xs : List D} {bs : List Str}, strsOf xs = some bs → xs = bs.map D.str
  | [], bs, h => by cases h; rfl
  | x :: r, bs, h => by
    cases x <;> first
      | (obtain ⟨cs, h1, rfl⟩ := Option.map_eq_some_iff.mp h; rw [strsOf_eq h1]; rfl)
      | (cases h)
theorem blsOf_map (l : List Bool) : blsOf (l.map D.bl) = some l := by
  induction l with
  | nil => rfl
  | cons b r ih => show (blsOf (r.map D.bl)).map (b :: ·) = _; rw [ih]; rfl
theorem intsOf_map (l : List Int) : intsOf (l.map D.int) = some l := by
  induction l with
  | nil => rfl
  | cons b r ih => show (intsOf (r.map D.int)).map (b :: ·) = _; rw [ih]; rfl
theorem strsOf_map (l : List Str) : strsOf (l.map D.str) = some l := by
  induction l with
  | nil => rfl
  | cons b r ih => show (strsOf (r.map D.str)).map (b :: ·) = _; rw [ih]; rfl
section
variable {K : PySem.W.Frag} {X : Cx}
theorem rp1 {G : Hp} {d : D} {vs : List V} (r : RpAll K G [d] vs) : ∃ v, vs = [v] ∧ Rp K G d v := by
  obtain ⟨v, ws, rfl, h, rfl⟩ := r
  exact ⟨v, rfl, h⟩
theorem rp2 {G : Hp} {d e : D} {vs : List V} (r : RpAll K G [d, e] vs) : ∃ v w, vs = [v, w] ∧ Rp K G d v ∧ Rp K G e w := by
  obtain ⟨v, ws, rfl, h, w, us, rfl, h2, rfl⟩ := r
  exact ⟨v, w, rfl, h, h2⟩
theorem rc_len : RC K (fun xs H Q => ∃ x n, xs = [x] ∧ LenV K x H n ∧ Q (.int n) H) bLen := fun G H vs ds P Q e r hf k => by
  unfold bLen at hf
  split at hf
  · obtain ⟨v, rfl, a, ws, rfl, h1, h2⟩ := rp1 r
    exact ⟨_, _, rfl, .inl ⟨ws, Evl.sq_of (e a _ h1), rfl⟩, k _ (.int _) (by rw [h2.len]; rfl) hf⟩
  · obtain ⟨v, rfl, a, ws, rfl, h1, h2⟩ := rp1 r
    exact ⟨_, _, rfl, .inl ⟨ws, Evl.ex_l e h1, rfl⟩, k _ (.int _) (by rw [h2.len]; rfl) hf⟩
  · obtain ⟨v, rfl, a, ws, rfl, h1, h2⟩ := rp1 r
    exact ⟨_, _, rfl, .inr ⟨ws, Evl.ex_t e h1, rfl⟩, k _ (.int _) (by rw [h2.len]; rfl) hf⟩
  · obtain ⟨v, rfl, h1⟩ := rp1 r
    have h1 : v = _ := h1
    subst h1
    exact ⟨_, _, rfl, ⟨by rw [sizeLine_eq]; exact hf.1, rfl⟩, k _ (.int _) rfl hf.2⟩
  · exact hf.elim
theorem rc_all : RC K (rAll K) bAll := fun G H vs ds P Q e r hf k => by
  unfold bAll at hf
  split at hf
  · split at hf
    · rename_i xs bs hb
      obtain ⟨v, rfl, a, ws, rfl, h1, h2⟩ := rp1 r
      rw [blsOf_eq hb] at h2
      have e2 := RpAll.bls bs h2
      subst e2
      exact ⟨a, bs, rfl, Evl.sq_of (e a _ h1), k _ (.bl _) rfl hf⟩
    · exact hf.elim
  · exact hf.elim
theorem rc_any : RC K (L2.rAny K) bAny := fun G H vs ds P Q e r hf k => by
  unfold bAny at hf
  split at hf
  · split at hf
    · rename_i xs bs hb
      obtain ⟨v, rfl, a, ws, rfl, h1, h2⟩ := rp1 r
      rw [blsOf_eq hb] at h2
      have e2 := RpAll.bls bs h2
      subst e2
      exact ⟨a, bs, rfl, Evl.sq_of (e a _ h1), k _ (.bl _) rfl hf⟩
    · exact hf.elim
  · exact hf.elim
theorem rc_sum : RC K (rSum K) bSum := fun G H vs ds P Q e r hf k => by
  unfold bSum at hf
  split at hf
  · split at hf
    · rename_i xs bs hb
      obtain ⟨v, rfl, a, ws, rfl, h1, h2⟩ := rp1 r
      rw [intsOf_eq hb] at h2
      have e2 := RpAll.ints bs h2
      subst e2
      exact ⟨a, bs, rfl, Evl.sq_of (e a _ h1), k _ (.int _) rfl hf⟩
    · exact hf.elim
  · exact hf.elim
theorem rc_max2 : RC K (fun xs H Q => ∃ i j, xs = [.int i, .int j] ∧ Q (.int (if j > i then j else i)) H) bMax2 := fun G H vs ds P Q e r hf k => by
  unfold bMax2 at hf
  split at hf
  · obtain ⟨v, w, rfl, rfl, rfl⟩ := rp2 r
    exact ⟨_, _, rfl, k _ (.int _) rfl hf⟩
  · exact hf.elim
theorem rc_min2 : RC K (fun xs H Q => ∃ i j, xs = [.int i, .int j] ∧ Q (.int (if j < i then j else i)) H) bMin2 := fun G H vs ds P Q e r hf k => by
  unfold bMin2 at hf
  split at hf
  · obtain ⟨v, w, rfl, rfl, rfl⟩ := rp2 r
    exact ⟨_, _, rfl, k _ (.int _) rfl hf⟩
  · exact hf.elim
theorem rc_int : RC K (fun xs H Q => (∃ i, xs = [.int i] ∧ Q (.int i) H) ∨ ∃ k, xs = [.bl k] ∧ Q (.int (if k then 1 else 0)) H) bInt := fun G H vs ds P Q e r hf k => by
  unfold bInt at hf
  split at hf
  · obtain ⟨v, rfl, rfl⟩ := rp1 r
    exact .inl ⟨_, rfl, k _ (.int _) rfl hf⟩
  · obtain ⟨v, rfl, rfl⟩ := rp1 r
    exact .inr ⟨_, rfl, k _ (.int _) rfl hf⟩
  · exact hf.elim
theorem rc_ord : RC K (fun xs H Q => ∃ x, xs = [.str x] ∧ x.length = 1 ∧ Q (.int (x.cps.getD 0 0 : Nat)) H) bOrd := fun G H vs ds P Q e r hf k => by
  unfold bOrd at hf
  split at hf
  · obtain ⟨v, rfl, rfl⟩ := rp1 r
    exact ⟨_, rfl, hf.1, k _ (.int _) rfl hf.2⟩
  · exact hf.elim
theorem rc_abs : RC K (fun xs H Q => ∃ i, xs = [.int i] ∧ Q (.int (if i < 0 then -i else i)) H) bAbs := fun G H vs ds P Q e r hf k => by
  unfold bAbs at hf
  split at hf
  · obtain ⟨v, rfl, rfl⟩ := rp1 r
    exact ⟨_, rfl, k _ (.int _) rfl hf⟩
  · exact hf.elim
theorem rc_strI : RC K (fun xs H Q => ∃ i, xs = [.int i] ∧ i.natAbs.log2 < 1920 ∧ Q (.str (toString i)) H) bStrI := fun G H vs ds P Q e r hf k => by
  unfold bStrI at hf
  split at hf
  · obtain ⟨v, rfl, rfl⟩ := rp1 r
    exact ⟨_, rfl, hf.1, k _ (.str _) rfl hf.2⟩
  · exact hf.elim
theorem rc_list : RCO K (fun xs H Q => ∃ p ys, xs = [.ref p] ∧ (SqL K H p ys ∨ SqT K H p ys) ∧ ∀ l, H l = none → Q (.ref l) (upd H l (.lst ys))) bList := fun G H vs ds P Q e r hf k => by
  unfold bList at hf
  split at hf
  · obtain ⟨v, rfl, a, ws, rfl, h1, h2⟩ := rp1 r
    exact ⟨a, ws, rfl, .inl (Evl.sq_of (e a _ h1)), fun l hl => k l ws _ hl h2 hf⟩
  · obtain ⟨v, rfl, a, ws, rfl, h1, h2⟩ := rp1 r
    exact ⟨a, ws, rfl, .inl (Evl.ex_l e h1), fun l hl => k l ws _ hl h2 hf⟩
  · obtain ⟨v, rfl, a, ws, rfl, h1, h2⟩ := rp1 r
    exact ⟨a, ws, rfl, .inr (Evl.ex_t e h1), fun l hl => k l ws _ hl h2 hf⟩
  · exact hf.elim
variable {e : Expr} {es : List Expr} {pos p : Pos} {R : WA}
theorem px_len (hm : X.mg "len" = none) (ha : PXA X [e] R) (hg : Gl X "len" := by rfl) (he : starEach [e] X.env = (false, eval e X.env) :: starEach [] X.env := by rfl) (hpl : (backTo pos (starEach [] X.env)).any (·.1) = false := by rfl) :
    PX X (.Call (.Name "len" p) [e] [] pos) (wCB bLen R) := px_cb call_len rc_len hm PySem.boot_len ha hg (he := he) (hpl := hpl)
/-- tuple(xs): a new one, or itself -/
def wTupOf (R : WA) : WE := fun s P => R s fun as s1 => allD as fun zs => match zs with
  | [.lst xs] => P (.tup xs) s1
  | [.rd xs] => P (.tup xs) s1
  | [.tup xs] => P (.tup xs) s1
  | _ => False
theorem px_tupOf (hm : X.mg "tuple" = none) (ha : PXA X [e] R) (hg : Gl X "tuple" := by rfl) (he : starEach [e] X.env = (false, eval e X.env) :: starEach [] X.env := by rfl) (hpl : (backTo pos (starEach [] X.env)).any (·.1) = false := by rfl) :
    PX X (.Call (.Name "tuple" p) [e] [] pos) (wTupOf R) := by
  obtain ⟨ta, a1, a2⟩ := ha.ex
  refine ⟨_, pe_callTy call_tuple_of hg hm (by decide +kernel) a1 (by decide) (by decide) he hpl, fun c s P hf G σ H Q A k => ?_⟩
  refine a2 c s _ hf G σ H _ A fun vs as s1 G1 H1 e1 A1 r1 hp => ?_
  obtain ⟨xs, rx, hp⟩ := allD_ok r1 hp
  split at hp
  · obtain ⟨v, rfl, a, ws, rfl, h1, h2⟩ := rp1 rx
    refine ⟨a, ws, rfl, .inl ⟨Evl.sq_of (A1.gh a _ h1), fun l hl => ?_⟩⟩
    have g := none_of_ex A1.gh hl
    exact k (.ref l) (.tup _) s1 _ _ (e1.trans (Stp.new hl (ex_upd g) upd_fr)) (A1.alloc hl) ⟨l, ws, rfl, Evl.st_of upd_same, RpAll.mono (ex_upd g) _ _ h2⟩ hp
  · obtain ⟨v, rfl, a, ws, rfl, h1, h2⟩ := rp1 rx
    refine ⟨a, ws, rfl, .inl ⟨Evl.ex_l A1.gh h1, fun l hl => ?_⟩⟩
    have g := none_of_ex A1.gh hl
    exact k (.ref l) (.tup _) s1 _ _ (e1.trans (Stp.new hl (ex_upd g) upd_fr)) (A1.alloc hl) ⟨l, ws, rfl, Evl.st_of upd_same, RpAll.mono (ex_upd g) _ _ h2⟩ hp
  · obtain ⟨v, rfl, a, ws, rfl, h1, h2⟩ := rp1 rx
    exact ⟨a, ws, rfl, .inr ⟨Evl.ex_t A1.gh h1, k (.ref a) (.tup _) s1 G1 H1 e1 A1 ⟨a, ws, rfl, h1, h2⟩ hp⟩⟩
  · exact hp.elim
end

/-! ### isinstance with written classes -/
/-- the name of a value's built-in type -/
def tyD : D → Option String
  | .non => some "NoneType"
  | .bl _ => some "bool"
  | .int _ => some "int"
  | .str _ => some "str"
  | .lst _ => some "list"
  | .rd _ => some "list"
  | .tup _ => some "tuple"
  | _ => none
def isiB (T : String) (cs : List String) : Option Bool := match cs with
  | [] => some false
  | c :: r => match kitB T c with
    | some true => some true
    | some false => isiB T r
    | none => none
theorem TyX.of {K : PySem.W.Frag} {G H : Hp} {d : D} {v : V} {T : String} (e : Ex G H) (r : Rp K G d v) (h : tyD d = some T) : TyX K H v (.type T) := by
  cases d with
  | non => cases (show v = _ from r); cases h; exact .base .non
  | bl b => cases (show v = _ from r); cases h; exact .base (.bl b)
  | int b => cases (show v = _ from r); cases h; exact .base (.int b)
  | str b => cases (show v = _ from r); cases h; exact .base (.str b)
  | lst xs => obtain ⟨a, vs, rfl, h1, _⟩ := r; cases h; exact .base (.lst (e a _ h1))
  | rd xs =>
    obtain ⟨a, vs, rfl, h1, _⟩ := r
    cases h
    rcases h1 with (h1 | ⟨o, h1⟩) | ⟨o, its, n, h1, h2, _⟩
    · exact .base (.lst (e a _ h1))
    · exact .base (.frz (e a _ h1))
    · exact .kList h1 h2
  | tup xs =>
    obtain ⟨a, vs, rfl, h1, _⟩ := r
    cases h
    rcases h1 with (h1 | ⟨o, h1⟩) | ⟨o, its, n, h1, h2, _⟩
    · exact .base (.tup (e a _ h1))
    · exact .fTuple (e a _ h1)
    · exact .kTuple h1 h2
  | _ => cases h
def wIsi (cs : List String) (F : WE) : WE := fun s P => F s fun d s1 => match tyD d with
  | some T => (match isiB T cs with
    | some b => P (.bl b) s1
    | none => False)
  | none => False
section
variable {K : PySem.W.Frag} {X : Cx} {e : Expr} {pos p pc pt : Pos} {F : WE}
theorem isiB_one {T c : String} {b : Bool} (h : isiB T [c] = some b) : PySem.W.kitOne K (.type T) (.type c) = some b := by
  unfold isiB at h
  split at h
  · rename_i q; cases h; exact kit_ty q
  · rename_i q; cases h; exact kit_ty q
  · cases h
theorem isiB_any {T : String} : ∀ {cs : List String} {b : Bool}, isiB T cs = some b → PySem.W.kitAny K (.type T) (cs.map Value.type) = some b
  | [], b, h => by cases h; exact kitAny_nil
  | c :: cs, b, h => by
    unfold isiB at h
    split at h
    · rename_i q
      cases h
      exact kitAny_cons (kit_ty q) (fun z => by cases z) fun _ => rfl
    · rename_i q
      exact kitAny_cons (kit_ty q) (fun _ => isiB_any h) fun z => by cases z
    · cases h
/-- isinstance(e, c) -/
theorem px_isi {c : Str} {cn : String} (hm : X.mg "isinstance" = none) (he : PX X e F) (hmc : X.mg c = none) (hvc : bootBuiltins c = some (.type cn)) (hg : Gl X "isinstance" := by rfl) (hgc : Gl X c := by rfl) (hn : c ≠ "__name__" := by decide) (hd : (c == ("__debug__" : Str)) = false := by decide)
    (h1 : starEach [e, .Name c pc] X.env = (false, eval e X.env) :: starEach [.Name c pc] X.env := by rfl) (h2 : starEach [.Name c pc] X.env = (false, eval (.Name c pc) X.env) :: starEach [] X.env := by rfl) (hpl : (backTo pos (starEach [.Name c pc] X.env)).any (·.1) = false := by rfl) :
    PX X (.Call (.Name "isinstance" p) [e, .Name c pc] [] pos) (wIsi [cn] F) := by
  obtain ⟨te, a1, a2⟩ := he.ex
  refine ⟨_, pe_callB call_isi hg hm (by decide +kernel) (pa_cons a1 (pa_cons (pe_bltn (v := .ty cn) hgc hmc hvc rfl hn hd) pa_nil h2) h1) (by decide) (by decide) h1 hpl, fun c s P hf G σ H Q A k => ?_⟩
  refine a2 c s _ hf G σ H _ A fun v d s1 G1 H1 e1 A1 r1 hp => ?_
  split at hp
  · rename_i T hT
    split at hp
    · rename_i b hb
      exact ⟨v, .ty cn, .type T, .type cn, b, rfl, .ty cn, TyX.of A1.gh r1 hT, isiB_one hb, k _ _ s1 G1 H1 e1 A1 (show Rp X.K G1 (.bl b) (.bl b) from rfl) hp⟩
    · exact hp.elim
  · exact hp.elim
/-- isinstance(e, (c1, c2)) -/
theorem px_isi2 {c d : Str} {cn dn : String} {pd : Pos} {kk} (hm : X.mg "isinstance" = none) (he : PX X e F) (hmc : X.mg c = none) (hvc : bootBuiltins c = some (.type cn)) (hmd : X.mg d = none) (hvd : bootBuiltins d = some (.type dn)) (hg : Gl X "isinstance" := by rfl) (hgc : Gl X c := by rfl) (hgd : Gl X d := by rfl)
    (hn : c ≠ "__name__" := by decide) (hd : (c == ("__debug__" : Str)) = false := by decide) (hn' : d ≠ "__name__" := by decide) (hd' : (d == ("__debug__" : Str)) = false := by decide)
    (h1 : starEach [e, .Tuple [.Name c pc, .Name d pd] kk pt] X.env = (false, eval e X.env) :: starEach [.Tuple [.Name c pc, .Name d pd] kk pt] X.env := by rfl)
    (h2 : starEach [.Tuple [.Name c pc, .Name d pd] kk pt] X.env = (false, eval (.Tuple [.Name c pc, .Name d pd] kk pt) X.env) :: starEach [] X.env := by rfl)
    (h3 : starEach [.Name c pc, .Name d pd] X.env = (false, eval (.Name c pc) X.env) :: starEach [.Name d pd] X.env := by rfl) (h4 : starEach [.Name d pd] X.env = (false, eval (.Name d pd) X.env) :: starEach [] X.env := by rfl)
    (hpl : (backTo pos (starEach [.Tuple [.Name c pc, .Name d pd] kk pt] X.env)).any (·.1) = false := by rfl) :
    PX X (.Call (.Name "isinstance" p) [e, .Tuple [.Name c pc, .Name d pd] kk pt] [] pos) (wIsi [cn, dn] F) := by
  obtain ⟨te, a1, a2⟩ := he.ex
  refine ⟨_, pe_callB call_isiT hg hm (by decide +kernel) (pa_cons a1 (pa_cons (pe_tup (pa_cons (pe_bltn (v := .ty cn) hgc hmc hvc rfl hn hd) (pa_cons (pe_bltn (v := .ty dn) hgd hmd hvd rfl hn' hd') pa_nil h4) h3)) pa_nil h2) h1) (by decide) (by decide) h1 hpl, fun c s P hf G σ H Q A k => ?_⟩
  refine a2 c s _ hf G σ H _ A fun v d s1 G1 H1 e1 A1 r1 hp => ?_
  split at hp
  · rename_i T hT
    split at hp
    · rename_i b hb
      refine ⟨by show 2 ≤ sizeLine; rw [sizeLine_eq]; decide, fun q hq => ?_⟩
      have g := none_of_ex A1.gh hq
      have A2 := A1.alloc (o := .tup [.ty cn, .ty dn]) hq
      exact ⟨v, q, [.ty cn, .ty dn], .type T, [.type cn, .type dn], b, rfl, upd_same, .cons (.ty cn) (.cons (.ty dn) .nil), TyX.of A2.gh (Rp.mono (ex_upd g) _ _ r1) hT, isiB_any hb,
        k _ _ s1 _ _ (e1.trans (Stp.new hq (ex_upd g) upd_fr)) A2 (show Rp X.K _ (.bl b) (.bl b) from rfl) hp⟩
    · exact hp.elim
  · exact hp.elim
end

/-! ### a < b < c -/
section
variable {K : PySem.W.Frag} {X : Cx} {a b c : Expr} {pos : Pos} {Fa Fb Fc : WE}
def wChain (f g : D → D → (D → Prop) → Prop) (Fa Fb Fc : WE) : WE := fun s P => Fa s fun x s1 => Fb s1 fun y s2 => f x y fun z => asB z fun k => if k = true then Fc s2 fun w s3 => g y w fun d => P d s3 else P (.bl false) s2
theorem ed_chain {r r' : R2} {f g : D → D → (D → Prop) → Prop} (hr : RV K r f) (hr' : RV K r' g) {ta tb tc : TE} (a2 : ∀ c s P, Fa s P → ED K c ta s P) (b2 : ∀ c s P, Fb s P → ED K c tb s P) (c2 : ∀ c s P, Fc s P → ED K c tc s P) :
    ∀ c s P, wChain f g Fa Fb Fc s P → ED K c (tChain r r' ta tb tc) s P := fun c s P hf G σ H Q A k => by
  refine a2 c s _ hf G σ H _ A fun v x s1 G1 H1 e1 A1 r1 hp => ?_
  refine b2 c s1 _ hp G1 σ H1 _ A1 fun u y s2 G2 H2 e2 A2 r2 hp => ?_
  refine hr G2 H2 v u x y _ _ A2.gh (Rp.mono e2.eg x v r1) r2 hp fun z d rd hd => ?_
  cases d with
  | bl kk =>
    refine ⟨kk, rd, ?_⟩
    have hd : (if kk = true then _ else _) := hd
    cases kk with
    | true =>
      rw [if_pos rfl] at hd ⊢
      refine c2 c s2 _ hd G2 σ H2 _ A2 fun w q s3 G3 H3 e3 A3 r3 hp => ?_
      exact hr' G3 H3 u w y q _ Q A3.gh (Rp.mono e3.eg y u r2) r3 hp fun z d rd hP => k z d s3 G3 H3 ((e1.trans e2).trans e3) A3 rd hP
    | false =>
      rw [if_neg Bool.false_ne_true] at hd ⊢
      exact k _ _ s2 G2 H2 (e1.trans e2) A2 (show Rp K G2 (.bl false) (.bl false) from rfl) hd
  | _ => exact (show False from hd).elim
theorem px_chain {op op' : CmpOp} {r r' : R2} {f g : D → D → (D → Prop) → Prop} (ho : OpR X (compareOp op) r) (ho' : OpR X (compareOp op') r') (hr : RV X.K r f) (hr' : RV X.K r' g) (ha : PX X a Fa) (hb : PX X b Fb) (hc : PX X c Fc)
    (hm : lastMarks [op, op'] [b, c] = false := by with_unfolding_all rfl) : PX X (.Compare a [op, op'] [b, c] pos) (wChain f g Fa Fb Fc) := by
  obtain ⟨ta, a1, a2⟩ := ha.ex
  obtain ⟨tb, b1, b2⟩ := hb.ex
  obtain ⟨tc, c1, c2⟩ := hc.ex
  exact ⟨_, pe_chain ho ho' a1 b1 c1 hm, ed_chain hr hr' a2 b2 c2⟩
theorem pq_chain {op op' : CmpOp} {r r' : R2} {f g : D → D → (D → Prop) → Prop} (ho : OpR X (compareOp op) r) (ho' : OpR X (compareOp op') r') (hr : RV X.K r f) (hr' : RV X.K r' g) (ha : PX X a Fa) (hb : PX X b Fb) (hc : PX X c Fc)
    (hm : lastMarks [op, op'] [b, c] = false := by with_unfolding_all rfl) : PQ X (.Compare a [op, op'] [b, c] pos) (wTest (wChain f g Fa Fb Fc)) := by
  obtain ⟨ta, a1, a2⟩ := ha.ex
  obtain ⟨tb, b1, b2⟩ := hb.ex
  obtain ⟨tc, c1, c2⟩ := hc.ex
  exact ⟨_, pt_chain ho ho' a1 b1 c1 hm, td_test (ed_chain hr hr' a2 b2 c2)⟩
end

/-! ### stores into lists of one's own; methods -/
section
variable {K : PySem.W.Frag} {X : Cx} {e i o : Expr} {pos p : Pos} {Fe Fi : WE}
/-- found.append(e), as a statement -/
def wAppend (i : Nat) (Fe : WE) : WS := fun De s => isOwn s i ∧ Fe s fun d s1 => ownL s1 i fun xs => xs.length < 16777216 ∧ De.nx (put s1 i (match nth s1 i with
  | .own b _ => .own b (xs ++ [d])
  | y => y))
theorem sd_append (i : Nat) {x : Str} {po pa pc : Pos} (he : PX X e Fe)
    (hpe : ∀ te, PE X e te → PE X (.Call (.Attribute (.Name x po) "append" pa) [e] [] pc) (tBM X.K "list" rAppend (tVar i) (tCons te tNil)) := by
      intro te h; exact pe_bm PySem.F.plainAttrs_list PySem.F.slot_list_append PySem.F.type_list_append mt_append (pv _) (pa_cons h pa_nil))
    (hs : swapsWith (.Call (.Attribute (.Name x po) "append" pa) [e] [] pc) none pos.line X.env = pure false := by rfl) :
    PSD X (.Expr (.Call (.Attribute (.Name x po) "append" pa) [e] [] pc) pos) (wAppend i Fe) := by
  obtain ⟨te, a1, a2⟩ := he.ex
  refine ⟨_, ps_expr (hpe te a1) hs, fun c s De hf G σ H En A E => ?_⟩
  obtain ⟨ho, hf⟩ := hf
  unfold isOwn at ho
  cases h : nth s i with
  | own io xs =>
    obtain ⟨l, ws, p1, p2, p3, p4, _⟩ := A.so i io xs h
    refine ⟨_, p1, .inl ⟨rfl, ws, Evl.sq_of p3⟩, ?_⟩
    refine a2 c s _ hf G σ H _ A fun v d s1 G1 H1 e1 A1 r1 hp => ?_
    unfold ownL at hp
    cases hh : nth s1 i with
    | own io1 xs1 =>
      rw [hh] at hp
      obtain ⟨hz, hp⟩ := hp
      obtain ⟨l1, ws1, q1, q2, q3, q4, _⟩ := A1.so i io1 xs1 hh
      rw [p1] at q1
      cases q1
      refine ⟨l, ws1, v, rfl, rfl, q3, by rw [sizeLine_eq, q4.len]; exact hz, ?_⟩
      exact E.nx G1 _ σ _ e1.eg (A1.change hh p1 (q4.append (.cons r1 .nil))) hp
    | _ => rw [hh] at hp; exact hp.elim
  | _ => rw [h] at ho; exact ho.elim
/-- found[k] = e -/
def wPut (i : Nat) (Fe Fi : WE) : WS := fun De s => Fe s fun d s1 => isOwn s1 i ∧ Fi s1 fun y s2 => ownL s2 i fun xs => match y with
  | .int k => (match ixN xs.length k with
    | some j => De.nx (put s2 i (match nth s2 i with
      | .own b _ => .own b (xs.set j d)
      | y => y))
    | none => False)
  | _ => False
theorem sd_put (i : Nat) {x : Str} {po pt : Pos} {idx : Expr} (he : PX X e Fe) (hi : PX X idx Fi)
    (hpg : ∀ ti, PE X idx ti → PG X (.Subscript (.Name x po) idx pt) (gSub (tVar i) ti rSetL) := by intro ti h; exact pg_sub (pv _) h set_list)
    (hs : swapsWithSole [.Subscript (.Name x po) idx pt] e pos.line X.env = pure false := by rfl) (hw : swappedStores [.Subscript (.Name x po) idx pt] e X.env = pure none := by rfl)
    (h1 : (assignEach [.Subscript (.Name x po) idx pt] X.env).map (·.2) = [assign (.Subscript (.Name x po) idx pt) X.env] := by rfl) :
    PSD X (.Assign [.Subscript (.Name x po) idx pt] e pos) (wPut i Fe Fi) := by
  obtain ⟨te, a1, a2⟩ := he.ex
  obtain ⟨ti, i1, i2⟩ := hi.ex
  refine ⟨_, ps_asg a1 (hpg ti i1) hs hw h1, fun c s De hf G σ H En A E => ?_⟩
  refine a2 c s _ hf G σ H _ A fun v d s1 G1 H1 e1 A1 r1 ⟨ho, hp⟩ => ?_
  unfold isOwn at ho
  cases h : nth s1 i with
  | own io xs =>
    obtain ⟨l, ws, p1, p2, p3, p4, _⟩ := A1.so i io xs h
    refine ⟨_, p1, ?_⟩
    refine i2 c s1 _ hp G1 σ H1 _ A1 fun u y s2 G2 H2 e2 A2 r2 hp => ?_
    unfold ownL at hp
    cases hh : nth s2 i with
    | own io1 xs1 =>
      rw [hh] at hp
      obtain ⟨l1, ws1, q1, q2, q3, q4, _⟩ := A2.so i io1 xs1 hh
      rw [p1] at q1
      cases q1
      cases y with
      | int kk =>
        have hp : (match ixN xs1.length kk with
          | some j => De.nx (put s2 i (.own io1 (xs1.set j d)))
          | none => False) := hp
        cases hj : ixN xs1.length kk with
        | some j =>
          rw [hj] at hp
          refine ⟨l, ws1, kk, j, rfl, r2, q3, by rw [q4.len]; exact hj, ?_⟩
          exact E.nx G2 _ σ _ (e1.trans e2).eg (A2.change hh p1 (q4.set j (Rp.mono e2.eg d v r1))) hp
        | none => rw [hj] at hp; exact hp.elim
      | _ => exact (show False from hp).elim
    | _ => rw [hh] at hp; exact hp.elim
  | _ => rw [h] at ho; exact ho.elim
/-- x op= e, whole numbers -/
def wAug (i : Nat) (g : Int → Int → Int) (Fe : WE) : WS := fun De s => match nth s i with
  | .d (.int a) => Fe s fun y s1 => isIo s1 i = false ∧ (match y with
    | .int b => De.nx (put s1 i (.d (.int (g a b))))
    | _ => False)
  | _ => False
theorem sd_aug (i : Nat) {x : Str} {op : Operator} {g : Int → Int → Int} {px : Pos} (ho : PIp X op (ipI g)) (hNd : X.N.Nodup) (he : PX X e Fe) (hi : X.N[i]? = some x := by rfl) (hx : Loc X.env.scope x := by first | exact Or.inl rfl | exact Or.inr rfl)
    (hf : X.fn x = true ∨ X.env.scope.names.lookup x = some .local := by first | exact .inl rfl | exact .inr rfl | assumption) : PSD X (.AugAssign (.Name x px) op e pos) (wAug i g Fe) := by
  obtain ⟨te, a1, a2⟩ := he.ex
  refine ⟨_, ps_aug hNd hi hx a1 ho hf, fun c s De hf G σ H En A E => ?_⟩
  unfold wAug at hf
  split at hf
  · rename_i a hs
    obtain ⟨v, p1, p2⟩ := A.sd i _ hs
    have p2 : v = .int a := p2
    subst p2
    refine ⟨_, p1, ?_⟩
    refine a2 c s _ hf G σ H _ A fun u y s1 G1 H1 e1 A1 r1 ⟨hio, hp⟩ => ?_
    cases y with
    | int b => exact ⟨a, b, rfl, r1, E.nx G1 _ _ H1 e1.eg (A1.setD (x := .int (g a b)) (v := .int (g a b)) rfl hio) hp⟩
    | _ => exact (show False from hp).elim
  · exact hf.elim
end
end DL
namespace DL
open PySem L2

/-! ### isinstance, answered -/
theorem ib_n_i : isiB "NoneType" ["int"] = some false := by decide +kernel
theorem ib_b_i : isiB "bool" ["int"] = some true := by decide +kernel
theorem ib_i_i : isiB "int" ["int"] = some true := by decide +kernel
theorem ib_s_i : isiB "str" ["int"] = some false := by decide +kernel
theorem ib_l_i : isiB "list" ["int"] = some false := by decide +kernel
theorem ib_t_i : isiB "tuple" ["int"] = some false := by decide +kernel
theorem ib_n_b : isiB "NoneType" ["bool"] = some false := by decide +kernel
theorem ib_b_b : isiB "bool" ["bool"] = some true := by decide +kernel
theorem ib_i_b : isiB "int" ["bool"] = some false := by decide +kernel
theorem ib_s_b : isiB "str" ["bool"] = some false := by decide +kernel
theorem ib_l_b : isiB "list" ["bool"] = some false := by decide +kernel
theorem ib_t_b : isiB "tuple" ["bool"] = some false := by decide +kernel
theorem ib_n_s : isiB "NoneType" ["str"] = some false := by decide +kernel
theorem ib_b_s : isiB "bool" ["str"] = some false := by decide +kernel
theorem ib_i_s : isiB "int" ["str"] = some false := by decide +kernel
theorem ib_s_s : isiB "str" ["str"] = some true := by decide +kernel
theorem ib_l_s : isiB "list" ["str"] = some false := by decide +kernel
theorem ib_t_s : isiB "tuple" ["str"] = some false := by decide +kernel
theorem ib_n_lt : isiB "NoneType" ["list", "tuple"] = some false := by decide +kernel
theorem ib_b_lt : isiB "bool" ["list", "tuple"] = some false := by decide +kernel
theorem ib_i_lt : isiB "int" ["list", "tuple"] = some false := by decide +kernel
theorem ib_s_lt : isiB "str" ["list", "tuple"] = some false := by decide +kernel
theorem ib_l_lt : isiB "list" ["list", "tuple"] = some true := by decide +kernel
theorem ib_t_lt : isiB "tuple" ["list", "tuple"] = some true := by decide +kernel

/-! ### small facts -/
theorem atI_zero {α : Type} (x : α) (xs : List α) : atI (x :: xs) 0 = some x := by
  unfold atI ixN
  rw [if_pos (by omega), if_pos (by simp)]
  rfl
theorem pick_nat {xs : List D} {i : Nat} {d : D} {P : D → Prop} (h : xs[i]? = some d) (hp : P d) : pick xs (i : Int) P := by
  unfold pick
  have hi : i < xs.length := (List.getElem?_eq_some_iff.mp h).1
  have e : atI xs (i : Int) = some d := by
    unfold atI ixN
    rw [if_pos (by omega), if_pos (by omega)]
    simpa using h
  rw [e]
  exact hp
theorem pick_last {xs : List D} {d : D} {P : D → Prop} (hp : P d) : pick (xs ++ [d]) (-1) P := by
  unfold pick
  have e : atI (xs ++ [d]) (-1) = some d := by
    unfold atI ixN
    have h1 : (-1 + ((xs ++ [d]).length : Int)).toNat = xs.length := by simp; omega
    rw [if_neg (by omega), if_pos (by simp; omega), h1]
    simp
  rw [e]
  exact hp
theorem pickI {xs : List D} {k : Int} {d : D} {P : D → Prop} (h0 : 0 ≤ k) (h : xs[k.toNat]? = some d) (hp : P d) : pick xs k P := by
  have e : k = ((k.toNat : Nat) : Int) := by omega
  rw [e]
  exact pick_nat h hp
/-- a loop over what is known -/
theorem for_of {Fi : WI} {g : WG} {body : WS} {De : DE} {s s1 : DS} (xs : List D) (hi : ∀ P : List D → DS → Prop, P xs s1 → Fi s P) (I : Nat → DS → Prop) (h0 : I 0 s1)
    (hs : ∀ (i : Nat) x s', xs[i]? = some x → I i s' → g x s' fun s2 => body ⟨I (i + 1), De.rt, De.nx, I (i + 1)⟩ s2) (he : ∀ s', I xs.length s' → De.nx s') : wFor Fi g body De s :=
  hi _ ⟨I, h0, hs, he⟩
/-- a comprehension that makes of each item one of its own, the state as it was -/
theorem lc_filterA {vs : List Nat} {Fi : WI} {g : WG} {t : WT} {e : WE} {s s1 : DS} {P : List D → DS → Prop} {α : Type} (l : List α) (c f : α → D) (p : α → Bool) (hi : ∀ P : List D → DS → Prop, P (l.map c) s1 → Fi s P) (hz : l.length ≤ 16777216) (hio : ioFree s1 vs = true)
    (h : ∀ a ∈ l, ∀ (Y : D → DS → Prop) (N : DS → Prop), (p a = true → ∀ s4, wipeS s4 vs = wipeS s1 vs → Y (f a) s4) → (p a = false → ∀ s4, wipeS s4 vs = wipeS s1 vs → N s4) → g (c a) (wipeS s1 vs) fun s2 => t s2 fun b s3 => if b = true then e s3 Y else N s3)
    (hp : P ((l.filter p).map f) (wipeS s1 vs)) : wLc vs Fi g t e s P := by
  refine hi _ ⟨hio, fun i acc s' => acc = ((l.take i).filter p).map f ∧ s' = wipeS s1 vs ∧ i ≤ l.length, ⟨by simp, rfl, Nat.zero_le _⟩, fun i x acc s' hx hI => ?_, fun acc s' hI => ?_⟩
  · obtain ⟨rfl, rfl, hle⟩ := hI
    rw [List.getElem?_map] at hx
    obtain ⟨a, ha, rfl⟩ := Option.map_eq_some_iff.mp hx
    have hlt : i < l.length := (List.getElem?_eq_some_iff.mp ha).1
    have ht : l.take (i + 1) = l.take i ++ [a] := by rw [List.take_add_one, ha]; rfl
    refine h a (List.mem_of_getElem? ha) _ _ (fun hpa s4 h4 => ?_) fun hpa s4 h4 => ?_
    · refine ⟨?_, ?_, h4, hlt⟩
      · have := List.length_filter_le p (l.take i)
        simp only [List.length_map, List.length_take] at this ⊢
        omega
      · rw [ht, List.filter_append, List.map_append]
        simp [hpa]
    · refine ⟨?_, h4, hlt⟩
      rw [ht, List.filter_append, List.map_append]
      simp [hpa]
  · obtain ⟨rfl, rfl, _⟩ := hI
    rw [List.length_map, List.take_length]
    exact hp
theorem lc_mapA {vs : List Nat} {Fi : WI} {g : WG} {e : WE} {s s1 : DS} {P : List D → DS → Prop} {α : Type} (l : List α) (c f : α → D) (hi : ∀ P : List D → DS → Prop, P (l.map c) s1 → Fi s P) (hz : l.length ≤ 16777216) (hio : ioFree s1 vs = true)
    (h : ∀ a ∈ l, ∀ (Y : D → DS → Prop), (∀ s4, wipeS s4 vs = wipeS s1 vs → Y (f a) s4) → g (c a) (wipeS s1 vs) fun s2 => e s2 Y)
    (hp : P (l.map f) (wipeS s1 vs)) : wLc vs Fi g wYes e s P := by
  refine lc_filterA l c f (fun _ => true) hi hz hio (fun a ha Y N h1 _ => ?_) (by rw [List.filter_eq_self.mpr (fun _ _ => rfl)]; exact hp)
  have q := h a ha Y (h1 rfl)
  have e2 : (fun s2 => wYes s2 fun b s3 => if b = true then e s3 Y else N s3) = fun s2 => e s2 Y := by
    funext s2
    show (if true = true then e s2 Y else N s2) = e s2 Y
    rw [if_pos rfl]
  rw [e2]
  exact q
end DL
namespace DL
open PySem L2
section
variable {i j : Int} {x y : Str} {xs ys : List D} {b b2 : Bool} {P : D → Prop} {PL : List D → Prop} {PB : Bool → Prop} {PS : Str → Prop}
theorem q_oAdd : oAdd (.int i) (.int j) P = P (.int (i + j)) := rfl
theorem q_oSub : oSub (.int i) (.int j) P = P (.int (i - j)) := rfl
theorem q_oMul : oMul (.int i) (.int j) P = (CMulU i j ∧ P (.int (i * j))) := rfl
theorem q_oFdiv : oFdiv (.int i) (.int j) P = (CDivW i j ∧ P (.int (i / j))) := rfl
theorem q_oMod : oMod (.int i) (.int j) P = (0 < j ∧ P (.int (i % j))) := rfl
theorem q_oPow : oPow (.int i) (.int j) P = (CPow i j ∧ P (.int (i ^ j.toNat))) := rfl
theorem q_oShr : oShr (.int i) (.int j) P = (0 ≤ j ∧ P (.int (i / 2 ^ j.toNat))) := rfl
theorem q_oLt : oLt (.int i) (.int j) P = P (.bl (decide (i < j))) := rfl
theorem q_oLe : oLe (.int i) (.int j) P = P (.bl (decide (i ≤ j))) := rfl
theorem q_oGt : oGt (.int i) (.int j) P = P (.bl (decide (j < i))) := rfl
theorem q_oGe : oGe (.int i) (.int j) P = P (.bl (decide (j ≤ i))) := rfl
theorem q_oNeg : oNeg (.int i) P = P (.int (-i)) := rfl
theorem q_oAddS : oAddS (.str x) (.str y) P = (x.length + y.length ≤ 16777216 ∧ P (.str (x ++ y))) := rfl
theorem q_oLeS : oLeS (.str x) (.str y) P = P (.bl (!decide (y.cps.toList < x.cps.toList))) := rfl
theorem q_oLtS : oLtS (.str x) (.str y) P = P (.bl (decide (x.cps.toList < y.cps.toList))) := rfl
theorem q_oCat : oCat (.lst xs) (.lst ys) PL = (xs.length + ys.length ≤ 16777216 ∧ PL (xs ++ ys)) := rfl
theorem q_oRepL : oRepL (.lst xs) (.int i) PL = ((-(2 ^ 63) ≤ i ∧ i < 2 ^ 63 ∧ xs.length * i.toNat ≤ 16777216) ∧ PL (List.replicate i.toNat xs).flatten) := rfl
theorem q_oIx_lst : oIx (.lst xs) (.int i) P = pick xs i P := rfl
theorem q_oIx_rd : oIx (.rd xs) (.int i) P = pick xs i P := rfl
theorem q_oIx_tup : oIx (.tup xs) (.int i) P = pick xs i P := rfl
theorem q_bLen_lst : bLen [.lst xs] P = P (.int (xs.length : Int)) := rfl
theorem q_bLen_rd : bLen [.rd xs] P = P (.int (xs.length : Int)) := rfl
theorem q_bLen_tup : bLen [.tup xs] P = P (.int (xs.length : Int)) := rfl
theorem q_bLen_str : bLen [.str x] P = (x.length ≤ 16777216 ∧ P (.int (x.length : Int))) := rfl
theorem q_bMax2 : bMax2 [.int i, .int j] P = P (.int (if j > i then j else i)) := rfl
theorem q_bMin2 : bMin2 [.int i, .int j] P = P (.int (if j < i then j else i)) := rfl
theorem q_bInt : bInt [.int i] P = P (.int i) := rfl
theorem q_bIntB : bInt [.bl b] P = P (.int (if b then 1 else 0)) := rfl
theorem q_bOrd : bOrd [.str x] P = (x.length = 1 ∧ P (.int (x.cps.getD 0 0 : Nat))) := rfl
theorem q_bAbs : bAbs [.int i] P = P (.int (if i < 0 then -i else i)) := rfl
theorem q_bStrI : bStrI [.int i] P = (i.natAbs.log2 < 1920 ∧ P (.str (toString i))) := rfl
theorem q_bList_lst : bList [.lst xs] PL = PL xs := rfl
theorem q_bList_rd : bList [.rd xs] PL = PL xs := rfl
theorem q_bList_tup : bList [.tup xs] PL = PL xs := rfl
theorem q_asB : asB (.bl b) PB = PB b := rfl
theorem q_asA_lst : asA (.lst xs) PL = PL xs := rfl
theorem q_asA_rd : asA (.rd xs) PL = PL xs := rfl
theorem q_asA_tup : asA (.tup xs) PL = PL xs := rfl
theorem q_asL_lst : asL (.lst xs) PL = PL xs := rfl
theorem q_asL_rd : asL (.rd xs) PL = PL xs := rfl
theorem q_asT : asT (.tup xs) PL = PL xs := rfl
theorem q_asS : asS (.str x) PS = PS x := rfl
theorem q_bAll {xs : List D} {bs : List Bool} (h : blsOf xs = some bs) (hp : P (.bl (bs.all id))) : bAll [.lst xs] P := by
  show (match blsOf xs with | some bs => _ | none => _)
  rw [h]
  exact hp
theorem q_bAny {xs : List D} {bs : List Bool} (h : blsOf xs = some bs) (hp : P (.bl (bs.any id))) : bAny [.lst xs] P := by
  show (match blsOf xs with | some bs => _ | none => _)
  rw [h]
  exact hp
theorem q_bSum {xs : List D} {ns : List Int} (h : intsOf xs = some ns) (hp : P (.int ns.sum)) : bSum [.lst xs] P := by
  show (match intsOf xs with | some bs => _ | none => _)
  rw [h]
  exact hp
theorem q_oEq_ii : oEq (.int i) (.int j) P = P (.bl (decide (i = j))) := rfl
theorem q_oNe_ii : oNe (.int i) (.int j) P = P (.bl (!(decide (i = j)))) := rfl
theorem q_oEq_is : oEq (.int i) (.str y) P = P (.bl (false)) := rfl
theorem q_oNe_is : oNe (.int i) (.str y) P = P (.bl (!(false))) := rfl
theorem q_oEq_in : oEq (.int i) (.non) P = P (.bl (false)) := rfl
theorem q_oNe_in : oNe (.int i) (.non) P = P (.bl (!(false))) := rfl
theorem q_oEq_si : oEq (.str x) (.int j) P = P (.bl (false)) := rfl
theorem q_oNe_si : oNe (.str x) (.int j) P = P (.bl (!(false))) := rfl
theorem q_oEq_ss : oEq (.str x) (.str y) P = P (.bl (decide (x = y))) := rfl
theorem q_oNe_ss : oNe (.str x) (.str y) P = P (.bl (!(decide (x = y)))) := rfl
theorem q_oEq_sb : oEq (.str x) (.bl b2) P = P (.bl (false)) := rfl
theorem q_oNe_sb : oNe (.str x) (.bl b2) P = P (.bl (!(false))) := rfl
theorem q_oEq_sn : oEq (.str x) (.non) P = P (.bl (false)) := rfl
theorem q_oNe_sn : oNe (.str x) (.non) P = P (.bl (!(false))) := rfl
theorem q_oEq_bs : oEq (.bl b) (.str y) P = P (.bl (false)) := rfl
theorem q_oNe_bs : oNe (.bl b) (.str y) P = P (.bl (!(false))) := rfl
theorem q_oEq_bb : oEq (.bl b) (.bl b2) P = P (.bl (b == b2)) := rfl
theorem q_oNe_bb : oNe (.bl b) (.bl b2) P = P (.bl (!(b == b2))) := rfl
theorem q_oEq_bn : oEq (.bl b) (.non) P = P (.bl (false)) := rfl
theorem q_oNe_bn : oNe (.bl b) (.non) P = P (.bl (!(false))) := rfl
theorem q_oEq_ni : oEq (.non) (.int j) P = P (.bl (false)) := rfl
theorem q_oNe_ni : oNe (.non) (.int j) P = P (.bl (!(false))) := rfl
theorem q_oEq_ns : oEq (.non) (.str y) P = P (.bl (false)) := rfl
theorem q_oNe_ns : oNe (.non) (.str y) P = P (.bl (!(false))) := rfl
theorem q_oEq_nb : oEq (.non) (.bl b2) P = P (.bl (false)) := rfl
theorem q_oNe_nb : oNe (.non) (.bl b2) P = P (.bl (!(false))) := rfl
theorem q_oEq_nn : oEq (.non) (.non) P = P (.bl (true)) := rfl
theorem q_oNe_nn : oNe (.non) (.non) P = P (.bl (!(true))) := rfl
theorem q_pick0 {d : D} : pick (d :: xs) 0 P = P d := by
  unfold pick
  rw [atI_zero]
theorem q_pickN {n : Nat} {d : D} (h : xs[n]? = some d) : pick xs (n : Int) P = P d := by
  unfold pick
  have hi : n < xs.length := (List.getElem?_eq_some_iff.mp h).1
  have e : atI xs (n : Int) = some d := by
    unfold atI ixN
    rw [if_pos (by omega), if_pos (by omega)]
    simpa using h
  rw [e]
theorem q_pick1 {a d : D} : pick (a :: d :: xs) 1 P = P d := q_pickN (n := 1) rfl
theorem q_pick2 {a b d : D} : pick (a :: b :: d :: xs) 2 P = P d := q_pickN (n := 2) rfl
theorem q_pick3 {a b c d : D} : pick (a :: b :: c :: d :: xs) 3 P = P d := q_pickN (n := 3) rfl
theorem q_pick4 {a b c e d : D} : pick (a :: b :: c :: e :: d :: xs) 4 P = P d := q_pickN (n := 4) rfl
theorem q_ix40 : ixN 4 0 = some 0 := by decide
theorem q_ix41 : ixN 4 1 = some 1 := by decide
theorem q_ix42 : ixN 4 2 = some 2 := by decide
theorem q_ix43 : ixN 4 3 = some 3 := by decide
theorem cpow_ok {i j : Int} (h1 : 0 ≤ j) (h2 : j ≤ 1000000) (h3 : i.natAbs < 2 ^ 64) : CPow i j := ⟨h1, h2, h3⟩
theorem q_cp_2_64 : CPow 2 64 = True := eq_true (cpow_ok (by decide) (by decide) (by decide))
theorem q_cp_2_63 : CPow 2 63 = True := eq_true (cpow_ok (by decide) (by decide) (by decide))
theorem q_cp_2_41 : CPow 2 41 = True := eq_true (cpow_ok (by decide) (by decide) (by decide))
theorem q_cp_10_18 : CPow 10 18 = True := eq_true (cpow_ok (by decide) (by decide) (by decide))
theorem q_cp_17_29 : CPow 17 29 = True := eq_true (cpow_ok (by decide) (by decide) (by decide))
theorem q_cp_10_60 : CPow 10 60 = True := eq_true (cpow_ok (by decide) (by decide) (by decide))
theorem q_cp_10_17 : CPow 10 17 = True := eq_true (cpow_ok (by decide) (by decide) (by decide))
theorem q_cp_10_19 : CPow 10 19 = True := eq_true (cpow_ok (by decide) (by decide) (by decide))
theorem q_cp_10_79 : CPow 10 79 = True := eq_true (cpow_ok (by decide) (by decide) (by decide))
theorem q_cm_2 : CMulU (2 ^ Int.toNat 64) (2 ^ Int.toNat 63) = True := eq_true (.inl (.inr ⟨by decide, by decide⟩))
theorem q_M : (2 : Int) ^ Int.toNat 64 * 2 ^ Int.toNat 63 - 1 = 170141183460469231731687303715884105727 := by decide
theorem q_posM : ((0 : Int) < 170141183460469231731687303715884105727) = True := eq_true (by decide)
def isIoS : Sl → Bool
  | .own true _ => true
  | _ => false
theorem q_isIo (s : DS) (n : Nat) : isIo s n = isIoS (nth s n) := rfl
theorem q_ioNo : isIoS .no = false := rfl
theorem q_ioD {d : D} : isIoS (.d d) = false := rfl
theorem q_ioF : isIoS (.own false xs) = false := rfl
theorem q_ioT : isIoS (.own true xs) = true := rfl
/-- a name that may hold data, or none -/
def so : Option D → Sl
  | none => .no
  | some d => .d d
theorem q_ioSo : ∀ a : Option D, isIoS (so a) = false
  | none => rfl
  | some _ => rfl
end
/-- a comprehension over what is known -/
theorem lc_of {vs : List Nat} {Fi : WI} {g : WG} {t : WT} {e : WE} {s s1 : DS} {P : List D → DS → Prop} (xs : List D) (hi : ∀ P : List D → DS → Prop, P xs s1 → Fi s P) (hio : ioFree s1 vs = true) (I : Nat → List D → DS → Prop) (h0 : I 0 [] (wipeS s1 vs))
    (hs : ∀ (i : Nat) x acc s', xs[i]? = some x → I i acc s' → g x s' fun s2 => t s2 fun b s3 => if b = true then e s3 fun d s4 => acc.length < 16777216 ∧ I (i + 1) (acc ++ [d]) (wipeS s4 vs) else I (i + 1) acc (wipeS s3 vs))
    (he : ∀ acc s', I xs.length acc s' → P acc s') : wLc vs Fi g t e s P := hi _ ⟨hio, I, h0, hs, he⟩
theorem seq_ {A B : WS} {De : DE} {s : DS} (h : A ⟨fun z => B De z, De.rt, De.bk, De.ct⟩ s) : wSeq A B De s := h
theorem for_un {Fi : WI} {g : WG} {body : WS} {De : DE} {s : DS} (h : Fi s fun xs s1 => ∃ I : Nat → DS → Prop, I 0 s1 ∧ (∀ (i : Nat) x z, xs[i]? = some x → I i z → g x z fun s2 => body ⟨I (i + 1), De.rt, De.nx, I (i + 1)⟩ s2) ∧ ∀ z, I xs.length z → De.nx z) : wFor Fi g body De s := h
end DL
/-! a def that calls repr: where no display is under way (the guards are known and none) -/
namespace DL
open PySem L2 PySem.Spec PyProof.Rows
open Evl (Ex Ex.refl Ex.trans Ex.new)

structure FnG (P : Program) (w : World) (K : PySem.W.Frag) (mg : Str → Option Value) (base : Heap) (k : Nat) (f : Addr) (fd : FuncData) (ps : List Str) (sp : Sp) : Prop where
  len : ∀ vs H Q E, sp vs H Q E → vs.length = ps.length
  go : ∀ (A : Around) (outer : List Env) (s : Shared) (H : Hp) (ar : Args) (us : List Value) (vs : List V) (Q : VK) (E : XK),
    A.guards = some [] → Room k A → Env0 P w K mg base A outer s H → BindsTo s fd ar (ps.zip us) → Vals vs us → sp vs H Q E →
      codeAny (model P w) A (.call (.ref f) ar) (CR CX0 outer P w H s Q E) s

section
variable {P : Program} {w : World} {K : PySem.W.Frag} {mg : Str → Option Value} {base : Heap}
theorem fnDG {x qual : Str} {st : Stmt} {f : Addr} {fd : FuncData} {N ps : List Str} {k : Nat} {F : FS} {W : WS} {dvs : List V} {kws : List (Str × V)} (Fn : FunD K x qual (defArgs st) (defBody st) (defScope st) dvs kws f fd) (S : FnScope N ps (defScope st))
    (len : ∀ ags Q, F ags Q → ags.length = ps.length) (hn : ps.length ≤ N.length)
    (body : ∀ (cdv : Value) (A : Around) (outer : List Env) (s : Shared) (H : Hp) (E : XK), (A.deeper (envOfC qual (defScope st) s.heap.objs.size f cdv)).guards = some [] → Room k (A.deeper (envOfC qual (defScope st) s.heap.objs.size f cdv)) →
      PSsD ((cxOf CX0 P w K mg base N qual (defScope st) f cdv A outer s H E).nox) (defBody st) W)
    (hw : ∀ ags Q, F ags Q → W (endsD ags Q) (initS ags N.length)) : FnG P w K mg base (k + 1) f fd ps (spD K F) := by
  obtain ⟨oc, od, dV, kV, doc, pm, an, cdv, ct, osl, rfl, at_, code, _, _⟩ := Fn.ex
  have len2 : ∀ vs H Q E, spD K F vs H Q E → vs.length = ps.length := fun vs H Q E ⟨G, ags, Pq, _, a, h, _⟩ => by rw [a.len]; exact len ags Pq h
  refine ⟨len2, ?_⟩
  intro A outer s H ar us vs Q E guards room here bind vals want
  have kin := PySem.W.Frag.In.keeps here.mod.kin fun b o e => And.left (here.bs b o e)
  have nolim := Heap.NoLimit.keeps here.mod.nolimit fun b o e => And.left (here.bs b o e)
  have par : ∀ y ∈ ps.zip us, (defScope st).names.lookup y.1 = some .local ∨ ((defScope st).names.lookup y.1 = some .cell ∧ ((cellsFrom (s.heap.objs.size + 1) (defScope st).names []).lookup y.1).isSome = true) := by
    rintro ⟨n, v⟩ hy
    refine (S.par n (List.of_mem_zip hy).1).imp id fun q => ?_
    exact ⟨q, PySem.W.cellsFrom_some _ _ _ (Or.inl q)⟩
  apply codeAny_call_function room.depth (kin _ _ at_) rfl S.co S.gen rfl (PySem.W.codeRec_of kin code)
  refine bind _ _ _ _ ?_
  apply wpAny_newFunctionEnv_cells S.kind par
  rintro env rfl s1 x
  refine And.intro (nolim.keeps x.toInCall.keep) (codeAny_func ?_)
  obtain ⟨t, run, goal_⟩ := fn_in len hn hw (body cdv A outer s H E guards (room.deeper _)) want
  have inv : Inv (cxOf CX0 P w K mg base N qual (defScope st) f cdv A outer s H E) [] (L2.start N vs) H s1 := inv_start S room.hd here (len2 _ _ _ _ want) vals x
  have out : ∀ {σ' : L2.St} {H' : Hp} {s' : Shared} {v : V} {u : Value}, Inv (cxOf CX0 P w K mg base N qual (defScope st) f cdv A outer s H E) [] σ' H' s' → RelV v u → Q v H' → CE outer P w H s Q u s' := by
    intro σ' H' s' v u J rv q
    exact ⟨v, H', J.os, J.bare, J.base, J.hok, rv, q⟩
  refine wpAny_mono (run.run [] s1 (L2.start N vs) H _ inv goal_) ?_ (fun _ _ z => z)
  intro fl s' hs
  match fl, hs with
  | .ret u, ⟨v, _, _, J, rv, q⟩ => exact out J rv q
  | .next, ⟨_, _, J, q⟩ => exact out (v := .non) (u := .none) J rfl q
  | .brk, ⟨_, _, _, q⟩ => exact q.elim
  | .cont, ⟨_, _, _, q⟩ => exact q.elim
/-- every def keeps such a promise, too -/
theorem FnG.of {k : Nat} {f : Addr} {fd : FuncData} {ps : List Str} {sp : Sp} (F : FnOk P w K mg base CX0 k f fd ps sp) : FnG P w K mg base k f fd ps sp :=
  ⟨F.len, fun A outer s H ar us vs Q E _ hr he hb hv hs => F.run A outer s H ar us vs Q E hr he hb hv hs⟩
end

section
variable {X : Cx} {e : Expr} {es : List Expr} {p pos : Pos} {x : Str} {k : Nat} {f : Addr} {fd : FuncData} {ps : List Str} {F : FS} {dvs : List V} {ds : List Value} {dv : List D} {R : WA} {W : WE}
theorem pe_callG {sp : Sp} {t : TA} (Fn : FnG X.prog X.w X.K X.mg X.base k f fd ps sp) (gd : X.A.guards = some []) (hr : Room k X.A) (hg : Gl X x) (hm : X.mg x = some (.ref f)) (hk : PySem.W.keepIn X.K (.ref f) = true) (hb : Binds X.K fd ps ds) (hd : Vals dvs ds)
    (ha : PA X (e :: es) t) (hdb : (x == ("__debug__" : Str)) = false) (he : starEach (e :: es) X.env = (false, eval e X.env) :: starEach es X.env) (hpl : (backTo pos (starEach es X.env)).any (·.1) = false) : PE X (.Call (.Name x p) (e :: es) [] pos) (tCall sp dvs E0 t) := by
  constructor
  intro pins s σ H Q I h
  apply wpAny_Call_Name_kw
  refine ld_glob I hg hm ?_ hdb
  refine PySem.W.callWith_K (h₀ := X.base) I.ok.mod.kin hk ?_ he hpl
  refine thn (ha.run pos pins s σ H _ I h) ?_
  rintro us s1 ⟨vs, H1, J, r, q⟩
  refine And.intro J.kIn ?_
  have r2 := r.append hd
  have same : List.length (us ++ ds) = ps.length := r2.length.symm.trans (Fn.len _ _ _ _ q)
  have ran := Fn.go X.A X.stack s1 H1 ⟨us, []⟩ (us ++ ds) (vs ++ dvs) Q E0 gd hr J.env0 (hb s1 us J.kIn same) r2 q
  refine wpAny_call (codeAny_mono ran ?_)
  intro r s' hq
  match r, hq with
  | .error e, hq => exact pass0 pins σ H1 s1 e s' J hq
  | .ok (.ret u), hq => exact Inv.after J hq
  | .ok .next, hq => exact hq.elim
  | .ok .brk, hq => exact hq.elim
  | .ok .cont, hq => exact hq.elim
theorem px_callG (Fn : FnG X.prog X.w X.K X.mg X.base k f fd ps (spD X.K F)) (gd : X.A.guards = some []) (hr : Room k X.A) (hm : X.mg x = some (.ref f)) (hk : PySem.W.keepIn X.K (.ref f) = true) (hb : Binds X.K fd ps ds) (hd : Vals dvs ds) (rd : ∀ G, RpAll X.K G dv dvs) (ha : PXA X (e :: es) R)
    (hg : Gl X x := by rfl) (he : starEach (e :: es) X.env = (false, eval e X.env) :: starEach es X.env := by rfl) (hpl : (backTo pos (starEach es X.env)).any (·.1) = false := by rfl) (hdb : (x == ("__debug__" : Str)) = false := by decide) :
    PX X (.Call (.Name x p) (e :: es) [] pos) (wCall F dv R) := by
  obtain ⟨ta, a1, a2⟩ := ha.ex
  exact ⟨_, pe_callG Fn gd hr hg hm hk hb hd a1 hdb he hpl, ed_call a2 rd⟩

/-! ### repr -/
def seqD : D → Bool
  | .lst _ => true
  | .rd _ => true
  | .tup _ => true
  | _ => false
def bRepr : List D → (D → Prop) → Prop
  | [d], P => seqD d = true ∧ ∃ q, d.py = some q ∧ q.showable = true ∧ q.hasDict = false ∧ q.depth ≤ 100 ∧ q.shown.length ≤ 16777216 ∧ P (.str q.shown)
  | _, _ => False
def rRepr (K : PySem.W.Frag) : List V → Hp → VK → Prop := fun xs H Q => ∃ a q, xs = [.ref a] ∧ Dp K H (.ref a) q ∧ q.showable = true ∧ q.hasDict = false ∧ q.depth ≤ 100 ∧ q.shown.length ≤ 16777216 ∧ Q (.str q.shown) H
theorem call_repr (gd : X.A.guards = some []) (hr : Room k X.A) : CallR X (.builtin "repr") (rRepr X.K) := by
  rintro pins s σ H xs us Q I r ⟨a, q, rfl, d, h1, h2, h3, h4, h5⟩
  obtain ⟨u, rfl, hu⟩ := vals1 r
  obtain rfl : u = .ref a := hu
  obtain ⟨as, rd⟩ := Dp.reads I q _ _ d rfl
  refine repr_of_reads' rd h1 (fun z => ?_) gd (by have := hr.un; omega) (fun _ _ z => z) (fun h' u tk keep => ?_) (by rw [sizeLine_eq]; exact h4)
  · rw [h2] at z; cases z
  · exact ⟨.str q.shown, H, I.kept keep, ⟨u, rfl⟩, h5⟩
theorem rc_repr {K : PySem.W.Frag} : RC K (rRepr K) bRepr := by
  intro G H vs ds P Q e r hf k
  match ds, hf with
  | [d], ⟨sq, q, h1, h2, h3, h4, h5, h6⟩ =>
    obtain ⟨v, ws, rfl, r1, r2⟩ := r
    cases (show ws = [] from r2)
    have dp := Dp.mono e q v (Rp.dp d v q r1 h1)
    have isR : ∃ a, v = .ref a := by
      cases d with
      | lst _ | rd _ | tup _ => obtain ⟨a, _, rfl, _⟩ := r1; exact ⟨a, rfl⟩
      | _ => cases sq
    obtain ⟨a, rfl⟩ := isR
    exact ⟨a, q, rfl, dp, h2, h3, h4, h5, k _ _ (show Rp K G (.str _) (.str _) from rfl) h6⟩
end

/-! ### the law's end -/
theorem walk_ofG {l : PySem.W.OpenLaw} {n k : Nat} {q : Program} {loose : List Str} {XP : (Str → Option Value) → Heap → Prop} {YP : World → Heap → Prop} {d : DefRec} {x : Str} (most : l.most = some n) (small : n ≤ 16777216) (nodf : d.params.defaults = []) (room : Room k callerA)
    (F : ∀ (w : World) (mg : Str → Option Value) (fa : Addr) (h : Heap), YP w h → h.Ns mainGlobals mg → mg d.name = some (.ref fa) →
      ∃ (K : PySem.W.Frag) (fd : FuncData) (sp : Sp), K.In h ∧ (∀ (s : Shared) (u : Value), BindsTo s fd ⟨[u], []⟩ [(x, u)]) ∧
        (∀ (H : Hp) (a : Addr) (ns : List Int), ns.length ≤ n → SqL K H a (ns.map V.int) → sp [.ref a] H (fun v _ => v = .bl true) fun _ _ _ => False) ∧
        ∀ base : Heap, K.In base → base.Ns mainGlobals mg → base.NoDigits → FnG l.prog w K mg base k fa fd [x] sp) : PySem.W.WalkO q loose XP YP l.row.toRowW d [] (fun f vs => PySem.call f vs) := by
  apply Att.attach_call most nodf
  intro w s₀ s₁ mg mb fa o pm cd doc a vs ns G Y _ _ _ named obj isI most2 nogen
  obtain ⟨K, fd, sp, kin, binds, says, law⟩ := F w mg fa _ Y G.T.g named
  have vals := vals_ints isI
  have lens := isI.length
  have small2 : ns.length ≤ sizeLine := by rw [sizeLine_eq]; omega
  -- the script is tracked where the module does not know it
  let so : Obj := { cls := .type "list", data := .seq vs.toArray }
  let H : Hp := fun b => if b = a ∧ K.lookup a = none then some (.frz so (.lst (ns.map V.int))) else none
  have at_a : ∀ {b u}, H b = some u → b = a ∧ K.lookup a = none ∧ u = .frz so (.lst (ns.map V.int)) := by
    intro b u e
    by_cases c : b = a ∧ K.lookup a = none
    · have e' := (if_pos c).symm.trans e
      cases e'
      exact ⟨c.1, c.2, rfl⟩
    · have e' := (if_neg c).symm.trans e
      cases e'
  have no_at : ∀ {b}, (b = a → K.lookup a ≠ none) → H b = none := by
    intro b c
    exact if_neg fun z => c z.1 z.2
  have seen : SqL K H a (ns.map V.int) := by
    cases z : K.lookup a with
    | none => exact .inl (.inr ⟨so, if_pos ⟨rfl, z⟩⟩)
    | some y =>
      have e := kin a y z
      rw [obj] at e
      cases e
      exact .inr ⟨_, vs.toArray, _, z, rfl, rfl, rfl, by rw [List.size_toArray, lens]; exact small2, by simpa using vals⟩
  have ok : HOk l.prog w H s₁.heap := by
    intro b u e
    obtain ⟨rfl, _, rfl⟩ := at_a e
    exact ⟨obj, by rw [List.length_map]; exact small2, vs, _, vals, obj⟩
  have under : ∀ {b : Addr} {y : Obj}, s₁.heap.get? b = some y → H b = none → (hidT s₁.heap H).get? b = some y := fun e z => hidT_get e z
  have names : ∀ {b : Addr} {m : Str → Option Value}, s₁.heap.Ns b m → (hidT s₁.heap H).Ns b m := by
    rintro b m ⟨y, es, ep, e, dd, r⟩
    refine ⟨y, es, ep, under e (no_at ?_), dd, r⟩
    rintro rfl
    rw [obj] at e
    cases e
    cases (show Data.seq vs.toArray _ = Data.dict es ep from dd)
  have kin2 : K.In (hidT s₁.heap H) := by
    intro b y e
    refine under (kin b y e) (no_at ?_)
    rintro rfl z
    rw [z] at e
    cases e
  have mod_ : Mod K mg (hidT s₁.heap H) := by
    obtain ⟨mc, n1, n2⟩ := G.T.nolimit
    exact ⟨kin2, names G.T.g, ⟨mb, names G.T.b, G.T.builtins⟩, ⟨mc, names n1, n2⟩⟩
  have env : Env0 l.prog w K mg (hidT s₁.heap H) callerA [] s₁ H := {
    frames := rfl
    mod := mod_
    bs := fun b y e => of_hidT e
    bsz := by rw [hidT_size]; exact Nat.le_refl _
    funs := trivial
    frf := fun b hb => nomatch hb
    hok := ok
    bare := .of_eq nogen }
  have ran := (law _ kin2 (names G.T.g) (let ⟨md, d1, d2⟩ := G.T.nodigits; ⟨md, names d1, d2⟩)).go callerA [] s₁ H ⟨[.ref a], []⟩ [.ref a] [.ref a] _ _ rfl room env (binds s₁ (.ref a)) (.cons rfl .nil) (says H a ns most2 seen)
  refine codeAny_mono ran ?_
  intro r s' hq
  match r, hq with
  | .error e, hq => exact (show False from hq).elim
  | .ok .next, hq => exact hq.elim
  | .ok .brk, hq => exact hq.elim
  | .ok .cont, hq => exact hq.elim
  | .ok (.ret u), ⟨v, H2, os, bare, un, ok2, rel, yes⟩ =>
    obtain rfl : v = .bl true := yes
    obtain rfl : u = Value.bool true := rel
    refine ⟨rfl, OldK.of_keep ?_, os, bare⟩
    intro b y e
    cases z : H b with
    | none => exact un.keep b y e z (fun q => nomatch q) (fun q => nomatch q)
    | some u =>
      obtain ⟨rfl, _, rfl⟩ := at_a z
      obtain ⟨e2, _⟩ := ok2 _ _ (un.frzs _ _ _ z)
      rw [obj] at e
      cases e
      exact e2
end DL
/-! texts: repeated, joined, taken apart into signs -/
namespace DL
open PySem L2 PySem.Spec PyProof.Rows
open Evl (Ex Ex.refl Ex.trans Ex.new)

def mulS (x : Str) (n : Nat) : Str := ⟨(List.replicate n x.cps.toList).flatten.toArray⟩
theorem foldl_cps (x : Array Nat) : ∀ (n : Nat) (a : Array Nat), ((List.replicate n x).foldl (· ++ ·) a).toList = a.toList ++ (List.replicate n x.toList).flatten
  | 0, a => by simp
  | n + 1, a => by
    rw [List.replicate_succ, List.foldl_cons, foldl_cps x n, List.replicate_succ, List.flatten_cons]
    simp
theorem mulS_fold (x : Str) (n : Nat) : (⟨(List.replicate n x.cps).foldl (· ++ ·) #[]⟩ : Str) = mulS x n := by
  unfold mulS
  congr 1
  apply Array.ext'
  rw [foldl_cps]
  simp
theorem mulS_len (x : Str) (n : Nat) : (mulS x n).length = n * x.length := by
  show ((List.replicate n x.cps.toList).flatten.toArray).size = _
  simp
  rfl
def oRepS : D → D → (D → Prop) → Prop
  | .str x, .int k, P => (0 ≤ k ∧ x.length * k.toNat ≤ 16777216 ∧ k < 2 ^ 62) ∧ P (.str (mulS x k.toNat))
  | _, _, _ => False
section
variable {X : Cx} {a b e : Expr} {pos : Pos} {Fa Fb : WE} {x : Str} {p : Pos} {k : Nat}
theorem op_repS : OpR X (binaryOp .Mult) (fun x y H Q => ∃ z i, x = .str z ∧ y = .int i ∧ (0 ≤ i ∧ z.length * i.toNat ≤ 16777216 ∧ i < 2 ^ 62) ∧ Q (.str (mulS z i.toNat)) H) := by
  rintro pins s σ H x y u v Q I rx ry ⟨z, i, rfl, rfl, ⟨h0, hz, h2⟩, q⟩
  obtain ⟨t, rfl⟩ := rx
  obtain ⟨t', rfl⟩ := ry
  refine PySem.P.mul_str ?_ ?_ ?_ ?_
  · have a1 : ¬ i < -(2 ^ 63 : Int) := by omega
    have a2 : ¬ i ≥ 2 ^ 63 := by omega
    rw [decide_eq_false a1, decide_eq_false a2]; rfl
  · intro h1 _ hgt
    have hpos : 0 < i := by omega
    have h4 : (z.length : Int) ≤ (2 ^ 63 - 1) / i := by
      apply Int.le_ediv_of_mul_le hpos
      have e : i = (i.toNat : Int) := by omega
      have h5 : ((z.length * i.toNat : Nat) : Int) ≤ 16777216 := by omega
      rw [e]
      rw [Int.natCast_mul] at h5
      omega
    omega
  · intro _ _
    exact short24 hz
  · have fin : ∀ (y : Str) (u : Tok) (k : Nat), y = mulS z i.toNat → EP X pins σ Q (.str y u) { s with toks := k } := by
      rintro y u k rfl
      exact ⟨.str _, H, I.tok _, ⟨_, rfl⟩, q⟩
    have lim : sizeLine = 16777216 := sizeLine_eq
    split
    · rename_i h
      have e : i.toNat = 0 := by omega
      refine ⟨by decide, fin _ _ _ ?_⟩
      rw [e]; rfl
    · split
      · rename_i h
        refine fin z t s.toks ?_
        simp only [Bool.or_eq_true, beq_iff_eq] at h
        rcases h with h | h
        · subst h
          show z = mulS z 1
          unfold mulS
          simp
        · have e : z = ⟨#[]⟩ := by
            cases z with
            | mk c =>
              have : c.size = 0 := h
              rw [Array.size_eq_zero_iff.mp this]
          rw [e]
          unfold mulS
          congr 1
          apply Array.ext'
          simp
      · rw [mulS_fold]
        refine ⟨?_, fin _ _ _ rfl⟩
        rw [mulS_len, lim, Nat.mul_comm]
        exact hz
theorem px_repS (ha : PX X a Fa) (hb : PX X b Fb) : PX X (.BinOp a .Mult b pos) (wOp oRepS Fa Fb) := px_op op_repS (fun G H x y d1 d2 P Q e r1 r2 hf k => by
  cases d1 <;> cases d2 <;> first
    | (obtain ⟨h1, h2⟩ := hf; exact ⟨_, _, r1, r2, h1, k _ _ (show Rp X.K G (.str _) (.str _) from rfl) h2⟩)
    | exact (show False from hf).elim) ha hb

/-! ### list(a text) -/
def bListS : List D → (List D → Prop) → Prop
  | [.str z], P => z.length ≤ 16777216 ∧ P (signsD z)
  | _, _ => False
def rListS : List V → Hp → VK → Prop := fun xs H Q => ∃ z : Str, xs = [.str z] ∧ z.length ≤ 16777216 ∧ ∀ l, H l = none → Q (.ref l) (upd H l (.lst (z.cps.toList.map fun c => V.str ⟨#[c]⟩)))
theorem vals_signs (z : Str) : ∀ (l : List Nat) (its : List Value), its.length = l.length → (∀ (j : Nat) v, its[j]? = some v → ∃ c u, l[j]? = some c ∧ v = .str ⟨#[c]⟩ u) → Vals (l.map fun c => V.str ⟨#[c]⟩) its
  | [], [], _, _ => .nil
  | c :: l, v :: its, h, f => by
    obtain ⟨c', u, e1, rfl⟩ := f 0 v rfl
    cases e1
    exact .cons ⟨u, rfl⟩ (vals_signs z l its (by simpa using h) fun j v e => f (j + 1) v (by simpa using e))
  | [], _ :: _, h, _ => by simp at h
  | _ :: _, [], h, _ => by simp at h
theorem call_listS (hr : Room k X.A) : CallR X (.type "list") rListS := by
  rintro pins s σ H xs us Q I r ⟨z, rfl, hz, q⟩
  obtain ⟨u, rfl, t, rfl⟩ := vals1 r
  refine call_list_str hr.hd z t (fun h' tk acc c kp e it => ?_) (by rw [sizeLine_eq]; exact hz)
  refine ⟨.ref s.heap.objs.size, _, I.laid (t' := tk) (o := .lst (z.cps.toList.map fun c => V.str ⟨#[c]⟩)) kp (Nat.le_refl _) ?_, rfl, q _ (I.hok.fresh (Nat.le_refl _))⟩
  refine ⟨by rw [List.length_map, sizeLine_eq]; exact hz, acc.toList, c, vals_signs z _ _ ?_ fun j v hv => ?_, by simpa using e⟩
  · rw [Array.length_toList, it.1, Array.length_toList]
  · obtain ⟨c, u, h1, h2⟩ := it.2 j v (by simpa using hv)
    exact ⟨c, u, by simpa using h1, h2⟩
theorem rc_listS {K : PySem.W.Frag} : RCO K rListS bListS := by
  intro G H vs ds P Q e r hf k
  match ds, hf with
  | [.str z], ⟨h1, h2⟩ =>
    obtain ⟨v, ws, rfl, r1, r2⟩ := r
    cases (show ws = [] from r2)
    cases (show v = .str z from r1)
    refine ⟨z, rfl, h1, fun l hl => k l _ _ hl ?_ h2⟩
    have go : ∀ l : List Nat, RpAll K G (l.map fun c => D.str ⟨#[c]⟩) (l.map fun c => V.str ⟨#[c]⟩) := by
      intro l
      induction l with
      | nil => rfl
      | cons c l ih => exact ⟨_, _, rfl, rfl, ih⟩
    exact go _

/-! ### "..".join(..) -/
theorem strs_map {α : Type} (f : α → Str) : ∀ l : List α, strsOf (l.map fun a => D.str (f a)) = some (l.map f)
  | [] => rfl
  | a :: l => by
    show (strsOf (l.map fun a => D.str (f a))).map (f a :: ·) = _
    rw [strs_map f l]; rfl
def joinD (a : Str) (d : D) (P : D → Prop) : Prop := asA d fun xs => ∃ ys, strsOf xs = some ys ∧ (ys.map (·.length)).sum + ys.length * a.length ≤ 16777216 ∧ P (.str (Txt.join a ys))
def wJoin (Fa Fb : WE) : WE := fun s P => Fa s fun x s1 => asS x fun z => Fb s1 fun y s2 => joinD z y fun d => P d s2
theorem rp_strs {K : PySem.W.Frag} {G : Hp} : ∀ {ys : List Str} {vs : List V}, RpAll K G (ys.map D.str) vs → vs = ys.map V.str
  | [], vs, h => h
  | y :: ys, vs, ⟨v, ws, e, r, r2⟩ => by
    rw [e, rp_strs r2, show v = .str y from r]; rfl
theorem px_join {apos : Pos} (ha : PX X a Fa) (hb : PX X b Fb) (hs : starEach [b] X.env = [(false, eval b X.env)] := by rfl) (hbase : attributeBase a "join" X.env (eval a X.env) = eval a X.env := by rfl) (hline : (apos.endLine == pos.line) = true := by rfl) :
    PX X (.Call (.Attribute a "join" apos) [b] [] pos) (wJoin Fa Fb) := by
  obtain ⟨ta, a1, a2⟩ := ha.ex
  obtain ⟨tb, b1, b2⟩ := hb.ex
  refine ⟨_, pe_join a1 b1 hs hbase hline, fun c s P hf G σ H Q A k => ?_⟩
  refine a2 c s _ hf G σ H _ A fun v d s1 G1 H1 e1 A1 r1 hf1 => ?_
  cases d with
  | str z =>
    refine ⟨⟨z, r1⟩, b2 c s1 _ hf1 G1 σ H1 _ A1 fun u d s2 G2 H2 e2 A2 r2 hf2 => ?_⟩
    unfold joinD at hf2
    cases d with
    | lst xs | rd xs | tup xs =>
      obtain ⟨ys, h1, h2, h3⟩ := hf2
      cases strsOf_eq h1
      obtain ⟨q, vs, rfl, q1, q2⟩ := r2
      cases rp_strs q2
      have fin : Q (.str (Txt.join z ys)) H2 := k (.str _) (.str _) s2 G2 H2 (e1.trans e2) A2 rfl h3
      first
        | exact ⟨z, q, ys, r1, rfl, .inl (Evl.ex_l A2.gh (Evl.sq_of q1)), h2, fin⟩
        | exact ⟨z, q, ys, r1, rfl, .inl (Evl.ex_l A2.gh q1), h2, fin⟩
        | exact ⟨z, q, ys, r1, rfl, .inr (Evl.ex_t A2.gh q1), h2, fin⟩
    | _ => exact (show False from hf2).elim
  | _ => exact (show False from hf1).elim
end
end DL
namespace DL
open PySem L2 PySem.Spec PyProof.Rows
section
variable {X : Cx} {p pos : Pos} {x : Str} {k : Nat} {f : Addr} {fd : FuncData} {ps : List Str} {F : FS} {dvs : List V} {ds : List Value} {dv : List D}
/-- f() -/
theorem px_call0 (Fn : FnOk X.prog X.w X.K X.mg X.base CX0 k f fd ps (spD X.K F)) (hr : Room k X.A) (hm : X.mg x = some (.ref f)) (hk : PySem.W.keepIn X.K (.ref f) = true) (hb : Binds X.K fd ps ds) (hd : Vals dvs ds) (rd : ∀ G, RpAll X.K G dv dvs)
    (hg : Gl X x := by rfl) (hdb : (x == ("__debug__" : Str)) = false := by decide) : PX X (.Call (.Name x p) [] [] pos) (wCall F dv waNil) :=
  ⟨_, pe_call0 (E := E0) Fn hr hg hm hk hb hd pass0 hdb, ed_call (fun c s P hf G σ H Q A k => k [] [] s G H Stp.refl A rfl hf) rd⟩
theorem po_call0 (Fn : FnOk X.prog X.w X.K X.mg X.base CX0 k f fd ps (spD X.K F)) (hr : Room k X.A) (hm : X.mg x = some (.ref f)) (hk : PySem.W.keepIn X.K (.ref f) = true) (hb : Binds X.K fd ps ds) (hd : Vals dvs ds) (rd : ∀ G, RpAll X.K G dv dvs)
    (hg : Gl X x := by rfl) (hdb : (x == ("__debug__" : Str)) = false := by decide) : PO X (.Call (.Name x p) [] [] pos) (wCallO F dv waNil) :=
  ⟨_, pe_call0 (E := E0) Fn hr hg hm hk hb hd pass0 hdb, eo_call (fun c s P hf G σ H Q A k => k [] [] s G H Stp.refl A rfl hf) rd⟩
end
theorem q_oRepS {x : Str} {i : Int} {P : D → Prop} : oRepS (.str x) (.int i) P = ((0 ≤ i ∧ x.length * i.toNat ≤ 16777216 ∧ i < 2 ^ 62) ∧ P (.str (mulS x i.toNat))) := rfl
theorem q_bListS {x : Str} {P : List D → Prop} : bListS [.str x] P = (x.length ≤ 16777216 ∧ P (signsD x)) := rfl
end DL
/-! data as plain trees: equal, shaped -/
namespace DL
open PySem L2 PySem.Spec PyProof.Rows

theorem pys_map {α : Type} (f : α → D) (q : α → PyData) (h : ∀ a, (f a).py = some (q a)) : ∀ l : List α, D.pys (l.map f) = some (l.map q)
  | [] => rfl
  | a :: l => by
    show (match D.py (f a), D.pys (l.map f) with
      | some y, some ys => some (y :: ys)
      | _, _ => none) = _
    rw [h a, pys_map f q h l]
    rfl
theorem can_map {α : Type} (q : α → PyData) (l : List α) (h : ∀ a ∈ l, (q a).canLay0 = true) : PyData.canLayAll0 (l.map q) = true := by
  induction l with
  | nil => rfl
  | cons a l ih =>
    simp only [List.map_cons, PyData.canLayAll0]
    rw [h a (by simp), ih fun b hb => h b (by simp [hb])]
    rfl
theorem depth_map {α : Type} (q : α → PyData) (n : Nat) (l : List α) (h : ∀ a ∈ l, (q a).depth ≤ n) : PyData.depthAll (l.map q) ≤ n := by
  induction l with
  | nil => exact Nat.zero_le _
  | cons a l ih =>
    simp only [List.map_cons, PyData.depthAll]
    exact Nat.max_le.mpr ⟨h a (by simp), ih fun b hb => h b (by simp [hb])⟩
mutual
theorem eqv_refl : ∀ d : PyData, d.canLay0 = true → PyData.eqv d d = true
  | .none, _ => by simp only [PyData.eqv]
  | .bool _, _ => by simp only [PyData.eqv, beq_self_eq_true]
  | .int _, _ => by simp only [PyData.eqv, beq_self_eq_true]
  | .str _, _ => by simp only [PyData.eqv, beq_self_eq_true]
  | .list xs, h => by
    simp only [PyData.eqv]
    exact eqvAll_refl xs (by simpa only [PyData.canLay0] using h)
  | .tuple xs, h => by
    simp only [PyData.eqv]
    exact eqvAll_refl xs (by simpa only [PyData.canLay0] using h)
  | .dict _, h => by simp [PyData.canLay0] at h
theorem eqvAll_refl : ∀ ds : List PyData, PyData.canLayAll0 ds = true → PyData.eqvAll ds ds = true
  | [], _ => by simp only [PyData.eqvAll]
  | d :: ds, h => by
    have h : (d.canLay0 && PyData.canLayAll0 ds) = true := by simpa only [PyData.canLayAll0] using h
    rw [Bool.and_eq_true] at h
    simp only [PyData.eqvAll]
    rw [eqv_refl d h.1, eqvAll_refl ds h.2]
    rfl
end
theorem shaped_list {qs : List PyData} (h1 : PyData.canLayAll0 qs = true) (h2 : PyData.depthAll qs ≤ 63) : SeqAt.shaped (.list qs) = true := by
  unfold SeqAt.shaped
  simp only [PyData.canLay0, PyData.depth, h1, Bool.true_and]
  exact decide_eq_true (by omega)
theorem eqD_of {x y : D} {a b : PyData} {P : D → Prop} (h1 : x.py = some a) (h2 : y.py = some b) (s1 : SeqAt.shaped a = true) (s2 : SeqAt.shaped b = true) (hp : P (.bl (PyData.eqv a b))) : oEqD x y P := by
  unfold oEqD
  rw [h1, h2]
  exact ⟨s1, s2, hp⟩
theorem neD_of {x y : D} {a b : PyData} {P : D → Prop} (h1 : x.py = some a) (h2 : y.py = some b) (s1 : SeqAt.shaped a = true) (s2 : SeqAt.shaped b = true) (hp : P (.bl (!PyData.eqv a b))) : oNeD x y P := by
  unfold oNeD
  rw [h1, h2]
  exact ⟨s1, s2, hp⟩
/-- the same data -/
theorem neD_same {x : D} {a : PyData} {P : D → Prop} (h1 : x.py = some a) (s1 : SeqAt.shaped a = true) (hp : P (.bl false)) : oNeD x x P := by
  refine neD_of h1 h1 s1 s1 ?_
  rw [eqv_refl a (SeqAt.canLay_of_shaped s1)]
  exact hp
theorem eqD_same {x : D} {a : PyData} {P : D → Prop} (h1 : x.py = some a) (s1 : SeqAt.shaped a = true) (hp : P (.bl true)) : oEqD x x P := by
  refine eqD_of h1 h1 s1 s1 ?_
  rw [eqv_refl a (SeqAt.canLay_of_shaped s1)]
  exact hp
theorem py_lst {xs : List D} {qs : List PyData} (h : D.pys xs = some qs) : (D.lst xs).py = some (.list qs) := by
  show (D.pys xs).map PyData.list = _
  rw [h]; rfl
theorem py_rd {xs : List D} {qs : List PyData} (h : D.pys xs = some qs) : (D.rd xs).py = some (.list qs) := by
  show (D.pys xs).map PyData.list = _
  rw [h]; rfl
theorem py_tup {xs : List D} {qs : List PyData} (h : D.pys xs = some qs) : (D.tup xs).py = some (.tuple qs) := by
  show (D.pys xs).map PyData.tuple = _
  rw [h]; rfl
/-- not the empty list -/
theorem neD_nil {xs : List D} {qs : List PyData} {P : D → Prop} (h : D.pys xs = some qs) (s : SeqAt.shaped (.list qs) = true) (hp : P (.bl (!xs.isEmpty))) : oNeD (.lst xs) (.lst []) P := by
  refine neD_of (py_lst h) (by rfl) s (by rfl) ?_
  cases xs with
  | nil => cases h; exact hp
  | cons x xs =>
    cases qs with
    | nil =>
      exfalso
      have h : (match D.py x, D.pys xs with
        | some y, some ys => some (y :: ys)
        | _, _ => none) = some [] := h
      split at h <;> simp at h
    | cons q qs => exact hp
theorem eqD_nil {xs : List D} {qs : List PyData} {P : D → Prop} (h : D.pys xs = some qs) (s : SeqAt.shaped (.list qs) = true) (hp : P (.bl xs.isEmpty)) : oEqD (.lst xs) (.lst []) P := by
  refine eqD_of (py_lst h) (by rfl) s (by rfl) ?_
  cases xs with
  | nil => cases h; exact hp
  | cons x xs =>
    cases qs with
    | nil =>
      exfalso
      have h : (match D.py x, D.pys xs with
        | some y, some ys => some (y :: ys)
        | _, _ => none) = some [] := h
      split at h <;> simp at h
    | cons q qs => exact hp
/-! lists of ints -/
theorem pys_ints (l : List Int) : D.pys (l.map D.int) = some (l.map PyData.int) := pys_map _ _ (fun _ => rfl) l
theorem shaped_ints (l : List Int) : SeqAt.shaped (.list (l.map PyData.int)) = true :=
  shaped_list (can_map _ _ fun a _ => by simp only [PyData.canLay0]) (Nat.le_trans (depth_map _ 0 _ fun a _ => by simp only [PyData.depth]; exact Nat.le_refl 0) (by decide))
end DL
namespace DL
open PySem L2
theorem sIx_nn {n d : Nat} {k : Int} (h : 0 ≤ k) : HT.sIx n d (some k) = min k.toNat n := by
  unfold HT.sIx
  exact if_neg (by omega)
theorem cut_from {α : Type} (xs : List α) {k : Int} (h : 0 ≤ k) : cutD xs (some k) none = xs.drop k.toNat := by
  unfold cutD
  rw [sIx_nn h]
  have e : HT.sIx xs.length xs.length none = xs.length := rfl
  rw [e]
  by_cases c : k.toNat ≤ xs.length
  · rw [Nat.min_eq_left c]
    exact List.take_of_length_le (by simp)
  · rw [Nat.min_eq_right (by omega), List.drop_of_length_le (by omega), List.drop_of_length_le (by omega)]
    simp
theorem cut_to {α : Type} (xs : List α) {k : Int} (h : 0 ≤ k) : cutD xs none (some k) = xs.take k.toNat := by
  unfold cutD
  rw [sIx_nn h]
  have e : HT.sIx xs.length 0 none = 0 := rfl
  rw [e, List.drop_zero, Nat.sub_zero]
  by_cases c : k.toNat ≤ xs.length
  · rw [Nat.min_eq_left c]
  · rw [Nat.min_eq_right (by omega), List.take_of_length_le (by omega), List.take_of_length_le (by omega)]
theorem cut_both {α : Type} (xs : List α) {j k : Int} (h : 0 ≤ j) (h2 : 0 ≤ k) : cutD xs (some j) (some k) = (xs.drop j.toNat).take (k.toNat - j.toNat) := by
  unfold cutD
  rw [sIx_nn h, sIx_nn h2]
  by_cases c : j.toNat ≤ xs.length
  · rw [Nat.min_eq_left c]
    by_cases c2 : k.toNat ≤ xs.length
    · rw [Nat.min_eq_left c2]
    · rw [Nat.min_eq_right (by omega)]
      rw [List.take_of_length_le (by simp), List.take_of_length_le (by simp; omega)]
  · rw [Nat.min_eq_right (by omega : xs.length ≤ j.toNat), List.drop_of_length_le (by omega), List.drop_of_length_le (by omega)]
    simp
theorem units_of {X : Cx} {k : Nat} (hr : Room k X.A) : X.A.units + 64 < cLine := by have := hr.un; omega
end DL
/-! objects of the program's own classes that do not change once they are made -/
namespace DL
open PySem L2 PySem.Spec PyProof.Rows
open Evl (Ex Ex.refl Ex.trans Ex.new)

/-- C(..) stores its arguments in the fields fs -/
def spInit (C : Addr) (fs : List Str) : Sp := fun vs H Q _ => ∃ x dx args, vs = .ref x :: args ∧ args.length = fs.length ∧ H x = some (.ins C dx []) ∧ Q .non (upd H x (.ins C dx (fs.zip args)))
def wMake (C : Addr) (fs : List Str) (R : WA) : WE := fun s P => R s fun as s1 => allD as fun xs => xs.length = fs.length ∧ P (.obj C fs xs) s1
def fldD (C : Addr) (f : Str) : D → (D → Prop) → Prop
  | .obj C2 fs ds, P => C2 = C ∧ (match (fs.zip ds).lookup f with
    | some d => P d
    | none => False)
  | _, _ => False
def wFld (C : Addr) (f : Str) (Fo : WE) : WE := fun s P => Fo s fun x s1 => fldD C f x fun d => P d s1
theorem lookup_rp {K : PySem.W.Frag} {G : Hp} {f : Str} {d : D} : ∀ {fs : List Str} {ds : List D} {vs : List V}, RpAll K G ds vs → (fs.zip ds).lookup f = some d → ∃ v, (fs.zip vs).lookup f = some v ∧ Rp K G d v
  | [], _, _, _, h => by cases h
  | _ :: _, [], _, _, h => by cases h
  | g :: fs, x :: ds, vs, r, h => by
    obtain ⟨v, ws, rfl, r1, r2⟩ := r
    simp only [List.zip_cons_cons, List.lookup_cons] at h ⊢
    cases e : f == g with
    | true =>
      rw [e] at h
      cases h
      exact ⟨v, rfl, r1⟩
    | false =>
      rw [e] at h
      exact lookup_rp r2 h
section
variable {X : Cx} {e : Expr} {es : List Expr} {p pos apos : Pos} {x m f : Str} {k : Nat} {C fa : Addr} {fd : FuncData} {ps : List Str} {F : FS} {dvs : List V} {ds : List Value} {dv : List D} {R : WA} {Fo : WE}
theorem px_fld (c : Cls X.K C) (n : NoAttr X.K C f) (ho : PX X e Fo) (hb : attributeBase e f X.env (eval e X.env) = eval e X.env := by rfl) : PX X (.Attribute e f pos) (wFld C f Fo) := by
  obtain ⟨ta, a1, a2⟩ := ho.ex
  refine ⟨_, pe_fld a1 hb, fun cc s P hf G σ H Q A k => ?_⟩
  refine a2 cc s _ hf G σ H _ A fun v d s1 G1 H1 e1 A1 r1 hp => ?_
  cases d with
  | obj C2 fs xs =>
    obtain ⟨rfl, hp⟩ := hp
    obtain ⟨a, dx, vs, rfl, h1, h2, h3⟩ := r1
    split at hp
    · rename_i y hy
      obtain ⟨v, h4, h5⟩ := lookup_rp h2 hy
      exact ⟨a, C2, dx, _, v, rfl, A1.gh a _ h1, c, n, h4, k v y s1 G1 H1 e1 A1 h5 hp⟩
    · exact hp.elim
  | _ => exact (show False from hp).elim
theorem px_make {fs : List Str} (M : Mk X.K C fa) (Fn : FnOk X.prog X.w X.K X.mg X.base CX0 k fa fd ps (spInit C fs)) (hr : Room (k + 1) X.A) (hm : X.mg x = some (.ref C)) (hb : Binds X.K fd ps []) (ha : PXA X (e :: es) R)
    (hg : Gl X x := by rfl) (he : starEach (e :: es) X.env = (false, eval e X.env) :: starEach es X.env := by rfl) (hpl : (backTo pos (starEach es X.env)).any (·.1) = false := by rfl) (hdb : (x == ("__debug__" : Str)) = false := by decide) :
    PX X (.Call (.Name x p) (e :: es) [] pos) (wMake C fs R) := by
  obtain ⟨ta, a1, a2⟩ := ha.ex
  refine ⟨_, pe_make (E := E0) M Fn hr hg hm hb .nil pass0 a1 hdb he hpl, fun c s P hf G σ H Q A kk => ?_⟩
  refine a2 c s _ hf G σ H _ A fun vs as s1 G1 H1 e1 A1 r1 hp => ?_
  obtain ⟨xs, rx, hl, hp⟩ := allD_ok r1 hp
  intro q dx hq hdx hne
  have A2 := A1.alloc (o := .own q) hdx
  have hq2 : upd H1 dx (.own q) q = none := by rw [upd_ne (fun z => hne z.symm)]; exact hq
  have A3 := A2.alloc (o := .ins C dx (fs.zip vs)) hq2
  have g1 := none_of_ex A1.gh hdx
  have g2 := none_of_ex A2.gh hq2
  refine ⟨q, dx, vs, by rw [List.append_nil], by rw [rx.len]; exact hl, upd_same, rfl, ?_⟩
  rw [upd_upd]
  refine kk (.ref q) (.obj C fs xs) s1 _ _ ?_ A3 ⟨q, dx, vs, rfl, upd_same, RpAll.mono (ex_upd g2) xs vs (RpAll.mono (ex_upd g1) xs vs rx), by rw [rx.len]; exact hl.symm⟩ hp
  exact (e1.trans (Stp.new hdx (ex_upd g1) upd_fr)).trans (Stp.new hq2 (ex_upd g2) upd_fr)

/-! ### o.m(..) -/
def objIs (C : Addr) (m : Str) : D → Prop
  | .obj C2 fs ds => C2 = C ∧ fs.contains m = false ∧ ds.length = fs.length
  | _ => False
def waMeth (C : Addr) (m : Str) (Fo : WE) (R : WA) : WA := fun s P => Fo s fun x s1 => objIs C m x ∧ R s1 fun as s2 => P (.d x :: as) s2
theorem lookup_no {α : Type} {f : Str} : ∀ {fs : List Str} {vs : List α}, fs.contains f = false → (fs.zip vs).lookup f = none
  | [], _, _ => rfl
  | _ :: _, [], _ => rfl
  | g :: fs, v :: vs, h => by
    rw [List.contains_cons, Bool.or_eq_false_iff] at h
    rw [List.zip_cons_cons, List.lookup_cons, h.1]
    exact lookup_no h.2
theorem px_meth {pl : Sem Bool} (ho : PX X e Fo) (c : Cls X.K C) (hm : Meth X.K C m fa) (Fn : FnOk X.prog X.w X.K X.mg X.base CX0 k fa fd ps (spD X.K F)) (hr : Room k X.A) (hb : Binds X.K fd ps ds) (hd : Vals dvs ds) (rd : ∀ G, RpAll X.K G dv dvs) {b : Expr} (ha : PXA X (b :: es) R)
    (hst : starEach (b :: es) X.env = (false, eval b X.env) :: starEach es X.env := by rfl) (hpl : (backTo pos (starEach es X.env)).any (·.1) = false := by rfl)
    (ht : eval (.Call (.Attribute e m apos) (b :: es) [] pos) X.env = (do
      let ov ← eval e X.env
      standAt apos.atName
      let (f, first) ← holding [ov] (getMethod ov m pl)
      callWith pos f first (backTo pos (starEach (b :: es) X.env)) (backToKw pos (keywordEach [] X.env))) := by rfl) : PX X (.Call (.Attribute e m apos) (b :: es) [] pos) (wCall F dv (waMeth C m Fo R)) := by
  obtain ⟨ta, a1, a2⟩ := ho.ex
  obtain ⟨tb, b1, b2⟩ := ha.ex
  let tX : TA := fun σ H Q => ta σ H fun x H1 => ∃ a dx fs, x = .ref a ∧ H1 a = some (.ins C dx fs) ∧ fs.lookup m = none ∧ tb σ H1 fun vs H2 => Q (x :: vs) H2
  have hX : ∀ c s P, waMeth C m Fo R s P → AD X.K c tX s P := fun cc s P hf G σ H Q A kk => by
    refine a2 cc s _ hf G σ H _ A fun v d s1 G1 H1 e1 A1 r1 hp => ?_
    obtain ⟨hp0, hp⟩ := hp
    cases d with
    | obj C2 fs xs =>
      obtain ⟨rfl, h1, h2⟩ := hp0
      have r1' := r1
      obtain ⟨a, dx, vs, rfl, q1, q2, q3⟩ := r1
      refine ⟨a, dx, _, rfl, A1.gh a _ q1, lookup_no h1, ?_⟩
      refine b2 cc s1 _ hp G1 σ H1 _ A1 fun ws as s2 G2 H2 e2 A2 r2 hp2 => ?_
      exact kk _ (.d (.obj C2 fs xs) :: as) s2 G2 H2 (e1.trans e2) A2 ⟨_, ws, rfl, Rp.mono e2.eg _ _ r1', r2⟩ hp2
    | _ => exact hp0.elim
  exact ⟨_, pe_meth (E := E0) (pl := pl) a1 c hm Fn hr hb hd pass0 b1 hst hpl ht, fun cc s P hf => ed_call (E := E0) hX rd cc s P hf⟩
theorem px_meth0 {pl : Sem Bool} (ho : PX X e Fo) (c : Cls X.K C) (hm : Meth X.K C m fa) (Fn : FnOk X.prog X.w X.K X.mg X.base CX0 k fa fd ps (spD X.K F)) (hr : Room k X.A) (hb : Binds X.K fd ps ds) (hd : Vals dvs ds) (rd : ∀ G, RpAll X.K G dv dvs)
    (ht : eval (.Call (.Attribute e m apos) [] [] pos) X.env = (do
      let ov ← eval e X.env
      standAt apos.atName
      let (f, first) ← holding [ov] (getMethod ov m pl)
      callWith pos f first (backTo pos (starEach [] X.env)) (backToKw pos (keywordEach [] X.env))) := by rfl) : PX X (.Call (.Attribute e m apos) [] [] pos) (wCall F dv (waMeth C m Fo waNil)) := by
  obtain ⟨ta, a1, a2⟩ := ho.ex
  let tX : TA := fun σ H Q => ta σ H fun x H1 => ∃ a dx fs, x = .ref a ∧ H1 a = some (.ins C dx fs) ∧ fs.lookup m = none ∧ tNil σ H1 fun vs H2 => Q (x :: vs) H2
  have hX : ∀ c s P, waMeth C m Fo waNil s P → AD X.K c tX s P := fun cc s P hf G σ H Q A kk => by
    refine a2 cc s _ hf G σ H _ A fun v d s1 G1 H1 e1 A1 r1 hp => ?_
    obtain ⟨hp0, hp⟩ := hp
    cases d with
    | obj C2 fs xs =>
      obtain ⟨rfl, h1, h2⟩ := hp0
      have r1' := r1
      obtain ⟨a, dx, vs, rfl, q1, q2, q3⟩ := r1
      refine ⟨a, dx, _, rfl, A1.gh a _ q1, lookup_no h1, ?_⟩
      exact kk _ [.d (.obj C2 fs xs)] s1 G1 H1 e1 A1 ⟨_, [], rfl, r1', rfl⟩ hp
    | _ => exact hp0.elim
  exact ⟨_, pe_meth0 (E := E0) (pl := pl) a1 c hm Fn hr hb hd pass0 ht, fun cc s P hf => ed_call (E := E0) hX rd cc s P hf⟩
end
theorem putF_le {f : Str} {v : V} {fs : List (Str × V)} {n : Nat} (h : fs.length ≤ n) : (putF f v fs).length ≤ n + 1 := Nat.le_trans (length_putF f v fs) (by omega)
end DL
/-! int(text) of more than 640 signs: where the run has not been told another limit on digits -/
namespace DL
open PySem PySem.Calls PySem.NumText PyProof.Rows PySem.W PySem.W.KIN
theorem wp_textL {M : Model} {A : Around} {E : Value → Shared → Prop} {s : Shared} {Q : Value → Shared → Prop} {v : Value} {text : List Nat} {n : Int} (hd : s.heap.NoDigits)
    (hs : ¬ (text.takeWhile (· != 0)).length ≤ 640) (hr : (int_private% "readNumeral") 4300 10 (text.takeWhile (· != 0)) = (int_private% "Numeral.value") n)
    (ha : ((text.takeWhile (· != 0)).length == text.length) = true) (h : Q (.int n s.toks) { s with toks := s.toks + 1 }) :
    wpAny M A ((int_private% "intFromText") v text 10) Q E s := by
  obtain ⟨mc, hns, none_⟩ := hd
  have lim : ∀ (P : Nat → Shared → Prop), P 4300 s → wpAny M A Builtin.intMaxStrDigits P E s := by
    intro P hP
    unfold Builtin.intMaxStrDigits
    refine wpAny_bind (wpAny_nsGet hns ?_)
    rw [none_]
    exact wpAny_pure hP
  repeat (any_goals (first
    | assumption
    | (with_reducible refine wpAny_ite_false (decide_eq_false hs) ?_)
    | (with_reducible refine wpAny_ite_true (decide_eq_true ha) ?_)
    | (with_reducible refine lim _ ?_)
    | wp_step))
  all_goals (try rw [hr])
  all_goals (try dsimp only)
  rw [if_pos ha]
  repeat (any_goals (first | assumption | wp_step))
structure Keep (p : Prop) : Prop where
  out : p
theorem meets_textL {x : Str} {u : Tok} {n : Int} (hl : ¬ (numSeenOf x).length ≤ 640) (hz : x.length ≤ sizeLine) (hn : PySem.intText? x = some n) :
    Meets (Builtin.«int.__new__» ⟨[.type "int", .str x u], []⟩) (fun _ R s => s.heap.NoDigits ∧ R (.ok (.ret (.int n s.toks))) { s with toks := s.toks + 1 }) :=
  .of_wp fun M wd A R s hq => by
    obtain ⟨nd, h⟩ := hq
    obtain ⟨hp, g, d, tk, os⟩ := s
    have f1 := F.conv_sub_int
    have f2 := F.madeHere_int
    have f3 := str_int
    have f4 := str_idx
    have f5 := str_trunc
    have f6 : typeOf (.str x u) = pure (.type "str") := rfl
    have hr : (int_private% "readNumeral") 4300 10 (numSeenOf x) = (int_private% "Numeral.value") n ∧ ((numSeenOf x).length == (numTextOf x).length) = true := by
      have e : numLimitOf x = 4300 := if_neg hl
      rcases readAny x hz with ⟨m, h1, h2, h3⟩ | ⟨h1, _⟩
      · rw [hn] at h1
        injection h1 with h1
        subst h1
        rw [e] at h3
        exact ⟨h3, h2⟩
      · rw [hn] at h1
        cases h1
    have hk := Keep.mk (And.intro nd (And.intro hl hr))
    clear hr hl hn nd hz
    repeat (any_goals (first
      | assumption
      | ((with_reducible show wpAny _ _ ((int_private% "intFromText") _ _ _) _ _ _); refine wp_textL hk.out.1 hk.out.2.1 hk.out.2.2.1 hk.out.2.2.2 ?_)
      | wp_step))
    all_goals first | exact ⟨_, rfl, h⟩ | skip
end DL
namespace DL
open PySem L2 PySem.Spec PyProof.Rows
/-- the limit on digits was not told -/
def NoDg (h : Heap) : Prop := h.NoDigits
def isDg (c : Nat) : Bool := decide (48 ≤ c) && decide (c ≤ 57)
/-- the number that digits tell -/
def dgV (cs : List Nat) : Nat := cs.foldl (fun acc c => acc * 10 + (c - 48)) 0
theorem call_int_strL {X : Cx} (nd : NoDg X.base) : CallR X (.type "int") (fun xs H Q => ∃ a, xs = [.str a] ∧ a.cps.toList.all isDg = true ∧ a.cps.toList ≠ [] ∧ a.length ≤ 4300 ∧ Q (.int (dgV a.cps.toList : Nat)) H) := by
  intro pins s σ H xs us Q I rs h
  obtain ⟨a, rfl, hd, hne, hl, h⟩ := h
  obtain ⟨u, rfl, t, rfl⟩ := vals1 rs
  have fin : EP X pins σ Q (.int (dgV a.cps.toList : Nat) s.toks) { s with toks := s.toks + 1 } := ⟨.int _, H, I.tok _, ⟨_, rfl⟩, h⟩
  have hA : PySem.NumText.AllDigits a.cps.toList := fun c hc => by
    have := List.all_eq_true.mp hd c hc
    simpa [isDg] using this
  have hn : PySem.intText? a = some ((dgV a.cps.toList : Nat) : Int) := PySem.intText_digits hA hne hl
  by_cases hs : a.length ≤ 640
  · exact PySem.W.KIN.call_text hn hs fin
  · have e : PySem.numSeenOf a = a.cps.toList := (PySem.numText_signs fun c hc => Or.inr (hA c hc)).2
    have hl2 : a.cps.toList.length = a.length := Array.length_toList
    exact call_int_1 (meets_textL (by rw [e, hl2]; exact hs) (by rw [sizeLine_eq]; omega) hn) ⟨Heap.NoDigits.keeps nd I.bk, rfl, fin⟩
def bIntS : List D → (D → Prop) → Prop
  | [.str a], P => a.cps.toList.all isDg = true ∧ a.cps.toList ≠ [] ∧ a.length ≤ 4300 ∧ P (.int (dgV a.cps.toList : Nat))
  | _, _ => False
theorem rc_intS {K : PySem.W.Frag} : RC K (fun xs H Q => ∃ a, xs = [.str a] ∧ a.cps.toList.all isDg = true ∧ a.cps.toList ≠ [] ∧ a.length ≤ 4300 ∧ Q (.int (dgV a.cps.toList : Nat)) H) bIntS := by
  intro G H vs ds P Q e r hf k
  match ds, hf with
  | [.str z], ⟨h1, h2, h3, h4⟩ =>
    obtain ⟨v, ws, rfl, r1, r2⟩ := r
    cases (show ws = [] from r2)
    cases (show v = .str z from r1)
    exact ⟨z, rfl, h1, h2, h3, k _ _ (show Rp K G (.int _) (.int _) from rfl) h4⟩
end DL
namespace DL
open PySem L2 PySem.Spec PyProof.Rows
open Evl (Ex Ex.refl Ex.trans Ex.new)
section
variable {X : Cx} {a b e : Expr} {pos p apos : Pos} {Fa Fb : WE} {x : Str} {k : Nat}
def wSplit (Fa Fb : WE) : WO := fun s P => Fa s fun x s1 => asS x fun z => Fb s1 fun y s2 => asS y fun u => u.length ≠ 0 ∧ z.length ≤ 16777214 ∧ P ((Txt.split z u).map D.str) s2
theorem rp_str {K : PySem.W.Frag} {G : Hp} : ∀ l : List Str, RpAll K G (l.map D.str) (l.map V.str)
  | [] => rfl
  | y :: ys => ⟨_, _, rfl, rfl, rp_str ys⟩
theorem po_split (ha : PX X a Fa) (hb : PX X b Fb) (hs : starEach [b] X.env = [(false, eval b X.env)] := by rfl) (hbase : attributeBase a "split" X.env (eval a X.env) = eval a X.env := by rfl) (hline : (apos.endLine == pos.line) = true := by rfl) :
    PO X (.Call (.Attribute a "split" apos) [b] [] pos) (wSplit Fa Fb) := by
  obtain ⟨ta, a1, a2⟩ := ha.ex
  obtain ⟨tb, b1, b2⟩ := hb.ex
  refine ⟨_, pe_split a1 b1 hs hbase hline, fun c s P hf G σ H Q A k => ?_⟩
  refine a2 c s _ hf G σ H _ A fun v d s1 G1 H1 e1 A1 r1 hf1 => ?_
  cases d with
  | str z =>
    refine ⟨⟨z, r1⟩, b2 c s1 _ hf1 G1 σ H1 _ A1 fun u d s2 G2 H2 e2 A2 r2 hf2 => ?_⟩
    cases d with
    | str y =>
      obtain ⟨h1, h2, h3⟩ := hf2
      refine ⟨z, y, r1, (by rw [show u = .str y from r2]), (by simpa using h1), (by rw [sizeLine_eq]; omega), fun p hp => ?_⟩
      exact k p _ s2 G2 _ ((e1.trans e2).trans (Stp.new hp (Ex.refl G2) fun _ _ q => .inl q)) (A2.lay hp) (Mine.new A2 hp (rp_str _)) (New.back (e1.trans e2) (.inl hp)) h3
    | _ => exact (show False from hf2).elim
  | _ => exact (show False from hf1).elim
def wIndexS (Fa Fb : WE) : WE := fun s P => Fa s fun x s1 => asS x fun z => Fb s1 fun y s2 => asS y fun u => ∃ (i : Nat) (rest : List Nat), Builtin.Str.occurrences z u 0 z.length 1 = i :: rest ∧ P (.int (i : Nat)) s2
theorem px_index (ha : PX X a Fa) (hb : PX X b Fb) (hs : starEach [b] X.env = [(false, eval b X.env)] := by rfl) (hbase : attributeBase a "index" X.env (eval a X.env) = eval a X.env := by rfl) (hline : (apos.endLine == pos.line) = true := by rfl) :
    PX X (.Call (.Attribute a "index" apos) [b] [] pos) (wIndexS Fa Fb) := by
  obtain ⟨ta, a1, a2⟩ := ha.ex
  obtain ⟨tb, b1, b2⟩ := hb.ex
  refine ⟨_, pe_m1 PySem.F.slot_str_index PySem.F.type_str_index mt_sindex a1 b1 hs hbase hline, fun c s P hf G σ H Q A k => ?_⟩
  refine a2 c s _ hf G σ H _ A fun v d s1 G1 H1 e1 A1 r1 hf1 => ?_
  cases d with
  | str z =>
    refine ⟨⟨z, r1⟩, b2 c s1 _ hf1 G1 σ H1 _ A1 fun u d s2 G2 H2 e2 A2 r2 hf2 => ?_⟩
    cases d with
    | str y =>
      obtain ⟨i, rest, h1, h2⟩ := hf2
      exact ⟨z, y, i, rest, r1, (by rw [show u = .str y from r2]), h1, k (.int _) (.int _) s2 G2 H2 (e1.trans e2) A2 rfl h2⟩
    | _ => exact (show False from hf2).elim
  | _ => exact (show False from hf1).elim
/-- f(found), found a list of one's own, by its name; a scalar comes -/
theorem px_cbo (i : Nat) {id : String} {y : Str} {p' : Pos} {r : List V → Hp → VK → Prop} {f : List D → (D → Prop) → Prop} (hc : CallR X (.builtin id) r) (hr : RC X.K r f) (hm : X.mg x = none) (hv : bootBuiltins x = some (.builtin id)) (hN : X.N[i]? = some y := by rfl)
    (hy : Vis X.env.scope y := by first | exact Or.inl rfl | exact Or.inr (Or.inl rfl) | exact Or.inr (Or.inr rfl)) (hd : (y == ("__debug__" : Str)) = false := by decide) (hcd : (y == ("__classdict__" : Str)) = false := by decide)
    (hg : Gl X x := by rfl) (hn : x ≠ "__name__" := by decide) (hdb : (x == ("__debug__" : Str)) = false := by decide)
    (hs : starEach [.Name y p'] X.env = (false, eval (.Name y p') X.env) :: starEach [] X.env := by rfl) (hpl : (backTo pos (starEach [] X.env)).any (·.1) = false := by rfl) : PX X (.Call (.Name x p) [.Name y p'] [] pos) (wCBo f i) :=
  ⟨_, pe_callB hc hg hm hv (pa_cons (pe_var hN hy hd hcd) pa_nil hs) hn hdb (by first | exact hs | assumption) (by first | exact hpl | assumption), ed_cbo hr i⟩
end
end DL
namespace DL
open PySem L2 PySem.Spec PyProof.Rows
section
variable {X : Cx} {e : Expr} {pos : Pos} {Fe : WE}
/-- x op= e, whole numbers, under a condition -/
def wAugC (i : Nat) (C : Int → Int → Prop) (g : Int → Int → Int) (Fe : WE) : WS := fun De s => match nth s i with
  | .d (.int a) => Fe s fun y s1 => isIo s1 i = false ∧ (match y with
    | .int b => C a b ∧ De.nx (put s1 i (.d (.int (g a b))))
    | _ => False)
  | _ => False
theorem iop_mulU : OpR X (inplaceOp .Mult) (rI CMulU fun i j => .int (i * j)) := opI fun _ _ _ _ _ _ _ hc q => imul_int q (hc.elim CMul.ok CMulW.ok)
theorem sd_augC (i : Nat) {x : Str} {op : Operator} {C : Int → Int → Prop} {g : Int → Int → Int} {px : Pos} (ho : OpR X (inplaceOp op) (rI C fun i j => .int (g i j))) (hNd : X.N.Nodup) (he : PX X e Fe) (hi : X.N[i]? = some x := by rfl) (hx : Loc X.env.scope x := by first | exact Or.inl rfl | exact Or.inr rfl)
    (hf : X.fn x = true ∨ X.env.scope.names.lookup x = some .local := by first | exact .inl rfl | exact .inr rfl | assumption) : PSD X (.AugAssign (.Name x px) op e pos) (wAugC i C g Fe) := by
  obtain ⟨te, a1, a2⟩ := he.ex
  refine ⟨_, ps_aug hNd hi hx a1 (ti := rI C fun i j => .int (g i j)) ho hf, fun c s De hf G σ H En A E => ?_⟩
  unfold wAugC at hf
  split at hf
  · rename_i a hs
    obtain ⟨v, p1, p2⟩ := A.sd i _ hs
    have p2 : v = .int a := p2
    subst p2
    refine ⟨_, p1, ?_⟩
    refine a2 c s _ hf G σ H _ A fun u y s1 G1 H1 e1 A1 r1 ⟨hio, hp⟩ => ?_
    cases y with
    | int b => exact ⟨a, b, rfl, r1, hp.1, E.nx G1 _ _ H1 e1.eg (A1.setD (x := .int (g a b)) (v := .int (g a b)) rfl hio) hp.2⟩
    | _ => exact (show False from hp).elim
  · exact hf.elim
end
end DL
namespace DL
theorem q_scI {i : Int} : scD (.int i) = True := rfl
theorem q_scS {x : PySem.Str} : scD (.str x) = True := rfl
theorem q_scB {b : Bool} : scD (.bl b) = True := rfl
theorem q_scN : scD .non = True := rfl
end DL
namespace DL
open PySem L2
theorem q_oNotInS {x z : PySem.Str} {P : D → Prop} : oNotInS (.str x) (.str z) P = (∃ c, x = ⟨#[c]⟩ ∧ P (.bl (!decide (c ∈ z.cps.toList)))) := rfl
theorem q_oInS {x z : PySem.Str} {P : D → Prop} : oInS (.str x) (.str z) P = (∃ c, x = ⟨#[c]⟩ ∧ P (.bl (decide (c ∈ z.cps.toList)))) := rfl
theorem q_oIx_str {z : PySem.Str} {i : Int} {P : D → Prop} : oIx (.str z) (.int i) P = (z.length ≤ 16777216 ∧ (match atI z.cps.toList i with
    | some c => P (.str ⟨#[c]⟩)
    | none => False)) := rfl
theorem q_bIntS {z : PySem.Str} {P : D → Prop} : bIntS [.str z] P = (z.cps.toList.all isDg = true ∧ z.cps.toList ≠ [] ∧ z.length ≤ 4300 ∧ P (.int (dgV z.cps.toList : Nat))) := rfl
end DL
namespace DL
open PySem L2 PySem.Spec PyProof.Rows
section
variable {X : Cx} {a b : Expr} {pos : Pos} {R : WA}
/-- x, y = a, b -/
def wPar (i j : Nat) (R : WA) : WS := fun De s => R s fun as s1 => allD as fun xs => match xs with
  | [u, v] => isIo s1 i = false ∧ isIo (put s1 i (.d u)) j = false ∧ De.nx (put (put s1 i (.d u)) j (.d v))
  | _ => False
theorem sd_par (i j : Nat) {x y : Str} {px py pt : Pos} {kt k2 : Nat} {pt2 : Pos} (hc : X.calm = true) (hN : X.N.Nodup) (hij : i ≠ j) (ha : PXA X [a, b] R) (hi : X.N[i]? = some x := by rfl) (hj : X.N[j]? = some y := by rfl)
    (hx : X.env.scope.names.lookup x = some .local := by rfl) (hy : X.env.scope.names.lookup y = some .local := by rfl)
    (hw : swappedStores [.Tuple [.Name x px, .Name y py] kt pt] (.Tuple [a, b] k2 pt2) X.env = pure (some [x, y]) := by rfl)
    (hs : swapsWithSole [.Tuple [.Name x px, .Name y py] kt pt] (.Tuple [a, b] k2 pt2) pos.line X.env = pure false := by rfl) : PSD X (.Assign [.Tuple [.Name x px, .Name y py] kt pt] (.Tuple [a, b] k2 pt2) pos) (wPar i j R) := by
  obtain ⟨ta, a1, a2⟩ := ha.ex
  refine ⟨_, ps_par hc hN hi hj hij hx hy a1 hw hs, fun c s De hf G σ H En A E => ?_⟩
  refine a2 c s _ hf G σ H _ A fun vs as s1 G1 H1 e1 A1 r1 hp => ?_
  obtain ⟨xs, rx, hp⟩ := allD_ok r1 hp
  match xs, hp with
  | [u, v], ⟨h1, h2, h3⟩ =>
    obtain ⟨p, ws, rfl, ru, r2⟩ := rx
    obtain ⟨q, zs, rfl, rv, r4⟩ := r2
    cases (show zs = [] from r4)
    exact ⟨p, q, rfl, E.nx G1 _ _ H1 e1.eg ((A1.setD ru h1).setD rv h2) h3⟩
end
end DL
namespace DL
open PySem L2 PySem.Spec PyProof.Rows
/-- one statement, then the rest from what is known between them -/
def wSeqI (t u : WS) : WS := fun De s => ∃ J : DS → Prop, t ⟨J, De.rt, De.bk, De.ct⟩ s ∧ ∀ z, J z → u De z
theorem sd_consI {X : Cx} {st : Stmt} {rest : List Stmt} {t u : WS} (h1 : PSD X st t) (h2 : PSsD X rest u) : PSsD X (st :: rest) (wSeqI t u) := by
  obtain ⟨ta, a1, a2⟩ := h1.ex
  obtain ⟨tb, b1, b2⟩ := h2.ex
  refine ⟨_, pss_cons a1 b1, fun c s De hf G σ H En A E => ?_⟩
  obtain ⟨J, hf, hJ⟩ := hf
  exact a2 c s _ hf G σ H _ A ⟨fun G1 s1 σ1 H1 eg A1 hp => b2 c s1 De (hJ s1 hp) G1 σ1 H1 En A1 (E.mono eg), E.bk, E.ct, E.rt⟩
theorem seqI {A B : WS} {De : DE} {s : DS} (J : DS → Prop) (h : A ⟨J, De.rt, De.bk, De.ct⟩ s) (h2 : ∀ z, J z → B De z) : wSeqI A B De s := ⟨J, h, h2⟩
end DL
namespace DL
open PySem L2

/-! ### texts as data -/
def hiD : Option Int → D
  | none => .non
  | some h => .int h
def leO (i : Int) : Option Int → Bool
  | none => true
  | some h => decide (i ≤ h)
def isIntD (v : D) (lo : Int) (hi : Option Int) : Bool := match v with
  | .int i => decide (lo ≤ i) && leO i hi
  | _ => false
/-- a code of a symbol -/
def symC (c : Nat) : Bool := decide (32 ≤ c) && decide (c ≤ 126) && decide (c ≠ 37)
def symS (x : Str) : Bool := match x.cps.toList with
  | [c] => symC c
  | _ => false
def symD : D → Bool
  | .str x => symS x
  | _ => false
/-- strings of a size that the machine holds, no objects -/
def okV : D → Prop
  | .str x => x.length ≤ 16777216
  | .obj _ _ _ => False
  | .adr _ => False
  | .rd _ => False
  | _ => True
theorem okV_ty {v : D} (h : okV v) : (tyD v).isSome = true := by
  cases v <;> first | rfl | exact h.elim
def itemsD : D → Option (List D)
  | .lst xs => some xs
  | .tup xs => some xs
  | _ => none
def runB (v : D) : Bool := match itemsD v with
  | some [a, b] => symD a && isIntD b 1 none
  | _ => false
def okR (v : D) : Prop := okV v ∧ match itemsD v with
  | some xs => xs.length ≤ 16777216 ∧ ∀ x ∈ xs, okV x
  | none => True
/-- a text: its runs -/
abbrev Txt := List (Str × Int)
def runD (r : Str × Int) : D := .tup [.str r.1, .int r.2]
def adj : Txt → Bool
  | a :: b :: r => decide (a.1 ≠ b.1) && adj (b :: r)
  | _ => true
def validT (t : Txt) : Bool := t.all (fun r => symS r.1 && decide (1 ≤ r.2)) && adj t
/-- the value v stands for the run r -/
def IsRun (v : D) (r : Str × Int) : Prop := itemsD v = some [.str r.1, .int r.2]
def IsRuns : List D → Txt → Prop
  | [], [] => True
  | v :: vs, r :: rs => IsRun v r ∧ IsRuns vs rs
  | _, _ => False
/-- the value v is the text t, of lists or tuples -/
def IsTxt (v : D) (t : Txt) : Prop := ∃ vs, itemsD v = some vs ∧ IsRuns vs t ∧ validT t = true ∧ t.length ≤ 16777216
theorem IsTxt.z {v : D} {t : Txt} (h : IsTxt v t) : t.length ≤ 16777216 := by
  obtain ⟨_, _, _, _, h⟩ := h; exact h
theorem IsTxt.v {v : D} {t : Txt} (h : IsTxt v t) : validT t = true := by
  obtain ⟨_, _, _, h, _⟩ := h; exact h
def txtD (t : Txt) : D := .lst (t.map runD)
def sizeT (t : Txt) : Int := (t.map (·.2)).sum
def symAt : Txt → Int → Str
  | [], _ => Str.empty
  | r :: rs, i => if i < r.2 then r.1 else symAt rs (i - r.2)
theorem isRuns_len : ∀ {vs : List D} {t : Txt}, IsRuns vs t → vs.length = t.length
  | [], [], _ => rfl
  | v :: vs, r :: rs, h => by simp [isRuns_len h.2]
  | [], _ :: _, h => h.elim
  | _ :: _, [], h => h.elim
theorem isRuns_get : ∀ {vs : List D} {t : Txt} {i : Nat} {v : D}, IsRuns vs t → vs[i]? = some v → ∃ r, t[i]? = some r ∧ IsRun v r
  | [], [], i, v, _, h => by simp at h
  | w :: vs, r :: rs, 0, v, h, e => by
    simp at e; subst e
    exact ⟨r, rfl, h.1⟩
  | w :: vs, r :: rs, i + 1, v, h, e => by
    obtain ⟨q, h1, h2⟩ := isRuns_get (i := i) h.2 (by simpa using e)
    exact ⟨q, by simpa using h1, h2⟩
  | [], _ :: _, _, _, h, _ => h.elim
  | _ :: _, [], _, _, h, _ => h.elim
theorem isRuns_map : ∀ t : Txt, IsRuns (t.map runD) t
  | [] => trivial
  | r :: rs => ⟨rfl, isRuns_map rs⟩
theorem isTxt_D {t : Txt} (h : validT t = true) (hz : t.length ≤ 16777216) : IsTxt (txtD t) t := ⟨_, rfl, isRuns_map t, h, hz⟩
theorem symS_len {x : Str} (h : symS x = true) : x.length = 1 := by
  unfold symS at h
  split at h
  · rename_i c hc
    show x.cps.size = 1
    rw [← Array.length_toList, hc]
    rfl
  · cases h
theorem symS_code {x : Str} (h : symS x = true) : ∃ c, x = ⟨#[c]⟩ ∧ symC c = true := by
  unfold symS at h
  split at h
  · rename_i c hc
    refine ⟨c, ?_, h⟩
    cases x with
    | mk a =>
      have : a = #[c] := by
        apply Array.ext'
        exact hc
      rw [this]
  · cases h

/-! ### what the defs are worth -/
def F_is_integer : FS := fun ags P => ∃ v lo hi, ags = [.d v, .d (.int lo), .d (hiD hi)] ∧ (tyD v).isSome = true ∧ P (.d (.bl (isIntD v lo hi))) ags
def F_is_symbol : FS := fun ags P => ∃ v, ags = [.d v] ∧ okV v ∧ P (.d (.bl (symD v))) ags
def F_is_run : FS := fun ags P => ∃ v, ags = [.d v] ∧ okR v ∧ P (.d (.bl (runB v))) ags
def F_is_text_yes : FS := fun ags P => ∃ v t, ags = [.d v] ∧ IsTxt v t ∧ P (.d (.bl true)) ags
def F_checked_text : FS := fun ags P => ∃ v t, ags = [.d v] ∧ IsTxt v t ∧ P (.own (t.map runD)) ags
def F_size_of : FS := fun ags P => ∃ t : Txt, ags = [.d (txtD t)] ∧ t.length ≤ 16777216 ∧ P (.d (.int (sizeT t))) ags
def F_length_of : FS := fun ags P => ∃ v t, ags = [.d v] ∧ IsTxt v t ∧ P (.d (.int (sizeT t))) ags
def F_check_position : FS := fun ags P => ∃ p m, ags = [.d (.int p), .d (.int m)] ∧ 0 ≤ p ∧ p ≤ m ∧ P (.d .non) ags
def F_symbol_at : FS := fun ags P => ∃ v t p, ags = [.d v, .d (.int p)] ∧ IsTxt v t ∧ 0 ≤ p ∧ p < sizeT t ∧ P (.d (.str (symAt t p))) ags
end DL
/-! the laws' own helpers: draws, signs, texts, dressed values -/
namespace DL
open PySem L2
def reelD (g c : List Int) (n r : Int) : List D := [.lst (g.map D.int), .lst (c.map D.int), .int n, .int r]
/-- numbers to be drawn from -/
def IsReel (xs : List D) : Prop := ∃ (g c : List Int) (n r : Int), xs = reelD g c n r ∧ g.length ≤ 64 ∧ c ≠ [] ∧ c.length ≤ 64 ∧ 0 ≤ r ∧ r < 2 ^ 127
def F__law_reel : FS := fun ags P => ∃ ns : List Int, ags = [.d (.rd (ns.map D.int))] ∧ ns.length ≤ 63 ∧ ∀ ys, IsReel ys → P (.own ys) ags
def F__law_draw : FS := fun ags P => ∃ xs m, ags = [.own xs, .d (.int m)] ∧ IsReel xs ∧ 0 < m ∧ m < 2 ^ 8000 ∧ ∀ k ys, IsReel ys → 0 ≤ k → k < m → P (.d (.int k)) [.own ys, .d (.int m)]
def allS (s : Str) : Bool := s.cps.toList.all symC
def S94 : Str := " !\"#$&'()*+,-./0123456789:;<=>?@ABCDEFGHIJKLMNOPQRSTUVWXYZ[\\]^_`abcdefghijklmnopqrstuvwxyz{|}~"
theorem S94_len : S94.length = 94 := by decide +kernel
theorem S94_all : allS S94 = true := by decide +kernel
def F__law_signs : FS := fun ags P => ags = [] ∧ P (.d (.str S94)) ags
def F__law_sign : FS := fun ags P => ∃ xs, ags = [.own xs] ∧ IsReel xs ∧ ∀ x ys, IsReel ys → symS x = true → P (.d (.str x)) [.own ys]
def F__law_text : FS := fun ags P => ∃ xs many longest, ags = [.own xs, .d (.int many), .d (.int longest)] ∧ IsReel xs ∧ 0 ≤ many ∧ many ≤ 1000000 ∧ 3 ≤ longest ∧ longest < 2 ^ 2000 ∧
  ∀ t ys, IsReel ys → validT t = true → (t.length : Int) ≤ many → (∀ r ∈ t, r.2 ≤ longest) → P (.own (t.map runD)) [.own ys, .d (.int many), .d (.int longest)]
def unpk (t : Txt) : List Str := (t.map fun r => List.replicate r.2.toNat r.1).flatten
/-- the string of a text -/
def strT (t : Txt) : Str := ⟨(unpk t).flatMap (fun x => x.cps.toList) |>.toArray⟩
def F__law_string : FS := fun ags P => ∃ t : Txt, ags = [.d (txtD t)] ∧ validT t = true ∧ sizeT t ≤ 1000000 ∧ t.length ≤ 1000000 ∧ P (.d (.str (strT t))) ags
/-- lists and tuples, the scalars the same -/
inductive Drs : D → D → Prop
  | int (i : Int) : Drs (.int i) (.int i)
  | str (x : Str) : Drs (.str x) (.str x)
  | lst {v w : D} {xs ys : List D} : itemsD v = some xs → itemsD w = some ys → xs.length = ys.length → (∀ (i : Nat) x y, xs[i]? = some x → ys[i]? = some y → Drs x y) → Drs v w
/-- data of at most n levels -/
inductive Dep : Nat → D → Prop
  | int (i : Int) (n : Nat) : Dep n (.int i)
  | str (x : Str) (n : Nat) : Dep n (.str x)
  | lst {v : D} {xs : List D} {n : Nat} : (v = .lst xs ∨ v = .tup xs) → xs.length ≤ 16777216 → (∀ x ∈ xs, Dep n x) → Dep (n + 1) v
def F__law_dressed (n : Nat) : FS := fun ags P => ∃ xs v, ags = [.own xs, .d v] ∧ IsReel xs ∧ Dep n v ∧ ∀ w ys, IsReel ys → Drs v w → P (.d w) [.own ys, .d v]
/-! runs as plain data -/
def pyR (r : Str × Int) : PyData := .tuple [.str r.1, .int r.2]
theorem pys_runs (t : Txt) : D.pys (t.map runD) = some (t.map pyR) := pys_map _ _ (fun _ => rfl) t
theorem symS_ok {x : Str} (h : symS x = true) : PyData.strOk x = true := by
  obtain ⟨c, rfl, hc⟩ := symS_code h
  simp [symC] at hc
  simp [PyData.strOk]
  omega
theorem valid_sym {t : Txt} (h : validT t = true) {r : Str × Int} (hr : r ∈ t) : symS r.1 = true := by
  simp [validT] at h
  exact (h.1 r.1 r.2 hr).1
theorem can_run {r : Str × Int} (h : symS r.1 = true) : (pyR r).canLay0 = true := by
  simp [pyR, PyData.canLay0, PyData.canLayAll0, symS_ok h]
theorem depth_run (r : Str × Int) : (pyR r).depth ≤ 1 := by
  simp [pyR, PyData.depth, PyData.depthAll]
theorem can_runs {t : Txt} (h : validT t = true) : PyData.canLayAll0 (t.map pyR) = true := can_map _ _ fun a ha => can_run (valid_sym h ha)
theorem shaped_runs {t : Txt} (h : validT t = true) : SeqAt.shaped (.list (t.map pyR)) = true :=
  shaped_list (can_runs h) (Nat.le_trans (depth_map _ 1 _ fun a _ => depth_run a) (by decide))
theorem adj_snoc : ∀ {t : Txt} {x : Str × Int}, adj t = true → (∀ r, t.getLast? = some r → r.1 ≠ x.1) → adj (t ++ [x]) = true
  | [], _, _, _ => rfl
  | [a], x, _, h => by
    simp [adj]
    exact h a rfl
  | a :: b :: r, x, h1, h2 => by
    have h1 : (decide (a.1 ≠ b.1) && adj (b :: r)) = true := h1
    rw [Bool.and_eq_true] at h1
    show (decide (a.1 ≠ b.1) && adj (b :: (r ++ [x]))) = true
    rw [h1.1, Bool.true_and]
    exact adj_snoc (t := b :: r) h1.2 fun q hq => h2 q (by simpa using hq)
theorem valid_snoc {t : Txt} {x : Str} {c : Int} (h : validT t = true) (hx : symS x = true) (hc : 1 ≤ c) (hl : ∀ r, t.getLast? = some r → r.1 ≠ x) : validT (t ++ [(x, c)]) = true := by
  unfold validT at h ⊢
  rw [Bool.and_eq_true] at h ⊢
  refine ⟨?_, adj_snoc h.2 hl⟩
  rw [List.all_append, h.1]
  simp [hx, hc]
def F_law : FS := fun ags P => ∃ ns : List Int, ags = [.d (.rd (ns.map D.int))] ∧ ns.length ≤ 63 ∧ P (.d (.bl true)) ags
theorem oIx_ints {l : List Int} {k : Int} {P : D → Prop} (h0 : 0 ≤ k) (h1 : k < (l.length : Int)) (hp : ∀ x ∈ l, P (.int x)) : oIx (.lst (l.map D.int)) (.int k) P := by
  have hk : k.toNat < l.length := by omega
  refine pickI (d := .int l[k.toNat]) h0 ?_ (hp _ (List.getElem_mem hk))
  rw [List.getElem?_map, List.getElem?_eq_getElem hk]
  rfl
theorem range_at {lo : Int} {n i : Nat} {x : D} (h : (rangeD lo n)[i]? = some x) : i < n ∧ x = .int (lo + (i : Int)) := by
  unfold rangeD at h
  rw [List.getElem?_map] at h
  obtain ⟨a, h1, rfl⟩ := Option.map_eq_some_iff.mp h
  have h2 := List.getElem?_eq_some_iff.mp h1
  obtain ⟨h3, h4⟩ := h2
  rw [List.length_range] at h3
  rw [List.getElem_range] at h4
  subst h4
  exact ⟨h3, rfl⟩
theorem len_range {lo : Int} {n : Nat} : (rangeD lo n).length = n := by simp [rangeD]
end DL
/-! data that repr can show -/
namespace DL
open PySem L2 PySem.Spec PyProof.Rows
structure Shp (B n m : Nat) (q : PyData) : Prop where
  can : q.canLay0 = true
  dep : q.depth ≤ n
  nod : q.hasDict = false
  sho : q.leavesShort B = true
  shw : q.showable = true
  blk : q.bulk ≤ m
structure ShpAll (B n m : Nat) (qs : List PyData) : Prop where
  can : PyData.canLayAll0 qs = true
  dep : PyData.depthAll qs ≤ n
  nod : PyData.hasDictAll qs = false
  sho : PyData.leavesShortAll B qs = true
  shw : PyData.showableAll qs = true
  blk : PyData.bulkAll qs ≤ m
theorem Shp.mono {B n m n' m' : Nat} {q : PyData} (h : Shp B n m q) (h1 : n ≤ n') (h2 : m ≤ m') : Shp B n' m' q := ⟨h.can, Nat.le_trans h.dep h1, h.nod, h.sho, h.shw, Nat.le_trans h.blk h2⟩
theorem ShpAll.mono {B n m n' m' : Nat} {q : List PyData} (h : ShpAll B n m q) (h1 : n ≤ n') (h2 : m ≤ m') : ShpAll B n' m' q := ⟨h.can, Nat.le_trans h.dep h1, h.nod, h.sho, h.shw, Nat.le_trans h.blk h2⟩
theorem ShpAll.nil {B n : Nat} : ShpAll B n 0 [] := ⟨rfl, Nat.zero_le _, rfl, rfl, rfl, Nat.le_refl _⟩
theorem ShpAll.cons {B n m m' : Nat} {q : PyData} {qs : List PyData} (h : Shp B n m q) (h' : ShpAll B n m' qs) : ShpAll B n (m + 1 + m') (q :: qs) where
  can := by simp only [PyData.canLayAll0]; rw [h.can, h'.can]; rfl
  dep := by simp only [PyData.depthAll]; exact Nat.max_le.mpr ⟨h.dep, h'.dep⟩
  nod := by simp only [PyData.hasDictAll]; rw [h.nod, h'.nod]; rfl
  sho := by simp only [PyData.leavesShortAll]; rw [h.sho, h'.sho]; rfl
  shw := by simp only [PyData.showableAll]; rw [h.shw, h'.shw]; rfl
  blk := by simp only [PyData.bulkAll]; have := h.blk; have := h'.blk; omega
theorem ShpAll.list {B n m : Nat} {qs : List PyData} (h : ShpAll B n m qs) : Shp B (n + 1) m (.list qs) where
  can := by simp only [PyData.canLay0]; exact h.can
  dep := by simp only [PyData.depth]; have := h.dep; omega
  nod := by simp only [PyData.hasDict]; exact h.nod
  sho := by simp only [PyData.leavesShort]; exact h.sho
  shw := by simp only [PyData.showable]; exact h.shw
  blk := by simp only [PyData.bulk]; exact h.blk
theorem ShpAll.tuple {B n m : Nat} {qs : List PyData} (h : ShpAll B n m qs) : Shp B (n + 1) m (.tuple qs) where
  can := by simp only [PyData.canLay0]; exact h.can
  dep := by simp only [PyData.depth]; have := h.dep; omega
  nod := by simp only [PyData.hasDict]; exact h.nod
  sho := by simp only [PyData.leavesShort]; exact h.sho
  shw := by simp only [PyData.showable]; exact h.shw
  blk := by simp only [PyData.bulk]; exact h.blk
theorem shp_int {B n : Nat} {i : Int} (h : i.natAbs < 2 ^ 600) (hB : 601 ≤ B) : Shp B n 0 (.int i) where
  can := by simp only [PyData.canLay0]
  dep := by simp only [PyData.depth]; exact Nat.zero_le _
  nod := by simp only [PyData.hasDict]
  sho := by
    have hl : i.natAbs.log2 < 600 := by
      by_cases z : i.natAbs = 0
      · rw [z]; decide
      · exact (Nat.log2_lt z).mpr h
    have := PySem.int_text_length_le (a := i) (k := 600) (by decide) hl
    simp only [PyData.leavesShort]
    refine decide_eq_true (Nat.le_trans ?_ hB)
    show (Str.ofString (toString i)).length ≤ 601
    rw [PySem.ofString_length]
    exact this
  shw := by
    have hl : i.natAbs.log2 < 600 := by
      by_cases z : i.natAbs = 0
      · rw [z]; decide
      · exact (Nat.log2_lt z).mpr h
    simp only [PyData.showable]
    exact decide_eq_true (by omega)
  blk := by simp only [PyData.bulk]; exact Nat.le_refl _
theorem shp_str {B n : Nat} {x : Str} (h : PyData.strOk x = true) : Shp B n x.length (.str x) where
  can := by simp only [PyData.canLay0]; exact h
  dep := by simp only [PyData.depth]; exact Nat.zero_le _
  nod := by simp only [PyData.hasDict]
  sho := by
    simp only [PyData.leavesShort]
    refine List.all_eq_true.mpr fun c hc => decide_eq_true ?_
    have h : x.cps.all (· < 0x110000) = true := h
    have := Array.all_eq_true.mp h
    obtain ⟨i, hi, rfl⟩ := List.getElem_of_mem hc
    have h2 := this i (by simpa using hi)
    simp at h2 ⊢
    omega
  shw := by simp only [PyData.showable]
  blk := by simp only [PyData.bulk]; exact Nat.le_refl _
theorem shp_map {α : Type} {B n m : Nat} (q : α → PyData) : ∀ (l : List α), (∀ a ∈ l, Shp B n m (q a)) → ShpAll B n (l.length * (m + 1)) (l.map q)
  | [], _ => by simpa using ShpAll.nil
  | a :: l, h => by
    have := ShpAll.cons (h a (by simp)) (shp_map q l fun b hb => h b (by simp [hb]))
    rw [List.map_cons]
    refine this.mono (Nat.le_refl _) ?_
    rw [List.length_cons, Nat.succ_mul]
    omega
theorem Shp.shaped {B n m : Nat} {q : PyData} (h : Shp B n m q) (hn : n ≤ 64) : SeqAt.shaped q = true := by
  unfold SeqAt.shaped
  rw [h.can]
  exact decide_eq_true (Nat.le_trans h.dep hn)
theorem Shp.repr {B n m : Nat} {d : D} {q : PyData} {P : D → Prop} (h : Shp B n m q) (hd : d.py = some q) (sq : seqD d = true) (hn : n ≤ 100) (hB : 8 ≤ B) (hm : (B + 2) * m + B ≤ 16777216) (hp : P (.str q.shown)) : bRepr [d] P := by
  refine ⟨sq, q, hd, h.shw, h.nod, Nat.le_trans h.dep hn, ?_, hp⟩
  have h1 := PyData.shown_le_bulk B hB q h.sho
  have h2 := Nat.mul_le_mul_left (B + 2) h.blk
  omega
/-- a run, its count bounded -/
theorem run_py {v : D} {r : Str × Int} (h : IsRun v r) (hs : symS r.1 = true) (hc : r.2.natAbs < 2 ^ 600) : ∃ q, v.py = some q ∧ Shp 601 1 3 q := by
  have a : ShpAll 601 0 3 [.str r.1, .int r.2] := by
    have := ShpAll.cons (shp_str (B := 601) (n := 0) (symS_ok hs)) (ShpAll.cons (shp_int (B := 601) (n := 0) hc (by decide)) ShpAll.nil)
    rw [symS_len hs] at this
    exact this
  cases v with
  | lst xs => cases h; exact ⟨_, rfl, a.list⟩
  | tup xs => cases h; exact ⟨_, rfl, a.tuple⟩
  | _ => cases h
theorem runs_py : ∀ {vs : List D} {t : Txt}, IsRuns vs t → (∀ r ∈ t, symS r.1 = true ∧ r.2.natAbs < 2 ^ 600) → ∃ qs, D.pys vs = some qs ∧ ShpAll 601 1 (4 * t.length) qs
  | [], [], _, _ => ⟨[], rfl, ShpAll.nil⟩
  | v :: vs, r :: t, h, hc => by
    obtain ⟨q, e1, s1⟩ := run_py h.1 (hc r (by simp)).1 (hc r (by simp)).2
    obtain ⟨qs, e2, s2⟩ := runs_py h.2 fun x hx => hc x (by simp [hx])
    refine ⟨q :: qs, ?_, (ShpAll.cons s1 s2).mono (Nat.le_refl _) (by simp; omega)⟩
    show (match D.py v, D.pys vs with
      | some y, some ys => some (y :: ys)
      | _, _ => none) = _
    rw [e1, e2]
  | [], _ :: _, h, _ => h.elim
  | _ :: _, [], h, _ => h.elim
theorem txt_py {v : D} {t : Txt} (h : IsTxt v t) (hc : ∀ r ∈ t, r.2.natAbs < 2 ^ 600) : ∃ q, v.py = some q ∧ Shp 601 2 (4 * t.length) q := by
  obtain ⟨vs, h1, h2, h3, h4⟩ := h
  obtain ⟨qs, e, s⟩ := runs_py h2 fun r hr => ⟨valid_sym h3 hr, hc r hr⟩
  cases v with
  | lst xs => cases h1; exact ⟨_, py_lst e, s.list⟩
  | tup xs => cases h1; exact ⟨_, py_tup e, s.tuple⟩
  | _ => cases h1
/-- two values in a list -/
theorem py_two {a b : D} {p q : PyData} (h1 : a.py = some p) (h2 : b.py = some q) : (D.lst [a, b]).py = some (.list [p, q]) := by
  refine py_lst ?_
  show (match D.py a, D.pys [b] with
    | some y, some ys => some (y :: ys)
    | _, _ => none) = _
  have e : D.pys [b] = some [q] := by
    show (match D.py b, D.pys [] with
      | some y, some ys => some (y :: ys)
      | _, _ => none) = _
    rw [h2]; rfl
  rw [h1, e]
theorem Shp.two {B n m m' : Nat} {p q : PyData} (h1 : Shp B n m p) (h2 : Shp B n m' q) : Shp B (n + 1) (m + m' + 2) (.list [p, q]) :=
  ((ShpAll.cons h1 (ShpAll.cons h2 ShpAll.nil)).mono (Nat.le_refl _) (by omega)).list
/-! dressed texts -/
theorem drs_run {r : Str × Int} {w : D} (h : Drs (runD r) w) : IsRun w r := by
  cases h with
  | lst h1 h2 hl ha =>
    rename_i xs ys
    cases h1
    match ys, hl, ha, h2 with
    | [a, b], _, ha, h2 =>
      have d1 := ha 0 _ _ rfl rfl
      have d2 := ha 1 _ _ rfl rfl
      have e1 : a = .str r.1 := by cases d1 with
        | str => rfl
        | lst q => cases q
      have e2 : b = .int r.2 := by cases d2 with
        | int => rfl
        | lst q => cases q
      rw [e1, e2] at h2
      exact h2
theorem drs_runs : ∀ {t : Txt} {ys : List D}, t.length = ys.length → (∀ (i : Nat) x y, (t.map runD)[i]? = some x → ys[i]? = some y → Drs x y) → IsRuns ys t
  | [], [], _, _ => trivial
  | r :: t, y :: ys, hl, h => ⟨drs_run (h 0 _ _ rfl rfl), drs_runs (by simpa using hl) fun i x y e1 e2 => h (i + 1) x y (by simpa using e1) (by simpa using e2)⟩
  | [], _ :: _, hl, _ => by simp at hl
  | _ :: _, [], hl, _ => by simp at hl
theorem drs_txt {t : Txt} {w : D} (h : Drs (txtD t) w) (hv : validT t = true) (hz : t.length ≤ 16777216) : IsTxt w t := by
  cases h with
  | lst h1 h2 hl ha =>
    cases h1
    exact ⟨_, h2, drs_runs (by simpa using hl) ha, hv, hz⟩
theorem dep_run (r : Str × Int) : Dep 1 (runD r) := .lst (.inr rfl) (by simp) fun x hx => by
  simp at hx
  rcases hx with rfl | rfl
  · exact .str _ _
  · exact .int _ _
theorem dep_txt {t : Txt} (hz : t.length ≤ 16777216) : Dep 2 (txtD t) := .lst (.inl rfl) (by simpa using hz) fun x hx => by
  obtain ⟨r, _, rfl⟩ := List.mem_map.mp hx
  exact dep_run r
end DL
/-! plain facts about texts, draws, strings -/
namespace DL
open PySem L2
theorem lt1 (a b : Nat) : decide (([a] : List Nat) < [b]) = decide (a < b) := by
  by_cases h : a < b <;> simp [h, List.cons_lt_cons_iff]
theorem sp32 : (Str.ofString " ").cps.toList = [32] := by decide
theorem sp126 : (Str.ofString "~").cps.toList = [126] := by decide
theorem runB_of {v : D} {r : Str × Int} (h : IsRun v r) (hs : symS r.1 = true) (hn : decide (1 ≤ r.2) = true) : runB v = true := by
  unfold runB
  rw [show itemsD v = some [.str r.1, .int r.2] from h]
  show (symS r.1 && (decide (1 ≤ r.2) && true)) = true
  rw [hs, hn]; rfl
theorem okR_of {v : D} {r : Str × Int} (h : IsRun v r) (hs : symS r.1 = true) : okR v := by
  unfold okR
  rw [show itemsD v = some [.str r.1, .int r.2] from h]
  refine ⟨?_, by simp, ?_⟩
  · cases v <;> first | trivial | cases h
  · intro x hx
    simp at hx
    rcases hx with rfl | rfl
    · show r.1.length ≤ _
      rw [symS_len hs]; decide
    · trivial
theorem adj_get : ∀ {t : Txt} {i : Nat} {a b : Str × Int}, adj t = true → t[i]? = some a → t[i + 1]? = some b → a.1 ≠ b.1
  | x :: y :: r, 0, a, b, h, e1, e2 => by
    simp at e1 e2
    subst e1; subst e2
    simp [adj] at h
    exact h.1
  | x :: y :: r, i + 1, a, b, h, e1, e2 => by
    simp [adj] at h
    exact adj_get (t := y :: r) (i := i) h.2 (by simpa using e1) (by simpa using e2)
  | [x], 0, a, b, h, e1, e2 => by simp at e2
  | [x], i + 1, a, b, h, e1, e2 => by simp at e2
  | [], i, a, b, h, e1, e2 => by simp at e1
theorem valid_mem {t : Txt} (h : validT t = true) {r : Str × Int} (hr : r ∈ t) : symS r.1 = true ∧ decide (1 ≤ r.2) = true := by
  simp [validT] at h
  have := h.1 r.1 r.2 hr
  exact ⟨this.1, by simpa using this.2⟩
theorem run_0 {v : D} {r : Str × Int} (h : IsRun v r) {P : D → Prop} (hp : P (.str r.1)) : oIx v (.int 0) P := by
  cases v <;> first | (cases h; exact hp) | cases h
theorem run_1 {v : D} {r : Str × Int} (h : IsRun v r) {P : D → Prop} (hp : P (.int r.2)) : oIx v (.int 1) P := by
  cases v <;> first | (cases h; exact hp) | cases h
theorem isRuns_mem : ∀ {vs : List D} {t : Txt} {v : D}, IsRuns vs t → v ∈ vs → ∃ r ∈ t, IsRun v r
  | [], [], v, _, h => by cases h
  | w :: vs, r :: rs, v, h, e => by
    cases e with
    | head => exact ⟨r, by simp, h.1⟩
    | tail _ e =>
      obtain ⟨q, h1, h2⟩ := isRuns_mem h.2 e
      exact ⟨q, by simp [h1], h2⟩
  | [], _ :: _, _, h, _ => h.elim
  | _ :: _, [], _, h, _ => h.elim
theorem bls_all {α : Type} (l : List α) : blsOf (l.map fun _ => D.bl true) = some (l.map fun _ => true) := by
  induction l with
  | nil => rfl
  | cons a l ih => simp [blsOf, ih]
theorem bls_alls {α : Type} (l : List α) : (l.map fun _ => true).all id = true := by simp
theorem tup_of {v : D} {r : Str × Int} (h : IsRun v r) : (∃ xs, v = .lst xs ∧ D.tup xs = runD r) ∨ (∃ xs, v = .tup xs ∧ D.tup xs = runD r) := by
  cases v with
  | lst xs => cases h; exact .inl ⟨_, rfl, rfl⟩
  | tup xs => cases h; exact .inr ⟨_, rfl, rfl⟩
  | _ => cases h
/-- a comprehension over the runs of a text -/
theorem lc_runs {vs : List Nat} {Fi : WI} {g : WG} {e : WE} {s s1 : DS} {P : List D → DS → Prop} {t : Txt} {l : List D} (f : Str × Int → D) (hl : IsRuns l t) (hi : ∀ P : List D → DS → Prop, P l s1 → Fi s P) (hz : t.length ≤ 16777216) (hio : ioFree s1 vs = true)
    (h : ∀ a r, r ∈ t → IsRun a r → ∀ (Y : D → DS → Prop), (∀ s4, wipeS s4 vs = wipeS s1 vs → Y (f r) s4) → g a (wipeS s1 vs) fun s2 => e s2 Y)
    (hp : P (t.map f) (wipeS s1 vs)) : wLc vs Fi g wYes e s P := by
  have hz2 := isRuns_len hl
  have key : ∀ {l : List D} {t : Txt}, IsRuns l t → (l.zip t).map Prod.fst = l ∧ (l.zip t).map Prod.snd = t ∧ ∀ p ∈ l.zip t, IsRun p.1 p.2 ∧ p.2 ∈ t := by
    intro l
    induction l with
    | nil => intro t h; cases t <;> first | exact ⟨rfl, rfl, fun p hp => by cases hp⟩ | exact h.elim
    | cons a l ih =>
      intro t h
      cases t with
      | nil => exact h.elim
      | cons r t =>
        obtain ⟨h1, h2, h3⟩ := ih h.2
        refine ⟨by simp [h1], by simp [h2], fun p hp => ?_⟩
        simp only [List.zip_cons_cons, List.mem_cons] at hp
        rcases hp with rfl | hp
        · exact ⟨h.1, by simp⟩
        · exact ⟨(h3 p hp).1, by simp [(h3 p hp).2]⟩
  obtain ⟨k1, k2, k3⟩ := key hl
  refine lc_mapA (l.zip t) Prod.fst (fun p => f p.2) (fun P hP => hi P (by rw [k1] at hP; exact hP)) (by simp [hz2]; exact hz) hio (fun a ha Y hY => h a.1 a.2 (k3 a ha).2 (k3 a ha).1 Y hY) ?_
  have e : (l.zip t).map (fun p => f p.2) = t.map f := by rw [show (fun p : D × (Str × Int) => f p.2) = f ∘ Prod.snd from rfl, ← List.map_map, k2]
  rw [e]
  exact hp
theorem ints_map {α : Type} (f : α → Int) : ∀ l : List α, intsOf (l.map fun a => D.int (f a)) = some (l.map f)
  | [] => rfl
  | a :: l => by
    show (intsOf (l.map fun a => D.int (f a))).map (f a :: ·) = _
    rw [ints_map f l]; rfl
theorem sizeT_cons (r : Str × Int) (t : Txt) : sizeT (r :: t) = r.2 + sizeT t := by
  simp [sizeT]
theorem runs_at {t : Txt} {i : Nat} {x : D} (h : (t.map runD)[i]? = some x) : ∃ r, t[i]? = some r ∧ x = .tup [.str r.1, .int r.2] ∧ t.drop i = r :: t.drop (i + 1) := by
  rw [List.getElem?_map] at h
  obtain ⟨r, h1, rfl⟩ := Option.map_eq_some_iff.mp h
  refine ⟨r, h1, rfl, ?_⟩
  have hl := (List.getElem?_eq_some_iff.mp h1)
  rw [List.drop_eq_getElem_cons hl.1, hl.2]
theorem cdiv {i j : Int} (h0 : 0 < j) (h1 : j < 2 ^ 8000) : CDivW i j := by
  refine ⟨h0, ?_⟩
  have h2 : j.natAbs < 2 ^ 8000 := by omega
  have := (Nat.log2_lt (by omega : j.natAbs ≠ 0)).mpr h2
  omega
theorem mulSq {r : Int} (h0 : 0 ≤ r) (h1 : r < 2 ^ 127) : CMulU r r := by
  refine .inr ?_
  show r.natAbs.log2 + r.natAbs.log2 < 1000000
  by_cases h : r.natAbs = 0
  · rw [h]; decide
  · have := (Nat.log2_lt h).mpr (show r.natAbs < 2 ^ 127 by omega)
    omega
theorem pickC {c : List Int} {k : Int} {P : D → Prop} (hc : c ≠ []) (hp : ∀ x, P (.int x)) : pick (c.map D.int) (k % ((c.map D.int).length : Int)) P := by
  have hl : 0 < c.length := List.length_pos_iff.mpr hc
  rw [List.length_map]
  have h1 := Int.emod_nonneg k (show (c.length : Int) ≠ 0 by omega)
  have h2 := Int.emod_lt_of_pos k (show 0 < (c.length : Int) by omega)
  refine pickI (d := .int (c[(k % (c.length : Int)).toNat]'(by omega))) h1 ?_ (hp _)
  rw [List.getElem?_map, List.getElem?_eq_getElem (by omega)]
  rfl
theorem sgn_at {s : Str} {k : Int} (h : allS s = true) (h0 : 0 ≤ k) (h1 : k < (s.length : Int)) : ∃ c, atI s.cps.toList k = some c ∧ symS ⟨#[c]⟩ = true := by
  have hl : s.cps.toList.length = s.length := Array.length_toList
  have hk : k.toNat < s.cps.toList.length := by rw [hl]; omega
  refine ⟨s.cps.toList[k.toNat], ?_, ?_⟩
  · unfold atI ixN
    rw [if_pos h0, if_pos (by rw [hl]; omega)]
    exact List.getElem?_eq_getElem hk
  · have := List.all_eq_true.mp h _ (List.getElem_mem hk)
    simpa [symS] using this
theorem oIx_s {s : Str} {k : Int} {P : D → Prop} (h : allS s = true) (hz : s.length ≤ 16777216) (h0 : 0 ≤ k) (h1 : k < (s.length : Int)) (hp : ∀ x, symS x = true → P (.str x)) : oIx (.str s) (.int k) P := by
  obtain ⟨c, e, hc⟩ := sgn_at h h0 h1
  refine ⟨hz, ?_⟩
  rw [e]
  exact hp _ hc
theorem last_runs (t : Txt) : (t = [] ∧ t.map runD = []) ∨ ∃ t' r, t = t' ++ [r] ∧ t.map runD = t'.map runD ++ [runD r] := by
  cases h : t.getLast? with
  | none => exact .inl ⟨List.getLast?_eq_none_iff.mp h, by rw [List.getLast?_eq_none_iff.mp h]; rfl⟩
  | some r =>
    obtain ⟨t', rfl⟩ := List.getLast?_eq_some_iff.mp h
    exact .inr ⟨t', r, rfl, by simp⟩
theorem join_nil : ∀ ys : List Str, Txt.join (Str.ofString "") ys = ⟨(ys.flatMap fun x => x.cps.toList).toArray⟩ := by
  intro ys
  unfold Txt.join
  rw [StrLaws.glued_eq_join]
  have key : ∀ ys : List Str, (Str.join (Str.ofString "") ys).cps.toList = ys.flatMap fun x => x.cps.toList := by
    intro ys
    induction ys with
    | nil => rfl
    | cons y ys ih =>
      cases ys with
      | nil => simp [Str.join]
      | cons z r =>
        show (y.cps ++ (Str.ofString "").cps ++ (Str.join (Str.ofString "") (z :: r)).cps).toList = _
        have e0 : (Str.ofString "").cps = #[] := by decide
        rw [e0, List.flatMap_cons, ← ih]
        simp only [Array.append_empty, Array.toList_append]
  have h := key ys
  cases e : Str.join (Str.ofString "") ys with
  | mk a =>
    rw [e] at h
    congr 1
    apply Array.ext'
    rw [h]
theorem valid_cons {r : Str × Int} {t : Txt} (h : validT (r :: t) = true) : symS r.1 = true ∧ 1 ≤ r.2 ∧ validT t = true := by
  have h2 := valid_mem h (r := r) (by simp)
  refine ⟨h2.1, by simpa using h2.2, ?_⟩
  unfold validT at h ⊢
  rw [Bool.and_eq_true] at h ⊢
  refine ⟨?_, ?_⟩
  · have := h.1
    rw [List.all_cons, Bool.and_eq_true] at this
    exact this.2
  · cases t with
    | nil => rfl
    | cons q t =>
      have := h.2
      simp only [adj, Bool.and_eq_true] at this
      exact this.2
theorem sizeT_nn : ∀ {t : Txt}, validT t = true → (((t.map fun r => r.2.toNat).sum : Nat) : Int) = sizeT t
  | [], _ => rfl
  | r :: t, h => by
    obtain ⟨_, h1, h2⟩ := valid_cons h
    have ih := sizeT_nn h2
    rw [sizeT_cons]
    simp only [List.map_cons, List.sum_cons, Int.natCast_add, ih]
    omega
theorem sizeT_mem {t : Txt} (h : validT t = true) {r : Str × Int} (hr : r ∈ t) : r.2 ≤ sizeT t := by
  induction t with
  | nil => cases hr
  | cons q t ih =>
    obtain ⟨_, h1, h2⟩ := valid_cons h
    rw [sizeT_cons]
    have : 0 ≤ sizeT t := by rw [← sizeT_nn h2]; omega
    cases hr with
    | head => omega
    | tail _ hr => have := ih h2 hr; omega
theorem sum_muls : ∀ {t : Txt}, validT t = true → ((t.map fun r => mulS r.1 r.2.toNat).map (·.length)).sum = (t.map fun r => r.2.toNat).sum
  | [], _ => rfl
  | r :: t, h => by
    obtain ⟨h0, h1, h2⟩ := valid_cons h
    simp only [List.map_cons, List.sum_cons]
    rw [sum_muls h2, mulS_len, symS_len h0]
    omega
theorem join_muls : ∀ t : Txt, (t.map fun r => mulS r.1 r.2.toNat).flatMap (fun x => x.cps.toList) = (unpk t).flatMap fun x => x.cps.toList
  | [] => rfl
  | r :: t => by
    have e : unpk (r :: t) = List.replicate r.2.toNat r.1 ++ unpk t := by simp [unpk]
    rw [e, List.flatMap_append, ← join_muls t, List.map_cons, List.flatMap_cons]
    congr 1
    show (List.replicate r.2.toNat r.1.cps.toList).flatten.toArray.toList = _
    induction r.2.toNat with
    | zero => rfl
    | succ n ih =>
      rw [List.replicate_succ, List.replicate_succ, List.flatten_cons, List.flatMap_cons, ← ih]
theorem cnt_nn : ∀ {t : Txt}, (∀ r ∈ t, 0 ≤ r.2) → 0 ≤ sizeT t
  | [], _ => by simp [sizeT]
  | r :: t, h => by
    rw [sizeT_cons]
    have := cnt_nn (t := t) fun x hx => h x (by simp [hx])
    have := h r (by simp)
    omega
theorem valid_pos {t : Txt} (h : validT t = true) {r : Str × Int} (hr : r ∈ t) : 1 ≤ r.2 := by
  have := (valid_mem h hr).2
  simpa using this
theorem take_nn {t : Txt} (h : validT t = true) (i : Nat) : 0 ≤ sizeT (t.take i) :=
  cnt_nn fun r hr => by have := valid_pos h (List.mem_of_mem_take hr); omega
theorem symAt_lt : ∀ {t : Txt} {r : Str × Int} {i : Nat} {k : Int}, validT t = true → t[i]? = some r → 0 ≤ k → k < r.2 → symAt t (sizeT (t.take i) + k) = r.1 ∧ sizeT (t.take i) + k < sizeT t
  | [], r, i, k, _, h, _, _ => by simp at h
  | q :: t, r, 0, k, hv, h, h0, h1 => by
    simp at h
    subst h
    obtain ⟨_, _, h2⟩ := valid_cons hv
    have : 0 ≤ sizeT t := by rw [← sizeT_nn h2]; omega
    have e : sizeT ((q :: t).take 0) = 0 := rfl
    rw [e, sizeT_cons]
    refine ⟨?_, by omega⟩
    simp [symAt, h1]
  | q :: t, r, i + 1, k, hv, h, h0, h1 => by
    obtain ⟨_, q1, h2⟩ := valid_cons hv
    have ih := symAt_lt (t := t) (i := i) h2 (by simpa using h) h0 h1
    have hn := take_nn h2 i
    rw [List.take_succ_cons, sizeT_cons, sizeT_cons]
    refine ⟨?_, by omega⟩
    have e : q.2 + sizeT (t.take i) + k - q.2 = sizeT (t.take i) + k := by omega
    simp only [symAt]
    rw [if_neg (by omega), e]
    exact ih.1
theorem take_succ {t : Txt} {r : Str × Int} {i : Nat} (h : t[i]? = some r) : sizeT (t.take (i + 1)) = sizeT (t.take i) + r.2 := by
  rw [List.take_add_one, h]
  simp [sizeT]
theorem unpk_range : ∀ {t : Txt}, validT t = true → unpk t = (List.range (sizeT t).toNat).map fun (i : Nat) => symAt t (0 + (i : Int))
  | [], _ => rfl
  | r :: t, h => by
    obtain ⟨_, h1, h2⟩ := valid_cons h
    have e : unpk (r :: t) = List.replicate r.2.toNat r.1 ++ unpk t := by simp [unpk]
    have hn : 0 ≤ sizeT t := by rw [← sizeT_nn h2]; omega
    rw [e, unpk_range h2, sizeT_cons, show (r.2 + sizeT t).toNat = r.2.toNat + (sizeT t).toNat by omega, List.range_add, List.map_append, List.map_map]
    congr 1
    · refine List.ext_getElem (by simp) fun i a b => ?_
      simp at a
      simp only [List.getElem_replicate, List.getElem_map, List.getElem_range, symAt]
      rw [if_pos (by omega)]
    · refine List.map_congr_left fun i hi => ?_
      simp only [Function.comp, symAt]
      rw [if_neg (by omega)]
      congr 1
      omega
theorem signs_flat : ∀ {l : List Str}, (∀ x ∈ l, symS x = true) → ((l.flatMap fun x => x.cps.toList).map fun c => D.str ⟨#[c]⟩) = l.map D.str
  | [], _ => rfl
  | x :: l, h => by
    obtain ⟨c, rfl, _⟩ := symS_code (h x (by simp))
    rw [List.flatMap_cons, List.map_append, signs_flat fun y hy => h y (by simp [hy])]
    rfl
theorem signs_str {t : Txt} (h : validT t = true) : signsD (strT t) = (List.range (sizeT t).toNat).map fun (i : Nat) => D.str (symAt t (0 + (i : Int))) := by
  show ((((unpk t).flatMap fun x => x.cps.toList).toArray).toList.map fun c => D.str ⟨#[c]⟩) = _
  have e : (((unpk t).flatMap fun x => x.cps.toList).toArray).toList = (unpk t).flatMap fun x => x.cps.toList := rfl
  rw [e, signs_flat, unpk_range h, List.map_map]
  · rfl
  · intro x hx
    unfold unpk at hx
    obtain ⟨l, hl, hx⟩ := List.mem_flatten.mp hx
    obtain ⟨r, hr, rfl⟩ := List.mem_map.mp hl
    rw [(List.mem_replicate.mp hx).2]
    exact valid_sym h hr
theorem size_le {t : Txt} {L : Int} (h : ∀ r ∈ t, r.2 ≤ L) : sizeT t ≤ (t.length : Int) * L := by
  induction t with
  | nil => simp [sizeT]
  | cons r t ih =>
    rw [sizeT_cons, List.length_cons, Int.natCast_add, Int.add_mul]
    have := ih fun x hx => h x (by simp [hx])
    have := h r (by simp)
    omega
theorem strs_py (l : List Str) (h : ∀ x ∈ l, symS x = true) : D.pys (l.map D.str) = some (l.map PyData.str) ∧ SeqAt.shaped (.list (l.map PyData.str)) = true :=
  ⟨pys_map _ _ (fun _ => rfl) l, shaped_list (can_map _ _ fun x hx => by simp only [PyData.canLay0]; exact symS_ok (h x hx)) (Nat.le_trans (depth_map _ 0 _ fun a _ => by simp only [PyData.depth]; exact Nat.le_refl 0) (by decide))⟩
end DL
namespace DL
open PySem L2
theorem shaped_okTx {t : Txt} (h : ∀ r ∈ t, PyData.strOk r.1 = true) : SeqAt.shaped (.list (t.map pyR)) = true :=
  shaped_list (can_map _ _ fun r hr => by simp [pyR, PyData.canLay0, PyData.canLayAll0, h r hr]) (Nat.le_trans (depth_map _ 1 _ fun a _ => depth_run a) (by decide))
theorem ix_last {xs : List D} {d : D} : ixN (xs ++ [d]).length (-1) = some xs.length := by
  unfold ixN
  rw [if_neg (by omega), List.length_append, List.length_singleton]
  rw [if_pos (by omega)]
  congr 1
  omega
theorem set_last {xs : List D} {d e : D} : (xs ++ [d]).set xs.length e = xs ++ [e] := by
  rw [List.set_append_right _ _ (Nat.le_refl _), Nat.sub_self]
  rfl
end DL
namespace DL
open PySem L2
theorem q_any {xs : List D} {bs : List Bool} {P : D → Prop} (h : blsOf xs = some bs) (hp : P (.bl (bs.any id))) : bAny [.lst xs] P := q_bAny h hp
theorem bls_const {α : Type} (l : List α) (b : Bool) : blsOf (l.map fun _ => D.bl b) = some (l.map fun _ => b) := by
  induction l with
  | nil => rfl
  | cons a l ih => simp [blsOf, ih]
end DL
/-! escaping, notations: specs -/
namespace DL
open PySem L2
/-- symbols appended to a text (a list of runs as data) -/
def addR (t : Txt) (x : Str) (c : Int) : Txt := if c < 1 then t else match t.getLast? with
  | some r => if r.1 = x then t.dropLast ++ [(x, r.2 + c)] else t ++ [(x, c)]
  | none => [(x, c)]
def okTx (t : Txt) : Prop := ∀ r ∈ t, PyData.strOk r.1 = true
def F_add_run : FS := fun ags P => ∃ (t : Txt) (x : Str) (c : Int), ags = [.own (t.map runD), .d (.str x), .d (.int c)] ∧ okTx t ∧ t.length < 16777216 ∧ P (.d .non) [.own ((addR t x c).map runD), .d (.str x), .d (.int c)]
def F_check_escapes : FS := fun ags P => ∃ n : Int, ags = [.d (.int n)] ∧ 0 ≤ n ∧ n ≤ 200 ∧ P (.d .non) ags
def F_power_of_two : FS := fun ags P => ∃ n : Int, ags = [.d (.int n)] ∧ 0 ≤ n ∧ n ≤ 100000 ∧ P (.d (.int (2 ^ n.toNat))) ags
/-! notations -/
def wordR (r : Str × Int) : Str := Str.ofString (toString ((r.1.cps.getD 0 0 : Nat) : Int)) ++ Str.ofString ":" ++ Str.ofString (toString r.2)
def notaT (t : Txt) : Str := Txt.join (Str.ofString " ") (t.map wordR)
/-- counts that are shown -/
def smallT (t : Txt) : Prop := ∀ r ∈ t, r.2 < 2 ^ 600
def F_format_text : FS := fun ags P => ∃ v t, ags = [.d v] ∧ IsTxt v t ∧ smallT t ∧ t.length ≤ 1000 ∧ P (.d (.str (notaT t))) ags
def F__law_notation : FS := fun ags P => ∃ t : Txt, ags = [.d (txtD t)] ∧ validT t = true ∧ smallT t ∧ t.length ≤ 1000 ∧ P (.d (.str (notaT t))) ags
/-- a number's digits, plain -/
def numW (w : Str) : Prop := w.cps.toList.all isDg = true ∧ w.cps.toList ≠ [] ∧ w.length ≤ 4300 ∧ (w.cps.toList.head? = some 48 → w.cps.toList = [48])
def F_number_in : FS := fun ags P => ∃ w, ags = [.d (.str w)] ∧ numW w ∧ P (.d (.int (dgV w.cps.toList : Nat))) ags
def F_pair_in : FS := fun ags P => ∃ a b : Str, ags = [.d (.str (a ++ Str.ofString ":" ++ b)), .d (.str (Str.ofString ":"))] ∧ 58 ∉ a.cps.toList ∧ 58 ∉ b.cps.toList ∧ a.length + b.length ≤ 10000 ∧ P (.d (.lst [.str a, .str b])) ags
def F_symbol_of : FS := fun ags P => ∃ c : Nat, ags = [.d (.int (c : Nat))] ∧ symC c = true ∧ P (.d (.str ⟨#[c]⟩)) ags
def F_run_in : FS := fun ags P => ∃ (c : Nat) (w : Str), ags = [.d (.str (Str.ofString (toString ((c : Nat) : Int)) ++ Str.ofString ":" ++ w))] ∧ symC c = true ∧ numW w ∧ 0 < dgV w.cps.toList ∧ P (.d (.tup [.str ⟨#[c]⟩, .int (dgV w.cps.toList : Nat)])) ags
/-- words of runs -/
structure WRun (w : Str) (r : Str × Int) : Prop where
  ex : ∃ (c : Nat) (u : Str), w = Str.ofString (toString ((c : Nat) : Int)) ++ Str.ofString ":" ++ u ∧ symC c = true ∧ numW u ∧ r = (⟨#[c]⟩, ((dgV u.cps.toList : Nat) : Int)) ∧ 0 < r.2
def WRuns : List Str → Txt → Prop
  | [], [] => True
  | w :: ws, r :: rs => WRun w r ∧ WRuns ws rs
  | _, _ => False
def F_words_of : FS := fun ags P => ∃ ws : List Str, ags = [.d (.str (Txt.join (Str.ofString " ") ws))] ∧ (∀ w ∈ ws, 32 ∉ w.cps.toList ∧ w.length ≠ 0) ∧ (Txt.join (Str.ofString " ") ws).length ≤ 10000000 ∧ P (.own (ws.map D.str)) ags
def F_parse_text : FS := fun ags P => ∃ (ws : List Str) (t : Txt), ags = [.d (.str (Txt.join (Str.ofString " ") ws))] ∧ WRuns ws t ∧ validT t = true ∧ (Txt.join (Str.ofString " ") ws).length ≤ 10000000 ∧ P (.own (t.map runD)) ags
end DL
/-! parts of a text, escapes -/
namespace DL
open PySem L2
structure PartM where
  st : Int
  sy : Option Str
  sz : Int
  qu : Bool
  mn : Int
def symO : Option Str → D
  | none => .non
  | some x => .str x
def partD (C : Addr) (p : PartM) : D := .obj C ["start", "symbol", "size", "quoted", "many"] [.int p.st, symO p.sy, .int p.sz, .bl p.qu, .int p.mn]
abbrev bsl : Str := Str.ofString "\\"
abbrev dqu : Str := Str.ofString "\""
section
variable {C : Addr} {p : PartM} {P : D → Prop}
theorem q_fst : fldD C "start" (partD C p) P = P (.int p.st) := by
  show (C = C ∧ P (.int p.st)) = _
  simp only [true_and]
theorem q_fsy : fldD C "symbol" (partD C p) P = P (symO p.sy) := by
  show (C = C ∧ P (symO p.sy)) = _
  simp only [true_and]
theorem q_fsz : fldD C "size" (partD C p) P = P (.int p.sz) := by
  show (C = C ∧ P (.int p.sz)) = _
  simp only [true_and]
theorem q_fqu : fldD C "quoted" (partD C p) P = P (.bl p.qu) := by
  show (C = C ∧ P (.bl p.qu)) = _
  simp only [true_and]
theorem q_fmn : fldD C "many" (partD C p) P = P (.int p.mn) := by
  show (C = C ∧ P (.int p.mn)) = _
  simp only [true_and]
theorem q_ois : objIs C "is_group" (partD C p) = True := eq_true ⟨rfl, by decide +kernel, rfl⟩
end
/-- what one run adds: the parts, the slashes behind it -/
def partStep (start slashes : Int) : Option Str → Int → List PartM × Int
  | some x, c => if x = bsl then ([], c) else if x = dqu then
      ((if 0 < slashes then [⟨start - slashes, none, slashes + 1, true, 1⟩] else []) ++ (if (if 0 < slashes then 1 else 0) < c then [⟨start + (if 0 < slashes then 1 else 0), none, 1, true, c - (if 0 < slashes then 1 else 0)⟩] else []), 0)
    else ((if 0 < slashes then [⟨start - slashes, none, slashes, false, 1⟩] else []) ++ [⟨start, some x, c, false, 1⟩], 0)
  | none, _ => (if 0 < slashes then [⟨start - slashes, none, slashes, false, 1⟩] else [], 0)
def partsGo : Int → Int → List (Option Str × Int) → List PartM
  | _, _, [] => []
  | st, sl, (x, c) :: r => (partStep st sl x c).1 ++ partsGo (st + c) (partStep st sl x c).2 r
def endR (t : Txt) : List (Option Str × Int) := t.map (fun r => (some r.1, r.2)) ++ [(none, 0)]
def partsT (t : Txt) : List PartM := partsGo 0 0 (endR t)
def optD (r : Option Str × Int) : D := .tup [symO r.1, .int r.2]
theorem endR_D (t : Txt) : t.map runD ++ [D.tup [.non, .int 0]] = (endR t).map optD := by
  unfold endR
  rw [List.map_append, List.map_map]
  rfl
theorem step_len (st sl : Int) (x : Option Str) (c : Int) : (partStep st sl x c).1.length ≤ 2 := by
  unfold partStep
  split
  · split
    · simp
    · split
      · simp only [List.length_append]
        split <;> split <;> simp
      · simp only [List.length_append]
        split <;> simp
  · split <;> simp
def F_Part_is_group (C : Addr) : FS := fun ags P => ∃ p, ags = [.d (partD C p)] ∧ P (.d (.bl p.sy.isNone)) ags
def F_parts_of (C : Addr) : FS := fun ags P => ∃ t : Txt, ags = [.d (txtD t)] ∧ t.length ≤ 1000000 ∧ P (.own ((partsT t).map (partD C))) ags
def bI (b : Bool) : Int := if b then 1 else 0
def addG (t : Txt) (n : Int) (q : Bool) : Txt := addR (addR t bsl (n - bI q)) dqu (bI q)
def F_add_group : FS := fun ags P => ∃ (t : Txt) (n : Int) (q : Bool), ags = [.own (t.map runD), .d (.int n), .d (.bl q)] ∧ okTx t ∧ t.length < 16777215 ∧ P (.d .non) [.own ((addG t n q).map runD), .d (.int n), .d (.bl q)]
def rep {α : Type} (f : α → α) : Nat → α → α
  | 0, a => a
  | n + 1, a => rep f n (f a)
def escStep (u : Int) (t : Txt) (p : PartM) : Txt := match p.sy with
  | none => rep (fun f => addG f (p.sz * u) p.qu) p.mn.toNat t
  | some x => addR t x p.sz
def escT (t : Txt) (n : Nat) : Txt := (partsT t).foldl (escStep (2 ^ n)) []
/-- how many runs at most are appended -/
def partW (p : PartM) : Nat := match p.sy with
  | none => 2 * p.mn.toNat
  | some _ => 1
def wgtP (l : List PartM) : Nat := (l.map partW).sum
/-- of such size -/
def okPart (p : PartM) : Prop := 0 ≤ p.sz ∧ p.sz < 2 ^ 600 ∧ (0 ≤ p.mn ∧ p.mn < 2 ^ 60) ∧ ∀ x, p.sy = some x → PyData.strOk x = true
def F_escaped (C : Addr) : FS := fun ags P => ∃ (t : Txt) (n : Int), ags = [.d (txtD t), .d (.int n)] ∧ t.length ≤ 1000000 ∧ 0 ≤ n ∧ n ≤ 200 ∧ (∀ p ∈ partsT t, okPart p) ∧ wgtP (partsT t) ≤ 16000000 ∧ P (.own ((escT t n.toNat).map runD)) ags
def F_escape (C : Addr) : FS := fun ags P => ∃ (v : D) (t : Txt) (n : Int), ags = [.d v, .d (.int n)] ∧ IsTxt v t ∧ t.length ≤ 1000000 ∧ 0 ≤ n ∧ n ≤ 200 ∧ (∀ p ∈ partsT t, okPart p) ∧ wgtP (partsT t) ≤ 16000000 ∧ P (.own ((escT t n.toNat).map runD)) ags
theorem addR_len (t : Txt) (x : Str) (c : Int) : (addR t x c).length ≤ t.length + 1 := by
  unfold addR
  split
  · omega
  · split
    · rename_i r hr
      obtain ⟨t', rfl⟩ := List.getLast?_eq_some_iff.mp hr
      split
      · simp
      · simp
    · simp
theorem addR_ok {t : Txt} {x : Str} {c : Int} (h : okTx t) (hx : PyData.strOk x = true) : okTx (addR t x c) := by
  unfold addR
  split
  · exact h
  · split
    · rename_i r hr
      split
      · intro q hq
        simp only [List.mem_append, List.mem_singleton] at hq
        rcases hq with hq | rfl
        · exact h q (List.dropLast_subset _ hq)
        · exact hx
      · intro q hq
        simp only [List.mem_append, List.mem_singleton] at hq
        rcases hq with hq | rfl
        · exact h q hq
        · exact hx
    · intro q hq
      simp only [List.mem_singleton] at hq
      subst hq
      exact hx
theorem addG_len (t : Txt) (n : Int) (q : Bool) : (addG t n q).length ≤ t.length + 2 := by
  have h1 := addR_len (addR t bsl (n - bI q)) dqu (bI q)
  have h2 := addR_len t bsl (n - bI q)
  unfold addG
  omega
theorem addG_ok {t : Txt} {n : Int} {q : Bool} (h : okTx t) : okTx (addG t n q) := addR_ok (addR_ok h (by decide +kernel)) (by decide +kernel)
theorem rep_succ {α : Type} (f : α → α) : ∀ (n : Nat) (a : α), rep f (n + 1) a = f (rep f n a)
  | 0, a => rfl
  | n + 1, a => by
    show rep f (n + 1) (f a) = _
    rw [rep_succ f n (f a)]
    rfl
theorem rep_ok {n : Int} {q : Bool} : ∀ (k : Nat) {t : Txt}, okTx t → okTx (rep (fun f => addG f n q) k t) ∧ (rep (fun f => addG f n q) k t).length ≤ t.length + 2 * k
  | 0, t, h => ⟨h, by simp [rep]⟩
  | k + 1, t, h => by
    obtain ⟨h1, h2⟩ := rep_ok k h (n := n) (q := q)
    rw [rep_succ]
    refine ⟨addG_ok h1, ?_⟩
    have := addG_len (rep (fun f => addG f n q) k t) n q
    omega
theorem escStep_ok {u : Int} {t : Txt} {p : PartM} (h : okTx t) (hp : ∀ x, p.sy = some x → PyData.strOk x = true) : okTx (escStep u t p) ∧ (escStep u t p).length ≤ t.length + partW p := by
  unfold escStep partW
  cases e : p.sy with
  | none => exact rep_ok _ h
  | some x => exact ⟨addR_ok h (hp x e), addR_len _ _ _⟩
end DL
/-! notations: plain facts -/
namespace DL
open PySem L2 PySem.Spec PyProof.Rows
theorem log_of {i : Int} (h : i.natAbs < 2 ^ 600) : i.natAbs.log2 < 600 := by
  by_cases z : i.natAbs = 0
  · rw [z]; decide
  · exact (Nat.log2_lt z).mpr h
theorem num_len {i : Int} (h : i.natAbs < 2 ^ 600) : (Str.ofString (toString i)).length ≤ 601 := by
  have := PySem.int_text_length_le (a := i) (k := 600) (by decide) (log_of h)
  rw [PySem.ofString_length]
  exact this
theorem sum_le {l : List Str} {B : Nat} (h : ∀ x ∈ l, x.length ≤ B) : (l.map (·.length)).sum ≤ l.length * B := by
  induction l with
  | nil => simp
  | cons a l ih =>
    have h1 := h a (by simp)
    have h2 := ih fun x hx => h x (by simp [hx])
    simp only [List.map_cons, List.sum_cons, List.length_cons, Nat.succ_mul]
    omega
theorem app_len (a b : Str) : (a ++ b).length = a.length + b.length := by
  show (a.cps ++ b.cps).size = _
  rw [Array.size_append]
  rfl
theorem app_cps (a b : Str) : (a ++ b).cps.toList = a.cps.toList ++ b.cps.toList := by
  show (a.cps ++ b.cps).toList = _
  simp
theorem code_small {x : Str} (h : symS x = true) : (((x.cps.getD 0 0 : Nat) : Int)).natAbs < 2 ^ 600 := by
  obtain ⟨c, rfl, hc⟩ := symS_code h
  show (((c : Nat) : Int)).natAbs < 2 ^ 600
  simp [symC] at hc
  have : (126 : Nat) < 2 ^ 600 := by decide +kernel
  omega
theorem wordR_len {r : Str × Int} (h : symS r.1 = true) (h2 : r.2.natAbs < 2 ^ 600) : (wordR r).length ≤ 1203 := by
  unfold wordR
  rw [app_len, app_len]
  have a1 := num_len (code_small h)
  have a2 := num_len h2
  have a3 : (Str.ofString ":").length = 1 := by decide
  omega
/-! digits -/
theorem num_cps (n : Nat) : (Str.ofString (toString ((n : Nat) : Int))).cps.toList = TL.numL n := TL.tl_num n
theorem numL_head (n : Nat) : (TL.numL n).head? = some 48 → TL.numL n = [48] := by
  induction n using Nat.strongRecOn with
  | _ n ih =>
    intro h
    by_cases h1 : n < 10
    · rw [TL.numL_lt h1] at h ⊢
      simp at h
      subst h
      rfl
    · exfalso
      rw [TL.numL_step (by omega)] at h
      have hne := TL.numL_ne (n / 10)
      have h2 : (TL.numL (n / 10)).head? = some 48 := by
        cases e : TL.numL (n / 10) with
        | nil => exact absurd e hne
        | cons a l => rw [e] at h; exact h
      have h3 := ih (n / 10) (by omega) h2
      have h4 := TL.numL_val (n / 10)
      rw [h3] at h4
      have h5 : NumText.digitsVal [48] = 0 := rfl
      omega
theorem numW_num (n : Nat) (h : n < 2 ^ 600) : numW (Str.ofString (toString ((n : Nat) : Int))) ∧ dgV (Str.ofString (toString ((n : Nat) : Int))).cps.toList = n := by
  have hl := num_len (i := ((n : Nat) : Int)) (by omega)
  refine ⟨⟨?_, ?_, by omega, ?_⟩, ?_⟩
  · rw [num_cps]
    refine List.all_eq_true.mpr fun c hc => ?_
    have := TL.numL_digits n c hc
    simp [isDg, this]
  · rw [num_cps]; exact TL.numL_ne n
  · rw [num_cps]; exact numL_head n
  · rw [num_cps]; exact TL.numL_val n
theorem dg_not {w : Str} (h : w.cps.toList.all isDg = true) {s : Nat} (hs : s < 48 ∨ 57 < s) : s ∉ w.cps.toList := fun hm => by
  have := List.all_eq_true.mp h s hm
  simp [isDg] at this
  omega
theorem split_pair {a b : Str} (h1 : 58 ∉ a.cps.toList) (h2 : 58 ∉ b.cps.toList) : Txt.split (a ++ Str.ofString ":" ++ b) (Str.ofString ":") = [a, b] := by
  have e : a ++ Str.ofString ":" ++ b = Txt.join (Str.ofString ":") [a, b] := rfl
  rw [e]
  refine TL.split_join (s := 58) (S := []) (by decide) (by decide +kernel) (by simp) ?_
  intro p hp
  simp at hp
  rcases hp with rfl | rfl
  · exact h1
  · exact h2
theorem split_words {ws : List Str} (hne : ws ≠ []) (h : ∀ w ∈ ws, 32 ∉ w.cps.toList) : Txt.split (Txt.join (Str.ofString " ") ws) (Str.ofString " ") = ws :=
  TL.split_join (s := 32) (S := []) (by decide) (by decide +kernel) hne h
theorem signs_table : ((List.range 127).all fun c => !symC c || (if c < 37 then (atI (Str.ofString " !\"#$").cps.toList ((c : Int) - 32) == some c) else (atI (Str.ofString "&'()*+,-./0123456789:;<=>?@ABCDEFGHIJKLMNOPQRSTUVWXYZ[\\]^_`abcdefghijklmnopqrstuvwxyz{|}~").cps.toList ((c : Int) - 37 - 1) == some c))) = true := by decide +kernel
def ixS (c : Nat) : Nat := if c < 37 then c - 32 else c - 33
theorem index_table : ((List.range 127).all fun c => !symC c || (Builtin.Str.occurrences S94 ⟨#[c]⟩ 0 94 1 == [ixS c])) = true := by decide +kernel
theorem symC_lt {c : Nat} (h : symC c = true) : c < 127 ∧ 32 ≤ c ∧ c ≠ 37 := by
  simp [symC] at h
  omega
end DL
namespace DL
open PySem L2 PySem.Spec PyProof.Rows
theorem join_cps2 (sep : Str) : ∀ (w : Str) (ws : List Str), w.length ≤ (Txt.join sep (w :: ws)).length ∧ ws.length ≤ (Txt.join sep (w :: ws)).length + (if sep.length = 0 then ws.length else 0) := by
  intro w ws
  rw [TL.join_eq]
  induction ws generalizing w with
  | nil => exact ⟨Nat.le_refl _, Nat.zero_le _⟩
  | cons z r ih =>
    have e : Str.join sep (w :: z :: r) = w ++ sep ++ Str.join sep (z :: r) := rfl
    rw [e, app_len, app_len]
    have := (ih z).2
    refine ⟨by omega, ?_⟩
    simp only [List.length_cons]
    split
    · rename_i h; omega
    · rename_i h
      rw [if_neg h] at this
      omega
theorem join_len_pos {w : Str} {ws : List Str} (h : w.length ≠ 0) : (Txt.join (Str.ofString " ") (w :: ws)).length = (Txt.join (Str.ofString " ") (w :: ws)).length - 1 + 1 := by
  have := (join_cps2 (Str.ofString " ") w ws).1
  omega
theorem wruns_len : ∀ {ws : List Str} {t : Txt}, WRuns ws t → ws.length = t.length
  | [], [], _ => rfl
  | w :: ws, r :: t, h => by simp [wruns_len h.2]
  | [], _ :: _, h => h.elim
  | _ :: _, [], h => h.elim
theorem wruns_room {ws : List Str} {t : Txt} (h : WRuns ws t) (hz : (Txt.join (Str.ofString " ") ws).length ≤ 10000000) : t.length ≤ 10000001 := by
  rw [← wruns_len h]
  cases ws with
  | nil => simp
  | cons w ws =>
    have := (join_cps2 (Str.ofString " ") w ws).2
    rw [if_neg (by decide)] at this
    simp only [List.length_cons]
    omega
theorem wruns_at : ∀ {ws : List Str} {t : Txt} {i : Nat} {w : Str}, WRuns ws t → ws[i]? = some w → ∃ r, t[i]? = some r ∧ ∃ (c : Nat) (u : Str), w = Str.ofString (toString ((c : Nat) : Int)) ++ Str.ofString ":" ++ u ∧ symC c = true ∧ numW u ∧ r = (⟨#[c]⟩, ((dgV u.cps.toList : Nat) : Int)) ∧ 0 < r.2
  | v :: ws, r :: t, 0, w, h, e => by
    simp at e
    subst e
    exact ⟨r, rfl, h.1.ex⟩
  | v :: ws, r :: t, i + 1, w, h, e => by
    obtain ⟨r, h1, h2⟩ := wruns_at (i := i) h.2 (by simpa using e)
    exact ⟨r, by simpa using h1, h2⟩
  | [], [], i, w, h, e => by simp at e
  | [], _ :: _, _, _, h, _ => h.elim
  | _ :: _, [], _, _, h, _ => h.elim
theorem word_free {c : Nat} {u : Str} (hc : symC c = true) (hu : numW u) : 32 ∉ (Str.ofString (toString ((c : Nat) : Int)) ++ Str.ofString ":" ++ u).cps.toList ∧ (Str.ofString (toString ((c : Nat) : Int)) ++ Str.ofString ":" ++ u).length ≠ 0 := by
  obtain ⟨c1, _, _⟩ := symC_lt hc
  have hb : (126 : Nat) < 2 ^ 600 := by decide +kernel
  obtain ⟨n1, _⟩ := numW_num c (by omega)
  refine ⟨?_, ?_⟩
  · rw [app_cps, app_cps, List.mem_append, List.mem_append]
    have a1 := dg_not n1.1 (s := 32) (by omega)
    have a2 := dg_not hu.1 (s := 32) (by omega)
    have a3 : 32 ∉ (Str.ofString ":").cps.toList := by decide
    rintro ((h | h) | h)
    · exact a1 h
    · exact a3 h
    · exact a2 h
  · rw [app_len, app_len]
    have a3 : (Str.ofString ":").length = 1 := by decide
    omega
theorem wruns_word {ws : List Str} {t : Txt} (h : WRuns ws t) {w : Str} (hw : w ∈ ws) : 32 ∉ w.cps.toList ∧ w.length ≠ 0 := by
  obtain ⟨i, hi, e⟩ := List.getElem_of_mem hw
  obtain ⟨r, _, c, u, rfl, hc, hu, _, _⟩ := wruns_at h (i := i) (by rw [List.getElem?_eq_getElem hi, e])
  exact word_free hc hu
end DL
namespace DL
open PySem L2 PySem.Spec PyProof.Rows
theorem strOk_iff {x : Str} : PyData.strOk x = true ↔ ∀ c ∈ x.cps.toList, c < 0x110000 := by
  unfold PyData.strOk
  rw [← Array.all_toList, List.all_eq_true]
  exact ⟨fun h c hc => by simpa using h c hc, fun h c hc => by simpa using h c hc⟩
theorem ok_app {a b : Str} (h1 : PyData.strOk a = true) (h2 : PyData.strOk b = true) : PyData.strOk (a ++ b) = true := by
  rw [strOk_iff] at h1 h2 ⊢
  intro c hc
  rw [app_cps, List.mem_append] at hc
  exact hc.elim (h1 c) (h2 c)
theorem ok_join {sep : Str} (hs : PyData.strOk sep = true) : ∀ ws : List Str, (∀ w ∈ ws, PyData.strOk w = true) → PyData.strOk (Txt.join sep ws) = true := by
  intro ws
  rw [TL.join_eq]
  intro h
  cases ws with
  | nil =>
    show PyData.strOk Str.empty = true
    decide +kernel
  | cons w ws =>
    induction ws generalizing w with
    | nil => exact h w (by simp)
    | cons z r ih =>
      have e : Str.join sep (w :: z :: r) = w ++ sep ++ Str.join sep (z :: r) := rfl
      rw [e]
      exact ok_app (ok_app (h w (by simp)) hs) (ih z fun x hx => h x (List.mem_cons_of_mem _ hx))
theorem ok_dg {x : Str} (h : x.cps.toList.all isDg = true) : PyData.strOk x = true := by
  rw [strOk_iff]
  intro c hc
  have := List.all_eq_true.mp h c hc
  simp [isDg] at this
  omega
theorem nat_txt (i : Int) (h : 0 ≤ i) : Str.ofString (toString i) = Str.ofString (toString ((i.toNat : Nat) : Int)) := by
  rw [Int.toNat_of_nonneg h]
theorem wordR_run {r : Str × Int} (h : symS r.1 = true) (h1 : 1 ≤ r.2) (h2 : r.2 < 2 ^ 600) : WRun (wordR r) r := by
  obtain ⟨c, hc, hcs⟩ := symS_code h
  have hn : r.2.toNat < 2 ^ 600 := by omega
  obtain ⟨n1, n2⟩ := numW_num r.2.toNat hn
  refine ⟨c, Str.ofString (toString ((r.2.toNat : Nat) : Int)), ?_, hcs, n1, ?_, by omega⟩
  · unfold wordR
    rw [← nat_txt r.2 (by omega), hc]
    rfl
  · rw [n2, Int.toNat_of_nonneg (by omega), ← hc]
theorem wruns_of : ∀ {t : Txt}, (∀ r ∈ t, symS r.1 = true ∧ 1 ≤ r.2 ∧ r.2 < 2 ^ 600) → WRuns (t.map wordR) t
  | [], _ => trivial
  | r :: t, h => ⟨wordR_run (h r (by simp)).1 (h r (by simp)).2.1 (h r (by simp)).2.2, wruns_of fun x hx => h x (by simp [hx])⟩
theorem wordR_ok {r : Str × Int} (h : symS r.1 = true) (h1 : 1 ≤ r.2) (h2 : r.2 < 2 ^ 600) : PyData.strOk (wordR r) = true := by
  obtain ⟨c, u, e, hc, hu, _, _⟩ := (wordR_run h h1 h2).ex
  obtain ⟨c1, _, _⟩ := symC_lt hc
  have hb : (126 : Nat) < 2 ^ 600 := by decide +kernel
  rw [e]
  exact ok_app (ok_app (ok_dg (numW_num c (by omega)).1.1) (by decide +kernel)) (ok_dg hu.1)
theorem join_len_le {sep : Str} {B : Nat} : ∀ {ws : List Str}, (∀ w ∈ ws, w.length ≤ B) → (Txt.join sep ws).length ≤ ws.length * (B + sep.length) := by
  intro ws
  rw [TL.join_eq]
  intro h
  cases ws with
  | nil => exact Nat.zero_le _
  | cons w ws =>
    induction ws generalizing w with
    | nil =>
      have := h w (by simp)
      show w.length ≤ _
      simp
      omega
    | cons z r ih =>
      have e : Str.join sep (w :: z :: r) = w ++ sep ++ Str.join sep (z :: r) := rfl
      have h1 := ih z fun x hx => h x (List.mem_cons_of_mem _ hx)
      have h2 := h w (by simp)
      rw [e, app_len, app_len, List.length_cons, Nat.succ_mul]
      omega
theorem nota_facts {t : Txt} (ht : validT t = true) (hs : smallT t) (hz : t.length ≤ 1000) : PyData.strOk (notaT t) = true ∧ (notaT t).length ≤ 10000000 ∧ WRuns (t.map wordR) t := by
  have a : ∀ r ∈ t, symS r.1 = true ∧ 1 ≤ r.2 ∧ r.2 < 2 ^ 600 := fun r hr => ⟨valid_sym ht hr, valid_pos ht hr, hs r hr⟩
  refine ⟨ok_join (by decide +kernel) _ ?_, ?_, wruns_of a⟩
  · intro w hw
    obtain ⟨r, hr, rfl⟩ := List.mem_map.mp hw
    exact wordR_ok (a r hr).1 (a r hr).2.1 (a r hr).2.2
  · have h := join_len_le (sep := Str.ofString " ") (B := 1203) (ws := t.map wordR) (by
      intro w hw
      obtain ⟨r, hr, rfl⟩ := List.mem_map.mp hw
      have := a r hr
      exact wordR_len this.1 (by omega))
    have e0 : (Str.ofString " ").length = 1 := by decide
    rw [List.length_map, e0] at h
    show (Txt.join (Str.ofString " ") (t.map wordR)).length ≤ _
    omega
/-! the signs in turn -/
def adjN : List Nat → Bool
  | a :: b :: r => decide (a ≠ b) && adjN (b :: r)
  | _ => true
theorem adjN_tail {a : Nat} {l : List Nat} (h : adjN (a :: l) = true) : adjN l = true := by
  cases l with
  | nil => rfl
  | cons b r =>
    simp only [adjN, Bool.and_eq_true] at h
    exact h.2
theorem adjN_drop : ∀ {n : Nat} {l : List Nat}, adjN l = true → adjN (l.drop n) = true
  | 0, l, h => h
  | n + 1, [], h => rfl
  | n + 1, a :: l, h => adjN_drop (n := n) (l := l) (adjN_tail h)
theorem adjN_take : ∀ {n : Nat} {l : List Nat}, adjN l = true → adjN (l.take n) = true
  | 0, l, h => by simp [adjN]
  | 1, [], h => rfl
  | 1, a :: l, h => by simp [adjN]
  | n + 2, [], h => rfl
  | n + 2, [a], h => by simp [adjN]
  | n + 2, a :: b :: l, h => by
    simp only [adjN, Bool.and_eq_true] at h
    have ih := adjN_take (n := n + 1) (l := b :: l) h.2
    show (decide (a ≠ b) && adjN ((b :: l).take (n + 1))) = true
    rw [h.1, ih]
    rfl
theorem S94_twice : adjN (mulS S94 2).cps.toList = true ∧ (mulS S94 2).cps.toList.all symC = true ∧ (mulS S94 2).length = 188 := by
  refine ⟨by decide +kernel, by decide +kernel, by decide +kernel⟩
theorem adj_zip : ∀ {l : List Nat} {t : Txt}, adjN l = true → t.map (·.1) = l.map (fun c => (⟨#[c]⟩ : Str)) → adj t = true
  | [], [], _, _ => rfl
  | [a], [r], _, _ => rfl
  | a :: b :: l, r :: q :: t, h, e => by
    simp only [List.map_cons, List.cons.injEq] at e
    simp only [adjN, Bool.and_eq_true, decide_eq_true_eq] at h
    have ih := adj_zip (l := b :: l) (t := q :: t) h.2 (by simp only [List.map_cons, List.cons.injEq]; exact e.2)
    show (decide (r.1 ≠ q.1) && adj (q :: t)) = true
    rw [ih, e.1, e.2.1]
    have : ((⟨#[a]⟩ : Str) ≠ ⟨#[b]⟩) := fun z => h.1 (by injection z with z; simpa using z)
    simp [this]
  | [], _ :: _, _, e => by simp at e
  | _ :: _, [], _, e => by simp at e
  | [_], _ :: _ :: _, _, e => by simp at e
  | _ :: _ :: _, [_], _, e => by simp at e
end DL
namespace DL
theorem dgV_ge : ∀ (l : List Nat) (a : Nat), 0 < a → 0 < l.foldl (fun acc c => acc * 10 + (c - 48)) a
  | [], a, h => h
  | c :: l, a, h => dgV_ge l (a * 10 + (c - 48)) (by omega)
theorem dgV_pos (l : List Nat) : 0 < dgV (49 :: l) := dgV_ge l _ (by decide)
end DL
namespace K54
open PySem L2 DL
def topS (i : Nat) : Stmt := PySem.Challenge.pw_slashlevels_k54_notations_of_texts.main.body.getD i (.Pass ⟨0, 0, 0, 0⟩)
abbrev s_is_integer : Stmt := topS 9
theorem sc_is_integer : FnScope ["value", "low", "high"] ["value", "low", "high"] (defScope s_is_integer) := ⟨rfl, rfl, rfl, by decide +kernel, rfl, by decide +kernel, by decide +kernel⟩
abbrev s_is_symbol : Stmt := topS 10
theorem sc_is_symbol : FnScope ["value"] ["value"] (defScope s_is_symbol) := ⟨rfl, rfl, rfl, by decide +kernel, rfl, by decide +kernel, by decide +kernel⟩
abbrev s_is_run : Stmt := topS 11
theorem sc_is_run : FnScope ["value"] ["value"] (defScope s_is_run) := ⟨rfl, rfl, rfl, by decide +kernel, rfl, by decide +kernel, by decide +kernel⟩
abbrev s_is_text : Stmt := topS 12
theorem sc_is_text : FnScope ["value", "run", "place"] ["value"] (defScope s_is_text) := ⟨rfl, rfl, rfl, by decide +kernel, rfl, by decide +kernel, by decide +kernel⟩
abbrev s_checked_text : Stmt := topS 13
theorem sc_checked_text : FnScope ["text", "run"] ["text"] (defScope s_checked_text) := ⟨rfl, rfl, rfl, by decide +kernel, rfl, by decide +kernel, by decide +kernel⟩
abbrev s_add_run : Stmt := topS 14
theorem sc_add_run : FnScope ["runs", "symbol", "count"] ["runs", "symbol", "count"] (defScope s_add_run) := ⟨rfl, rfl, rfl, by decide +kernel, rfl, by decide +kernel, by decide +kernel⟩
abbrev s_check_escapes : Stmt := topS 17
theorem sc_check_escapes : FnScope ["number"] ["number"] (defScope s_check_escapes) := ⟨rfl, rfl, rfl, by decide +kernel, rfl, by decide +kernel, by decide +kernel⟩
abbrev s_power_of_two : Stmt := topS 18
theorem sc_power_of_two : FnScope ["exponent", "found", "turn"] ["exponent"] (defScope s_power_of_two) := ⟨rfl, rfl, rfl, by decide +kernel, rfl, by decide +kernel, by decide +kernel⟩
abbrev s_Part___init__ : Stmt := inClass (topS 19) 0
theorem sc_Part___init__ : FnScope ["self", "start", "symbol", "size", "quoted", "many"] ["self", "start", "symbol", "size", "quoted", "many"] (defScope s_Part___init__) := ⟨rfl, rfl, rfl, by decide +kernel, rfl, by decide +kernel, by decide +kernel⟩
abbrev s_Part_is_group : Stmt := inClass (topS 19) 1
theorem sc_Part_is_group : FnScope ["self"] ["self"] (defScope s_Part_is_group) := ⟨rfl, rfl, rfl, by decide +kernel, rfl, by decide +kernel, by decide +kernel⟩
abbrev s_parts_of : Stmt := topS 20
theorem sc_parts_of : FnScope ["runs", "found", "start", "slashes", "symbol", "count", "joined"] ["runs"] (defScope s_parts_of) := ⟨rfl, rfl, rfl, by decide +kernel, rfl, by decide +kernel, by decide +kernel⟩
abbrev s_add_group : Stmt := topS 21
theorem sc_add_group : FnScope ["runs", "size", "quoted"] ["runs", "size", "quoted"] (defScope s_add_group) := ⟨rfl, rfl, rfl, by decide +kernel, rfl, by decide +kernel, by decide +kernel⟩
abbrev s_escaped : Stmt := topS 22
theorem sc_escaped : FnScope ["runs", "times", "unit", "found", "part", "turn"] ["runs", "times"] (defScope s_escaped) := ⟨rfl, rfl, rfl, by decide +kernel, rfl, by decide +kernel, by decide +kernel⟩
abbrev s_escape : Stmt := topS 23
theorem sc_escape : FnScope ["text", "times", "runs"] ["text", "times"] (defScope s_escape) := ⟨rfl, rfl, rfl, by decide +kernel, rfl, by decide +kernel, by decide +kernel⟩
abbrev s_format_text : Stmt := topS 30
theorem sc_format_text : FnScope ["text", "symbol", "count"] ["text"] (defScope s_format_text) := ⟨rfl, rfl, rfl, by decide +kernel, rfl, by decide +kernel, by decide +kernel⟩
abbrev s_number_in : Stmt := topS 31
theorem sc_number_in : FnScope ["word", "sign"] ["word"] (defScope s_number_in) := ⟨rfl, rfl, rfl, by decide +kernel, rfl, by decide +kernel, by decide +kernel⟩
abbrev s_pair_in : Stmt := topS 32
theorem sc_pair_in : FnScope ["word", "mark", "parts"] ["word", "mark"] (defScope s_pair_in) := ⟨rfl, rfl, rfl, by decide +kernel, rfl, by decide +kernel, by decide +kernel⟩
abbrev s_symbol_of : Stmt := topS 33
theorem sc_symbol_of : FnScope ["code"] ["code"] (defScope s_symbol_of) := ⟨rfl, rfl, rfl, by decide +kernel, rfl, by decide +kernel, by decide +kernel⟩
abbrev s_run_in : Stmt := topS 34
theorem sc_run_in : FnScope ["word", "parts", "symbol", "count"] ["word"] (defScope s_run_in) := ⟨rfl, rfl, rfl, by decide +kernel, rfl, by decide +kernel, by decide +kernel⟩
abbrev s_words_of : Stmt := topS 35
theorem sc_words_of : FnScope ["string"] ["string"] (defScope s_words_of) := ⟨rfl, rfl, rfl, by decide +kernel, rfl, by decide +kernel, by decide +kernel⟩
abbrev s_parse_text : Stmt := topS 36
theorem sc_parse_text : FnScope ["string", "runs", "index", "word", "run"] ["string"] (defScope s_parse_text) := ⟨rfl, rfl, rfl, by decide +kernel, rfl, by decide +kernel, by decide +kernel⟩
abbrev s__law_reel : Stmt := topS 38
theorem sc__law_reel : FnScope ["_law_script", "_law_stir", "_law_cell", "_law_great"] ["_law_script"] (defScope s__law_reel) := ⟨rfl, rfl, rfl, by decide +kernel, rfl, by decide +kernel, by decide +kernel⟩
abbrev s__law_draw : Stmt := topS 39
theorem sc__law_draw : FnScope ["_law_reel_here", "_law_many", "_law_rest", "_law_extra", "_law_stir"] ["_law_reel_here", "_law_many"] (defScope s__law_draw) := ⟨rfl, rfl, rfl, by decide +kernel, rfl, by decide +kernel, by decide +kernel⟩
abbrev s__law_signs : Stmt := topS 40
theorem sc__law_signs : FnScope ["_law_digits", "_law_small", "_law_large"] [] (defScope s__law_signs) := ⟨rfl, rfl, rfl, by decide +kernel, rfl, by decide +kernel, by decide +kernel⟩
abbrev s__law_sign : Stmt := topS 41
theorem sc__law_sign : FnScope ["_law_reel_here", "_law_at"] ["_law_reel_here"] (defScope s__law_sign) := ⟨rfl, rfl, rfl, by decide +kernel, rfl, by decide +kernel, by decide +kernel⟩
abbrev s__law_text : Stmt := topS 42
theorem sc__law_text : FnScope ["_law_reel_here", "_law_many", "_law_longest", "_law_found", "_law_turn", "_law_sign_here"] ["_law_reel_here", "_law_many", "_law_longest"] (defScope s__law_text) := ⟨rfl, rfl, rfl, by decide +kernel, rfl, by decide +kernel, by decide +kernel⟩
abbrev s__law_dressed : Stmt := topS 43
theorem sc__law_dressed : FnScope ["_law_reel_here", "_law_value", "_law_part", "_law_parts"] ["_law_reel_here", "_law_value"] (defScope s__law_dressed) := ⟨rfl, rfl, rfl, by decide +kernel, rfl, by decide +kernel, by decide +kernel⟩
abbrev s__law_notation : Stmt := topS 44
theorem sc__law_notation : FnScope ["_law_runs", "_law_signs_here", "_law_at", "_law_codes", "_law_sign_here", "_law_count"] ["_law_runs"] (defScope s__law_notation) := ⟨rfl, rfl, rfl, by decide +kernel, rfl, by decide +kernel, by decide +kernel⟩
abbrev s_law : Stmt := topS 45
theorem sc_law : FnScope ["_law_script", "_law_reel_here", "_law_k", "_law_longest", "_law_runs", "_law_at", "_law_sign_here", "_law_dressed_here", "_law_kept", "_law_due", "_law_found", "_law_one", "_law_large"] ["_law_script"] (defScope s_law) := ⟨rfl, rfl, rfl, by decide +kernel, rfl, by decide +kernel, by decide +kernel⟩
structure Tx (K : PySem.W.Frag) (mg : Str → Option Value) where
  m_all : mg "all" = none
  m_any : mg "any" = none
  m_bool : mg "bool" = none
  m_enumerate : mg "enumerate" = none
  m_int : mg "int" = none
  m_isinstance : mg "isinstance" = none
  m_len : mg "len" = none
  m_list : mg "list" = none
  m_min : mg "min" = none
  m_ord : mg "ord" = none
  m_range : mg "range" = none
  m_repr : mg "repr" = none
  m_str : mg "str" = none
  m_tuple : mg "tuple" = none
  c_BACKSLASH : ∃ t, mg "BACKSLASH" = some (.str ("\\" : Str) t)
  c_QUOTE : ∃ t, mg "QUOTE" = some (.str ("\"" : Str) t)
  c_PERCENT_CODE : ∃ t, mg "PERCENT_CODE" = some (.int 37 t)
  c_MAX_ESCAPES : ∃ t, mg "MAX_ESCAPES" = some (.int 200 t)
  c_DIGITS : ∃ t, mg "DIGITS" = some (.str ("0123456789" : Str) t)
  c_FIRST_CODE : ∃ t, mg "FIRST_CODE" = some (.int 32 t)
  c_LAST_CODE : ∃ t, mg "LAST_CODE" = some (.int 126 t)
  c_BEFORE_PERCENT : ∃ t, mg "BEFORE_PERCENT" = some (.str (" !\"#$" : Str) t)
  c_AFTER_PERCENT : ∃ t, mg "AFTER_PERCENT" = some (.str ("&'()*+,-./0123456789:;<=>?@ABCDEFGHIJKLMNOPQRSTUVWXYZ[\\]^_`abcdefghijklmnopqrstuvwxyz{|}~" : Str) t)
  g_is_integer : mg "is_integer" = some (.ref (He.ga K "is_integer"))
  fd_is_integer : FuncData
  F_is_integer : FunD K "is_integer" "is_integer" (defArgs s_is_integer) (defBody s_is_integer) (defScope s_is_integer) [V.non] [] (He.ga K "is_integer") fd_is_integer
  b_is_integer : Binds K fd_is_integer ["value", "low", "high"] []
  ds_is_integer_2 : List Value
  bd_is_integer_2 : Vals [V.non] ds_is_integer_2 ∧ Binds K fd_is_integer ["value", "low", "high"] ds_is_integer_2
  g_is_symbol : mg "is_symbol" = some (.ref (He.ga K "is_symbol"))
  fd_is_symbol : FuncData
  F_is_symbol : FunD K "is_symbol" "is_symbol" (defArgs s_is_symbol) (defBody s_is_symbol) (defScope s_is_symbol) [] [] (He.ga K "is_symbol") fd_is_symbol
  b_is_symbol : Binds K fd_is_symbol ["value"] []
  g_is_run : mg "is_run" = some (.ref (He.ga K "is_run"))
  fd_is_run : FuncData
  F_is_run : FunD K "is_run" "is_run" (defArgs s_is_run) (defBody s_is_run) (defScope s_is_run) [] [] (He.ga K "is_run") fd_is_run
  b_is_run : Binds K fd_is_run ["value"] []
  g_is_text : mg "is_text" = some (.ref (He.ga K "is_text"))
  fd_is_text : FuncData
  F_is_text : FunD K "is_text" "is_text" (defArgs s_is_text) (defBody s_is_text) (defScope s_is_text) [] [] (He.ga K "is_text") fd_is_text
  b_is_text : Binds K fd_is_text ["value"] []
  g_checked_text : mg "checked_text" = some (.ref (He.ga K "checked_text"))
  fd_checked_text : FuncData
  F_checked_text : FunD K "checked_text" "checked_text" (defArgs s_checked_text) (defBody s_checked_text) (defScope s_checked_text) [] [] (He.ga K "checked_text") fd_checked_text
  b_checked_text : Binds K fd_checked_text ["text"] []
  g_add_run : mg "add_run" = some (.ref (He.ga K "add_run"))
  fd_add_run : FuncData
  F_add_run : FunD K "add_run" "add_run" (defArgs s_add_run) (defBody s_add_run) (defScope s_add_run) [] [] (He.ga K "add_run") fd_add_run
  b_add_run : Binds K fd_add_run ["runs", "symbol", "count"] []
  g_check_escapes : mg "check_escapes" = some (.ref (He.ga K "check_escapes"))
  fd_check_escapes : FuncData
  F_check_escapes : FunD K "check_escapes" "check_escapes" (defArgs s_check_escapes) (defBody s_check_escapes) (defScope s_check_escapes) [] [] (He.ga K "check_escapes") fd_check_escapes
  b_check_escapes : Binds K fd_check_escapes ["number"] []
  g_power_of_two : mg "power_of_two" = some (.ref (He.ga K "power_of_two"))
  fd_power_of_two : FuncData
  F_power_of_two : FunD K "power_of_two" "power_of_two" (defArgs s_power_of_two) (defBody s_power_of_two) (defScope s_power_of_two) [] [] (He.ga K "power_of_two") fd_power_of_two
  b_power_of_two : Binds K fd_power_of_two ["exponent"] []
  g_parts_of : mg "parts_of" = some (.ref (He.ga K "parts_of"))
  fd_parts_of : FuncData
  F_parts_of : FunD K "parts_of" "parts_of" (defArgs s_parts_of) (defBody s_parts_of) (defScope s_parts_of) [] [] (He.ga K "parts_of") fd_parts_of
  b_parts_of : Binds K fd_parts_of ["runs"] []
  g_add_group : mg "add_group" = some (.ref (He.ga K "add_group"))
  fd_add_group : FuncData
  F_add_group : FunD K "add_group" "add_group" (defArgs s_add_group) (defBody s_add_group) (defScope s_add_group) [] [] (He.ga K "add_group") fd_add_group
  b_add_group : Binds K fd_add_group ["runs", "size", "quoted"] []
  g_escaped : mg "escaped" = some (.ref (He.ga K "escaped"))
  fd_escaped : FuncData
  F_escaped : FunD K "escaped" "escaped" (defArgs s_escaped) (defBody s_escaped) (defScope s_escaped) [] [] (He.ga K "escaped") fd_escaped
  b_escaped : Binds K fd_escaped ["runs", "times"] []
  g_escape : mg "escape" = some (.ref (He.ga K "escape"))
  fd_escape : FuncData
  F_escape : FunD K "escape" "escape" (defArgs s_escape) (defBody s_escape) (defScope s_escape) [] [] (He.ga K "escape") fd_escape
  b_escape : Binds K fd_escape ["text", "times"] []
  g_format_text : mg "format_text" = some (.ref (He.ga K "format_text"))
  fd_format_text : FuncData
  F_format_text : FunD K "format_text" "format_text" (defArgs s_format_text) (defBody s_format_text) (defScope s_format_text) [] [] (He.ga K "format_text") fd_format_text
  b_format_text : Binds K fd_format_text ["text"] []
  g_number_in : mg "number_in" = some (.ref (He.ga K "number_in"))
  fd_number_in : FuncData
  F_number_in : FunD K "number_in" "number_in" (defArgs s_number_in) (defBody s_number_in) (defScope s_number_in) [] [] (He.ga K "number_in") fd_number_in
  b_number_in : Binds K fd_number_in ["word"] []
  g_pair_in : mg "pair_in" = some (.ref (He.ga K "pair_in"))
  fd_pair_in : FuncData
  F_pair_in : FunD K "pair_in" "pair_in" (defArgs s_pair_in) (defBody s_pair_in) (defScope s_pair_in) [] [] (He.ga K "pair_in") fd_pair_in
  b_pair_in : Binds K fd_pair_in ["word", "mark"] []
  g_symbol_of : mg "symbol_of" = some (.ref (He.ga K "symbol_of"))
  fd_symbol_of : FuncData
  F_symbol_of : FunD K "symbol_of" "symbol_of" (defArgs s_symbol_of) (defBody s_symbol_of) (defScope s_symbol_of) [] [] (He.ga K "symbol_of") fd_symbol_of
  b_symbol_of : Binds K fd_symbol_of ["code"] []
  g_run_in : mg "run_in" = some (.ref (He.ga K "run_in"))
  fd_run_in : FuncData
  F_run_in : FunD K "run_in" "run_in" (defArgs s_run_in) (defBody s_run_in) (defScope s_run_in) [] [] (He.ga K "run_in") fd_run_in
  b_run_in : Binds K fd_run_in ["word"] []
  g_words_of : mg "words_of" = some (.ref (He.ga K "words_of"))
  fd_words_of : FuncData
  F_words_of : FunD K "words_of" "words_of" (defArgs s_words_of) (defBody s_words_of) (defScope s_words_of) [] [] (He.ga K "words_of") fd_words_of
  b_words_of : Binds K fd_words_of ["string"] []
  g_parse_text : mg "parse_text" = some (.ref (He.ga K "parse_text"))
  fd_parse_text : FuncData
  F_parse_text : FunD K "parse_text" "parse_text" (defArgs s_parse_text) (defBody s_parse_text) (defScope s_parse_text) [] [] (He.ga K "parse_text") fd_parse_text
  b_parse_text : Binds K fd_parse_text ["string"] []
  g__law_reel : mg "_law_reel" = some (.ref (He.ga K "_law_reel"))
  fd__law_reel : FuncData
  F__law_reel : FunD K "_law_reel" "_law_reel" (defArgs s__law_reel) (defBody s__law_reel) (defScope s__law_reel) [] [] (He.ga K "_law_reel") fd__law_reel
  b__law_reel : Binds K fd__law_reel ["_law_script"] []
  g__law_draw : mg "_law_draw" = some (.ref (He.ga K "_law_draw"))
  fd__law_draw : FuncData
  F__law_draw : FunD K "_law_draw" "_law_draw" (defArgs s__law_draw) (defBody s__law_draw) (defScope s__law_draw) [] [] (He.ga K "_law_draw") fd__law_draw
  b__law_draw : Binds K fd__law_draw ["_law_reel_here", "_law_many"] []
  g__law_signs : mg "_law_signs" = some (.ref (He.ga K "_law_signs"))
  fd__law_signs : FuncData
  F__law_signs : FunD K "_law_signs" "_law_signs" (defArgs s__law_signs) (defBody s__law_signs) (defScope s__law_signs) [] [] (He.ga K "_law_signs") fd__law_signs
  b__law_signs : Binds K fd__law_signs [] []
  g__law_sign : mg "_law_sign" = some (.ref (He.ga K "_law_sign"))
  fd__law_sign : FuncData
  F__law_sign : FunD K "_law_sign" "_law_sign" (defArgs s__law_sign) (defBody s__law_sign) (defScope s__law_sign) [] [] (He.ga K "_law_sign") fd__law_sign
  b__law_sign : Binds K fd__law_sign ["_law_reel_here"] []
  g__law_text : mg "_law_text" = some (.ref (He.ga K "_law_text"))
  fd__law_text : FuncData
  F__law_text : FunD K "_law_text" "_law_text" (defArgs s__law_text) (defBody s__law_text) (defScope s__law_text) [] [] (He.ga K "_law_text") fd__law_text
  b__law_text : Binds K fd__law_text ["_law_reel_here", "_law_many", "_law_longest"] []
  g__law_dressed : mg "_law_dressed" = some (.ref (He.ga K "_law_dressed"))
  fd__law_dressed : FuncData
  F__law_dressed : FunD K "_law_dressed" "_law_dressed" (defArgs s__law_dressed) (defBody s__law_dressed) (defScope s__law_dressed) [] [] (He.ga K "_law_dressed") fd__law_dressed
  b__law_dressed : Binds K fd__law_dressed ["_law_reel_here", "_law_value"] []
  g__law_notation : mg "_law_notation" = some (.ref (He.ga K "_law_notation"))
  fd__law_notation : FuncData
  F__law_notation : FunD K "_law_notation" "_law_notation" (defArgs s__law_notation) (defBody s__law_notation) (defScope s__law_notation) [] [] (He.ga K "_law_notation") fd__law_notation
  b__law_notation : Binds K fd__law_notation ["_law_runs"] []
  g_law : mg "law" = some (.ref (He.ga K "law"))
  fd_law : FuncData
  F_law : FunD K "law" "law" (defArgs s_law) (defBody s_law) (defScope s_law) [] [] (He.ga K "law") fd_law
  b_law : Binds K fd_law ["_law_script"] []
  g_Part : mg "Part" = some (.ref (He.ga K "Part"))
  k_Part : Cls K (He.ga K "Part")
  na_Part_start : NoAttr K (He.ga K "Part") "start"
  na_Part_symbol : NoAttr K (He.ga K "Part") "symbol"
  na_Part_size : NoAttr K (He.ga K "Part") "size"
  na_Part_quoted : NoAttr K (He.ga K "Part") "quoted"
  na_Part_many : NoAttr K (He.ga K "Part") "many"
  mk_Part : Mk K (He.ga K "Part") (He.ma K (He.ga K "Part") "__init__")
  fd_Part___init__ : FuncData
  F_Part___init__ : FunD K "__init__" "Part.__init__" (defArgs s_Part___init__) (defBody s_Part___init__) (defScope s_Part___init__) [] [] (He.ma K (He.ga K "Part") "__init__") fd_Part___init__
  b_Part___init__ : Binds K fd_Part___init__ ["self", "start", "symbol", "size", "quoted", "many"] []
  mt_Part_is_group : Meth K (He.ga K "Part") "is_group" (He.ma K (He.ga K "Part") "is_group")
  fd_Part_is_group : FuncData
  F_Part_is_group : FunD K "is_group" "Part.is_group" (defArgs s_Part_is_group) (defBody s_Part_is_group) (defScope s_Part_is_group) [] [] (He.ma K (He.ga K "Part") "is_group") fd_Part_is_group
  b_Part_is_group : Binds K fd_Part_is_group ["self"] []
def dd_is_integer : He.DefD := ⟨("is_integer", none), "is_integer", "is_integer", defArgs s_is_integer, defBody s_is_integer, defScope s_is_integer, [He.Dv.non], []⟩
def dd_is_symbol : He.DefD := ⟨("is_symbol", none), "is_symbol", "is_symbol", defArgs s_is_symbol, defBody s_is_symbol, defScope s_is_symbol, [], []⟩
def dd_is_run : He.DefD := ⟨("is_run", none), "is_run", "is_run", defArgs s_is_run, defBody s_is_run, defScope s_is_run, [], []⟩
def dd_is_text : He.DefD := ⟨("is_text", none), "is_text", "is_text", defArgs s_is_text, defBody s_is_text, defScope s_is_text, [], []⟩
def dd_checked_text : He.DefD := ⟨("checked_text", none), "checked_text", "checked_text", defArgs s_checked_text, defBody s_checked_text, defScope s_checked_text, [], []⟩
def dd_add_run : He.DefD := ⟨("add_run", none), "add_run", "add_run", defArgs s_add_run, defBody s_add_run, defScope s_add_run, [], []⟩
def dd_check_escapes : He.DefD := ⟨("check_escapes", none), "check_escapes", "check_escapes", defArgs s_check_escapes, defBody s_check_escapes, defScope s_check_escapes, [], []⟩
def dd_power_of_two : He.DefD := ⟨("power_of_two", none), "power_of_two", "power_of_two", defArgs s_power_of_two, defBody s_power_of_two, defScope s_power_of_two, [], []⟩
def dd_parts_of : He.DefD := ⟨("parts_of", none), "parts_of", "parts_of", defArgs s_parts_of, defBody s_parts_of, defScope s_parts_of, [], []⟩
def dd_add_group : He.DefD := ⟨("add_group", none), "add_group", "add_group", defArgs s_add_group, defBody s_add_group, defScope s_add_group, [], []⟩
def dd_escaped : He.DefD := ⟨("escaped", none), "escaped", "escaped", defArgs s_escaped, defBody s_escaped, defScope s_escaped, [], []⟩
def dd_escape : He.DefD := ⟨("escape", none), "escape", "escape", defArgs s_escape, defBody s_escape, defScope s_escape, [], []⟩
def dd_format_text : He.DefD := ⟨("format_text", none), "format_text", "format_text", defArgs s_format_text, defBody s_format_text, defScope s_format_text, [], []⟩
def dd_number_in : He.DefD := ⟨("number_in", none), "number_in", "number_in", defArgs s_number_in, defBody s_number_in, defScope s_number_in, [], []⟩
def dd_pair_in : He.DefD := ⟨("pair_in", none), "pair_in", "pair_in", defArgs s_pair_in, defBody s_pair_in, defScope s_pair_in, [], []⟩
def dd_symbol_of : He.DefD := ⟨("symbol_of", none), "symbol_of", "symbol_of", defArgs s_symbol_of, defBody s_symbol_of, defScope s_symbol_of, [], []⟩
def dd_run_in : He.DefD := ⟨("run_in", none), "run_in", "run_in", defArgs s_run_in, defBody s_run_in, defScope s_run_in, [], []⟩
def dd_words_of : He.DefD := ⟨("words_of", none), "words_of", "words_of", defArgs s_words_of, defBody s_words_of, defScope s_words_of, [], []⟩
def dd_parse_text : He.DefD := ⟨("parse_text", none), "parse_text", "parse_text", defArgs s_parse_text, defBody s_parse_text, defScope s_parse_text, [], []⟩
def dd__law_reel : He.DefD := ⟨("_law_reel", none), "_law_reel", "_law_reel", defArgs s__law_reel, defBody s__law_reel, defScope s__law_reel, [], []⟩
def dd__law_draw : He.DefD := ⟨("_law_draw", none), "_law_draw", "_law_draw", defArgs s__law_draw, defBody s__law_draw, defScope s__law_draw, [], []⟩
def dd__law_signs : He.DefD := ⟨("_law_signs", none), "_law_signs", "_law_signs", defArgs s__law_signs, defBody s__law_signs, defScope s__law_signs, [], []⟩
def dd__law_sign : He.DefD := ⟨("_law_sign", none), "_law_sign", "_law_sign", defArgs s__law_sign, defBody s__law_sign, defScope s__law_sign, [], []⟩
def dd__law_text : He.DefD := ⟨("_law_text", none), "_law_text", "_law_text", defArgs s__law_text, defBody s__law_text, defScope s__law_text, [], []⟩
def dd__law_dressed : He.DefD := ⟨("_law_dressed", none), "_law_dressed", "_law_dressed", defArgs s__law_dressed, defBody s__law_dressed, defScope s__law_dressed, [], []⟩
def dd__law_notation : He.DefD := ⟨("_law_notation", none), "_law_notation", "_law_notation", defArgs s__law_notation, defBody s__law_notation, defScope s__law_notation, [], []⟩
def dd_law : He.DefD := ⟨("law", none), "law", "law", defArgs s_law, defBody s_law, defScope s_law, [], []⟩
def dd_Part___init__ : He.DefD := ⟨("Part", some "__init__"), "__init__", "Part.__init__", defArgs s_Part___init__, defBody s_Part___init__, defScope s_Part___init__, [], []⟩
def dd_Part_is_group : He.DefD := ⟨("Part", some "is_group"), "is_group", "Part.is_group", defArgs s_Part_is_group, defBody s_Part_is_group, defScope s_Part_is_group, [], []⟩
def fa0 : List He.Fa := [.free "all", .free "any", .free "bool", .free "enumerate", .free "int", .free "isinstance", .free "len", .free "list", .free "min", .free "ord", .free "range", .free "repr", .free "str", .free "tuple", .str "BACKSLASH" "\\", .str "QUOTE" "\"", .int "PERCENT_CODE" 37, .int "MAX_ESCAPES" 200, .str "DIGITS" "0123456789", .int "FIRST_CODE" 32, .int "LAST_CODE" 126, .str "BEFORE_PERCENT" " !\"#$", .str "AFTER_PERCENT" "&'()*+,-./0123456789:;<=>?@ABCDEFGHIJKLMNOPQRSTUVWXYZ[\\]^_`abcdefghijklmnopqrstuvwxyz{|}~", .glo "is_integer", .glo "is_symbol", .glo "is_run", .glo "is_text", .glo "checked_text", .glo "add_run", .glo "check_escapes"]
def fa1 : List He.Fa := [.glo "power_of_two", .glo "parts_of", .glo "add_group", .glo "escaped", .glo "escape", .glo "format_text", .glo "number_in", .glo "pair_in", .glo "symbol_of", .glo "run_in", .glo "words_of", .glo "parse_text", .glo "_law_reel", .glo "_law_draw", .glo "_law_signs", .glo "_law_sign", .glo "_law_text", .glo "_law_dressed", .glo "_law_notation", .glo "law", .glo "Part", .cls "Part", .noat "Part" "start", .noat "Part" "symbol", .noat "Part" "size", .noat "Part" "quoted", .noat "Part" "many", .mkr "Part", .meth "Part" "is_group"]
def fa : List He.Fa := fa0 ++ fa1
def fn0 : List He.DefD := [dd_is_integer, dd_is_symbol, dd_is_run, dd_is_text, dd_checked_text, dd_add_run, dd_check_escapes, dd_power_of_two, dd_parts_of, dd_add_group, dd_escaped, dd_escape, dd_format_text, dd_number_in, dd_pair_in, dd_symbol_of, dd_run_in, dd_words_of, dd_parse_text, dd__law_reel, dd__law_draw, dd__law_signs, dd__law_sign, dd__law_text, dd__law_dressed, dd__law_notation, dd_law, dd_Part___init__, dd_Part_is_group]
def fn : List He.DefD := fn0
theorem mkTx {K : PySem.W.Frag} {h : Heap} {mg : Str → Option Value} (X : K.In h) (G : h.Ns mainGlobals mg) (c : He.SaysD fa fn K) : Nonempty (Tx K mg) := by
  obtain ⟨fd_is_integer, F_is_integer⟩ := c.def_ 0 (d := dd_is_integer) rfl
  obtain ⟨ds_is_integer_all, vd_is_integer_all, b_is_integer_all⟩ := F_is_integer.binds1 (ps := ["value", "low", "high"]) 3 1 (by intro z; cases z) rfl fun T kV doc pm an cdv ct us its h1 h2 => match us, its, h1, h2 with | [_, _, _], [_], _, _ => ⟨_, rfl, rfl⟩
  obtain ⟨ds_is_integer_2, vd_is_integer_2, b_is_integer_2⟩ := F_is_integer.binds1 (ps := ["value", "low", "high"]) 2 0 (by intro z; cases z) rfl fun T kV doc pm an cdv ct us its h1 h2 => match us, its, h1, h2 with | [_, _], [_], _, _ => ⟨_, rfl, rfl⟩
  obtain ⟨fd_is_symbol, F_is_symbol⟩ := c.def_ 1 (d := dd_is_symbol) rfl
  have b_is_symbol : Binds K fd_is_symbol ["value"] [] := F_is_symbol.bindsN (ps := ["value"]) fun _ _ _ _ _ _ us hl => match us, hl with | [_], _ => rfl
  obtain ⟨fd_is_run, F_is_run⟩ := c.def_ 2 (d := dd_is_run) rfl
  have b_is_run : Binds K fd_is_run ["value"] [] := F_is_run.bindsN (ps := ["value"]) fun _ _ _ _ _ _ us hl => match us, hl with | [_], _ => rfl
  obtain ⟨fd_is_text, F_is_text⟩ := c.def_ 3 (d := dd_is_text) rfl
  have b_is_text : Binds K fd_is_text ["value"] [] := F_is_text.bindsN (ps := ["value"]) fun _ _ _ _ _ _ us hl => match us, hl with | [_], _ => rfl
  obtain ⟨fd_checked_text, F_checked_text⟩ := c.def_ 4 (d := dd_checked_text) rfl
  have b_checked_text : Binds K fd_checked_text ["text"] [] := F_checked_text.bindsN (ps := ["text"]) fun _ _ _ _ _ _ us hl => match us, hl with | [_], _ => rfl
  obtain ⟨fd_add_run, F_add_run⟩ := c.def_ 5 (d := dd_add_run) rfl
  have b_add_run : Binds K fd_add_run ["runs", "symbol", "count"] [] := F_add_run.bindsN (ps := ["runs", "symbol", "count"]) fun _ _ _ _ _ _ us hl => match us, hl with | [_, _, _], _ => rfl
  obtain ⟨fd_check_escapes, F_check_escapes⟩ := c.def_ 6 (d := dd_check_escapes) rfl
  have b_check_escapes : Binds K fd_check_escapes ["number"] [] := F_check_escapes.bindsN (ps := ["number"]) fun _ _ _ _ _ _ us hl => match us, hl with | [_], _ => rfl
  obtain ⟨fd_power_of_two, F_power_of_two⟩ := c.def_ 7 (d := dd_power_of_two) rfl
  have b_power_of_two : Binds K fd_power_of_two ["exponent"] [] := F_power_of_two.bindsN (ps := ["exponent"]) fun _ _ _ _ _ _ us hl => match us, hl with | [_], _ => rfl
  obtain ⟨fd_parts_of, F_parts_of⟩ := c.def_ 8 (d := dd_parts_of) rfl
  have b_parts_of : Binds K fd_parts_of ["runs"] [] := F_parts_of.bindsN (ps := ["runs"]) fun _ _ _ _ _ _ us hl => match us, hl with | [_], _ => rfl
  obtain ⟨fd_add_group, F_add_group⟩ := c.def_ 9 (d := dd_add_group) rfl
  have b_add_group : Binds K fd_add_group ["runs", "size", "quoted"] [] := F_add_group.bindsN (ps := ["runs", "size", "quoted"]) fun _ _ _ _ _ _ us hl => match us, hl with | [_, _, _], _ => rfl
  obtain ⟨fd_escaped, F_escaped⟩ := c.def_ 10 (d := dd_escaped) rfl
  have b_escaped : Binds K fd_escaped ["runs", "times"] [] := F_escaped.bindsN (ps := ["runs", "times"]) fun _ _ _ _ _ _ us hl => match us, hl with | [_, _], _ => rfl
  obtain ⟨fd_escape, F_escape⟩ := c.def_ 11 (d := dd_escape) rfl
  have b_escape : Binds K fd_escape ["text", "times"] [] := F_escape.bindsN (ps := ["text", "times"]) fun _ _ _ _ _ _ us hl => match us, hl with | [_, _], _ => rfl
  obtain ⟨fd_format_text, F_format_text⟩ := c.def_ 12 (d := dd_format_text) rfl
  have b_format_text : Binds K fd_format_text ["text"] [] := F_format_text.bindsN (ps := ["text"]) fun _ _ _ _ _ _ us hl => match us, hl with | [_], _ => rfl
  obtain ⟨fd_number_in, F_number_in⟩ := c.def_ 13 (d := dd_number_in) rfl
  have b_number_in : Binds K fd_number_in ["word"] [] := F_number_in.bindsN (ps := ["word"]) fun _ _ _ _ _ _ us hl => match us, hl with | [_], _ => rfl
  obtain ⟨fd_pair_in, F_pair_in⟩ := c.def_ 14 (d := dd_pair_in) rfl
  have b_pair_in : Binds K fd_pair_in ["word", "mark"] [] := F_pair_in.bindsN (ps := ["word", "mark"]) fun _ _ _ _ _ _ us hl => match us, hl with | [_, _], _ => rfl
  obtain ⟨fd_symbol_of, F_symbol_of⟩ := c.def_ 15 (d := dd_symbol_of) rfl
  have b_symbol_of : Binds K fd_symbol_of ["code"] [] := F_symbol_of.bindsN (ps := ["code"]) fun _ _ _ _ _ _ us hl => match us, hl with | [_], _ => rfl
  obtain ⟨fd_run_in, F_run_in⟩ := c.def_ 16 (d := dd_run_in) rfl
  have b_run_in : Binds K fd_run_in ["word"] [] := F_run_in.bindsN (ps := ["word"]) fun _ _ _ _ _ _ us hl => match us, hl with | [_], _ => rfl
  obtain ⟨fd_words_of, F_words_of⟩ := c.def_ 17 (d := dd_words_of) rfl
  have b_words_of : Binds K fd_words_of ["string"] [] := F_words_of.bindsN (ps := ["string"]) fun _ _ _ _ _ _ us hl => match us, hl with | [_], _ => rfl
  obtain ⟨fd_parse_text, F_parse_text⟩ := c.def_ 18 (d := dd_parse_text) rfl
  have b_parse_text : Binds K fd_parse_text ["string"] [] := F_parse_text.bindsN (ps := ["string"]) fun _ _ _ _ _ _ us hl => match us, hl with | [_], _ => rfl
  obtain ⟨fd__law_reel, F__law_reel⟩ := c.def_ 19 (d := dd__law_reel) rfl
  have b__law_reel : Binds K fd__law_reel ["_law_script"] [] := F__law_reel.bindsN (ps := ["_law_script"]) fun _ _ _ _ _ _ us hl => match us, hl with | [_], _ => rfl
  obtain ⟨fd__law_draw, F__law_draw⟩ := c.def_ 20 (d := dd__law_draw) rfl
  have b__law_draw : Binds K fd__law_draw ["_law_reel_here", "_law_many"] [] := F__law_draw.bindsN (ps := ["_law_reel_here", "_law_many"]) fun _ _ _ _ _ _ us hl => match us, hl with | [_, _], _ => rfl
  obtain ⟨fd__law_signs, F__law_signs⟩ := c.def_ 21 (d := dd__law_signs) rfl
  have b__law_signs : Binds K fd__law_signs [] [] := F__law_signs.bindsN (ps := []) fun _ _ _ _ _ _ us hl => match us, hl with | [], _ => rfl
  obtain ⟨fd__law_sign, F__law_sign⟩ := c.def_ 22 (d := dd__law_sign) rfl
  have b__law_sign : Binds K fd__law_sign ["_law_reel_here"] [] := F__law_sign.bindsN (ps := ["_law_reel_here"]) fun _ _ _ _ _ _ us hl => match us, hl with | [_], _ => rfl
  obtain ⟨fd__law_text, F__law_text⟩ := c.def_ 23 (d := dd__law_text) rfl
  have b__law_text : Binds K fd__law_text ["_law_reel_here", "_law_many", "_law_longest"] [] := F__law_text.bindsN (ps := ["_law_reel_here", "_law_many", "_law_longest"]) fun _ _ _ _ _ _ us hl => match us, hl with | [_, _, _], _ => rfl
  obtain ⟨fd__law_dressed, F__law_dressed⟩ := c.def_ 24 (d := dd__law_dressed) rfl
  have b__law_dressed : Binds K fd__law_dressed ["_law_reel_here", "_law_value"] [] := F__law_dressed.bindsN (ps := ["_law_reel_here", "_law_value"]) fun _ _ _ _ _ _ us hl => match us, hl with | [_, _], _ => rfl
  obtain ⟨fd__law_notation, F__law_notation⟩ := c.def_ 25 (d := dd__law_notation) rfl
  have b__law_notation : Binds K fd__law_notation ["_law_runs"] [] := F__law_notation.bindsN (ps := ["_law_runs"]) fun _ _ _ _ _ _ us hl => match us, hl with | [_], _ => rfl
  obtain ⟨fd_law, F_law⟩ := c.def_ 26 (d := dd_law) rfl
  have b_law : Binds K fd_law ["_law_script"] [] := F_law.bindsN (ps := ["_law_script"]) fun _ _ _ _ _ _ us hl => match us, hl with | [_], _ => rfl
  obtain ⟨fd_Part___init__, F_Part___init__⟩ := c.def_ 27 (d := dd_Part___init__) rfl
  have b_Part___init__ : Binds K fd_Part___init__ ["self", "start", "symbol", "size", "quoted", "many"] [] := F_Part___init__.bindsN (ps := ["self", "start", "symbol", "size", "quoted", "many"]) fun _ _ _ _ _ _ us hl => match us, hl with | [_, _, _, _, _, _], _ => rfl
  obtain ⟨fd_Part_is_group, F_Part_is_group⟩ := c.def_ 28 (d := dd_Part_is_group) rfl
  have b_Part_is_group : Binds K fd_Part_is_group ["self"] [] := F_Part_is_group.bindsN (ps := ["self"]) fun _ _ _ _ _ _ us hl => match us, hl with | [_], _ => rfl
  exact ⟨{ m_all := He.free_ok X G (c.fact 0 (f := .free "all") rfl), m_any := He.free_ok X G (c.fact 1 (f := .free "any") rfl), m_bool := He.free_ok X G (c.fact 2 (f := .free "bool") rfl), m_enumerate := He.free_ok X G (c.fact 3 (f := .free "enumerate") rfl), m_int := He.free_ok X G (c.fact 4 (f := .free "int") rfl), m_isinstance := He.free_ok X G (c.fact 5 (f := .free "isinstance") rfl), m_len := He.free_ok X G (c.fact 6 (f := .free "len") rfl), m_list := He.free_ok X G (c.fact 7 (f := .free "list") rfl), m_min := He.free_ok X G (c.fact 8 (f := .free "min") rfl), m_ord := He.free_ok X G (c.fact 9 (f := .free "ord") rfl), m_range := He.free_ok X G (c.fact 10 (f := .free "range") rfl), m_repr := He.free_ok X G (c.fact 11 (f := .free "repr") rfl), m_str := He.free_ok X G (c.fact 12 (f := .free "str") rfl), m_tuple := He.free_ok X G (c.fact 13 (f := .free "tuple") rfl), c_BACKSLASH := He.str_ok X G (c.fact 14 (f := .str "BACKSLASH" "\\") rfl), c_QUOTE := He.str_ok X G (c.fact 15 (f := .str "QUOTE" "\"") rfl), c_PERCENT_CODE := He.int_ok X G (c.fact 16 (f := .int "PERCENT_CODE" 37) rfl), c_MAX_ESCAPES := He.int_ok X G (c.fact 17 (f := .int "MAX_ESCAPES" 200) rfl), c_DIGITS := He.str_ok X G (c.fact 18 (f := .str "DIGITS" "0123456789") rfl), c_FIRST_CODE := He.int_ok X G (c.fact 19 (f := .int "FIRST_CODE" 32) rfl), c_LAST_CODE := He.int_ok X G (c.fact 20 (f := .int "LAST_CODE" 126) rfl), c_BEFORE_PERCENT := He.str_ok X G (c.fact 21 (f := .str "BEFORE_PERCENT" " !\"#$") rfl), c_AFTER_PERCENT := He.str_ok X G (c.fact 22 (f := .str "AFTER_PERCENT" "&'()*+,-./0123456789:;<=>?@ABCDEFGHIJKLMNOPQRSTUVWXYZ[\\]^_`abcdefghijklmnopqrstuvwxyz{|}~") rfl), g_is_integer := He.glo_ok X G (c.fact 23 (f := .glo "is_integer") rfl), fd_is_integer := fd_is_integer, F_is_integer := F_is_integer, b_is_integer := (by cases vd_is_integer_all; exact b_is_integer_all), ds_is_integer_2 := ds_is_integer_2, bd_is_integer_2 := ⟨vd_is_integer_2, b_is_integer_2⟩, g_is_symbol := He.glo_ok X G (c.fact 24 (f := .glo "is_symbol") rfl), fd_is_symbol := fd_is_symbol, F_is_symbol := F_is_symbol, b_is_symbol := b_is_symbol, g_is_run := He.glo_ok X G (c.fact 25 (f := .glo "is_run") rfl), fd_is_run := fd_is_run, F_is_run := F_is_run, b_is_run := b_is_run, g_is_text := He.glo_ok X G (c.fact 26 (f := .glo "is_text") rfl), fd_is_text := fd_is_text, F_is_text := F_is_text, b_is_text := b_is_text, g_checked_text := He.glo_ok X G (c.fact 27 (f := .glo "checked_text") rfl), fd_checked_text := fd_checked_text, F_checked_text := F_checked_text, b_checked_text := b_checked_text, g_add_run := He.glo_ok X G (c.fact 28 (f := .glo "add_run") rfl), fd_add_run := fd_add_run, F_add_run := F_add_run, b_add_run := b_add_run, g_check_escapes := He.glo_ok X G (c.fact 29 (f := .glo "check_escapes") rfl), fd_check_escapes := fd_check_escapes, F_check_escapes := F_check_escapes, b_check_escapes := b_check_escapes, g_power_of_two := He.glo_ok X G (c.fact 30 (f := .glo "power_of_two") rfl), fd_power_of_two := fd_power_of_two, F_power_of_two := F_power_of_two, b_power_of_two := b_power_of_two, g_parts_of := He.glo_ok X G (c.fact 31 (f := .glo "parts_of") rfl), fd_parts_of := fd_parts_of, F_parts_of := F_parts_of, b_parts_of := b_parts_of, g_add_group := He.glo_ok X G (c.fact 32 (f := .glo "add_group") rfl), fd_add_group := fd_add_group, F_add_group := F_add_group, b_add_group := b_add_group, g_escaped := He.glo_ok X G (c.fact 33 (f := .glo "escaped") rfl), fd_escaped := fd_escaped, F_escaped := F_escaped, b_escaped := b_escaped, g_escape := He.glo_ok X G (c.fact 34 (f := .glo "escape") rfl), fd_escape := fd_escape, F_escape := F_escape, b_escape := b_escape, g_format_text := He.glo_ok X G (c.fact 35 (f := .glo "format_text") rfl), fd_format_text := fd_format_text, F_format_text := F_format_text, b_format_text := b_format_text, g_number_in := He.glo_ok X G (c.fact 36 (f := .glo "number_in") rfl), fd_number_in := fd_number_in, F_number_in := F_number_in, b_number_in := b_number_in, g_pair_in := He.glo_ok X G (c.fact 37 (f := .glo "pair_in") rfl), fd_pair_in := fd_pair_in, F_pair_in := F_pair_in, b_pair_in := b_pair_in, g_symbol_of := He.glo_ok X G (c.fact 38 (f := .glo "symbol_of") rfl), fd_symbol_of := fd_symbol_of, F_symbol_of := F_symbol_of, b_symbol_of := b_symbol_of, g_run_in := He.glo_ok X G (c.fact 39 (f := .glo "run_in") rfl), fd_run_in := fd_run_in, F_run_in := F_run_in, b_run_in := b_run_in, g_words_of := He.glo_ok X G (c.fact 40 (f := .glo "words_of") rfl), fd_words_of := fd_words_of, F_words_of := F_words_of, b_words_of := b_words_of, g_parse_text := He.glo_ok X G (c.fact 41 (f := .glo "parse_text") rfl), fd_parse_text := fd_parse_text, F_parse_text := F_parse_text, b_parse_text := b_parse_text, g__law_reel := He.glo_ok X G (c.fact 42 (f := .glo "_law_reel") rfl), fd__law_reel := fd__law_reel, F__law_reel := F__law_reel, b__law_reel := b__law_reel, g__law_draw := He.glo_ok X G (c.fact 43 (f := .glo "_law_draw") rfl), fd__law_draw := fd__law_draw, F__law_draw := F__law_draw, b__law_draw := b__law_draw, g__law_signs := He.glo_ok X G (c.fact 44 (f := .glo "_law_signs") rfl), fd__law_signs := fd__law_signs, F__law_signs := F__law_signs, b__law_signs := b__law_signs, g__law_sign := He.glo_ok X G (c.fact 45 (f := .glo "_law_sign") rfl), fd__law_sign := fd__law_sign, F__law_sign := F__law_sign, b__law_sign := b__law_sign, g__law_text := He.glo_ok X G (c.fact 46 (f := .glo "_law_text") rfl), fd__law_text := fd__law_text, F__law_text := F__law_text, b__law_text := b__law_text, g__law_dressed := He.glo_ok X G (c.fact 47 (f := .glo "_law_dressed") rfl), fd__law_dressed := fd__law_dressed, F__law_dressed := F__law_dressed, b__law_dressed := b__law_dressed, g__law_notation := He.glo_ok X G (c.fact 48 (f := .glo "_law_notation") rfl), fd__law_notation := fd__law_notation, F__law_notation := F__law_notation, b__law_notation := b__law_notation, g_law := He.glo_ok X G (c.fact 49 (f := .glo "law") rfl), fd_law := fd_law, F_law := F_law, b_law := b_law, g_Part := He.glo_ok X G (c.fact 50 (f := .glo "Part") rfl), k_Part := He.cls_ok (c.fact 51 (f := .cls "Part") rfl), na_Part_start := He.noat_ok (c.fact 52 (f := .noat "Part" "start") rfl), na_Part_symbol := He.noat_ok (c.fact 53 (f := .noat "Part" "symbol") rfl), na_Part_size := He.noat_ok (c.fact 54 (f := .noat "Part" "size") rfl), na_Part_quoted := He.noat_ok (c.fact 55 (f := .noat "Part" "quoted") rfl), na_Part_many := He.noat_ok (c.fact 56 (f := .noat "Part" "many") rfl), mk_Part := He.mkr_ok (c.fact 57 (f := .mkr "Part") rfl), fd_Part___init__ := fd_Part___init__, F_Part___init__ := F_Part___init__, b_Part___init__ := b_Part___init__, fd_Part_is_group := fd_Part_is_group, F_Part_is_group := F_Part_is_group, b_Part_is_group := b_Part_is_group, mt_Part_is_group := He.meth_ok (c.fact 58 (f := .meth "Part" "is_group") rfl) }⟩
end K54
namespace K54
open PySem L2 DL
local macro_rules
  | `(tactic| k_fill) => `(tactic| simp only [DL.wSeq, DL.wIfS, DL.wRet, DL.wRetO, DL.wRetN, DL.wSet, DL.wSetO, DL.wAsg, DL.wDrop, DL.wIf, DL.wIfO, DL.wVar, DL.wVarO, DL.wC, DL.wSh, DL.wOp, DL.wOpO, DL.wUn, DL.wTest, DL.wAnd, DL.wOr, DL.wNot, DL.wAndV, DL.wOrV, DL.wNotV, DL.waNil, DL.waCons, DL.waOwn', DL.wTup, DL.wLst, DL.allD, DL.wCall, DL.wCallO, DL.wCB, DL.wCBO, DL.wCBo, DL.wIsi, DL.wChain, DL.wAppend, DL.wPut, DL.wAug, DL.wsNil, DL.wBreak, DL.wCont, DL.wNever, DL.wIxO, DL.wOpL, DL.wSlL, DL.wSlS, DL.wSlT, DL.wpN, DL.wpS, DL.wTupOf, DL.wgName, DL.wgTup, DL.wgNil, DL.wgCons, DL.wiA, DL.wiL, DL.wiT, DL.wiS, DL.wiR1, DL.wiR2, DL.wiZip, DL.wiEnum, DL.ownL, DL.isOwn, DL.nth, DL.put, DL.q_isIo, DL.q_ioNo, DL.q_ioD, DL.q_ioF, DL.q_ioT, DL.q_ioSo, DL.wYes, DL.agD, DL.ownR, DL.updAm, DL.toAg, DL.amsOk, DL.ownB, DL.wipeS, DL.ioFree, DL.oIsN, DL.oIsNot, DL.isNonD, DL.tyD, DL.endsD, DL.initS, DL.agS, DL.outs, List.map_cons, List.map_nil, List.cons_append, List.nil_append, List.append_nil, List.length_cons, List.length_nil, List.replicate, DL.ib_n_i, DL.ib_b_i, DL.ib_i_i, DL.ib_s_i, DL.ib_l_i, DL.ib_t_i, DL.ib_n_b, DL.ib_b_b, DL.ib_i_b, DL.ib_s_b, DL.ib_l_b, DL.ib_t_b, DL.ib_n_s, DL.ib_b_s, DL.ib_i_s, DL.ib_s_s, DL.ib_l_s, DL.ib_t_s, DL.ib_n_lt, DL.ib_b_lt, DL.ib_i_lt, DL.ib_s_lt, DL.ib_l_lt, DL.ib_t_lt, Bool.not_true, Bool.not_false, Bool.false_eq_true, if_true, if_false, reduceIte, true_and, and_true, List.contains_nil, Bool.and_self, Bool.true_and, Bool.and_true, List.all_cons, List.all_nil, Nat.reduceAdd, Nat.reduceSub, Nat.zero_add, DL.q_oAdd, DL.q_oSub, DL.q_oMul, DL.q_oFdiv, DL.q_oMod, DL.q_oPow, DL.q_oShr, DL.q_oLt, DL.q_oLe, DL.q_oGt, DL.q_oGe, DL.q_oNeg, DL.q_oAddS, DL.q_oLeS, DL.q_oLtS, DL.q_oCat, DL.q_oRepL, DL.q_oIx_lst, DL.q_oIx_rd, DL.q_oIx_tup, DL.q_bLen_lst, DL.q_bLen_rd, DL.q_bLen_tup, DL.q_bLen_str, DL.q_bMax2, DL.q_bMin2, DL.q_bInt, DL.q_bIntB, DL.q_bOrd, DL.q_bAbs, DL.q_bStrI, DL.q_bList_lst, DL.q_bList_rd, DL.q_bList_tup, DL.q_asB, DL.q_asA_lst, DL.q_asA_rd, DL.q_asA_tup, DL.q_asL_lst, DL.q_asL_rd, DL.q_asT, DL.q_asS, DL.q_oEq_ii, DL.q_oNe_ii, DL.q_oEq_is, DL.q_oNe_is, DL.q_oEq_in, DL.q_oNe_in, DL.q_oEq_si, DL.q_oNe_si, DL.q_oEq_ss, DL.q_oNe_ss, DL.q_oEq_sb, DL.q_oNe_sb, DL.q_oEq_sn, DL.q_oNe_sn, DL.q_oEq_bs, DL.q_oNe_bs, DL.q_oEq_bb, DL.q_oNe_bb, DL.q_oEq_bn, DL.q_oNe_bn, DL.q_oEq_ni, DL.q_oNe_ni, DL.q_oEq_ns, DL.q_oNe_ns, DL.q_oEq_nb, DL.q_oNe_nb, DL.q_oEq_nn, DL.q_oNe_nn, DL.q_pick0, DL.q_pick1, DL.q_pick2, DL.q_pick3, DL.q_pick4, DL.q_ix40, DL.q_ix41, DL.q_ix42, DL.q_ix43, List.set_cons_zero, List.set_cons_succ, Nat.zero_le, Nat.reduceLeDiff, DL.q_cp_2_64, DL.q_cp_2_63, DL.q_cp_2_41, DL.q_cp_10_18, DL.q_cp_17_29, DL.q_cp_10_60, DL.q_cp_10_17, DL.q_cp_10_19, DL.q_cp_10_79, DL.q_cm_2, DL.q_M, DL.q_posM, List.isEmpty_cons, List.isEmpty_nil, DL.wJoin, DL.joinD, DL.q_oRepS, DL.q_bListS, decide_true, decide_false, DL.wMake, DL.fldD, DL.wFld, DL.objIs, DL.waMeth, DL.wSplit, DL.wIndexS, DL.wAugC, DL.q_scI, DL.q_scS, DL.q_scB, DL.q_scN])
local macro_rules
  | `(tactic| w_left) => `(tactic| try simp only [DL.wIfS, DL.wRet, DL.wRetO, DL.wRetN, DL.wSet, DL.wSetO, DL.wAsg, DL.wDrop, DL.wIf, DL.wIfO, DL.wVar, DL.wVarO, DL.wC, DL.wSh, DL.wOp, DL.wOpO, DL.wUn, DL.wTest, DL.wAnd, DL.wOr, DL.wNot, DL.wAndV, DL.wOrV, DL.wNotV, DL.waNil, DL.waCons, DL.waOwn', DL.wTup, DL.wLst, DL.allD, DL.wCall, DL.wCallO, DL.wCB, DL.wCBO, DL.wCBo, DL.wIsi, DL.wChain, DL.wAppend, DL.wPut, DL.wAug, DL.wsNil, DL.wBreak, DL.wCont, DL.wNever, DL.wIxO, DL.wOpL, DL.wSlL, DL.wSlS, DL.wSlT, DL.wpN, DL.wpS, DL.wTupOf, DL.wgName, DL.wgTup, DL.wgNil, DL.wgCons, DL.wiA, DL.wiL, DL.wiT, DL.wiS, DL.wiR1, DL.wiR2, DL.wiZip, DL.wiEnum, DL.ownL, DL.isOwn, DL.nth, DL.put, DL.q_isIo, DL.q_ioNo, DL.q_ioD, DL.q_ioF, DL.q_ioT, DL.q_ioSo, DL.wYes, DL.agD, DL.ownR, DL.updAm, DL.toAg, DL.amsOk, DL.ownB, DL.wipeS, DL.ioFree, DL.oIsN, DL.oIsNot, DL.isNonD, DL.tyD, DL.endsD, DL.initS, DL.agS, DL.outs, List.map_cons, List.map_nil, List.cons_append, List.nil_append, List.append_nil, List.length_cons, List.length_nil, List.replicate, DL.ib_n_i, DL.ib_b_i, DL.ib_i_i, DL.ib_s_i, DL.ib_l_i, DL.ib_t_i, DL.ib_n_b, DL.ib_b_b, DL.ib_i_b, DL.ib_s_b, DL.ib_l_b, DL.ib_t_b, DL.ib_n_s, DL.ib_b_s, DL.ib_i_s, DL.ib_s_s, DL.ib_l_s, DL.ib_t_s, DL.ib_n_lt, DL.ib_b_lt, DL.ib_i_lt, DL.ib_s_lt, DL.ib_l_lt, DL.ib_t_lt, Bool.not_true, Bool.not_false, Bool.false_eq_true, if_true, if_false, reduceIte, true_and, and_true, List.contains_nil, Bool.and_self, Bool.true_and, Bool.and_true, List.all_cons, List.all_nil, Nat.reduceAdd, Nat.reduceSub, Nat.zero_add, DL.q_oAdd, DL.q_oSub, DL.q_oMul, DL.q_oFdiv, DL.q_oMod, DL.q_oPow, DL.q_oShr, DL.q_oLt, DL.q_oLe, DL.q_oGt, DL.q_oGe, DL.q_oNeg, DL.q_oAddS, DL.q_oLeS, DL.q_oLtS, DL.q_oCat, DL.q_oRepL, DL.q_oIx_lst, DL.q_oIx_rd, DL.q_oIx_tup, DL.q_bLen_lst, DL.q_bLen_rd, DL.q_bLen_tup, DL.q_bLen_str, DL.q_bMax2, DL.q_bMin2, DL.q_bInt, DL.q_bIntB, DL.q_bOrd, DL.q_bAbs, DL.q_bStrI, DL.q_bList_lst, DL.q_bList_rd, DL.q_bList_tup, DL.q_asB, DL.q_asA_lst, DL.q_asA_rd, DL.q_asA_tup, DL.q_asL_lst, DL.q_asL_rd, DL.q_asT, DL.q_asS, DL.q_oEq_ii, DL.q_oNe_ii, DL.q_oEq_is, DL.q_oNe_is, DL.q_oEq_in, DL.q_oNe_in, DL.q_oEq_si, DL.q_oNe_si, DL.q_oEq_ss, DL.q_oNe_ss, DL.q_oEq_sb, DL.q_oNe_sb, DL.q_oEq_sn, DL.q_oNe_sn, DL.q_oEq_bs, DL.q_oNe_bs, DL.q_oEq_bb, DL.q_oNe_bb, DL.q_oEq_bn, DL.q_oNe_bn, DL.q_oEq_ni, DL.q_oNe_ni, DL.q_oEq_ns, DL.q_oNe_ns, DL.q_oEq_nb, DL.q_oNe_nb, DL.q_oEq_nn, DL.q_oNe_nn, DL.q_pick0, DL.q_pick1, DL.q_pick2, DL.q_pick3, DL.q_pick4, DL.q_ix40, DL.q_ix41, DL.q_ix42, DL.q_ix43, List.set_cons_zero, List.set_cons_succ, Nat.zero_le, Nat.reduceLeDiff, DL.q_cp_2_64, DL.q_cp_2_63, DL.q_cp_2_41, DL.q_cp_10_18, DL.q_cp_17_29, DL.q_cp_10_60, DL.q_cp_10_17, DL.q_cp_10_19, DL.q_cp_10_79, DL.q_cm_2, DL.q_M, DL.q_posM, List.isEmpty_cons, List.isEmpty_nil, DL.wJoin, DL.joinD, DL.q_oRepS, DL.q_bListS, decide_true, decide_false, DL.wMake, DL.fldD, DL.wFld, DL.objIs, DL.waMeth, DL.wSplit, DL.wIndexS, DL.wAugC, DL.q_scI, DL.q_scS, DL.q_scB, DL.q_scN])
local macro_rules
  | `(tactic| w_fin) => `(tactic| (with_reducible refine DL.seq_ ?_; w_left))
section
variable {P : Program} {w : World} {K : PySem.W.Frag} {mg : Str → Option Value} {base : Heap}
theorem ok_is_integer (T : Tx K mg) : FnOk P w K mg base CX0 1 (He.ga K "is_integer") T.fd_is_integer ["value", "low", "high"] (spD K F_is_integer) := by
  refine fnD T.F_is_integer sc_is_integer ?_ (by decide) (fun cdv A outer s H E hr => (sd_cons (sd_if (PQW.q (pqw_or (pq_not (pq_val (px_isi (cn := "int") T.m_isinstance (px_var 0) T.m_int (by decide +kernel)))) (pqw_or1 (pq_val (px_isi (cn := "bool") T.m_isinstance (px_var 0) T.m_bool (by decide +kernel))))))
      (sd_one (sd_ret px_bl))
      sd_nil)
    (sd_one (sd_ret (px_and (px_le (px_var 1) (px_var 0)) (px_one (px_or (px_isN (px_var 2) px_non) (px_one (px_le (px_var 0) (px_var 2)))))))))) ?_
  · rintro ags Q ⟨v, lo, hi, rfl, _⟩; rfl
  · rintro ags Q ⟨v, lo, hi, rfl, hv, hp⟩
    cases v with
    | int i =>
      k_fill
      by_cases h : lo ≤ i
      · cases hi with
        | none => simpa only [isIntD, leO, hiD, h, decide_true, Bool.and_true, reduceIte] using hp
        | some m =>
          simp only [hiD]
          k_fill
          simpa only [isIntD, leO, hiD, h, decide_true, Bool.true_and, Bool.false_eq_true, reduceIte] using hp
      · simpa only [isIntD, h, decide_false, Bool.false_and, Bool.false_eq_true, reduceIte] using hp
    | obj _ _ _ => cases hv
    | adr _ => cases hv
    | _ => k_fill; exact hp
theorem ok_is_symbol (T : Tx K mg) : FnOk P w K mg base CX0 1 (He.ga K "is_symbol") T.fd_is_symbol ["value"] (spD K F_is_symbol) := by
  refine fnD T.F_is_symbol sc_is_symbol ?_ (by decide) (fun cdv A outer s H E hr => (sd_one (sd_ret (px_and (px_isi (cn := "str") T.m_isinstance (px_var 0) T.m_str (by decide +kernel)) (px_and (px_eq (px_len T.m_len (pa_c (px_var 0) pa_n)) px_int) (px_and (px_chain op_le_str op_le_str rv_leS rv_leS px_str (px_var 0) px_str) (px_one (px_ne (px_cb (call_ord) rc_ord T.m_ord (by decide +kernel) (pa_c (px_var 0) pa_n)) (px_globI (Classical.choose_spec T.c_PERCENT_CODE)))))))))) ?_
  · rintro ags Q ⟨v, rfl, _⟩; rfl
  · rintro ags Q ⟨v, rfl, hv, hp⟩
    cases v with
    | str x =>
      k_fill
      refine ⟨hv, ?_⟩
      by_cases h1 : x.length = 1
      · obtain ⟨c, rfl⟩ : ∃ c, x = ⟨#[c]⟩ := by
          cases x with
          | mk a =>
            have h1 : a.size = 1 := h1
            obtain ⟨c, rfl⟩ := Array.size_eq_one_iff.mp h1
            exact ⟨c, rfl⟩
        have e : (⟨#[c]⟩ : Str).cps.toList = [c] := rfl
        have l1 : (⟨#[c]⟩ : Str).length = 1 := rfl
        have g : ((⟨#[c]⟩ : Str).cps.getD 0 0) = c := rfl
        rw [sp32, sp126, e, lt1, lt1, l1, g]
        have hp : Q (.d (.bl (symC c))) _ := hp
        unfold symC at hp
        by_cases a1 : 32 ≤ c
        · by_cases a2 : c ≤ 126
          · have b1 : ¬ c < 32 := by omega
            have b2 : ¬ 126 < c := by omega
            have b3 : decide ((c : Int) = 37) = decide (c = 37) := decide_eq_decide.mpr (by omega)
            simp only [b1, b2, b3, decide_false, Bool.not_false, if_true, Int.natCast_one, decide_true, true_and]
            simpa only [a1, a2, decide_true, Bool.true_and, ne_eq, decide_not] using hp
          · have b1 : ¬ c < 32 := by omega
            have b2 : 126 < c := by omega
            simp only [b1, b2, decide_false, decide_true, Bool.not_false, Bool.not_true, Bool.false_eq_true, if_true, if_false, Int.natCast_one]
            simpa only [a1, a2, decide_true, decide_false, Bool.and_false, Bool.false_and] using hp
        · have b1 : c < 32 := by omega
          simp only [b1, decide_true, Bool.not_true, Bool.false_eq_true, if_true, if_false, Int.natCast_one]
          simpa only [a1, decide_false, Bool.false_and] using hp
      · have h2 : ¬ ((x.length : Int) = 1) := by omega
        have e : symD (.str x) = false := by
          cases h : symD (.str x) with
          | false => rfl
          | true => exact absurd (symS_len h) h1
        rw [e] at hp
        simp only [h2, decide_false, Bool.false_eq_true, if_false]
        exact hp
    | obj _ _ _ => cases hv
    | adr _ => cases hv
    | _ => k_fill; exact hp
theorem ok_is_run (T : Tx K mg) : FnOk P w K mg base CX0 2 (He.ga K "is_run") T.fd_is_run ["value"] (spD K F_is_run) := by
  refine fnD T.F_is_run sc_is_run ?_ (by decide) (fun cdv A outer s H E hr => (sd_cons (sd_if (PQW.q (pqw_or (pq_not (pq_val (px_isi2 (cn := "list") (dn := "tuple") T.m_isinstance (px_var 0) T.m_list (by decide +kernel) T.m_tuple (by decide +kernel)))) (pqw_or1 (pq_ne (px_len T.m_len (pa_c (px_var 0) pa_n)) px_int))))
      (sd_one (sd_ret px_bl))
      sd_nil)
    (sd_one (sd_ret (px_and (px_call (dvs := []) (dv := []) (ok_is_symbol T) (hr.mono (by first | decide | omega)) T.g_is_symbol T.F_is_symbol.kp T.b_is_symbol .nil (fun _ => rfl) (pa_c (px_ix (px_var 0) px_int) pa_n)) (px_one (px_call (dvs := [V.non]) (dv := [D.non]) (ok_is_integer T) (hr.mono (by first | decide | omega)) T.g_is_integer T.F_is_integer.kp T.bd_is_integer_2.2 T.bd_is_integer_2.1 (fun _ => ⟨V.non, [], rfl, rfl, rfl⟩) (pa_c (px_ix (px_var 0) px_int) (pa_c px_int pa_n))))))))) ?_
  · rintro ags Q ⟨v, rfl, _⟩; rfl
  · rintro ags Q ⟨v, rfl, hv, hp⟩
    cases v with
    | obj _ _ _ => cases hv.1
    | adr _ => cases hv.1
    | rd _ => cases hv.1
    | lst xs =>
      k_fill
      match xs, hv, hp with
      | [], hv, hp => exact hp
      | [_], hv, hp => exact hp
      | [a, b], hv, hp =>
        rw [if_neg (by simp)]
        refine ⟨a, rfl, hv.2.2 a (by simp), ?_⟩
        have hp : Q (.d (.bl (symD a && isIntD b 1 none))) _ := hp
        k_fill
        cases h : symD a with
        | false => rw [h] at hp; exact hp
        | true =>
          rw [h] at hp
          exact ⟨b, 1, none, rfl, okV_ty (hv.2.2 b (by simp)), hp⟩
      | a :: b :: c :: r, hv, hp =>
        rw [if_pos (by simp; omega)]
        exact hp
    | tup xs =>
      k_fill
      match xs, hv, hp with
      | [], hv, hp => exact hp
      | [_], hv, hp => exact hp
      | [a, b], hv, hp =>
        rw [if_neg (by simp)]
        refine ⟨a, rfl, hv.2.2 a (by simp), ?_⟩
        have hp : Q (.d (.bl (symD a && isIntD b 1 none))) _ := hp
        k_fill
        cases h : symD a with
        | false => rw [h] at hp; exact hp
        | true =>
          rw [h] at hp
          exact ⟨b, 1, none, rfl, okV_ty (hv.2.2 b (by simp)), hp⟩
      | a :: b :: c :: r, hv, hp =>
        rw [if_pos (by simp; omega)]
        exact hp
    | _ => k_fill; exact hp
theorem ok_is_text (T : Tx K mg) : FnOk P w K mg base CX0 3 (He.ga K "is_text") T.fd_is_text ["value"] (spD K F_is_text_yes) := by
  refine fnD T.F_is_text sc_is_text ?_ (by decide) (fun cdv A outer s H E hr => (sd_cons (sd_if (PQW.q (pqw_or (pq_not (pq_val (px_isi2 (cn := "list") (dn := "tuple") T.m_isinstance (px_var 0) T.m_list (by decide +kernel) T.m_tuple (by decide +kernel)))) (pqw_or1 (pq_not (pq_val (px_cb (cr_all rfl) rc_all T.m_all (by decide +kernel) (pa_c (PO.x (po_lc (own := [("run", 1)]) rfl sc_is_text.nd (pi_a (px_var 0)) (show blkC ["value", "run", "place"] (defScope s_is_text) _ _ = true by decide +kernel) (fun _ _ _ _ _ => (pg_nm 1 sc_is_text.nd)) (fun _ _ _ _ _ => pq_nil) (fun _ _ _ _ _ => (px_call (dvs := []) (dv := []) (ok_is_run T) (hr.mono (by first | decide | omega)) T.g_is_run T.F_is_run.kp T.b_is_run .nil (fun _ => rfl) (pa_c (px_var 1) pa_n))))) pa_n)))))))
      (sd_one (sd_ret px_bl))
      sd_nil)
    (sd_one (sd_ret (px_cb (cr_all rfl) rc_all T.m_all (by decide +kernel) (pa_c (PO.x (po_lc (own := [("place", 2)]) rfl sc_is_text.nd (pi_r1 T.m_range (pa_c (px_sub (px_len T.m_len (pa_c (px_var 0) pa_n)) px_int) pa_n)) (show blkC ["value", "run", "place"] (defScope s_is_text) _ _ = true by decide +kernel) (fun _ _ _ _ _ => (pg_nm 2 sc_is_text.nd)) (fun _ _ _ _ _ => pq_nil) (fun _ _ _ _ _ => (px_ne (px_ix (px_ix (px_var 0) (px_var 2)) px_int) (px_ix (px_ix (px_var 0) (px_add (px_var 2) px_int)) px_int))))) pa_n)))))) ?_
  · rintro ags Q ⟨v, t, rfl, _⟩; rfl
  · rintro ags Q ⟨v, t, rfl, ht, hp⟩
    obtain ⟨vs, h1, h2, h3, h4⟩ := ht
    have hz : vs.length ≤ 16777216 := by rw [isRuns_len h2]; exact h4
    cases v
    case lst | tup =>
      cases h1
      k_fill
      refine lc_mapA vs id (fun _ => .bl true) (fun P hP => by k_fill; simpa using hP) hz rfl (fun a ha Y hY => ?_) ?_
      · k_fill
        obtain ⟨r, hr, h5⟩ := isRuns_mem h2 ha
        have h6 := valid_mem h3 hr
        refine ⟨a, rfl, okR_of h5 h6.1, ?_⟩
        k_fill
        rw [runB_of h5 h6.1 h6.2]
        exact hY _ rfl
      · refine q_bAll (bls_all _) ?_
        rw [bls_alls]
        k_fill
        refine lc_mapA (List.range (vs.length - 1)) (fun i => .int (0 + (i : Nat))) (fun _ => .bl true) (fun P hP => by
          k_fill
          refine ⟨by omega, ?_⟩
          have e : ((vs.length : Int) - 1).toNat = vs.length - 1 := by omega
          rw [e]
          exact hP) (by simp; omega) rfl (fun i hi Y hY => ?_) ?_
        · k_fill
          have hi : i < vs.length - 1 := List.mem_range.mp hi
          have g1 : ∃ a, vs[i]? = some a := ⟨_, List.getElem?_eq_getElem (by omega)⟩
          have g2 : ∃ b, vs[i + 1]? = some b := ⟨_, List.getElem?_eq_getElem (by omega)⟩
          obtain ⟨a, ga⟩ := g1
          obtain ⟨b, gb⟩ := g2
          obtain ⟨ra, ea, ia⟩ := isRuns_get h2 ga
          obtain ⟨rb, eb, ib⟩ := isRuns_get h2 gb
          refine pickI (by omega) (by simpa using ga) ?_
          refine run_0 ia ?_
          refine pickI (by omega) (by rw [show (0 + (i : Int) + 1).toNat = i + 1 by omega]; exact gb) ?_
          refine run_0 ib ?_
          k_fill
          have hne := adj_get (by simp [validT] at h3; exact h3.2) ea eb
          rw [decide_eq_false hne]
          exact hY _ rfl
        · refine q_bAll (bls_all _) ?_
          rw [bls_alls]
          exact hp
    all_goals cases h1
theorem ok_checked_text (T : Tx K mg) : FnOk P w K mg base CX0 4 (He.ga K "checked_text") T.fd_checked_text ["text"] (spD K F_checked_text) := by
  refine fnD T.F_checked_text sc_checked_text ?_ (by decide) (fun cdv A outer s H E hr => (sd_cons (sd_if (pq_not (pq_val (px_call (dvs := []) (dv := []) (ok_is_text T) (hr.mono (by first | decide | omega)) T.g_is_text T.F_is_text.kp T.b_is_text .nil (fun _ => rfl) (pa_c (px_var 0) pa_n))))
      (sd_one sd_never)
      sd_nil)
    (sd_one (sd_retO (po_lc (own := [("run", 1)]) rfl sc_checked_text.nd (pi_a (px_var 0)) (show blkC ["text", "run"] (defScope s_checked_text) _ _ = true by decide +kernel) (fun _ _ _ _ _ => (pg_nm 1 sc_checked_text.nd)) (fun _ _ _ _ _ => pq_nil) (fun _ _ _ _ _ => (px_tupOf T.m_tuple (pa_c (px_var 1) pa_n)))))))) ?_
  · rintro ags Q ⟨v, t, rfl, _⟩; rfl
  · rintro ags Q ⟨v, t, rfl, ht, hp⟩
    k_fill
    refine ⟨v, t, rfl, ht, ?_⟩
    k_fill
    obtain ⟨vs, h1, h2, h3, h4⟩ := ht
    cases v
    case lst | tup =>
      cases h1
      refine lc_runs runD h2 (fun P hP => by k_fill; exact hP) h4 rfl (fun a r hr ha Y hY => ?_) hp
      rcases tup_of ha with ⟨xs, rfl, e⟩ | ⟨xs, rfl, e⟩ <;> (k_fill; rw [e]; exact hY _ rfl)
    all_goals cases h1
end
end K54
namespace K54
open PySem L2 DL
local macro_rules
  | `(tactic| k_fill) => `(tactic| simp only [DL.wSeq, DL.wIfS, DL.wRet, DL.wRetO, DL.wRetN, DL.wSet, DL.wSetO, DL.wAsg, DL.wDrop, DL.wIf, DL.wIfO, DL.wVar, DL.wVarO, DL.wC, DL.wSh, DL.wOp, DL.wOpO, DL.wUn, DL.wTest, DL.wAnd, DL.wOr, DL.wNot, DL.wAndV, DL.wOrV, DL.wNotV, DL.waNil, DL.waCons, DL.waOwn', DL.wTup, DL.wLst, DL.allD, DL.wCall, DL.wCallO, DL.wCB, DL.wCBO, DL.wCBo, DL.wIsi, DL.wChain, DL.wAppend, DL.wPut, DL.wAug, DL.wsNil, DL.wBreak, DL.wCont, DL.wNever, DL.wIxO, DL.wOpL, DL.wSlL, DL.wSlS, DL.wSlT, DL.wpN, DL.wpS, DL.wTupOf, DL.wgName, DL.wgTup, DL.wgNil, DL.wgCons, DL.wiA, DL.wiL, DL.wiT, DL.wiS, DL.wiR1, DL.wiR2, DL.wiZip, DL.wiEnum, DL.ownL, DL.isOwn, DL.nth, DL.put, DL.q_isIo, DL.q_ioNo, DL.q_ioD, DL.q_ioF, DL.q_ioT, DL.q_ioSo, DL.wYes, DL.agD, DL.ownR, DL.updAm, DL.toAg, DL.amsOk, DL.ownB, DL.wipeS, DL.ioFree, DL.oIsN, DL.oIsNot, DL.isNonD, DL.tyD, DL.endsD, DL.initS, DL.agS, DL.outs, List.map_cons, List.map_nil, List.cons_append, List.nil_append, List.append_nil, List.length_cons, List.length_nil, List.replicate, DL.ib_n_i, DL.ib_b_i, DL.ib_i_i, DL.ib_s_i, DL.ib_l_i, DL.ib_t_i, DL.ib_n_b, DL.ib_b_b, DL.ib_i_b, DL.ib_s_b, DL.ib_l_b, DL.ib_t_b, DL.ib_n_s, DL.ib_b_s, DL.ib_i_s, DL.ib_s_s, DL.ib_l_s, DL.ib_t_s, DL.ib_n_lt, DL.ib_b_lt, DL.ib_i_lt, DL.ib_s_lt, DL.ib_l_lt, DL.ib_t_lt, Bool.not_true, Bool.not_false, Bool.false_eq_true, if_true, if_false, reduceIte, true_and, and_true, List.contains_nil, Bool.and_self, Bool.true_and, Bool.and_true, List.all_cons, List.all_nil, Nat.reduceAdd, Nat.reduceSub, Nat.zero_add, DL.q_oAdd, DL.q_oSub, DL.q_oMul, DL.q_oFdiv, DL.q_oMod, DL.q_oPow, DL.q_oShr, DL.q_oLt, DL.q_oLe, DL.q_oGt, DL.q_oGe, DL.q_oNeg, DL.q_oAddS, DL.q_oLeS, DL.q_oLtS, DL.q_oCat, DL.q_oRepL, DL.q_oIx_lst, DL.q_oIx_rd, DL.q_oIx_tup, DL.q_bLen_lst, DL.q_bLen_rd, DL.q_bLen_tup, DL.q_bLen_str, DL.q_bMax2, DL.q_bMin2, DL.q_bInt, DL.q_bIntB, DL.q_bOrd, DL.q_bAbs, DL.q_bStrI, DL.q_bList_lst, DL.q_bList_rd, DL.q_bList_tup, DL.q_asB, DL.q_asA_lst, DL.q_asA_rd, DL.q_asA_tup, DL.q_asL_lst, DL.q_asL_rd, DL.q_asT, DL.q_asS, DL.q_oEq_ii, DL.q_oNe_ii, DL.q_oEq_is, DL.q_oNe_is, DL.q_oEq_in, DL.q_oNe_in, DL.q_oEq_si, DL.q_oNe_si, DL.q_oEq_ss, DL.q_oNe_ss, DL.q_oEq_sb, DL.q_oNe_sb, DL.q_oEq_sn, DL.q_oNe_sn, DL.q_oEq_bs, DL.q_oNe_bs, DL.q_oEq_bb, DL.q_oNe_bb, DL.q_oEq_bn, DL.q_oNe_bn, DL.q_oEq_ni, DL.q_oNe_ni, DL.q_oEq_ns, DL.q_oNe_ns, DL.q_oEq_nb, DL.q_oNe_nb, DL.q_oEq_nn, DL.q_oNe_nn, DL.q_pick0, DL.q_pick1, DL.q_pick2, DL.q_pick3, DL.q_pick4, DL.q_ix40, DL.q_ix41, DL.q_ix42, DL.q_ix43, List.set_cons_zero, List.set_cons_succ, Nat.zero_le, Nat.reduceLeDiff, DL.q_cp_2_64, DL.q_cp_2_63, DL.q_cp_2_41, DL.q_cp_10_18, DL.q_cp_17_29, DL.q_cp_10_60, DL.q_cp_10_17, DL.q_cp_10_19, DL.q_cp_10_79, DL.q_cm_2, DL.q_M, DL.q_posM, List.isEmpty_cons, List.isEmpty_nil, DL.wJoin, DL.joinD, DL.q_oRepS, DL.q_bListS, decide_true, decide_false, DL.wMake, DL.wFld, DL.waMeth, DL.wSplit, DL.wIndexS, DL.wAugC, DL.q_scI, DL.q_scS, DL.q_scB, DL.q_scN, DL.q_oNotInS, DL.q_oInS, DL.q_bIntS, DL.wPar])
local macro_rules
  | `(tactic| w_left) => `(tactic| try simp only [DL.wIfS, DL.wRet, DL.wRetO, DL.wRetN, DL.wSet, DL.wSetO, DL.wAsg, DL.wDrop, DL.wIf, DL.wIfO, DL.wVar, DL.wVarO, DL.wC, DL.wSh, DL.wOp, DL.wOpO, DL.wUn, DL.wTest, DL.wAnd, DL.wOr, DL.wNot, DL.wAndV, DL.wOrV, DL.wNotV, DL.waNil, DL.waCons, DL.waOwn', DL.wTup, DL.wLst, DL.allD, DL.wCall, DL.wCallO, DL.wCB, DL.wCBO, DL.wCBo, DL.wIsi, DL.wChain, DL.wAppend, DL.wPut, DL.wAug, DL.wsNil, DL.wBreak, DL.wCont, DL.wNever, DL.wIxO, DL.wOpL, DL.wSlL, DL.wSlS, DL.wSlT, DL.wpN, DL.wpS, DL.wTupOf, DL.wgName, DL.wgTup, DL.wgNil, DL.wgCons, DL.wiA, DL.wiL, DL.wiT, DL.wiS, DL.wiR1, DL.wiR2, DL.wiZip, DL.wiEnum, DL.ownL, DL.isOwn, DL.nth, DL.put, DL.q_isIo, DL.q_ioNo, DL.q_ioD, DL.q_ioF, DL.q_ioT, DL.q_ioSo, DL.wYes, DL.agD, DL.ownR, DL.updAm, DL.toAg, DL.amsOk, DL.ownB, DL.wipeS, DL.ioFree, DL.oIsN, DL.oIsNot, DL.isNonD, DL.tyD, DL.endsD, DL.initS, DL.agS, DL.outs, List.map_cons, List.map_nil, List.cons_append, List.nil_append, List.append_nil, List.length_cons, List.length_nil, List.replicate, DL.ib_n_i, DL.ib_b_i, DL.ib_i_i, DL.ib_s_i, DL.ib_l_i, DL.ib_t_i, DL.ib_n_b, DL.ib_b_b, DL.ib_i_b, DL.ib_s_b, DL.ib_l_b, DL.ib_t_b, DL.ib_n_s, DL.ib_b_s, DL.ib_i_s, DL.ib_s_s, DL.ib_l_s, DL.ib_t_s, DL.ib_n_lt, DL.ib_b_lt, DL.ib_i_lt, DL.ib_s_lt, DL.ib_l_lt, DL.ib_t_lt, Bool.not_true, Bool.not_false, Bool.false_eq_true, if_true, if_false, reduceIte, true_and, and_true, List.contains_nil, Bool.and_self, Bool.true_and, Bool.and_true, List.all_cons, List.all_nil, Nat.reduceAdd, Nat.reduceSub, Nat.zero_add, DL.q_oAdd, DL.q_oSub, DL.q_oMul, DL.q_oFdiv, DL.q_oMod, DL.q_oPow, DL.q_oShr, DL.q_oLt, DL.q_oLe, DL.q_oGt, DL.q_oGe, DL.q_oNeg, DL.q_oAddS, DL.q_oLeS, DL.q_oLtS, DL.q_oCat, DL.q_oRepL, DL.q_oIx_lst, DL.q_oIx_rd, DL.q_oIx_tup, DL.q_bLen_lst, DL.q_bLen_rd, DL.q_bLen_tup, DL.q_bLen_str, DL.q_bMax2, DL.q_bMin2, DL.q_bInt, DL.q_bIntB, DL.q_bOrd, DL.q_bAbs, DL.q_bStrI, DL.q_bList_lst, DL.q_bList_rd, DL.q_bList_tup, DL.q_asB, DL.q_asA_lst, DL.q_asA_rd, DL.q_asA_tup, DL.q_asL_lst, DL.q_asL_rd, DL.q_asT, DL.q_asS, DL.q_oEq_ii, DL.q_oNe_ii, DL.q_oEq_is, DL.q_oNe_is, DL.q_oEq_in, DL.q_oNe_in, DL.q_oEq_si, DL.q_oNe_si, DL.q_oEq_ss, DL.q_oNe_ss, DL.q_oEq_sb, DL.q_oNe_sb, DL.q_oEq_sn, DL.q_oNe_sn, DL.q_oEq_bs, DL.q_oNe_bs, DL.q_oEq_bb, DL.q_oNe_bb, DL.q_oEq_bn, DL.q_oNe_bn, DL.q_oEq_ni, DL.q_oNe_ni, DL.q_oEq_ns, DL.q_oNe_ns, DL.q_oEq_nb, DL.q_oNe_nb, DL.q_oEq_nn, DL.q_oNe_nn, DL.q_pick0, DL.q_pick1, DL.q_pick2, DL.q_pick3, DL.q_pick4, DL.q_ix40, DL.q_ix41, DL.q_ix42, DL.q_ix43, List.set_cons_zero, List.set_cons_succ, Nat.zero_le, Nat.reduceLeDiff, DL.q_cp_2_64, DL.q_cp_2_63, DL.q_cp_2_41, DL.q_cp_10_18, DL.q_cp_17_29, DL.q_cp_10_60, DL.q_cp_10_17, DL.q_cp_10_19, DL.q_cp_10_79, DL.q_cm_2, DL.q_M, DL.q_posM, List.isEmpty_cons, List.isEmpty_nil, DL.wJoin, DL.joinD, DL.q_oRepS, DL.q_bListS, decide_true, decide_false, DL.wMake, DL.wFld, DL.waMeth, DL.wSplit, DL.wIndexS, DL.wAugC, DL.q_scI, DL.q_scS, DL.q_scB, DL.q_scN, DL.q_oNotInS, DL.q_oInS, DL.q_bIntS, DL.wPar])
local macro_rules
  | `(tactic| w_fin) => `(tactic| (with_reducible refine DL.seq_ ?_; w_left))
section
variable {P : Program} {w : World} {K : PySem.W.Frag} {mg : Str → Option Value} {base : Heap}
theorem ok_add_run (T : Tx K mg) : FnOk P w K mg base CX0 1 (He.ga K "add_run") T.fd_add_run ["runs", "symbol", "count"] (spD K F_add_run) := by
  refine fnD T.F_add_run sc_add_run ?_ (by decide) (fun cdv A outer s H E hr => (sd_cons (sd_if (pq_lt (px_var 2) px_int)
      (sd_one sd_retN)
      sd_nil)
    (sd_one (sd_if (PQW.q (pqw_and (pq_cmpL (op_neD (units_of hr)) rv_neD 0 (PO.x (po_lst pa_n)) (nomark _)) (pqw_and1 (pq_eq (px_ix (px_ixO 0 (px_neg px_int)) px_int) (px_var 1)))))
      (sd_one (sd_put 0 (px_tup (pa_c (px_var 1) (pa_c (px_add (px_ix (px_ixO 0 (px_neg px_int)) px_int) (px_var 2)) pa_n))) (px_neg px_int)))
      (sd_one (sd_append 0 (px_tup (pa_c (px_var 1) (pa_c (px_var 2) pa_n))))))))) ?_
  · rintro ags Q ⟨t, x, c, rfl, _⟩; rfl
  · rintro ags Q ⟨t, x, c, rfl, ht, hz, hp⟩
    k_fill
    unfold addR at hp
    by_cases hc : c < 1
    · rw [if_pos (decide_eq_true hc)]
      rw [if_pos hc] at hp
      exact hp
    · rw [if_neg (by simpa using hc)]
      rw [if_neg hc] at hp
      refine neD_nil (pys_runs _) (shaped_okTx ht) ?_
      k_fill
      rcases last_runs t with ⟨rfl, e⟩ | ⟨t', r, rfl, e⟩
      · k_fill
        exact ⟨by decide, hp⟩
      · have ne : (List.isEmpty (List.map runD (t' ++ [r]))) = false := by rw [e]; simp
        rw [ne]
        k_fill
        rw [e]
        refine pick_last ?_
        refine run_0 (r := r) (show IsRun (runD r) r from rfl) ?_
        k_fill
        rw [List.getLast?_concat] at hp
        simp only at hp
        by_cases h : r.1 = x
        · rw [if_pos (decide_eq_true h)]
          rw [if_pos h, List.dropLast_concat] at hp
          refine pick_last ?_
          refine run_1 (r := r) (show IsRun (runD r) r from rfl) ?_
          k_fill
          rw [ix_last]
          k_fill
          rw [set_last]
          rw [List.map_append] at hp
          exact hp
        · rw [if_neg (by simpa using h)]
          rw [if_neg h, List.map_append, e] at hp
          refine ⟨?_, hp⟩
          have := congrArg List.length e
          rw [List.length_map] at this
          omega
theorem ok_check_escapes (T : Tx K mg) : FnOk P w K mg base CX0 2 (He.ga K "check_escapes") T.fd_check_escapes ["number"] (spD K F_check_escapes) := by
  refine fnD T.F_check_escapes sc_check_escapes ?_ (by decide) (fun cdv A outer s H E hr => (sd_one (sd_if (pq_not (pq_val (px_call (dvs := []) (dv := []) (ok_is_integer T) (hr.mono (by first | decide | omega)) T.g_is_integer T.F_is_integer.kp T.b_is_integer .nil (fun _ => rfl) (pa_c (px_var 0) (pa_c px_int (pa_c (px_globI (Classical.choose_spec T.c_MAX_ESCAPES)) pa_n))))))
      (sd_one sd_never)
      sd_nil))) ?_
  · rintro ags Q ⟨n, rfl, _⟩; rfl
  · rintro ags Q ⟨n, rfl, h0, h1, hp⟩
    k_fill
    refine ⟨.int n, 0, some 200, rfl, rfl, ?_⟩
    have e : isIntD (.int n) 0 (some 200) = true := by
      simp [isIntD, leO, h0, h1]
    rw [e]
    k_fill
    exact hp
theorem ok_power_of_two (T : Tx K mg) : FnOk P w K mg base CX0 1 (He.ga K "power_of_two") T.fd_power_of_two ["exponent"] (spD K F_power_of_two) := by
  refine fnD T.F_power_of_two sc_power_of_two ?_ (by decide) (fun cdv A outer s H E hr => (sd_cons (sd_set 1 sc_power_of_two.nd px_int)
    (sd_cons (sd_for PassesOwn.never rfl (pi_r1 T.m_range (pa_c (px_var 0) pa_n)) (pg_nm 2 sc_power_of_two.nd)
      (sd_one (sd_augC 1 iop_mulU sc_power_of_two.nd px_int)))
    (sd_one (sd_ret (px_var 1)))))) ?_
  · rintro ags Q ⟨n, rfl, _⟩; rfl
  · rintro ags Q ⟨n, rfl, h0, h1, hp⟩
    k_fill
    refine for_of (rangeD 0 n.toNat) (fun P hP => by k_fill; exact ⟨by omega, hP⟩) (fun i s => ∃ x : Option D, s = [.d (.int n), .d (.int (2 ^ i)), so x] ∧ i ≤ n.toNat) ⟨none, rfl, Nat.zero_le _⟩ ?_ ?_
    · rintro i x s' hi ⟨y, rfl, hl⟩
      have h2 := (range_at hi).1
      k_fill
      exact ⟨mulR (by decide) (by decide), some x, by rw [Int.pow_succ]; rfl, h2⟩
    · rintro s' ⟨y, rfl, hl⟩
      rw [len_range]
      k_fill
      exact hp
end
end K54
namespace K54
open PySem L2 DL
local macro_rules
  | `(tactic| k_fill) => `(tactic| simp only [DL.wSeq, DL.wIfS, DL.wRet, DL.wRetO, DL.wRetN, DL.wSet, DL.wSetO, DL.wAsg, DL.wDrop, DL.wIf, DL.wIfO, DL.wVar, DL.wVarO, DL.wC, DL.wSh, DL.wOp, DL.wOpO, DL.wUn, DL.wTest, DL.wAnd, DL.wOr, DL.wNot, DL.wAndV, DL.wOrV, DL.wNotV, DL.waNil, DL.waCons, DL.waOwn', DL.wTup, DL.wLst, DL.allD, DL.wCall, DL.wCallO, DL.wCB, DL.wCBO, DL.wCBo, DL.wIsi, DL.wChain, DL.wAppend, DL.wPut, DL.wAug, DL.wsNil, DL.wBreak, DL.wCont, DL.wNever, DL.wIxO, DL.wOpL, DL.wSlL, DL.wSlS, DL.wSlT, DL.wpN, DL.wpS, DL.wTupOf, DL.wgName, DL.wgTup, DL.wgNil, DL.wgCons, DL.wiA, DL.wiL, DL.wiT, DL.wiS, DL.wiR1, DL.wiR2, DL.wiZip, DL.wiEnum, DL.ownL, DL.isOwn, DL.nth, DL.put, DL.q_isIo, DL.q_ioNo, DL.q_ioD, DL.q_ioF, DL.q_ioT, DL.q_ioSo, DL.wYes, DL.agD, DL.ownR, DL.updAm, DL.toAg, DL.amsOk, DL.ownB, DL.wipeS, DL.ioFree, DL.oIsN, DL.oIsNot, DL.isNonD, DL.tyD, DL.endsD, DL.initS, DL.agS, DL.outs, List.map_cons, List.map_nil, List.cons_append, List.nil_append, List.append_nil, List.length_cons, List.length_nil, List.replicate, DL.ib_n_i, DL.ib_b_i, DL.ib_i_i, DL.ib_s_i, DL.ib_l_i, DL.ib_t_i, DL.ib_n_b, DL.ib_b_b, DL.ib_i_b, DL.ib_s_b, DL.ib_l_b, DL.ib_t_b, DL.ib_n_s, DL.ib_b_s, DL.ib_i_s, DL.ib_s_s, DL.ib_l_s, DL.ib_t_s, DL.ib_n_lt, DL.ib_b_lt, DL.ib_i_lt, DL.ib_s_lt, DL.ib_l_lt, DL.ib_t_lt, Bool.not_true, Bool.not_false, Bool.false_eq_true, if_true, if_false, reduceIte, true_and, and_true, List.contains_nil, Bool.and_self, Bool.true_and, Bool.and_true, List.all_cons, List.all_nil, Nat.reduceAdd, Nat.reduceSub, Nat.zero_add, DL.q_oAdd, DL.q_oSub, DL.q_oMul, DL.q_oFdiv, DL.q_oMod, DL.q_oPow, DL.q_oShr, DL.q_oLt, DL.q_oLe, DL.q_oGt, DL.q_oGe, DL.q_oNeg, DL.q_oAddS, DL.q_oLeS, DL.q_oLtS, DL.q_oCat, DL.q_oRepL, DL.q_oIx_lst, DL.q_oIx_rd, DL.q_oIx_tup, DL.q_bLen_lst, DL.q_bLen_rd, DL.q_bLen_tup, DL.q_bLen_str, DL.q_bMax2, DL.q_bMin2, DL.q_bInt, DL.q_bIntB, DL.q_bOrd, DL.q_bAbs, DL.q_bStrI, DL.q_bList_lst, DL.q_bList_rd, DL.q_bList_tup, DL.q_asB, DL.q_asA_lst, DL.q_asA_rd, DL.q_asA_tup, DL.q_asL_lst, DL.q_asL_rd, DL.q_asT, DL.q_asS, DL.q_oEq_ii, DL.q_oNe_ii, DL.q_oEq_is, DL.q_oNe_is, DL.q_oEq_in, DL.q_oNe_in, DL.q_oEq_si, DL.q_oNe_si, DL.q_oEq_ss, DL.q_oNe_ss, DL.q_oEq_sb, DL.q_oNe_sb, DL.q_oEq_sn, DL.q_oNe_sn, DL.q_oEq_bs, DL.q_oNe_bs, DL.q_oEq_bb, DL.q_oNe_bb, DL.q_oEq_bn, DL.q_oNe_bn, DL.q_oEq_ni, DL.q_oNe_ni, DL.q_oEq_ns, DL.q_oNe_ns, DL.q_oEq_nb, DL.q_oNe_nb, DL.q_oEq_nn, DL.q_oNe_nn, DL.q_pick0, DL.q_pick1, DL.q_pick2, DL.q_pick3, DL.q_pick4, DL.q_ix40, DL.q_ix41, DL.q_ix42, DL.q_ix43, List.set_cons_zero, List.set_cons_succ, Nat.zero_le, Nat.reduceLeDiff, DL.q_cp_2_64, DL.q_cp_2_63, DL.q_cp_2_41, DL.q_cp_10_18, DL.q_cp_17_29, DL.q_cp_10_60, DL.q_cp_10_17, DL.q_cp_10_19, DL.q_cp_10_79, DL.q_cm_2, DL.q_M, DL.q_posM, List.isEmpty_cons, List.isEmpty_nil, DL.wJoin, DL.joinD, DL.q_oRepS, DL.q_bListS, decide_true, decide_false, DL.wMake, DL.fldD, DL.wFld, DL.objIs, DL.waMeth, DL.wSplit, DL.wIndexS, DL.wAugC, DL.q_scI, DL.q_scS, DL.q_scB, DL.q_scN])
local macro_rules
  | `(tactic| w_left) => `(tactic| try simp only [DL.wIfS, DL.wRet, DL.wRetO, DL.wRetN, DL.wSet, DL.wSetO, DL.wAsg, DL.wDrop, DL.wIf, DL.wIfO, DL.wVar, DL.wVarO, DL.wC, DL.wSh, DL.wOp, DL.wOpO, DL.wUn, DL.wTest, DL.wAnd, DL.wOr, DL.wNot, DL.wAndV, DL.wOrV, DL.wNotV, DL.waNil, DL.waCons, DL.waOwn', DL.wTup, DL.wLst, DL.allD, DL.wCall, DL.wCallO, DL.wCB, DL.wCBO, DL.wCBo, DL.wIsi, DL.wChain, DL.wAppend, DL.wPut, DL.wAug, DL.wsNil, DL.wBreak, DL.wCont, DL.wNever, DL.wIxO, DL.wOpL, DL.wSlL, DL.wSlS, DL.wSlT, DL.wpN, DL.wpS, DL.wTupOf, DL.wgName, DL.wgTup, DL.wgNil, DL.wgCons, DL.wiA, DL.wiL, DL.wiT, DL.wiS, DL.wiR1, DL.wiR2, DL.wiZip, DL.wiEnum, DL.ownL, DL.isOwn, DL.nth, DL.put, DL.q_isIo, DL.q_ioNo, DL.q_ioD, DL.q_ioF, DL.q_ioT, DL.q_ioSo, DL.wYes, DL.agD, DL.ownR, DL.updAm, DL.toAg, DL.amsOk, DL.ownB, DL.wipeS, DL.ioFree, DL.oIsN, DL.oIsNot, DL.isNonD, DL.tyD, DL.endsD, DL.initS, DL.agS, DL.outs, List.map_cons, List.map_nil, List.cons_append, List.nil_append, List.append_nil, List.length_cons, List.length_nil, List.replicate, DL.ib_n_i, DL.ib_b_i, DL.ib_i_i, DL.ib_s_i, DL.ib_l_i, DL.ib_t_i, DL.ib_n_b, DL.ib_b_b, DL.ib_i_b, DL.ib_s_b, DL.ib_l_b, DL.ib_t_b, DL.ib_n_s, DL.ib_b_s, DL.ib_i_s, DL.ib_s_s, DL.ib_l_s, DL.ib_t_s, DL.ib_n_lt, DL.ib_b_lt, DL.ib_i_lt, DL.ib_s_lt, DL.ib_l_lt, DL.ib_t_lt, Bool.not_true, Bool.not_false, Bool.false_eq_true, if_true, if_false, reduceIte, true_and, and_true, List.contains_nil, Bool.and_self, Bool.true_and, Bool.and_true, List.all_cons, List.all_nil, Nat.reduceAdd, Nat.reduceSub, Nat.zero_add, DL.q_oAdd, DL.q_oSub, DL.q_oMul, DL.q_oFdiv, DL.q_oMod, DL.q_oPow, DL.q_oShr, DL.q_oLt, DL.q_oLe, DL.q_oGt, DL.q_oGe, DL.q_oNeg, DL.q_oAddS, DL.q_oLeS, DL.q_oLtS, DL.q_oCat, DL.q_oRepL, DL.q_oIx_lst, DL.q_oIx_rd, DL.q_oIx_tup, DL.q_bLen_lst, DL.q_bLen_rd, DL.q_bLen_tup, DL.q_bLen_str, DL.q_bMax2, DL.q_bMin2, DL.q_bInt, DL.q_bIntB, DL.q_bOrd, DL.q_bAbs, DL.q_bStrI, DL.q_bList_lst, DL.q_bList_rd, DL.q_bList_tup, DL.q_asB, DL.q_asA_lst, DL.q_asA_rd, DL.q_asA_tup, DL.q_asL_lst, DL.q_asL_rd, DL.q_asT, DL.q_asS, DL.q_oEq_ii, DL.q_oNe_ii, DL.q_oEq_is, DL.q_oNe_is, DL.q_oEq_in, DL.q_oNe_in, DL.q_oEq_si, DL.q_oNe_si, DL.q_oEq_ss, DL.q_oNe_ss, DL.q_oEq_sb, DL.q_oNe_sb, DL.q_oEq_sn, DL.q_oNe_sn, DL.q_oEq_bs, DL.q_oNe_bs, DL.q_oEq_bb, DL.q_oNe_bb, DL.q_oEq_bn, DL.q_oNe_bn, DL.q_oEq_ni, DL.q_oNe_ni, DL.q_oEq_ns, DL.q_oNe_ns, DL.q_oEq_nb, DL.q_oNe_nb, DL.q_oEq_nn, DL.q_oNe_nn, DL.q_pick0, DL.q_pick1, DL.q_pick2, DL.q_pick3, DL.q_pick4, DL.q_ix40, DL.q_ix41, DL.q_ix42, DL.q_ix43, List.set_cons_zero, List.set_cons_succ, Nat.zero_le, Nat.reduceLeDiff, DL.q_cp_2_64, DL.q_cp_2_63, DL.q_cp_2_41, DL.q_cp_10_18, DL.q_cp_17_29, DL.q_cp_10_60, DL.q_cp_10_17, DL.q_cp_10_19, DL.q_cp_10_79, DL.q_cm_2, DL.q_M, DL.q_posM, List.isEmpty_cons, List.isEmpty_nil, DL.wJoin, DL.joinD, DL.q_oRepS, DL.q_bListS, decide_true, decide_false, DL.wMake, DL.fldD, DL.wFld, DL.objIs, DL.waMeth, DL.wSplit, DL.wIndexS, DL.wAugC, DL.q_scI, DL.q_scS, DL.q_scB, DL.q_scN])
local macro_rules
  | `(tactic| w_fin) => `(tactic| (with_reducible refine DL.seq_ ?_; w_left))
section
variable {P : Program} {w : World} {K : PySem.W.Frag} {mg : Str → Option Value} {base : Heap}
theorem ok__law_reel (T : Tx K mg) : FnOk P w K mg base CX0 1 (He.ga K "_law_reel") T.fd__law_reel ["_law_script"] (spD K F__law_reel) := by
  refine fnD T.F__law_reel sc__law_reel ?_ (by decide) (fun cdv A outer s H E hr => (sd_cons (sd_set 1 sc__law_reel.nd (px_pow px_int px_int))
    (sd_cons (sd_for PassesOwn.never rfl (pi_a (PO.x (po_sl (px_var 0) pp_n (pp_s px_int)))) (pg_nm 2 sc__law_reel.nd)
      (sd_one (sd_set 1 sc__law_reel.nd (px_mod (px_add (px_add (px_mul (px_var 1) (px_var 1)) (px_mod (px_var 2) px_int)) px_int) (px_sub (px_mul (px_pow px_int px_int) (px_pow px_int px_int)) px_int)))))
    (sd_cons (sd_lc 3 (own := [("_law_cell", 2)]) rfl sc__law_reel.nd (pi_a (PO.x (po_sl (px_var 0) pp_n (pp_s px_int)))) (show blkC ["_law_script", "_law_stir", "_law_cell", "_law_great"] (defScope s__law_reel) _ _ = true by decide +kernel) (fun _ _ _ _ _ => (pg_nm 2 sc__law_reel.nd)) (fun _ _ _ _ _ => pq_1 (pq_ge (px_var 2) (px_pow px_int px_int))) (fun _ _ _ _ _ => (px_sub (px_var 2) (px_pow px_int px_int))) (sw_true rfl rfl rfl (by decide +kernel)))
    (sd_one (sd_retO (po_lst (pa_c (px_var 3) (pa_c (PO.x (po_cat (PO.x (po_lc (own := [("_law_cell", 2)]) rfl sc__law_reel.nd (pi_a (PO.x (po_sl (px_var 0) pp_n (pp_s px_int)))) (show blkC ["_law_script", "_law_stir", "_law_cell", "_law_great"] (defScope s__law_reel) _ _ = true by decide +kernel) (fun _ _ _ _ _ => (pg_nm 2 sc__law_reel.nd)) (fun _ _ _ _ _ => pq_nil) (fun _ _ _ _ _ => (px_mod (px_var 2) px_int)))) (PO.x (po_lst (pa_c px_int pa_n))))) (pa_c px_int (pa_c (px_var 1) pa_n))))))))))) ?_
  · rintro ags Q ⟨ns, rfl, _⟩; rfl
  · rintro ags Q ⟨ns, rfl, hz, hp⟩
    k_fill
    have cut : cutD (ns.map D.int) none (some 63) = ns.map D.int := by
      rw [cut_to _ (by decide)]
      exact List.take_of_length_le (by simpa using hz)
    refine for_of (ns.map D.int) (fun P hP => by k_fill; rw [cut]; exact hP) (fun _ s => ∃ (r : Int) (x : Option D), s = [.d (.rd (ns.map D.int)), .d (.int r), so x, .no] ∧ 0 ≤ r ∧ r < 2 ^ 127) ⟨_, none, rfl, by decide +kernel, by decide +kernel⟩ ?_ ?_
    · rintro i x s' hx ⟨r, y, rfl, r0, r1⟩
      rw [List.getElem?_map] at hx
      obtain ⟨a, ha, rfl⟩ := Option.map_eq_some_iff.mp hx
      k_fill
      refine ⟨mulSq r0 r1, by decide, ?_⟩
      refine ⟨_, some (.int a), rfl, Int.emod_nonneg _ (by decide), ?_⟩
      have := Int.emod_lt_of_pos (r * r + a % 1000000000000000003 + 29) (show (0 : Int) < 170141183460469231731687303715884105727 by decide)
      omega
    · rintro s' ⟨r, y, rfl, r0, r1⟩
      k_fill
      refine lc_filterA ns D.int (fun a => .int (a - 10 ^ Int.toNat 18)) (fun a => decide (10 ^ Int.toNat 18 ≤ a)) (fun P hP => by k_fill; rw [cut]; exact hP) (by omega) (by k_fill) (fun a ha Y N hY hN => ?_) ?_
      · k_fill
        by_cases h : 10 ^ Int.toNat 18 ≤ a
        · rw [if_pos (decide_eq_true h)]
          exact hY (decide_eq_true h) _ rfl
        · rw [if_neg (by simpa using h)]
          exact hN (decide_eq_false h) _ rfl
      · k_fill
        refine lc_mapA ns D.int (fun a => .int (a % 1000003)) (fun P hP => by k_fill; rw [cut]; exact hP) (by omega) (by k_fill) (fun a ha Y hY => ?_) ?_
        · k_fill
          exact ⟨by decide, hY _ rfl⟩
        · k_fill
          refine ⟨by simp; omega, ?_⟩
          have key := hp (reelD ((ns.filter fun a => decide (10 ^ Int.toNat 18 ≤ a)).map fun a => a - 10 ^ Int.toNat 18) (ns.map (fun a => a % 1000003) ++ [57]) 0 r) ⟨_, _, _, _, rfl, ?_, by simp, by simp; omega, r0, r1⟩
          · unfold reelD at key
            rw [List.map_append, List.map_map, List.map_map] at key
            exact key
          · rw [List.length_map]
            exact Nat.le_trans (List.length_filter_le _ _) (by omega)
theorem ok__law_draw (T : Tx K mg) : FnOk P w K mg base CX0 1 (He.ga K "_law_draw") T.fd__law_draw ["_law_reel_here", "_law_many"] (spD K F__law_draw) := by
  refine fnD T.F__law_draw sc__law_draw ?_ (by decide) (fun cdv A outer s H E hr => (sd_cons (sd_if (pq_neD hr (px_ixO 0 px_int) (PO.x (po_lst pa_n)))
      (sd_cons (sd_set 2 sc__law_draw.nd (px_ix (px_ixO 0 px_int) px_int))
    (sd_cons (sd_put 0 (PO.x (po_cat (PO.x (po_rep (PO.x (po_lst (pa_c (px_fdiv (px_var 2) (px_var 1)) pa_n))) (px_ct call_int1 rc_int T.m_int (by decide +kernel) (pa_c (px_ge (px_var 2) (px_var 1)) pa_n)))) (PO.x (po_sl (px_ixO 0 px_int) (pp_s px_int) pp_n)))) px_int)
    (sd_one (sd_ret (px_mod (px_var 2) (px_var 1))))))
      sd_nil)
    (sd_cons (sd_put 0 (px_add (px_ixO 0 px_int) px_int) px_int)
    (sd_cons (sd_set 3 sc__law_draw.nd (px_ix (px_ixO 0 px_int) (px_mod (px_ixO 0 px_int) (px_len T.m_len (pa_c (px_ixO 0 px_int) pa_n)))))
    (sd_cons (sd_set 4 sc__law_draw.nd (px_add (px_add (px_mul (px_ixO 0 px_int) (px_ixO 0 px_int)) (px_mul (px_add (px_var 3) px_int) px_int)) (px_mul (px_ixO 0 px_int) px_int)))
    (sd_cons (sd_put 0 (px_mod (px_var 4) (px_sub (px_mul (px_pow px_int px_int) (px_pow px_int px_int)) px_int)) px_int)
    (sd_one (sd_ret (px_mod (px_fdiv (px_ixO 0 px_int) (px_pow px_int px_int)) (px_var 1)))))))))) ?_
  · rintro ags Q ⟨xs, m, rfl, _⟩; rfl
  · rintro ags Q ⟨xs, m, rfl, ⟨g, c, n, r, rfl, hg, hc, hc2, r0, r1⟩, m0, m1, hp⟩
    unfold reelD
    k_fill
    refine neD_nil (pys_ints _) (shaped_ints _) ?_
    cases g with
    | cons a g =>
      k_fill
      have cut1 : cutD (D.int a :: g.map D.int) (some 1) none = g.map D.int := by
        exact cut_from (D.int a :: g.map D.int) (k := 1) (by decide)
      rw [cut1]
      have go : ∀ g' : List Int, g'.length ≤ 64 → Q (.d (.int (a % m))) [.own [.lst (g'.map D.int), .lst (c.map D.int), .int n, .int r], .d (.int m)] := fun g' h =>
        hp _ _ ⟨g', c, n, r, rfl, h, hc, hc2, r0, r1⟩ (Int.emod_nonneg _ (by omega)) (Int.emod_lt_of_pos _ m0)
      refine ⟨cdiv m0 m1, ?_⟩
      simp only [List.length_cons] at hg
      by_cases h : m ≤ a
      · rw [if_pos (decide_eq_true h)]
        refine ⟨⟨by decide, by decide, by decide⟩, by simp; omega, m0, ?_⟩
        exact go ((a / m) :: g) (by simp; omega)
      · rw [if_neg (by simpa using h)]
        refine ⟨⟨by decide, by decide, by decide⟩, by simp; omega, m0, ?_⟩
        exact go g (by omega)
    | nil =>
      k_fill
      refine ⟨by simpa using List.length_pos_iff.mpr hc, pickC hc fun x => ?_⟩
      refine ⟨mulSq r0 r1, ?_⟩
      k_fill
      refine ⟨mulR (by decide) (by decide), mulR (by decide) (by decide), cdiv (by decide) (by decide +kernel), m0, ?_⟩
      refine hp _ _ ⟨[], c, _, _, rfl, by simp, hc, hc2, Int.emod_nonneg _ (by decide), ?_⟩ (Int.emod_nonneg _ (by omega)) (Int.emod_lt_of_pos _ m0)
      have := Int.emod_lt_of_pos (r * r + (x + 11) * 130363 + (n + 1) * 999979) (show (0 : Int) < 170141183460469231731687303715884105727 by decide)
      omega
theorem ok__law_signs (T : Tx K mg) : FnOk P w K mg base CX0 1 (He.ga K "_law_signs") T.fd__law_signs [] (spD K F__law_signs) := by
  refine fnD T.F__law_signs sc__law_signs ?_ (by decide) (fun cdv A outer s H E hr => (sd_cons (sd_asg (px_tup (pa_c px_str (pa_c px_str pa_n))) (pg_tp (n := 2) rfl (pgs_c (pg_nm 0 sc__law_signs.nd) (pgs_c (pg_nm 1 sc__law_signs.nd) pgs_n))))
    (sd_cons (sd_set 2 sc__law_signs.nd px_str)
    (sd_one (sd_ret (px_addS (px_addS (px_addS (px_addS (px_addS (px_addS px_str (px_var 0)) px_str) (px_var 2)) px_str) (px_var 1)) px_str)))))) ?_
  · rintro ags Q ⟨rfl, _⟩; rfl
  · rintro ags Q ⟨rfl, hp⟩
    k_fill
    refine ⟨by decide +kernel, by decide +kernel, by decide +kernel, by decide +kernel, by decide +kernel, by decide +kernel, ?_⟩
    have e : Str.ofString " !\"#$&'()*+,-./" ++ Str.ofString "0123456789" ++ Str.ofString ":;<=>?@" ++ Str.ofString "ABCDEFGHIJKLMNOPQRSTUVWXYZ" ++ Str.ofString "[\\]^_`" ++ Str.ofString "abcdefghijklmnopqrstuvwxyz" ++ Str.ofString "{|}~" = S94 := by decide +kernel
    rw [e]
    exact hp
theorem ok__law_sign (T : Tx K mg) : FnOk P w K mg base CX0 2 (He.ga K "_law_sign") T.fd__law_sign ["_law_reel_here"] (spD K F__law_sign) := by
  refine fnD T.F__law_sign sc__law_sign ?_ (by decide) (fun cdv A outer s H E hr => (sd_cons (sd_set 1 sc__law_sign.nd (px_call (dvs := []) (dv := []) (ok__law_draw T) (hr.mono (by first | decide | omega)) T.g__law_draw T.F__law_draw.kp T.b__law_draw .nil (fun _ => rfl) (pa_o 0 (pa_c px_int pa_n))))
    (sd_one (sd_ret (px_if (pq_lt (px_var 1) px_int) (px_ix px_str (px_var 1)) (px_ix (px_call0 (dvs := []) (dv := []) (ok__law_signs T) (hr.mono (by first | decide | omega)) T.g__law_signs T.F__law_signs.kp T.b__law_signs .nil (fun _ => rfl)) (px_call (dvs := []) (dv := []) (ok__law_draw T) (hr.mono (by first | decide | omega)) T.g__law_draw T.F__law_draw.kp T.b__law_draw .nil (fun _ => rfl) (pa_o 0 (pa_c px_int pa_n))))))))) ?_
  · rintro ags Q ⟨xs, rfl, _⟩; rfl
  · rintro ags Q ⟨xs, rfl, hx, hp⟩
    k_fill
    refine ⟨xs, 16, rfl, hx, by decide, by decide +kernel, fun k ys hy k0 k1 => ?_⟩
    k_fill
    by_cases h : k < 12
    · rw [if_pos (decide_eq_true h)]
      exact oIx_s (by decide +kernel) (by decide +kernel) k0 (by exact h) fun x hx => hp x ys hy hx
    · rw [if_neg (by simpa using h)]
      refine ⟨rfl, ?_⟩
      k_fill
      refine ⟨ys, 94, rfl, hy, by decide, by decide +kernel, fun k zs hz k0 k1 => ?_⟩
      k_fill
      refine oIx_s S94_all (by rw [S94_len]; decide) k0 (by rw [S94_len]; exact k1) fun x hx => hp x zs hz hx
theorem ok__law_text (T : Tx K mg) : FnOk P w K mg base CX0 3 (He.ga K "_law_text") T.fd__law_text ["_law_reel_here", "_law_many", "_law_longest"] (spD K F__law_text) := by
  refine fnD T.F__law_text sc__law_text ?_ (by decide) (fun cdv A outer s H E hr => (sd_cons (sd_setO 3 sc__law_text.nd (po_lst pa_n))
    (sd_cons (sd_for PassesOwn.never rfl (pi_r1 T.m_range (pa_c (px_call (dvs := []) (dv := []) (ok__law_draw T) (hr.mono (by first | decide | omega)) T.g__law_draw T.F__law_draw.kp T.b__law_draw .nil (fun _ => rfl) (pa_o 0 (pa_c (px_add (px_var 1) px_int) pa_n))) pa_n)) (pg_nm 4 sc__law_text.nd)
      (sd_cons (sd_set 5 sc__law_text.nd (px_call (dvs := []) (dv := []) (ok__law_sign T) (hr.mono (by first | decide | omega)) T.g__law_sign T.F__law_sign.kp T.b__law_sign .nil (fun _ => rfl) (pa_o 0 pa_n)))
    (sd_one (sd_if (PQW.q (pqw_or (pq_cmpL (op_eqD (units_of hr)) rv_eqD 3 (PO.x (po_lst pa_n)) (nomark _)) (pqw_or1 (pq_ne (px_ix (px_ixO 3 (px_neg px_int)) px_int) (px_var 5)))))
      (sd_one (sd_append 3 (px_tup (pa_c (px_var 5) (pa_c (px_add px_int (px_call (dvs := []) (dv := []) (ok__law_draw T) (hr.mono (by first | decide | omega)) T.g__law_draw T.F__law_draw.kp T.b__law_draw .nil (fun _ => rfl) (pa_o 0 (pa_c (px_if (pq_ne (px_var 5) px_str) (px_var 2) px_int) pa_n)))) pa_n)))))
      sd_nil))))
    (sd_one (sd_retO (po_var 3)))))) ?_
  · rintro ags Q ⟨xs, many, longest, rfl, _⟩; rfl
  · rintro ags Q ⟨xs, many, longest, rfl, hx, m0, m1, l0, l1, hp⟩
    k_fill
    unfold wFor
    k_fill
    refine ⟨xs, many + 1, rfl, hx, by omega, by omega, fun k ys hy k0 k1 => ?_⟩
    k_fill
    refine ⟨by omega, fun i s => ∃ (ys : List D) (t : Txt) (x y : Option D), s = [.own true ys, .d (.int many), .d (.int longest), .own false (t.map runD), so x, so y] ∧ IsReel ys ∧ validT t = true ∧ t.length ≤ i ∧ ∀ r ∈ t, r.2 ≤ longest,
      ⟨ys, [], none, none, rfl, hy, rfl, Nat.le_refl _, fun r hr => by cases hr⟩, ?_, ?_⟩
    · rintro i x0 s' hi ⟨ys, t, x1, x2, rfl, hy, ht, hl, hb⟩
      have hi2 : i < k.toNat := by
        have := (List.getElem?_eq_some_iff.mp hi).1
        simpa [rangeD] using this
      k_fill
      refine ⟨ys, rfl, hy, fun x zs hz hx => ?_⟩
      k_fill
      have fin : ∀ (c : Int) (us : List D), (∀ r, t.getLast? = some r → r.1 ≠ x) → IsReel us → 0 ≤ c → c < longest →
          ∃ (ys : List D) (t' : Txt) (a b : Option D), [Sl.own true us, .d (.int many), .d (.int longest), .own false (t.map runD ++ [.tup [.str x, .int (1 + c)]]), .d x0, .d (.str x)] = [Sl.own true ys, .d (.int many), .d (.int longest), .own false (t'.map runD), so a, so b] ∧
            IsReel ys ∧ validT t' = true ∧ t'.length ≤ i + 1 ∧ ∀ r ∈ t', r.2 ≤ longest := by
        intro c us hne hu c0 c1
        refine ⟨us, t ++ [(x, 1 + c)], some x0, some (.str x), by rw [List.map_append]; rfl, hu, valid_snoc ht hx (by omega) hne, by simp; exact hl, ?_⟩
        intro r hr
        simp only [List.mem_append, List.mem_singleton] at hr
        rcases hr with hr | rfl
        · exact hb r hr
        · show 1 + c ≤ longest
          omega
      have room : (t.map runD).length < 16777216 := by rw [List.length_map]; omega
      refine eqD_nil (pys_runs _) (shaped_runs ht) ?_
      k_fill
      rcases last_runs t with ⟨rfl, e⟩ | ⟨t', r, rfl, e⟩
      · rw [e]
        k_fill
        split
        · refine ⟨zs, longest, rfl, hz, by omega, by omega, fun c us hu c0 c1 => ?_⟩
          k_fill
          exact ⟨by decide, fin c us (fun r hr => by cases hr) hu c0 c1⟩
        · refine ⟨zs, 3, rfl, hz, by decide, by decide +kernel, fun c us hu c0 c1 => ?_⟩
          k_fill
          exact ⟨by decide, fin c us (fun r hr => by cases hr) hu c0 (by omega)⟩
      · have ne : (List.isEmpty (List.map runD (t' ++ [r]))) = false := by rw [e]; simp
        rw [ne]
        k_fill
        rw [e]
        refine pick_last ?_
        refine run_0 (r := r) (show IsRun (runD r) r from rfl) ?_
        k_fill
        rw [e] at fin room
        by_cases h : r.1 = x
        · rw [if_neg (by simp [h])]
          exact ⟨zs, t' ++ [r], some x0, some (.str x), by rw [e]; rfl, hz, ht, by omega, hb⟩
        · rw [if_pos (by simp [h])]
          have hne : ∀ q, (t' ++ [r]).getLast? = some q → q.1 ≠ x := fun q hq => by
            simp at hq
            subst hq
            exact h
          split
          · refine ⟨zs, longest, rfl, hz, by omega, by omega, fun c us hu c0 c1 => ?_⟩
            k_fill
            exact ⟨room, fin c us hne hu c0 c1⟩
          · refine ⟨zs, 3, rfl, hz, by decide, by decide +kernel, fun c us hu c0 c1 => ?_⟩
            k_fill
            exact ⟨room, fin c us hne hu c0 (by omega)⟩
    · rintro s' ⟨ys, t, x1, x2, rfl, hy, ht, hl, hb⟩
      k_fill
      refine hp t ys hy ht ?_ hb
      have : (rangeD 0 k.toNat).length = k.toNat := by simp [rangeD]
      omega
end
end K54
namespace K54
open PySem L2 DL
local macro_rules
  | `(tactic| k_fill) => `(tactic| simp only [DL.wSeq, DL.wIfS, DL.wRet, DL.wRetO, DL.wRetN, DL.wSet, DL.wSetO, DL.wAsg, DL.wDrop, DL.wIf, DL.wIfO, DL.wVar, DL.wVarO, DL.wC, DL.wSh, DL.wOp, DL.wOpO, DL.wUn, DL.wTest, DL.wAnd, DL.wOr, DL.wNot, DL.wAndV, DL.wOrV, DL.wNotV, DL.waNil, DL.waCons, DL.waOwn', DL.wTup, DL.wLst, DL.allD, DL.wCall, DL.wCallO, DL.wCB, DL.wCBO, DL.wCBo, DL.wIsi, DL.wChain, DL.wAppend, DL.wPut, DL.wAug, DL.wsNil, DL.wBreak, DL.wCont, DL.wNever, DL.wIxO, DL.wOpL, DL.wSlL, DL.wSlS, DL.wSlT, DL.wpN, DL.wpS, DL.wTupOf, DL.wgName, DL.wgTup, DL.wgNil, DL.wgCons, DL.wiA, DL.wiL, DL.wiT, DL.wiS, DL.wiR1, DL.wiR2, DL.wiZip, DL.wiEnum, DL.ownL, DL.isOwn, DL.nth, DL.put, DL.q_isIo, DL.q_ioNo, DL.q_ioD, DL.q_ioF, DL.q_ioT, DL.q_ioSo, DL.wYes, DL.agD, DL.ownR, DL.updAm, DL.toAg, DL.amsOk, DL.ownB, DL.wipeS, DL.ioFree, DL.oIsN, DL.oIsNot, DL.isNonD, DL.tyD, DL.endsD, DL.initS, DL.agS, DL.outs, List.map_cons, List.map_nil, List.cons_append, List.nil_append, List.append_nil, List.length_cons, List.length_nil, List.replicate, DL.ib_n_i, DL.ib_b_i, DL.ib_i_i, DL.ib_s_i, DL.ib_l_i, DL.ib_t_i, DL.ib_n_b, DL.ib_b_b, DL.ib_i_b, DL.ib_s_b, DL.ib_l_b, DL.ib_t_b, DL.ib_n_s, DL.ib_b_s, DL.ib_i_s, DL.ib_s_s, DL.ib_l_s, DL.ib_t_s, DL.ib_n_lt, DL.ib_b_lt, DL.ib_i_lt, DL.ib_s_lt, DL.ib_l_lt, DL.ib_t_lt, Bool.not_true, Bool.not_false, Bool.false_eq_true, if_true, if_false, reduceIte, true_and, and_true, List.contains_nil, Bool.and_self, Bool.true_and, Bool.and_true, List.all_cons, List.all_nil, Nat.reduceAdd, Nat.reduceSub, Nat.zero_add, DL.q_oAdd, DL.q_oSub, DL.q_oMul, DL.q_oFdiv, DL.q_oMod, DL.q_oPow, DL.q_oShr, DL.q_oLt, DL.q_oLe, DL.q_oGt, DL.q_oGe, DL.q_oNeg, DL.q_oAddS, DL.q_oLeS, DL.q_oLtS, DL.q_oCat, DL.q_oRepL, DL.q_oIx_lst, DL.q_oIx_rd, DL.q_oIx_tup, DL.q_bLen_lst, DL.q_bLen_rd, DL.q_bLen_tup, DL.q_bLen_str, DL.q_bMax2, DL.q_bMin2, DL.q_bInt, DL.q_bIntB, DL.q_bOrd, DL.q_bAbs, DL.q_bStrI, DL.q_bList_lst, DL.q_bList_rd, DL.q_bList_tup, DL.q_asB, DL.q_asA_lst, DL.q_asA_rd, DL.q_asA_tup, DL.q_asL_lst, DL.q_asL_rd, DL.q_asT, DL.q_asS, DL.q_oEq_ii, DL.q_oNe_ii, DL.q_oEq_is, DL.q_oNe_is, DL.q_oEq_in, DL.q_oNe_in, DL.q_oEq_si, DL.q_oNe_si, DL.q_oEq_ss, DL.q_oNe_ss, DL.q_oEq_sb, DL.q_oNe_sb, DL.q_oEq_sn, DL.q_oNe_sn, DL.q_oEq_bs, DL.q_oNe_bs, DL.q_oEq_bb, DL.q_oNe_bb, DL.q_oEq_bn, DL.q_oNe_bn, DL.q_oEq_ni, DL.q_oNe_ni, DL.q_oEq_ns, DL.q_oNe_ns, DL.q_oEq_nb, DL.q_oNe_nb, DL.q_oEq_nn, DL.q_oNe_nn, DL.q_pick0, DL.q_pick1, DL.q_pick2, DL.q_pick3, DL.q_pick4, DL.q_ix40, DL.q_ix41, DL.q_ix42, DL.q_ix43, List.set_cons_zero, List.set_cons_succ, Nat.zero_le, Nat.reduceLeDiff, DL.q_cp_2_64, DL.q_cp_2_63, DL.q_cp_2_41, DL.q_cp_10_18, DL.q_cp_17_29, DL.q_cp_10_60, DL.q_cp_10_17, DL.q_cp_10_19, DL.q_cp_10_79, DL.q_cm_2, DL.q_M, DL.q_posM, List.isEmpty_cons, List.isEmpty_nil, DL.wJoin, DL.joinD, DL.q_oRepS, DL.q_bListS, decide_true, decide_false, DL.wMake, DL.wFld, DL.waMeth, DL.wSplit, DL.wIndexS, DL.wAugC, DL.q_scI, DL.q_scS, DL.q_scB, DL.q_scN, DL.q_oNotInS, DL.q_oInS, DL.q_bIntS, DL.wPar])
local macro_rules
  | `(tactic| w_left) => `(tactic| try simp only [DL.wIfS, DL.wRet, DL.wRetO, DL.wRetN, DL.wSet, DL.wSetO, DL.wAsg, DL.wDrop, DL.wIf, DL.wIfO, DL.wVar, DL.wVarO, DL.wC, DL.wSh, DL.wOp, DL.wOpO, DL.wUn, DL.wTest, DL.wAnd, DL.wOr, DL.wNot, DL.wAndV, DL.wOrV, DL.wNotV, DL.waNil, DL.waCons, DL.waOwn', DL.wTup, DL.wLst, DL.allD, DL.wCall, DL.wCallO, DL.wCB, DL.wCBO, DL.wCBo, DL.wIsi, DL.wChain, DL.wAppend, DL.wPut, DL.wAug, DL.wsNil, DL.wBreak, DL.wCont, DL.wNever, DL.wIxO, DL.wOpL, DL.wSlL, DL.wSlS, DL.wSlT, DL.wpN, DL.wpS, DL.wTupOf, DL.wgName, DL.wgTup, DL.wgNil, DL.wgCons, DL.wiA, DL.wiL, DL.wiT, DL.wiS, DL.wiR1, DL.wiR2, DL.wiZip, DL.wiEnum, DL.ownL, DL.isOwn, DL.nth, DL.put, DL.q_isIo, DL.q_ioNo, DL.q_ioD, DL.q_ioF, DL.q_ioT, DL.q_ioSo, DL.wYes, DL.agD, DL.ownR, DL.updAm, DL.toAg, DL.amsOk, DL.ownB, DL.wipeS, DL.ioFree, DL.oIsN, DL.oIsNot, DL.isNonD, DL.tyD, DL.endsD, DL.initS, DL.agS, DL.outs, List.map_cons, List.map_nil, List.cons_append, List.nil_append, List.append_nil, List.length_cons, List.length_nil, List.replicate, DL.ib_n_i, DL.ib_b_i, DL.ib_i_i, DL.ib_s_i, DL.ib_l_i, DL.ib_t_i, DL.ib_n_b, DL.ib_b_b, DL.ib_i_b, DL.ib_s_b, DL.ib_l_b, DL.ib_t_b, DL.ib_n_s, DL.ib_b_s, DL.ib_i_s, DL.ib_s_s, DL.ib_l_s, DL.ib_t_s, DL.ib_n_lt, DL.ib_b_lt, DL.ib_i_lt, DL.ib_s_lt, DL.ib_l_lt, DL.ib_t_lt, Bool.not_true, Bool.not_false, Bool.false_eq_true, if_true, if_false, reduceIte, true_and, and_true, List.contains_nil, Bool.and_self, Bool.true_and, Bool.and_true, List.all_cons, List.all_nil, Nat.reduceAdd, Nat.reduceSub, Nat.zero_add, DL.q_oAdd, DL.q_oSub, DL.q_oMul, DL.q_oFdiv, DL.q_oMod, DL.q_oPow, DL.q_oShr, DL.q_oLt, DL.q_oLe, DL.q_oGt, DL.q_oGe, DL.q_oNeg, DL.q_oAddS, DL.q_oLeS, DL.q_oLtS, DL.q_oCat, DL.q_oRepL, DL.q_oIx_lst, DL.q_oIx_rd, DL.q_oIx_tup, DL.q_bLen_lst, DL.q_bLen_rd, DL.q_bLen_tup, DL.q_bLen_str, DL.q_bMax2, DL.q_bMin2, DL.q_bInt, DL.q_bIntB, DL.q_bOrd, DL.q_bAbs, DL.q_bStrI, DL.q_bList_lst, DL.q_bList_rd, DL.q_bList_tup, DL.q_asB, DL.q_asA_lst, DL.q_asA_rd, DL.q_asA_tup, DL.q_asL_lst, DL.q_asL_rd, DL.q_asT, DL.q_asS, DL.q_oEq_ii, DL.q_oNe_ii, DL.q_oEq_is, DL.q_oNe_is, DL.q_oEq_in, DL.q_oNe_in, DL.q_oEq_si, DL.q_oNe_si, DL.q_oEq_ss, DL.q_oNe_ss, DL.q_oEq_sb, DL.q_oNe_sb, DL.q_oEq_sn, DL.q_oNe_sn, DL.q_oEq_bs, DL.q_oNe_bs, DL.q_oEq_bb, DL.q_oNe_bb, DL.q_oEq_bn, DL.q_oNe_bn, DL.q_oEq_ni, DL.q_oNe_ni, DL.q_oEq_ns, DL.q_oNe_ns, DL.q_oEq_nb, DL.q_oNe_nb, DL.q_oEq_nn, DL.q_oNe_nn, DL.q_pick0, DL.q_pick1, DL.q_pick2, DL.q_pick3, DL.q_pick4, DL.q_ix40, DL.q_ix41, DL.q_ix42, DL.q_ix43, List.set_cons_zero, List.set_cons_succ, Nat.zero_le, Nat.reduceLeDiff, DL.q_cp_2_64, DL.q_cp_2_63, DL.q_cp_2_41, DL.q_cp_10_18, DL.q_cp_17_29, DL.q_cp_10_60, DL.q_cp_10_17, DL.q_cp_10_19, DL.q_cp_10_79, DL.q_cm_2, DL.q_M, DL.q_posM, List.isEmpty_cons, List.isEmpty_nil, DL.wJoin, DL.joinD, DL.q_oRepS, DL.q_bListS, decide_true, decide_false, DL.wMake, DL.wFld, DL.waMeth, DL.wSplit, DL.wIndexS, DL.wAugC, DL.q_scI, DL.q_scS, DL.q_scB, DL.q_scN, DL.q_oNotInS, DL.q_oInS, DL.q_bIntS, DL.wPar])
local macro_rules
  | `(tactic| w_fin) => `(tactic| (with_reducible refine DL.seq_ ?_; w_left))
section
variable {P : Program} {w : World} {K : PySem.W.Frag} {mg : Str → Option Value} {base : Heap}
theorem ok__law_dressed (T : Tx K mg) : ∀ n, FnOk P w K mg base CX0 (n + 2) (He.ga K "_law_dressed") T.fd__law_dressed ["_law_reel_here", "_law_value"] (spD K (F__law_dressed n))
  | 0 => by
    refine fnD T.F__law_dressed sc__law_dressed ?_ (by decide) (fun cdv A outer s H E hr => (sd_cons (sd_if (pq_not (pq_val (px_isi2 (cn := "list") (dn := "tuple") T.m_isinstance (px_var 1) T.m_list (by decide +kernel) T.m_tuple (by decide +kernel))))
      (sd_one (sd_ret (px_var 1)))
      sd_nil)
    (sd_cons sd_never
    (sd_one sd_never)))) ?_
    · rintro ags Q ⟨xs, v, rfl, _⟩; rfl
    · rintro ags Q ⟨xs, v, rfl, hx, hd, hp⟩
      cases hd with
      | int i => k_fill; exact hp _ _ hx (.int i)
      | str x => k_fill; exact hp _ _ hx (.str x)
  | n + 1 => by
    have Hrec := ok__law_dressed T n
    rw [show n + 1 + 2 = (n + 2) + 1 by omega]
    refine fnD T.F__law_dressed sc__law_dressed ?_ (by decide) (fun cdv A outer s H E hr => (sd_cons (sd_if (pq_not (pq_val (px_isi2 (cn := "list") (dn := "tuple") T.m_isinstance (px_var 1) T.m_list (by decide +kernel) T.m_tuple (by decide +kernel))))
      (sd_one (sd_ret (px_var 1)))
      sd_nil)
    (sd_cons (sd_lc 3 (own := [("_law_part", 2)]) rfl sc__law_dressed.nd (pi_a (px_var 1)) (show blkC ["_law_reel_here", "_law_value", "_law_part", "_law_parts"] (defScope s__law_dressed) _ _ = true by decide +kernel) (fun _ _ _ _ _ => (pg_nm 2 sc__law_dressed.nd)) (fun _ _ _ _ _ => pq_nil) (fun _ _ _ _ _ => (px_call (dvs := []) (dv := []) Hrec (hr.mono (by first | decide | omega)) T.g__law_dressed T.F__law_dressed.kp T.b__law_dressed .nil (fun _ => rfl) (pa_o 0 (pa_c (px_var 2) pa_n)))) (sw_true rfl rfl rfl (by decide +kernel)))
    (sd_one (sd_ret (px_if (pq_eq (px_call (dvs := []) (dv := []) (ok__law_draw T) (hr.mono (by first | decide | omega)) T.g__law_draw T.F__law_draw.kp T.b__law_draw .nil (fun _ => rfl) (pa_o 0 (pa_c px_int pa_n))) px_int) (px_var 3) (px_tupOf T.m_tuple (pa_c (px_var 3) pa_n)))))))) ?_

    · rintro ags Q ⟨xs, v, rfl, _⟩; rfl
    · rintro ags Q ⟨xs, v, rfl, hx, hd, hp⟩
      cases hd with
      | int i => k_fill; exact hp _ _ hx (.int i)
      | str x => k_fill; exact hp _ _ hx (.str x)
      | lst hv hz hall =>
        rename_i vs
        rcases hv with rfl | rfl
        all_goals
          k_fill
          refine lc_of vs (fun P hP => by k_fill; exact hP) (by k_fill) (fun i acc s => ∃ ys, s = [.own true ys, .d _, .no, .no] ∧ IsReel ys ∧ acc.length = i ∧ ∀ (j : Nat) x y, vs[j]? = some x → acc[j]? = some y → Drs x y) ⟨xs, rfl, hx, rfl, fun j x y _ e => by simp at e⟩ ?_ ?_
          · rintro i x acc s' hi ⟨ys, rfl, hy, hl, ha⟩
            k_fill
            refine ⟨ys, x, rfl, hy, hall x (List.mem_of_getElem? hi), fun w zs hw hdr => ?_⟩
            k_fill
            have hb := (List.getElem?_eq_some_iff.mp hi).1
            refine ⟨by omega, zs, rfl, hw, by simp [hl], fun j a b e1 e2 => ?_⟩
            by_cases hj : j < acc.length
            · rw [List.getElem?_append_left hj] at e2
              exact ha j a b e1 e2
            · rw [List.getElem?_append_right (by omega)] at e2
              have hj2 : j = i := by
                have := (List.getElem?_eq_some_iff.mp e2).1
                simp at this
                omega
              subst hj2
              rw [hi] at e1
              cases e1
              rw [hl] at e2
              simp at e2
              subst e2
              exact hdr
          · rintro acc s' ⟨ys, rfl, hy, hl, ha⟩
            k_fill
            refine ⟨ys, 2, rfl, hy, by decide, by decide +kernel, fun c us hu c0 c1 => ?_⟩
            k_fill
            by_cases h : c = 0
            · rw [if_pos (decide_eq_true h)]
              exact hp _ _ hu (.lst rfl rfl hl.symm ha)
            · rw [if_neg (by simpa using h)]
              exact hp _ _ hu (.lst rfl rfl hl.symm ha)
end
end K54
namespace K54
open PySem L2 DL
local macro_rules
  | `(tactic| k_fill) => `(tactic| simp only [DL.wSeq, DL.wIfS, DL.wRet, DL.wRetO, DL.wRetN, DL.wSet, DL.wSetO, DL.wAsg, DL.wDrop, DL.wIf, DL.wIfO, DL.wVar, DL.wVarO, DL.wC, DL.wSh, DL.wOp, DL.wOpO, DL.wUn, DL.wTest, DL.wAnd, DL.wOr, DL.wNot, DL.wAndV, DL.wOrV, DL.wNotV, DL.waNil, DL.waCons, DL.waOwn', DL.wTup, DL.wLst, DL.allD, DL.wCall, DL.wCallO, DL.wCB, DL.wCBO, DL.wCBo, DL.wIsi, DL.wChain, DL.wAppend, DL.wPut, DL.wAug, DL.wsNil, DL.wBreak, DL.wCont, DL.wNever, DL.wIxO, DL.wOpL, DL.wSlL, DL.wSlS, DL.wSlT, DL.wpN, DL.wpS, DL.wTupOf, DL.wgName, DL.wgTup, DL.wgNil, DL.wgCons, DL.wiA, DL.wiL, DL.wiT, DL.wiS, DL.wiR1, DL.wiR2, DL.wiZip, DL.wiEnum, DL.ownL, DL.isOwn, DL.nth, DL.put, DL.q_isIo, DL.q_ioNo, DL.q_ioD, DL.q_ioF, DL.q_ioT, DL.q_ioSo, DL.wYes, DL.agD, DL.ownR, DL.updAm, DL.toAg, DL.amsOk, DL.ownB, DL.wipeS, DL.ioFree, DL.oIsN, DL.oIsNot, DL.isNonD, DL.tyD, DL.endsD, DL.initS, DL.agS, DL.outs, List.map_cons, List.map_nil, List.cons_append, List.nil_append, List.append_nil, List.length_cons, List.length_nil, List.replicate, DL.ib_n_i, DL.ib_b_i, DL.ib_i_i, DL.ib_s_i, DL.ib_l_i, DL.ib_t_i, DL.ib_n_b, DL.ib_b_b, DL.ib_i_b, DL.ib_s_b, DL.ib_l_b, DL.ib_t_b, DL.ib_n_s, DL.ib_b_s, DL.ib_i_s, DL.ib_s_s, DL.ib_l_s, DL.ib_t_s, DL.ib_n_lt, DL.ib_b_lt, DL.ib_i_lt, DL.ib_s_lt, DL.ib_l_lt, DL.ib_t_lt, Bool.not_true, Bool.not_false, Bool.false_eq_true, if_true, if_false, reduceIte, true_and, and_true, List.contains_nil, Bool.and_self, Bool.true_and, Bool.and_true, List.all_cons, List.all_nil, Nat.reduceAdd, Nat.reduceSub, Nat.zero_add, DL.q_oAdd, DL.q_oSub, DL.q_oMul, DL.q_oFdiv, DL.q_oMod, DL.q_oPow, DL.q_oShr, DL.q_oLt, DL.q_oLe, DL.q_oGt, DL.q_oGe, DL.q_oNeg, DL.q_oAddS, DL.q_oLeS, DL.q_oLtS, DL.q_oCat, DL.q_oRepL, DL.q_oIx_lst, DL.q_oIx_rd, DL.q_oIx_tup, DL.q_bLen_lst, DL.q_bLen_rd, DL.q_bLen_tup, DL.q_bLen_str, DL.q_bMax2, DL.q_bMin2, DL.q_bInt, DL.q_bIntB, DL.q_bOrd, DL.q_bAbs, DL.q_bStrI, DL.q_bList_lst, DL.q_bList_rd, DL.q_bList_tup, DL.q_asB, DL.q_asA_lst, DL.q_asA_rd, DL.q_asA_tup, DL.q_asL_lst, DL.q_asL_rd, DL.q_asT, DL.q_asS, DL.q_oEq_ii, DL.q_oNe_ii, DL.q_oEq_is, DL.q_oNe_is, DL.q_oEq_in, DL.q_oNe_in, DL.q_oEq_si, DL.q_oNe_si, DL.q_oEq_ss, DL.q_oNe_ss, DL.q_oEq_sb, DL.q_oNe_sb, DL.q_oEq_sn, DL.q_oNe_sn, DL.q_oEq_bs, DL.q_oNe_bs, DL.q_oEq_bb, DL.q_oNe_bb, DL.q_oEq_bn, DL.q_oNe_bn, DL.q_oEq_ni, DL.q_oNe_ni, DL.q_oEq_ns, DL.q_oNe_ns, DL.q_oEq_nb, DL.q_oNe_nb, DL.q_oEq_nn, DL.q_oNe_nn, DL.q_pick0, DL.q_pick1, DL.q_pick2, DL.q_pick3, DL.q_pick4, DL.q_ix40, DL.q_ix41, DL.q_ix42, DL.q_ix43, List.set_cons_zero, List.set_cons_succ, Nat.zero_le, Nat.reduceLeDiff, DL.q_cp_2_64, DL.q_cp_2_63, DL.q_cp_2_41, DL.q_cp_10_18, DL.q_cp_17_29, DL.q_cp_10_60, DL.q_cp_10_17, DL.q_cp_10_19, DL.q_cp_10_79, DL.q_cm_2, DL.q_M, DL.q_posM, List.isEmpty_cons, List.isEmpty_nil, DL.wJoin, DL.joinD, DL.q_oRepS, DL.q_bListS, decide_true, decide_false, DL.wMake, DL.wFld, DL.waMeth, DL.wSplit, DL.wIndexS, DL.wAugC, DL.q_scI, DL.q_scS, DL.q_scB, DL.q_scN, DL.q_oNotInS, DL.q_oInS, DL.q_bIntS, DL.wPar, DL.q_fst, DL.q_fsy, DL.q_fsz, DL.q_fqu, DL.q_fmn, DL.q_ois])
local macro_rules
  | `(tactic| w_left) => `(tactic| try simp only [DL.wIfS, DL.wRet, DL.wRetO, DL.wRetN, DL.wSet, DL.wSetO, DL.wAsg, DL.wDrop, DL.wIf, DL.wIfO, DL.wVar, DL.wVarO, DL.wC, DL.wSh, DL.wOp, DL.wOpO, DL.wUn, DL.wTest, DL.wAnd, DL.wOr, DL.wNot, DL.wAndV, DL.wOrV, DL.wNotV, DL.waNil, DL.waCons, DL.waOwn', DL.wTup, DL.wLst, DL.allD, DL.wCall, DL.wCallO, DL.wCB, DL.wCBO, DL.wCBo, DL.wIsi, DL.wChain, DL.wAppend, DL.wPut, DL.wAug, DL.wsNil, DL.wBreak, DL.wCont, DL.wNever, DL.wIxO, DL.wOpL, DL.wSlL, DL.wSlS, DL.wSlT, DL.wpN, DL.wpS, DL.wTupOf, DL.wgName, DL.wgTup, DL.wgNil, DL.wgCons, DL.wiA, DL.wiL, DL.wiT, DL.wiS, DL.wiR1, DL.wiR2, DL.wiZip, DL.wiEnum, DL.ownL, DL.isOwn, DL.nth, DL.put, DL.q_isIo, DL.q_ioNo, DL.q_ioD, DL.q_ioF, DL.q_ioT, DL.q_ioSo, DL.wYes, DL.agD, DL.ownR, DL.updAm, DL.toAg, DL.amsOk, DL.ownB, DL.wipeS, DL.ioFree, DL.oIsN, DL.oIsNot, DL.isNonD, DL.tyD, DL.endsD, DL.initS, DL.agS, DL.outs, List.map_cons, List.map_nil, List.cons_append, List.nil_append, List.append_nil, List.length_cons, List.length_nil, List.replicate, DL.ib_n_i, DL.ib_b_i, DL.ib_i_i, DL.ib_s_i, DL.ib_l_i, DL.ib_t_i, DL.ib_n_b, DL.ib_b_b, DL.ib_i_b, DL.ib_s_b, DL.ib_l_b, DL.ib_t_b, DL.ib_n_s, DL.ib_b_s, DL.ib_i_s, DL.ib_s_s, DL.ib_l_s, DL.ib_t_s, DL.ib_n_lt, DL.ib_b_lt, DL.ib_i_lt, DL.ib_s_lt, DL.ib_l_lt, DL.ib_t_lt, Bool.not_true, Bool.not_false, Bool.false_eq_true, if_true, if_false, reduceIte, true_and, and_true, List.contains_nil, Bool.and_self, Bool.true_and, Bool.and_true, List.all_cons, List.all_nil, Nat.reduceAdd, Nat.reduceSub, Nat.zero_add, DL.q_oAdd, DL.q_oSub, DL.q_oMul, DL.q_oFdiv, DL.q_oMod, DL.q_oPow, DL.q_oShr, DL.q_oLt, DL.q_oLe, DL.q_oGt, DL.q_oGe, DL.q_oNeg, DL.q_oAddS, DL.q_oLeS, DL.q_oLtS, DL.q_oCat, DL.q_oRepL, DL.q_oIx_lst, DL.q_oIx_rd, DL.q_oIx_tup, DL.q_bLen_lst, DL.q_bLen_rd, DL.q_bLen_tup, DL.q_bLen_str, DL.q_bMax2, DL.q_bMin2, DL.q_bInt, DL.q_bIntB, DL.q_bOrd, DL.q_bAbs, DL.q_bStrI, DL.q_bList_lst, DL.q_bList_rd, DL.q_bList_tup, DL.q_asB, DL.q_asA_lst, DL.q_asA_rd, DL.q_asA_tup, DL.q_asL_lst, DL.q_asL_rd, DL.q_asT, DL.q_asS, DL.q_oEq_ii, DL.q_oNe_ii, DL.q_oEq_is, DL.q_oNe_is, DL.q_oEq_in, DL.q_oNe_in, DL.q_oEq_si, DL.q_oNe_si, DL.q_oEq_ss, DL.q_oNe_ss, DL.q_oEq_sb, DL.q_oNe_sb, DL.q_oEq_sn, DL.q_oNe_sn, DL.q_oEq_bs, DL.q_oNe_bs, DL.q_oEq_bb, DL.q_oNe_bb, DL.q_oEq_bn, DL.q_oNe_bn, DL.q_oEq_ni, DL.q_oNe_ni, DL.q_oEq_ns, DL.q_oNe_ns, DL.q_oEq_nb, DL.q_oNe_nb, DL.q_oEq_nn, DL.q_oNe_nn, DL.q_pick0, DL.q_pick1, DL.q_pick2, DL.q_pick3, DL.q_pick4, DL.q_ix40, DL.q_ix41, DL.q_ix42, DL.q_ix43, List.set_cons_zero, List.set_cons_succ, Nat.zero_le, Nat.reduceLeDiff, DL.q_cp_2_64, DL.q_cp_2_63, DL.q_cp_2_41, DL.q_cp_10_18, DL.q_cp_17_29, DL.q_cp_10_60, DL.q_cp_10_17, DL.q_cp_10_19, DL.q_cp_10_79, DL.q_cm_2, DL.q_M, DL.q_posM, List.isEmpty_cons, List.isEmpty_nil, DL.wJoin, DL.joinD, DL.q_oRepS, DL.q_bListS, decide_true, decide_false, DL.wMake, DL.wFld, DL.waMeth, DL.wSplit, DL.wIndexS, DL.wAugC, DL.q_scI, DL.q_scS, DL.q_scB, DL.q_scN, DL.q_oNotInS, DL.q_oInS, DL.q_bIntS, DL.wPar, DL.q_fst, DL.q_fsy, DL.q_fsz, DL.q_fqu, DL.q_fmn, DL.q_ois])
local macro_rules
  | `(tactic| w_fin) => `(tactic| (with_reducible refine DL.seq_ ?_; w_left))
section
variable {P : Program} {w : World} {K : PySem.W.Frag} {mg : Str → Option Value} {base : Heap}
theorem ok_Part___init__ (T : Tx K mg) : FnOk P w K mg base CX0 1 (He.ma K (He.ga K "Part") "__init__") T.fd_Part___init__ ["self", "start", "symbol", "size", "quoted", "many"] (spInit (He.ga K "Part") ["start", "symbol", "size", "quoted", "many"]) := by
  refine T.F_Part___init__.ok sc_Part___init__ (fun vs H Q E h => ?_) (fun cdv A outer s H vs Q E hr h => ⟨_, PSs.nox (pss_cons (ps_fld (pe_var (i := 0) rfl (Or.inl rfl) (by decide) (by decide)) (pe_var (i := 1) rfl (Or.inl rfl) (by decide) (by decide)) rfl) (pss_cons (ps_fld (pe_var (i := 0) rfl (Or.inl rfl) (by decide) (by decide)) (pe_var (i := 2) rfl (Or.inl rfl) (by decide) (by decide)) rfl) (pss_cons (ps_fld (pe_var (i := 0) rfl (Or.inl rfl) (by decide) (by decide)) (pe_var (i := 3) rfl (Or.inl rfl) (by decide) (by decide)) rfl) (pss_cons (ps_fld (pe_var (i := 0) rfl (Or.inl rfl) (by decide) (by decide)) (pe_var (i := 4) rfl (Or.inl rfl) (by decide) (by decide)) rfl) (pss_one (ps_fld (pe_var (i := 0) rfl (Or.inl rfl) (by decide) (by decide)) (pe_var (i := 5) rfl (Or.inl rfl) (by decide) (by decide)) rfl)))))), ?_⟩)
  · obtain ⟨x, dx, args, rfl, hl, _⟩ := h
    simp [hl]
  · obtain ⟨x, dx, args, rfl, hl, ha, q⟩ := h
    match args, hl with
    | [v1, v2, v3, v4, v5], _ =>
      refine ⟨v1, rfl, .ref x, rfl, x, _, dx, _, rfl, ha, T.k_Part, T.na_Part_start, Nat.lt_of_le_of_lt (Nat.le_refl 0) (by decide), ?_⟩
      refine ⟨v2, rfl, .ref x, rfl, x, _, dx, _, rfl, upd_same, T.k_Part, T.na_Part_symbol, Nat.lt_of_le_of_lt (putF_le (Nat.le_refl 0)) (by decide), ?_⟩
      refine ⟨v3, rfl, .ref x, rfl, x, _, dx, _, rfl, upd_same, T.k_Part, T.na_Part_size, Nat.lt_of_le_of_lt (putF_le (putF_le (Nat.le_refl 0))) (by decide), ?_⟩
      refine ⟨v4, rfl, .ref x, rfl, x, _, dx, _, rfl, upd_same, T.k_Part, T.na_Part_quoted, Nat.lt_of_le_of_lt (putF_le (putF_le (putF_le (Nat.le_refl 0)))) (by decide), ?_⟩
      refine ⟨v5, rfl, .ref x, rfl, x, _, dx, _, rfl, upd_same, T.k_Part, T.na_Part_many, Nat.lt_of_le_of_lt (putF_le (putF_le (putF_le (putF_le (Nat.le_refl 0))))) (by decide), ?_⟩
      rw [upd_upd]
      rw [upd_upd]
      rw [upd_upd]
      rw [upd_upd]
      exact q
theorem ok_Part_is_group (T : Tx K mg) : FnOk P w K mg base CX0 1 (He.ma K (He.ga K "Part") "is_group") T.fd_Part_is_group ["self"] (spD K (F_Part_is_group (He.ga K "Part"))) := by
  refine fnD T.F_Part_is_group sc_Part_is_group ?_ (by decide) (fun cdv A outer s H E hr => (sd_one (sd_ret (px_isN (px_fld T.k_Part T.na_Part_symbol (px_var 0)) px_non)))) ?_
  · rintro ags Q ⟨p, rfl, _⟩; rfl
  · rintro ags Q ⟨p, rfl, hp⟩
    k_fill
    cases e : p.sy <;> (rw [e] at hp; exact hp)
theorem ok_add_group (T : Tx K mg) : FnOk P w K mg base CX0 2 (He.ga K "add_group") T.fd_add_group ["runs", "size", "quoted"] (spD K F_add_group) := by
  refine fnD T.F_add_group sc_add_group ?_ (by decide) (fun cdv A outer s H E hr => (sd_cons (sd_expr (px_call (dvs := []) (dv := []) (ok_add_run T) (hr.mono (by first | decide | omega)) T.g_add_run T.F_add_run.kp T.b_add_run .nil (fun _ => rfl) (pa_o 0 (pa_c (px_globS (Classical.choose_spec T.c_BACKSLASH)) (pa_c (px_sub (px_var 1) (px_ct call_int1 rc_int T.m_int (by decide +kernel) (pa_c (px_var 2) pa_n))) pa_n)))))
    (sd_one (sd_expr (px_call (dvs := []) (dv := []) (ok_add_run T) (hr.mono (by first | decide | omega)) T.g_add_run T.F_add_run.kp T.b_add_run .nil (fun _ => rfl) (pa_o 0 (pa_c (px_globS (Classical.choose_spec T.c_QUOTE)) (pa_c (px_ct call_int1 rc_int T.m_int (by decide +kernel) (pa_c (px_var 2) pa_n)) pa_n)))))))) ?_
  · rintro ags Q ⟨t, n, q, rfl, _⟩; rfl
  · rintro ags Q ⟨t, n, q, rfl, ht, hz, hp⟩
    w_left
    w_fin
    refine ⟨t, bsl, _, rfl, ht, by omega, ?_⟩
    w_left
    have h1 := addR_len t bsl (n - bI q)
    refine ⟨_, dqu, _, rfl, addR_ok ht (by decide +kernel), by show (addR t bsl (n - bI q)).length < 16777216; omega, ?_⟩
    w_left
    exact hp
theorem partsGo_cons (st sl : Int) (x : Option Str) (c : Int) (r : List (Option Str × Int)) : partsGo st sl ((x, c) :: r) = (partStep st sl x c).1 ++ partsGo (st + c) (partStep st sl x c).2 r := rfl
theorem endR_len (t : Txt) : (endR t).length = t.length + 1 := by simp [endR]
theorem opt_at {l : List (Option Str × Int)} {i : Nat} {x : D} (h : (l.map optD)[i]? = some x) : ∃ y c, l[i]? = some (y, c) ∧ x = .tup [symO y, .int c] ∧ l.drop i = (y, c) :: l.drop (i + 1) := by
  rw [List.getElem?_map] at h
  obtain ⟨⟨y, c⟩, h1, rfl⟩ := Option.map_eq_some_iff.mp h
  refine ⟨y, c, h1, rfl, ?_⟩
  have hl := (List.getElem?_eq_some_iff.mp h1)
  rw [List.drop_eq_getElem_cons hl.1, hl.2]
theorem ok_parts_of (T : Tx K mg) : FnOk P w K mg base CX0 3 (He.ga K "parts_of") T.fd_parts_of ["runs"] (spD K (F_parts_of (He.ga K "Part"))) := by
  refine fnD T.F_parts_of sc_parts_of ?_ (by decide) (fun cdv A outer s H E hr => (sd_cons (sd_setO 1 sc_parts_of.nd (po_lst pa_n))
    (sd_cons (sd_set 2 sc_parts_of.nd px_int)
    (sd_cons (sd_set 3 sc_parts_of.nd px_int)
    (sd_cons (sd_for PassesOwn.never rfl (pi_a (PO.x (po_cat (px_var 0) (PO.x (po_lst (pa_c (px_tup (pa_c px_non (pa_c px_int pa_n))) pa_n)))))) (pg_tp (n := 2) rfl (pgs_c (pg_nm 4 sc_parts_of.nd) (pgs_c (pg_nm 5 sc_parts_of.nd) pgs_n)))
      (sd_cons (sd_if (pq_eq (px_var 4) (px_globS (Classical.choose_spec T.c_BACKSLASH)))
      (sd_one (sd_set 3 sc_parts_of.nd (px_var 5)))
      (sd_one (sd_if (pq_eq (px_var 4) (px_globS (Classical.choose_spec T.c_QUOTE)))
      (sd_cons (sd_set 6 sc_parts_of.nd (px_ct call_int1 rc_int T.m_int (by decide +kernel) (pa_c (px_gt (px_var 3) px_int) pa_n)))
    (sd_cons (sd_if (pq_eq (px_var 6) px_int)
      (sd_one (sd_append 1 (px_make T.mk_Part (ok_Part___init__ T) (hr.mono (by first | decide | omega)) T.g_Part T.b_Part___init__ (pa_c (px_sub (px_var 2) (px_var 3)) (pa_c px_non (pa_c (px_add (px_var 3) px_int) (pa_c px_bl (pa_c px_int pa_n))))))))
      sd_nil)
    (sd_cons (sd_if (pq_gt (px_var 5) (px_var 6))
      (sd_one (sd_append 1 (px_make T.mk_Part (ok_Part___init__ T) (hr.mono (by first | decide | omega)) T.g_Part T.b_Part___init__ (pa_c (px_add (px_var 2) (px_var 6)) (pa_c px_non (pa_c px_int (pa_c px_bl (pa_c (px_sub (px_var 5) (px_var 6)) pa_n))))))))
      sd_nil)
    (sd_one (sd_set 3 sc_parts_of.nd px_int)))))
      (sd_cons (sd_if (pq_gt (px_var 3) px_int)
      (sd_one (sd_append 1 (px_make T.mk_Part (ok_Part___init__ T) (hr.mono (by first | decide | omega)) T.g_Part T.b_Part___init__ (pa_c (px_sub (px_var 2) (px_var 3)) (pa_c px_non (pa_c (px_var 3) (pa_c px_bl (pa_c px_int pa_n))))))))
      sd_nil)
    (sd_cons (sd_if (pq_isNot (px_var 4) px_non)
      (sd_one (sd_append 1 (px_make T.mk_Part (ok_Part___init__ T) (hr.mono (by first | decide | omega)) T.g_Part T.b_Part___init__ (pa_c (px_var 2) (pa_c (px_var 4) (pa_c (px_var 5) (pa_c px_bl (pa_c px_int pa_n))))))))
      sd_nil)
    (sd_one (sd_set 3 sc_parts_of.nd px_int)))))))
    (sd_one (sd_aug 2 ip_add sc_parts_of.nd (px_var 5)))))
    (sd_one (sd_retO (po_var 1)))))))) ?_

  · rintro ags Q ⟨t, rfl, _⟩; rfl
  · rintro ags Q ⟨t, rfl, hz, hp⟩
    simp only [txtD]
    w_left
    w_fin
    w_fin
    w_fin
    refine for_of ((endR t).map optD) (fun P hP => by w_left; refine ⟨by rw [List.length_map]; omega, ?_⟩; rw [endR_D]; exact hP)
      (fun i s => ∃ (l : List PartM) (st sl : Int) (a b c : Option D), s = [.d (.lst (t.map runD)), .own false (l.map (partD (He.ga K "Part"))), .d (.int st), .d (.int sl), so a, so b, so c] ∧ l ++ partsGo st sl ((endR t).drop i) = partsT t ∧ l.length ≤ 2 * i)
      ⟨[], 0, 0, none, none, none, rfl, rfl, Nat.le_refl _⟩ ?_ ?_
    · rintro i x s' hi ⟨l, st, sl, a, b, c, rfl, hl, hb⟩
      obtain ⟨y, n, h1, rfl, hd⟩ := opt_at hi
      have hi2 : i < t.length + 1 := by
        have := (List.getElem?_eq_some_iff.mp h1).1
        rwa [endR_len] at this
      rw [hd, partsGo_cons, ← List.append_assoc] at hl
      have hs := step_len st sl y n
      have done : ∀ (c' : Option D), (∃ (l' : List PartM) (st' sl' : Int) (a b c : Option D), ([.d (.lst (t.map runD)), .own false ((l ++ (partStep st sl y n).1).map (partD (He.ga K "Part"))), .d (.int (st + n)), .d (.int (partStep st sl y n).2), .d (symO y), .d (.int n), so c'] : DS) = [.d (.lst (t.map runD)), .own false (l'.map (partD (He.ga K "Part"))), .d (.int st'), .d (.int sl'), so a, so b, so c] ∧ l' ++ partsGo st' sl' ((endR t).drop (i + 1)) = partsT t ∧ l'.length ≤ 2 * (i + 1)) := fun c' =>
        ⟨_, _, _, some _, some _, c', rfl, hl, by rw [List.length_append]; omega⟩
      have room : (l.map (partD (He.ga K "Part"))).length + 2 < 16777216 := by rw [List.length_map]; omega
      cases y with
      | none =>
        simp only [symO] at done ⊢
        w_left
        w_fin
        w_fin
        by_cases h : 0 < sl
        · simp only [partStep, if_pos h, List.map_append, List.map_cons, List.map_nil] at done
          rw [if_pos (decide_eq_true h)]
          refine ⟨by omega, ?_⟩
          w_left
          w_fin
          w_left
          exact done c
        · simp only [partStep, if_neg h, List.append_nil] at done
          rw [if_neg (by simpa using h)]
          w_fin
          w_left
          exact done c
      | some y =>
        simp only [symO] at done ⊢
        w_left
        w_fin
        by_cases h1 : y = bsl
        · simp only [partStep, if_pos h1, List.append_nil] at done
          rw [if_pos (decide_eq_true h1)]
          exact done c
        · rw [if_neg (by simpa using h1)]
          by_cases h2 : y = dqu
          · rw [if_pos (decide_eq_true h2)]
            simp only [partStep, if_neg h1, if_pos h2] at done
            w_fin
            by_cases h : 0 < sl
            · simp only [if_pos h, decide_eq_true h, if_true, List.map_append, List.map_cons, List.map_nil] at done ⊢
              w_fin
              refine ⟨by omega, ?_⟩
              w_left
              w_fin
              by_cases h3 : 1 < n
              · simp only [if_pos h3] at done
                rw [if_pos (decide_eq_true h3)]
                refine ⟨by simp; omega, ?_⟩
                w_left
                have := done (some (.int 1))
                rw [← List.append_assoc] at this
                exact this
              · simp only [if_neg h3, List.append_nil] at done
                rw [if_neg (by simpa using h3)]
                w_left
                exact done (some (.int 1))
            · simp only [if_neg h, decide_eq_false h, Bool.false_eq_true, if_false, List.nil_append, List.append_nil] at done ⊢
              w_fin
              rw [if_neg (by decide)]
              w_fin
              by_cases h3 : 0 < n
              · simp only [if_pos h3, List.map_append, List.map_cons, List.map_nil] at done
                rw [if_pos (decide_eq_true h3)]
                refine ⟨by omega, ?_⟩
                w_left
                exact done (some (.int 0))
              · simp only [if_neg h3, List.append_nil] at done
                rw [if_neg (by simpa using h3)]
                w_left
                exact done (some (.int 0))
          · rw [if_neg (by simpa using h2)]
            simp only [partStep, if_neg h1, if_neg h2, List.map_append, List.map_cons, List.map_nil] at done
            w_fin
            by_cases h : 0 < sl
            · simp only [if_pos h, List.map_cons, List.map_nil] at done
              rw [if_pos (decide_eq_true h)]
              refine ⟨by omega, ?_⟩
              w_left
              w_fin
              refine ⟨by simp; omega, ?_⟩
              w_left
              have := done c
              rw [← List.append_assoc] at this
              exact this
            · simp only [if_neg h, List.map_nil, List.nil_append] at done
              rw [if_neg (by simpa using h)]
              w_fin
              refine ⟨by omega, ?_⟩
              w_left
              exact done c
    · rintro s' ⟨l, st, sl, a, b, c, rfl, hl, hb⟩
      rw [List.length_map, List.drop_length] at hl
      w_left
      simp only [partsGo, List.append_nil] at hl
      rw [hl]
      exact hp
end
end K54
namespace K54
open PySem L2 DL
local macro_rules
  | `(tactic| k_fill) => `(tactic| simp only [DL.wSeq, DL.wIfS, DL.wRet, DL.wRetO, DL.wRetN, DL.wSet, DL.wSetO, DL.wAsg, DL.wDrop, DL.wIf, DL.wIfO, DL.wVar, DL.wVarO, DL.wC, DL.wSh, DL.wOp, DL.wOpO, DL.wUn, DL.wTest, DL.wAnd, DL.wOr, DL.wNot, DL.wAndV, DL.wOrV, DL.wNotV, DL.waNil, DL.waCons, DL.waOwn', DL.wTup, DL.wLst, DL.allD, DL.wCall, DL.wCallO, DL.wCB, DL.wCBO, DL.wCBo, DL.wIsi, DL.wChain, DL.wAppend, DL.wPut, DL.wAug, DL.wsNil, DL.wBreak, DL.wCont, DL.wNever, DL.wIxO, DL.wOpL, DL.wSlL, DL.wSlS, DL.wSlT, DL.wpN, DL.wpS, DL.wTupOf, DL.wgName, DL.wgTup, DL.wgNil, DL.wgCons, DL.wiA, DL.wiL, DL.wiT, DL.wiS, DL.wiR1, DL.wiR2, DL.wiZip, DL.wiEnum, DL.ownL, DL.isOwn, DL.nth, DL.put, DL.q_isIo, DL.q_ioNo, DL.q_ioD, DL.q_ioF, DL.q_ioT, DL.q_ioSo, DL.wYes, DL.agD, DL.ownR, DL.updAm, DL.toAg, DL.amsOk, DL.ownB, DL.wipeS, DL.ioFree, DL.oIsN, DL.oIsNot, DL.isNonD, DL.tyD, DL.endsD, DL.initS, DL.agS, DL.outs, List.map_cons, List.map_nil, List.cons_append, List.nil_append, List.append_nil, List.length_cons, List.length_nil, List.replicate, DL.ib_n_i, DL.ib_b_i, DL.ib_i_i, DL.ib_s_i, DL.ib_l_i, DL.ib_t_i, DL.ib_n_b, DL.ib_b_b, DL.ib_i_b, DL.ib_s_b, DL.ib_l_b, DL.ib_t_b, DL.ib_n_s, DL.ib_b_s, DL.ib_i_s, DL.ib_s_s, DL.ib_l_s, DL.ib_t_s, DL.ib_n_lt, DL.ib_b_lt, DL.ib_i_lt, DL.ib_s_lt, DL.ib_l_lt, DL.ib_t_lt, Bool.not_true, Bool.not_false, Bool.false_eq_true, if_true, if_false, reduceIte, true_and, and_true, List.contains_nil, Bool.and_self, Bool.true_and, Bool.and_true, List.all_cons, List.all_nil, Nat.reduceAdd, Nat.reduceSub, Nat.zero_add, DL.q_oAdd, DL.q_oSub, DL.q_oMul, DL.q_oFdiv, DL.q_oMod, DL.q_oPow, DL.q_oShr, DL.q_oLt, DL.q_oLe, DL.q_oGt, DL.q_oGe, DL.q_oNeg, DL.q_oAddS, DL.q_oLeS, DL.q_oLtS, DL.q_oCat, DL.q_oRepL, DL.q_oIx_lst, DL.q_oIx_rd, DL.q_oIx_tup, DL.q_bLen_lst, DL.q_bLen_rd, DL.q_bLen_tup, DL.q_bLen_str, DL.q_bMax2, DL.q_bMin2, DL.q_bInt, DL.q_bIntB, DL.q_bOrd, DL.q_bAbs, DL.q_bStrI, DL.q_bList_lst, DL.q_bList_rd, DL.q_bList_tup, DL.q_asB, DL.q_asA_lst, DL.q_asA_rd, DL.q_asA_tup, DL.q_asL_lst, DL.q_asL_rd, DL.q_asT, DL.q_asS, DL.q_oEq_ii, DL.q_oNe_ii, DL.q_oEq_is, DL.q_oNe_is, DL.q_oEq_in, DL.q_oNe_in, DL.q_oEq_si, DL.q_oNe_si, DL.q_oEq_ss, DL.q_oNe_ss, DL.q_oEq_sb, DL.q_oNe_sb, DL.q_oEq_sn, DL.q_oNe_sn, DL.q_oEq_bs, DL.q_oNe_bs, DL.q_oEq_bb, DL.q_oNe_bb, DL.q_oEq_bn, DL.q_oNe_bn, DL.q_oEq_ni, DL.q_oNe_ni, DL.q_oEq_ns, DL.q_oNe_ns, DL.q_oEq_nb, DL.q_oNe_nb, DL.q_oEq_nn, DL.q_oNe_nn, DL.q_pick0, DL.q_pick1, DL.q_pick2, DL.q_pick3, DL.q_pick4, DL.q_ix40, DL.q_ix41, DL.q_ix42, DL.q_ix43, List.set_cons_zero, List.set_cons_succ, Nat.zero_le, Nat.reduceLeDiff, DL.q_cp_2_64, DL.q_cp_2_63, DL.q_cp_2_41, DL.q_cp_10_18, DL.q_cp_17_29, DL.q_cp_10_60, DL.q_cp_10_17, DL.q_cp_10_19, DL.q_cp_10_79, DL.q_cm_2, DL.q_M, DL.q_posM, List.isEmpty_cons, List.isEmpty_nil, DL.wJoin, DL.joinD, DL.q_oRepS, DL.q_bListS, decide_true, decide_false, DL.wMake, DL.wFld, DL.waMeth, DL.wSplit, DL.wIndexS, DL.wAugC, DL.q_scI, DL.q_scS, DL.q_scB, DL.q_scN, DL.q_oNotInS, DL.q_oInS, DL.q_bIntS, DL.wPar, DL.q_fst, DL.q_fsy, DL.q_fsz, DL.q_fqu, DL.q_fmn, DL.q_ois])
local macro_rules
  | `(tactic| w_left) => `(tactic| try simp only [DL.wIfS, DL.wRet, DL.wRetO, DL.wRetN, DL.wSet, DL.wSetO, DL.wAsg, DL.wDrop, DL.wIf, DL.wIfO, DL.wVar, DL.wVarO, DL.wC, DL.wSh, DL.wOp, DL.wOpO, DL.wUn, DL.wTest, DL.wAnd, DL.wOr, DL.wNot, DL.wAndV, DL.wOrV, DL.wNotV, DL.waNil, DL.waCons, DL.waOwn', DL.wTup, DL.wLst, DL.allD, DL.wCall, DL.wCallO, DL.wCB, DL.wCBO, DL.wCBo, DL.wIsi, DL.wChain, DL.wAppend, DL.wPut, DL.wAug, DL.wsNil, DL.wBreak, DL.wCont, DL.wNever, DL.wIxO, DL.wOpL, DL.wSlL, DL.wSlS, DL.wSlT, DL.wpN, DL.wpS, DL.wTupOf, DL.wgName, DL.wgTup, DL.wgNil, DL.wgCons, DL.wiA, DL.wiL, DL.wiT, DL.wiS, DL.wiR1, DL.wiR2, DL.wiZip, DL.wiEnum, DL.ownL, DL.isOwn, DL.nth, DL.put, DL.q_isIo, DL.q_ioNo, DL.q_ioD, DL.q_ioF, DL.q_ioT, DL.q_ioSo, DL.wYes, DL.agD, DL.ownR, DL.updAm, DL.toAg, DL.amsOk, DL.ownB, DL.wipeS, DL.ioFree, DL.oIsN, DL.oIsNot, DL.isNonD, DL.tyD, DL.endsD, DL.initS, DL.agS, DL.outs, List.map_cons, List.map_nil, List.cons_append, List.nil_append, List.append_nil, List.length_cons, List.length_nil, List.replicate, DL.ib_n_i, DL.ib_b_i, DL.ib_i_i, DL.ib_s_i, DL.ib_l_i, DL.ib_t_i, DL.ib_n_b, DL.ib_b_b, DL.ib_i_b, DL.ib_s_b, DL.ib_l_b, DL.ib_t_b, DL.ib_n_s, DL.ib_b_s, DL.ib_i_s, DL.ib_s_s, DL.ib_l_s, DL.ib_t_s, DL.ib_n_lt, DL.ib_b_lt, DL.ib_i_lt, DL.ib_s_lt, DL.ib_l_lt, DL.ib_t_lt, Bool.not_true, Bool.not_false, Bool.false_eq_true, if_true, if_false, reduceIte, true_and, and_true, List.contains_nil, Bool.and_self, Bool.true_and, Bool.and_true, List.all_cons, List.all_nil, Nat.reduceAdd, Nat.reduceSub, Nat.zero_add, DL.q_oAdd, DL.q_oSub, DL.q_oMul, DL.q_oFdiv, DL.q_oMod, DL.q_oPow, DL.q_oShr, DL.q_oLt, DL.q_oLe, DL.q_oGt, DL.q_oGe, DL.q_oNeg, DL.q_oAddS, DL.q_oLeS, DL.q_oLtS, DL.q_oCat, DL.q_oRepL, DL.q_oIx_lst, DL.q_oIx_rd, DL.q_oIx_tup, DL.q_bLen_lst, DL.q_bLen_rd, DL.q_bLen_tup, DL.q_bLen_str, DL.q_bMax2, DL.q_bMin2, DL.q_bInt, DL.q_bIntB, DL.q_bOrd, DL.q_bAbs, DL.q_bStrI, DL.q_bList_lst, DL.q_bList_rd, DL.q_bList_tup, DL.q_asB, DL.q_asA_lst, DL.q_asA_rd, DL.q_asA_tup, DL.q_asL_lst, DL.q_asL_rd, DL.q_asT, DL.q_asS, DL.q_oEq_ii, DL.q_oNe_ii, DL.q_oEq_is, DL.q_oNe_is, DL.q_oEq_in, DL.q_oNe_in, DL.q_oEq_si, DL.q_oNe_si, DL.q_oEq_ss, DL.q_oNe_ss, DL.q_oEq_sb, DL.q_oNe_sb, DL.q_oEq_sn, DL.q_oNe_sn, DL.q_oEq_bs, DL.q_oNe_bs, DL.q_oEq_bb, DL.q_oNe_bb, DL.q_oEq_bn, DL.q_oNe_bn, DL.q_oEq_ni, DL.q_oNe_ni, DL.q_oEq_ns, DL.q_oNe_ns, DL.q_oEq_nb, DL.q_oNe_nb, DL.q_oEq_nn, DL.q_oNe_nn, DL.q_pick0, DL.q_pick1, DL.q_pick2, DL.q_pick3, DL.q_pick4, DL.q_ix40, DL.q_ix41, DL.q_ix42, DL.q_ix43, List.set_cons_zero, List.set_cons_succ, Nat.zero_le, Nat.reduceLeDiff, DL.q_cp_2_64, DL.q_cp_2_63, DL.q_cp_2_41, DL.q_cp_10_18, DL.q_cp_17_29, DL.q_cp_10_60, DL.q_cp_10_17, DL.q_cp_10_19, DL.q_cp_10_79, DL.q_cm_2, DL.q_M, DL.q_posM, List.isEmpty_cons, List.isEmpty_nil, DL.wJoin, DL.joinD, DL.q_oRepS, DL.q_bListS, decide_true, decide_false, DL.wMake, DL.wFld, DL.waMeth, DL.wSplit, DL.wIndexS, DL.wAugC, DL.q_scI, DL.q_scS, DL.q_scB, DL.q_scN, DL.q_oNotInS, DL.q_oInS, DL.q_bIntS, DL.wPar, DL.q_fst, DL.q_fsy, DL.q_fsz, DL.q_fqu, DL.q_fmn, DL.q_ois])
local macro_rules
  | `(tactic| w_fin) => `(tactic| (with_reducible refine DL.seq_ ?_; w_left))
section
variable {P : Program} {w : World} {K : PySem.W.Frag} {mg : Str → Option Value} {base : Heap}
theorem mulBig {a b : Int} (h0 : 0 ≤ a) (h1 : a < 2 ^ 600) (h2 : 0 ≤ b) (h3 : b < 2 ^ 600) : CMulU a b := by
  have f : ∀ x : Int, 0 ≤ x → x < 2 ^ 600 → x.natAbs.log2 < 600 := by
    intro x x0 x1
    by_cases z : x.natAbs = 0
    · rw [z]; decide
    · exact (Nat.log2_lt z).mpr (by omega)
  have := f a h0 h1
  have := f b h2 h3
  exact .inr (show a.natAbs.log2 + b.natAbs.log2 < 1000000 by omega)
theorem pow200 {n : Int} (h0 : 0 ≤ n) (h1 : n ≤ 200) : (0 : Int) ≤ 2 ^ n.toNat ∧ (2 : Int) ^ n.toNat < 2 ^ 600 := by
  have e : (2 : Int) ^ n.toNat = ((2 ^ n.toNat : Nat) : Int) := by simp
  have h : 2 ^ n.toNat ≤ 2 ^ 200 := Nat.pow_le_pow_right (by decide) (by omega)
  have h2 : (2 : Nat) ^ 200 < 2 ^ 600 := by decide +kernel
  rw [e]
  refine ⟨Int.natCast_nonneg _, ?_⟩
  have e6 : (2 : Int) ^ 600 = ((2 ^ 600 : Nat) : Int) := by norm_cast
  rw [e6]
  exact Int.ofNat_lt.mpr (Nat.lt_of_le_of_lt h h2)
theorem wgt_take {l : List PartM} {i : Nat} {p : PartM} (h : l[i]? = some p) : wgtP (l.take (i + 1)) = wgtP (l.take i) + partW p := by
  rw [List.take_add_one, h]
  simp [wgtP]
theorem wgt_le {l : List PartM} : ∀ i : Nat, wgtP (l.take i) ≤ wgtP l := by
  induction l with
  | nil => intro i; simp
  | cons p l ih =>
    intro i
    cases i with
    | zero => simp [wgtP]
    | succ i =>
      have := ih i
      simp only [wgtP, List.take_succ_cons, List.map_cons, List.sum_cons] at this ⊢
      omega
theorem part_at {C : Addr} {l : List PartM} {i : Nat} {x : D} (h : (l.map (partD C))[i]? = some x) : ∃ p, l[i]? = some p ∧ x = partD C p := by
  rw [List.getElem?_map] at h
  obtain ⟨p, h1, rfl⟩ := Option.map_eq_some_iff.mp h
  exact ⟨p, h1, rfl⟩
theorem ok_escaped (T : Tx K mg) : FnOk P w K mg base CX0 4 (He.ga K "escaped") T.fd_escaped ["runs", "times"] (spD K (F_escaped (He.ga K "Part"))) := by
  refine fnD T.F_escaped sc_escaped ?_ (by decide) (fun cdv A outer s H E hr => (sd_cons (sd_set 2 sc_escaped.nd (px_call (dvs := []) (dv := []) (ok_power_of_two T) (hr.mono (by first | decide | omega)) T.g_power_of_two T.F_power_of_two.kp T.b_power_of_two .nil (fun _ => rfl) (pa_c (px_var 1) pa_n)))
    (sd_cons (sd_setO 3 sc_escaped.nd (po_lst pa_n))
    (sd_cons (sd_for PassesOwn.never rfl (pi_a (px_call (dvs := []) (dv := []) (ok_parts_of T) (hr.mono (by first | decide | omega)) T.g_parts_of T.F_parts_of.kp T.b_parts_of .nil (fun _ => rfl) (pa_c (px_var 0) pa_n))) (pg_nm 4 sc_escaped.nd)
      (sd_one (sd_if (pq_val (px_meth0 (dvs := []) (dv := []) (px_var 4) T.k_Part T.mt_Part_is_group (ok_Part_is_group T) (hr.mono (by first | decide | omega)) T.b_Part_is_group .nil (fun _ => rfl)))
      (sd_one (sd_for PassesOwn.never rfl (pi_r1 T.m_range (pa_c (px_fld T.k_Part T.na_Part_many (px_var 4)) pa_n)) (pg_nm 5 sc_escaped.nd)
      (sd_one (sd_expr (px_call (dvs := []) (dv := []) (ok_add_group T) (hr.mono (by first | decide | omega)) T.g_add_group T.F_add_group.kp T.b_add_group .nil (fun _ => rfl) (pa_o 3 (pa_c (px_mul (px_fld T.k_Part T.na_Part_size (px_var 4)) (px_var 2)) (pa_c (px_fld T.k_Part T.na_Part_quoted (px_var 4)) pa_n))))))))
      (sd_one (sd_expr (px_call (dvs := []) (dv := []) (ok_add_run T) (hr.mono (by first | decide | omega)) T.g_add_run T.F_add_run.kp T.b_add_run .nil (fun _ => rfl) (pa_o 3 (pa_c (px_fld T.k_Part T.na_Part_symbol (px_var 4)) (pa_c (px_fld T.k_Part T.na_Part_size (px_var 4)) pa_n)))))))))
    (sd_one (sd_retO (po_var 3))))))) ?_

  · rintro ags Q ⟨t, n, rfl, _⟩; rfl
  · rintro ags Q ⟨t, n, rfl, hz, n0, n1, hok, hw, hp⟩
    w_left
    w_fin
    refine ⟨n, rfl, n0, by omega, ?_⟩
    obtain ⟨u0, u1⟩ := pow200 n0 n1
    w_left
    w_fin
    w_fin
    refine for_un ?_
    w_left
    refine ⟨t, rfl, hz, ?_⟩
    w_left
    refine ⟨fun i s => ∃ (f : Txt) (x7 x8 : Option D), s = [.d (txtD t), .d (.int n), .d (.int (2 ^ n.toNat)), .own false (f.map runD), so x7, so x8] ∧ okTx f ∧ f.length ≤ wgtP ((partsT t).take i) ∧ f = ((partsT t).take i).foldl (escStep (2 ^ n.toNat)) [],
      ⟨[], none, none, rfl, (fun r hr => by cases hr), Nat.zero_le _, rfl⟩, ?_, ?_⟩
    · rintro i x s' hi ⟨f, x7, x8, rfl, hf, hl, hfe⟩
      obtain ⟨p, hpa, rfl⟩ := part_at hi
      have hm := List.mem_of_getElem? hpa
      obtain ⟨p0, p1, p2, p3⟩ := hok p hm
      have hw2 := wgt_take hpa
      have hw3 := wgt_le (l := partsT t) (i + 1)
      have st := escStep_ok (u := 2 ^ n.toNat) hf p3
      have e2 : ((partsT t).take (i + 1)).foldl (escStep (2 ^ n.toNat)) [] = escStep (2 ^ n.toNat) f p := by
        rw [List.take_add_one, hpa, List.foldl_append, ← hfe]
        rfl
      w_left
      refine ⟨p, rfl, ?_⟩
      w_left
      cases e : p.sy with
      | none =>
        simp only [Option.isNone_none]
        w_left
        have hwp : partW p = 2 * p.mn.toNat := by unfold partW; rw [e]
        refine for_of (rangeD 0 p.mn.toNat) (fun P hP => by w_left; exact ⟨⟨by omega, by omega⟩, hP⟩)
          (fun j s => ∃ (x8 : Option D), s = [.d (txtD t), .d (.int n), .d (.int (2 ^ n.toNat)), .own false ((rep (fun f => addG f (p.sz * 2 ^ n.toNat) p.qu) j f).map runD), .d (partD (He.ga K "Part") p), so x8] ∧ j ≤ p.mn.toNat) ⟨x8, rfl, Nat.zero_le _⟩ ?_ ?_
        · rintro j y s' hj ⟨x8, rfl, hj2⟩
          have hj3 := (range_at hj).1
          obtain ⟨r1, r2⟩ := rep_ok (n := p.sz * 2 ^ n.toNat) (q := p.qu) j hf
          w_left
          refine ⟨mulBig p0 p1 u0 u1, ?_⟩
          refine ⟨_, _, _, rfl, r1, by omega, ?_⟩
          w_left
          exact ⟨some y, by rw [rep_succ]; rfl, hj3⟩
        · rintro s' ⟨x8, rfl, hj2⟩
          rw [len_range]
          have e3 : escStep (2 ^ n.toNat) f p = rep (fun f => addG f (p.sz * 2 ^ n.toNat) p.qu) p.mn.toNat f := by unfold escStep; rw [e]
          exact ⟨_, some _, x8, rfl, by rw [← e3]; exact st.1, by rw [← e3, hw2]; have := st.2; omega, by rw [e2, e3]⟩
      | some x =>
        simp only [Option.isNone_some, symO]
        w_left
        refine ⟨f, x, p.sz, rfl, hf, by omega, ?_⟩
        w_left
        have e3 : escStep (2 ^ n.toNat) f p = addR f x p.sz := by unfold escStep; rw [e]
        exact ⟨_, some _, x8, rfl, by rw [← e3]; exact st.1, by rw [← e3, hw2]; have := st.2; omega, by rw [e2, e3]⟩
    · rintro s' ⟨f, x7, x8, rfl, hf, hl, hfe⟩
      rw [List.length_map, List.take_length] at hfe
      w_left
      rw [hfe]
      exact hp
theorem ok_escape (T : Tx K mg) : FnOk P w K mg base CX0 5 (He.ga K "escape") T.fd_escape ["text", "times"] (spD K (F_escape (He.ga K "Part"))) := by
  refine fnD T.F_escape sc_escape ?_ (by decide) (fun cdv A outer s H E hr => (sd_cons (sd_set 2 sc_escape.nd (px_call (dvs := []) (dv := []) (ok_checked_text T) (hr.mono (by first | decide | omega)) T.g_checked_text T.F_checked_text.kp T.b_checked_text .nil (fun _ => rfl) (pa_c (px_var 0) pa_n)))
    (sd_cons (sd_expr (px_call (dvs := []) (dv := []) (ok_check_escapes T) (hr.mono (by first | decide | omega)) T.g_check_escapes T.F_check_escapes.kp T.b_check_escapes .nil (fun _ => rfl) (pa_c (px_var 1) pa_n)))
    (sd_one (sd_retO (po_call (dvs := []) (dv := []) (ok_escaped T) (hr.mono (by first | decide | omega)) T.g_escaped T.F_escaped.kp T.b_escaped .nil (fun _ => rfl) (pa_c (px_var 2) (pa_c (px_var 1) pa_n)))))))) ?_
  · rintro ags Q ⟨v, t, n, rfl, _⟩; rfl
  · rintro ags Q ⟨v, t, n, rfl, ht, hz, n0, n1, hok, hw, hp⟩
    w_left
    w_fin
    refine ⟨v, t, rfl, ht, ?_⟩
    w_left
    w_fin
    refine ⟨n, rfl, n0, n1, ?_⟩
    w_left
    refine ⟨t, n, rfl, hz, n0, n1, hok, hw, ?_⟩
    w_left
    exact hp
end
end K54
namespace K54
open PySem L2 DL
local macro_rules
  | `(tactic| k_fill) => `(tactic| simp only [DL.wSeq, DL.wIfS, DL.wRet, DL.wRetO, DL.wRetN, DL.wSet, DL.wSetO, DL.wAsg, DL.wDrop, DL.wIf, DL.wIfO, DL.wVar, DL.wVarO, DL.wC, DL.wSh, DL.wOp, DL.wOpO, DL.wUn, DL.wTest, DL.wAnd, DL.wOr, DL.wNot, DL.wAndV, DL.wOrV, DL.wNotV, DL.waNil, DL.waCons, DL.waOwn', DL.wTup, DL.wLst, DL.allD, DL.wCall, DL.wCallO, DL.wCB, DL.wCBO, DL.wCBo, DL.wIsi, DL.wChain, DL.wAppend, DL.wPut, DL.wAug, DL.wsNil, DL.wBreak, DL.wCont, DL.wNever, DL.wIxO, DL.wOpL, DL.wSlL, DL.wSlS, DL.wSlT, DL.wpN, DL.wpS, DL.wTupOf, DL.wgName, DL.wgTup, DL.wgNil, DL.wgCons, DL.wiA, DL.wiL, DL.wiT, DL.wiS, DL.wiR1, DL.wiR2, DL.wiZip, DL.wiEnum, DL.ownL, DL.isOwn, DL.nth, DL.put, DL.q_isIo, DL.q_ioNo, DL.q_ioD, DL.q_ioF, DL.q_ioT, DL.q_ioSo, DL.wYes, DL.agD, DL.ownR, DL.updAm, DL.toAg, DL.amsOk, DL.ownB, DL.wipeS, DL.ioFree, DL.oIsN, DL.oIsNot, DL.isNonD, DL.tyD, DL.endsD, DL.initS, DL.agS, DL.outs, List.map_cons, List.map_nil, List.cons_append, List.nil_append, List.append_nil, List.length_cons, List.length_nil, List.replicate, DL.ib_n_i, DL.ib_b_i, DL.ib_i_i, DL.ib_s_i, DL.ib_l_i, DL.ib_t_i, DL.ib_n_b, DL.ib_b_b, DL.ib_i_b, DL.ib_s_b, DL.ib_l_b, DL.ib_t_b, DL.ib_n_s, DL.ib_b_s, DL.ib_i_s, DL.ib_s_s, DL.ib_l_s, DL.ib_t_s, DL.ib_n_lt, DL.ib_b_lt, DL.ib_i_lt, DL.ib_s_lt, DL.ib_l_lt, DL.ib_t_lt, Bool.not_true, Bool.not_false, Bool.false_eq_true, if_true, if_false, reduceIte, true_and, and_true, List.contains_nil, Bool.and_self, Bool.true_and, Bool.and_true, List.all_cons, List.all_nil, Nat.reduceAdd, Nat.reduceSub, Nat.zero_add, DL.q_oAdd, DL.q_oSub, DL.q_oMul, DL.q_oFdiv, DL.q_oMod, DL.q_oPow, DL.q_oShr, DL.q_oLt, DL.q_oLe, DL.q_oGt, DL.q_oGe, DL.q_oNeg, DL.q_oAddS, DL.q_oLeS, DL.q_oLtS, DL.q_oCat, DL.q_oRepL, DL.q_oIx_lst, DL.q_oIx_rd, DL.q_oIx_tup, DL.q_bLen_lst, DL.q_bLen_rd, DL.q_bLen_tup, DL.q_bLen_str, DL.q_bMax2, DL.q_bMin2, DL.q_bInt, DL.q_bIntB, DL.q_bOrd, DL.q_bAbs, DL.q_bStrI, DL.q_bList_lst, DL.q_bList_rd, DL.q_bList_tup, DL.q_asB, DL.q_asA_lst, DL.q_asA_rd, DL.q_asA_tup, DL.q_asL_lst, DL.q_asL_rd, DL.q_asT, DL.q_asS, DL.q_oEq_ii, DL.q_oNe_ii, DL.q_oEq_is, DL.q_oNe_is, DL.q_oEq_in, DL.q_oNe_in, DL.q_oEq_si, DL.q_oNe_si, DL.q_oEq_ss, DL.q_oNe_ss, DL.q_oEq_sb, DL.q_oNe_sb, DL.q_oEq_sn, DL.q_oNe_sn, DL.q_oEq_bs, DL.q_oNe_bs, DL.q_oEq_bb, DL.q_oNe_bb, DL.q_oEq_bn, DL.q_oNe_bn, DL.q_oEq_ni, DL.q_oNe_ni, DL.q_oEq_ns, DL.q_oNe_ns, DL.q_oEq_nb, DL.q_oNe_nb, DL.q_oEq_nn, DL.q_oNe_nn, DL.q_pick0, DL.q_pick1, DL.q_pick2, DL.q_pick3, DL.q_pick4, DL.q_ix40, DL.q_ix41, DL.q_ix42, DL.q_ix43, List.set_cons_zero, List.set_cons_succ, Nat.zero_le, Nat.reduceLeDiff, DL.q_cp_2_64, DL.q_cp_2_63, DL.q_cp_2_41, DL.q_cp_10_18, DL.q_cp_17_29, DL.q_cp_10_60, DL.q_cp_10_17, DL.q_cp_10_19, DL.q_cp_10_79, DL.q_cm_2, DL.q_M, DL.q_posM, List.isEmpty_cons, List.isEmpty_nil, DL.wJoin, DL.joinD, DL.q_oRepS, DL.q_bListS, decide_true, decide_false, DL.wMake, DL.wFld, DL.waMeth, DL.wSplit, DL.wIndexS, DL.wAugC, DL.q_scI, DL.q_scS, DL.q_scB, DL.q_scN, DL.q_oNotInS, DL.q_oInS, DL.q_bIntS])
local macro_rules
  | `(tactic| w_left) => `(tactic| try simp only [DL.wIfS, DL.wRet, DL.wRetO, DL.wRetN, DL.wSet, DL.wSetO, DL.wAsg, DL.wDrop, DL.wIf, DL.wIfO, DL.wVar, DL.wVarO, DL.wC, DL.wSh, DL.wOp, DL.wOpO, DL.wUn, DL.wTest, DL.wAnd, DL.wOr, DL.wNot, DL.wAndV, DL.wOrV, DL.wNotV, DL.waNil, DL.waCons, DL.waOwn', DL.wTup, DL.wLst, DL.allD, DL.wCall, DL.wCallO, DL.wCB, DL.wCBO, DL.wCBo, DL.wIsi, DL.wChain, DL.wAppend, DL.wPut, DL.wAug, DL.wsNil, DL.wBreak, DL.wCont, DL.wNever, DL.wIxO, DL.wOpL, DL.wSlL, DL.wSlS, DL.wSlT, DL.wpN, DL.wpS, DL.wTupOf, DL.wgName, DL.wgTup, DL.wgNil, DL.wgCons, DL.wiA, DL.wiL, DL.wiT, DL.wiS, DL.wiR1, DL.wiR2, DL.wiZip, DL.wiEnum, DL.ownL, DL.isOwn, DL.nth, DL.put, DL.q_isIo, DL.q_ioNo, DL.q_ioD, DL.q_ioF, DL.q_ioT, DL.q_ioSo, DL.wYes, DL.agD, DL.ownR, DL.updAm, DL.toAg, DL.amsOk, DL.ownB, DL.wipeS, DL.ioFree, DL.oIsN, DL.oIsNot, DL.isNonD, DL.tyD, DL.endsD, DL.initS, DL.agS, DL.outs, List.map_cons, List.map_nil, List.cons_append, List.nil_append, List.append_nil, List.length_cons, List.length_nil, List.replicate, DL.ib_n_i, DL.ib_b_i, DL.ib_i_i, DL.ib_s_i, DL.ib_l_i, DL.ib_t_i, DL.ib_n_b, DL.ib_b_b, DL.ib_i_b, DL.ib_s_b, DL.ib_l_b, DL.ib_t_b, DL.ib_n_s, DL.ib_b_s, DL.ib_i_s, DL.ib_s_s, DL.ib_l_s, DL.ib_t_s, DL.ib_n_lt, DL.ib_b_lt, DL.ib_i_lt, DL.ib_s_lt, DL.ib_l_lt, DL.ib_t_lt, Bool.not_true, Bool.not_false, Bool.false_eq_true, if_true, if_false, reduceIte, true_and, and_true, List.contains_nil, Bool.and_self, Bool.true_and, Bool.and_true, List.all_cons, List.all_nil, Nat.reduceAdd, Nat.reduceSub, Nat.zero_add, DL.q_oAdd, DL.q_oSub, DL.q_oMul, DL.q_oFdiv, DL.q_oMod, DL.q_oPow, DL.q_oShr, DL.q_oLt, DL.q_oLe, DL.q_oGt, DL.q_oGe, DL.q_oNeg, DL.q_oAddS, DL.q_oLeS, DL.q_oLtS, DL.q_oCat, DL.q_oRepL, DL.q_oIx_lst, DL.q_oIx_rd, DL.q_oIx_tup, DL.q_bLen_lst, DL.q_bLen_rd, DL.q_bLen_tup, DL.q_bLen_str, DL.q_bMax2, DL.q_bMin2, DL.q_bInt, DL.q_bIntB, DL.q_bOrd, DL.q_bAbs, DL.q_bStrI, DL.q_bList_lst, DL.q_bList_rd, DL.q_bList_tup, DL.q_asB, DL.q_asA_lst, DL.q_asA_rd, DL.q_asA_tup, DL.q_asL_lst, DL.q_asL_rd, DL.q_asT, DL.q_asS, DL.q_oEq_ii, DL.q_oNe_ii, DL.q_oEq_is, DL.q_oNe_is, DL.q_oEq_in, DL.q_oNe_in, DL.q_oEq_si, DL.q_oNe_si, DL.q_oEq_ss, DL.q_oNe_ss, DL.q_oEq_sb, DL.q_oNe_sb, DL.q_oEq_sn, DL.q_oNe_sn, DL.q_oEq_bs, DL.q_oNe_bs, DL.q_oEq_bb, DL.q_oNe_bb, DL.q_oEq_bn, DL.q_oNe_bn, DL.q_oEq_ni, DL.q_oNe_ni, DL.q_oEq_ns, DL.q_oNe_ns, DL.q_oEq_nb, DL.q_oNe_nb, DL.q_oEq_nn, DL.q_oNe_nn, DL.q_pick0, DL.q_pick1, DL.q_pick2, DL.q_pick3, DL.q_pick4, DL.q_ix40, DL.q_ix41, DL.q_ix42, DL.q_ix43, List.set_cons_zero, List.set_cons_succ, Nat.zero_le, Nat.reduceLeDiff, DL.q_cp_2_64, DL.q_cp_2_63, DL.q_cp_2_41, DL.q_cp_10_18, DL.q_cp_17_29, DL.q_cp_10_60, DL.q_cp_10_17, DL.q_cp_10_19, DL.q_cp_10_79, DL.q_cm_2, DL.q_M, DL.q_posM, List.isEmpty_cons, List.isEmpty_nil, DL.wJoin, DL.joinD, DL.q_oRepS, DL.q_bListS, decide_true, decide_false, DL.wMake, DL.wFld, DL.waMeth, DL.wSplit, DL.wIndexS, DL.wAugC, DL.q_scI, DL.q_scS, DL.q_scB, DL.q_scN, DL.q_oNotInS, DL.q_oInS, DL.q_bIntS])
local macro_rules
  | `(tactic| w_fin) => `(tactic| (with_reducible refine DL.seq_ ?_; w_left))
section
variable {P : Program} {w : World} {K : PySem.W.Frag} {mg : Str → Option Value} {base : Heap}
theorem ok_format_text (T : Tx K mg) : FnOk P w K mg base CX0 5 (He.ga K "format_text") T.fd_format_text ["text"] (spD K F_format_text) := by
  refine fnD T.F_format_text sc_format_text ?_ (by decide) (fun cdv A outer s H E hr => (sd_one (sd_ret (px_join px_str (PO.x (po_lc (own := [("symbol", 1), ("count", 2)]) rfl sc_format_text.nd (pi_a (px_call (dvs := []) (dv := []) (ok_checked_text T) (hr.mono (by first | decide | omega)) T.g_checked_text T.F_checked_text.kp T.b_checked_text .nil (fun _ => rfl) (pa_c (px_var 0) pa_n))) (show blkC ["text", "symbol", "count"] (defScope s_format_text) _ _ = true by decide +kernel) (fun _ _ _ _ _ => (pg_tp (n := 2) rfl (pgs_c (pg_nm 1 sc_format_text.nd) (pgs_c (pg_nm 2 sc_format_text.nd) pgs_n)))) (fun _ _ _ _ _ => pq_nil) (fun _ _ _ _ _ => (px_addS (px_addS (px_ct call_str_int rc_strI T.m_str (by decide +kernel) (pa_c (px_cb (call_ord) rc_ord T.m_ord (by decide +kernel) (pa_c (px_var 1) pa_n)) pa_n)) px_str) (px_ct call_str_int rc_strI T.m_str (by decide +kernel) (pa_c (px_var 2) pa_n)))))))))) ?_
  · rintro ags Q ⟨v, t, rfl, _⟩; rfl
  · rintro ags Q ⟨v, t, rfl, ht, hs, hz, hp⟩
    w_left
    refine lc_mapA t runD (fun r => .str (wordR r)) (s1 := [.d v, .no, .no]) (fun P hP => ?_) (by omega) (by w_left) (fun r hr Y hY => ?_) ?_
    · w_left
      exact ⟨v, t, rfl, ht, hP⟩
    · have h0 := valid_sym ht.v hr
      have h1 := valid_pos ht.v hr
      have h2 := hs r hr
      have h3 : r.2.natAbs < 2 ^ 600 := by omega
      have b1 := num_len (code_small h0)
      have b2 := num_len h3
      have b3 : (Str.ofString ":").length = 1 := by decide
      have l1 := log_of (code_small h0)
      have l2 := log_of h3
      simp only [runD]
      w_left
      refine ⟨symS_len h0, by omega, by omega, by omega, by rw [app_len]; omega, ?_⟩
      exact hY _ rfl
    · w_left
      refine ⟨_, strs_map _ t, ?_, ?_⟩
      · have b := sum_le (l := t.map wordR) (B := 1203) fun x hx => by
          obtain ⟨r, hr, rfl⟩ := List.mem_map.mp hx
          have h1 := valid_pos ht.v hr
          have h2 := hs r hr
          exact wordR_len (valid_sym ht.v hr) (by omega)
        have e0 : (Str.ofString " ").length = 1 := by decide
        rw [List.length_map] at b ⊢
        rw [e0]
        omega
      · exact hp
theorem ok_number_in (T : Tx K mg) (nd : base.NoDigits) : FnOk P w K mg base CX0 1 (He.ga K "number_in") T.fd_number_in ["word"] (spD K F_number_in) := by
  refine fnD T.F_number_in sc_number_in ?_ (by decide) (fun cdv A outer s H E hr => (sd_cons (sd_if (PQW.q (pqw_or (pq_eq (px_var 0) px_str) (pqw_or (pq_val (px_cb (cr_any rfl) rc_any T.m_any (by decide +kernel) (pa_c (PO.x (po_lc (own := [("sign", 1)]) rfl sc_number_in.nd (pi_s (px_var 0)) (show blkC ["word", "sign"] (defScope s_number_in) _ _ = true by decide +kernel) (fun _ _ _ _ _ => (pg_nm 1 sc_number_in.nd)) (fun _ _ _ _ _ => pq_nil) (fun _ _ _ _ _ => (px_notInS (px_var 1) (px_globS (Classical.choose_spec T.c_DIGITS)))))) pa_n))) (pqw_or1 (PQW.q (pqw_and (pq_eq (px_ix (px_var 0) px_int) px_str) (pqw_and1 (pq_ne (px_var 0) px_str))))))))
      (sd_one (sd_ret px_non))
      sd_nil)
    (sd_one (sd_ret (px_ct (call_int_strL nd) rc_intS T.m_int (by decide +kernel) (pa_c (px_var 0) pa_n)))))) ?_
  · rintro ags Q ⟨w, rfl, _⟩; rfl
  · rintro ags Q ⟨w, rfl, hw, hp⟩
    obtain ⟨h1, h2, h3, h4⟩ := hw
    have hl : w.cps.toList.length = w.length := Array.length_toList
    have e0 : decide (w = Str.ofString "") = false := decide_eq_false fun e => h2 (by rw [e]; decide)
    w_left
    w_fin
    rw [e0]
    w_left
    refine lc_mapA w.cps.toList (fun c => .str ⟨#[c]⟩) (fun _ => .bl false) (fun P hP => by w_left; exact hP) (by omega) (by w_left) (fun c hc Y hY => ?_) ?_
    · w_left
      refine ⟨c, rfl, ?_⟩
      have hd := List.all_eq_true.mp h1 c hc
      have e1 : decide (c ∈ (Str.ofString "0123456789").cps.toList) = true := by
        simp [isDg] at hd
        have : ((List.range 58).all fun c => decide (c < 48) || decide (c ∈ (Str.ofString "0123456789").cps.toList)) = true := by decide +kernel
        have := List.all_eq_true.mp this c (List.mem_range.mpr (by omega))
        have e2 : decide (c < 48) = false := decide_eq_false (by omega)
        rw [e2, Bool.false_or] at this
        exact this
      rw [e1]
      exact hY _ rfl
    · refine q_any (bls_const _ false) ?_
      have e1 : (w.cps.toList.map fun _ => false).any id = false := by simp
      rw [e1]
      w_left
      obtain ⟨a, l, e⟩ : ∃ a l, w.cps.toList = a :: l := by
        cases e : w.cps.toList with
        | nil => exact absurd e h2
        | cons a l => exact ⟨a, l, rfl⟩
      refine ⟨by omega, ?_⟩
      have e6 : atI w.cps.toList 0 = some a := by rw [e]; exact atI_zero _ _
      rw [e6]
      w_left
      by_cases z : (⟨#[a]⟩ : Str) = Str.ofString "0"
      · have ea : a = 48 := by
          have := congrArg Str.cps z
          have e5 : (Str.ofString "0").cps = #[48] := by decide
          rw [e5] at this
          simpa using this
        rw [if_pos (decide_eq_true z)]
        have ew : w = Str.ofString "0" := by
          have h5 := h4 (by rw [e, ea]; rfl)
          cases w with
          | mk c =>
            have : c = #[48] := by
              apply Array.ext'
              exact h5
            rw [this]
            decide
        rw [decide_eq_true ew]
        w_left
        exact ⟨h1, h2, h3, hp⟩
      · rw [if_neg (by simpa using z)]
        w_left
        exact ⟨h1, h2, h3, hp⟩
theorem ok_pair_in (T : Tx K mg) : FnOk P w K mg base CX0 1 (He.ga K "pair_in") T.fd_pair_in ["word", "mark"] (spD K F_pair_in) := by
  refine fnD T.F_pair_in sc_pair_in ?_ (by decide) (fun cdv A outer s H E hr => (sd_cons (sd_set 2 sc_pair_in.nd (PO.x (po_split (px_var 0) (px_var 1))))
    (sd_one (sd_ret (px_if (pq_eq (px_len T.m_len (pa_c (px_var 2) pa_n)) px_int) (px_var 2) px_non))))) ?_
  · rintro ags Q ⟨a, b, rfl, _⟩; rfl
  · rintro ags Q ⟨a, b, rfl, ha, hb, hl, hp⟩
    have e1 : (Str.ofString ":").length = 1 := by decide
    w_left
    w_fin
    refine ⟨by decide, by rw [app_len, app_len]; omega, ?_⟩
    rw [split_pair ha hb]
    w_left
    exact hp
theorem ok_symbol_of (T : Tx K mg) : FnOk P w K mg base CX0 1 (He.ga K "symbol_of") T.fd_symbol_of ["code"] (spD K F_symbol_of) := by
  refine fnD T.F_symbol_of sc_symbol_of ?_ (by decide) (fun cdv A outer s H E hr => (sd_cons (sd_if (PQW.q (pqw_or (pq_isN (px_var 0) px_non) (pqw_or (pq_not (pq_chain op_le op_le rv_le rv_le (px_globI (Classical.choose_spec T.c_FIRST_CODE)) (px_var 0) (px_globI (Classical.choose_spec T.c_LAST_CODE)))) (pqw_or1 (pq_eq (px_var 0) (px_globI (Classical.choose_spec T.c_PERCENT_CODE)))))))
      (sd_one (sd_ret px_non))
      sd_nil)
    (sd_cons (sd_if (pq_lt (px_var 0) (px_globI (Classical.choose_spec T.c_PERCENT_CODE)))
      (sd_one (sd_ret (px_ix (px_globS (Classical.choose_spec T.c_BEFORE_PERCENT)) (px_sub (px_var 0) (px_globI (Classical.choose_spec T.c_FIRST_CODE))))))
      sd_nil)
    (sd_one (sd_ret (px_ix (px_globS (Classical.choose_spec T.c_AFTER_PERCENT)) (px_sub (px_sub (px_var 0) (px_globI (Classical.choose_spec T.c_PERCENT_CODE))) px_int))))))) ?_
  · rintro ags Q ⟨c, rfl, _⟩; rfl
  · rintro ags Q ⟨c, rfl, hc, hp⟩
    obtain ⟨c1, c2, c3⟩ := symC_lt hc
    have tab := List.all_eq_true.mp signs_table c (List.mem_range.mpr c1)
    rw [hc, Bool.not_true, Bool.false_or] at tab
    w_left
    w_fin
    have e1 : decide ((32 : Int) ≤ (c : Int)) = true := decide_eq_true (by omega)
    have e2 : decide ((c : Int) ≤ 126) = true := decide_eq_true (by omega)
    have e3 : decide ((c : Int) = 37) = false := decide_eq_false (by omega)
    rw [e1]
    w_left
    rw [e2]
    w_left
    rw [e3]
    w_left
    w_fin
    by_cases h : c < 37
    · rw [if_pos h, beq_iff_eq] at tab
      rw [if_pos (decide_eq_true (by omega : (c : Int) < 37))]
      refine ⟨by decide, ?_⟩
      rw [tab]
      exact hp
    · rw [if_neg h, beq_iff_eq] at tab
      rw [if_neg (by simp; omega)]
      refine ⟨by decide +kernel, ?_⟩
      rw [tab]
      exact hp
end
end K54
namespace K54
open PySem L2 DL
local macro_rules
  | `(tactic| k_fill) => `(tactic| simp only [DL.wSeq, DL.wIfS, DL.wRet, DL.wRetO, DL.wRetN, DL.wSet, DL.wSetO, DL.wAsg, DL.wDrop, DL.wIf, DL.wIfO, DL.wVar, DL.wVarO, DL.wC, DL.wSh, DL.wOp, DL.wOpO, DL.wUn, DL.wTest, DL.wAnd, DL.wOr, DL.wNot, DL.wAndV, DL.wOrV, DL.wNotV, DL.waNil, DL.waCons, DL.waOwn', DL.wTup, DL.wLst, DL.allD, DL.wCall, DL.wCallO, DL.wCB, DL.wCBO, DL.wCBo, DL.wIsi, DL.wChain, DL.wAppend, DL.wPut, DL.wAug, DL.wsNil, DL.wBreak, DL.wCont, DL.wNever, DL.wIxO, DL.wOpL, DL.wSlL, DL.wSlS, DL.wSlT, DL.wpN, DL.wpS, DL.wTupOf, DL.wgName, DL.wgTup, DL.wgNil, DL.wgCons, DL.wiA, DL.wiL, DL.wiT, DL.wiS, DL.wiR1, DL.wiR2, DL.wiZip, DL.wiEnum, DL.ownL, DL.isOwn, DL.nth, DL.put, DL.q_isIo, DL.q_ioNo, DL.q_ioD, DL.q_ioF, DL.q_ioT, DL.q_ioSo, DL.wYes, DL.agD, DL.ownR, DL.updAm, DL.toAg, DL.amsOk, DL.ownB, DL.wipeS, DL.ioFree, DL.oIsN, DL.oIsNot, DL.isNonD, DL.tyD, DL.endsD, DL.initS, DL.agS, DL.outs, List.map_cons, List.map_nil, List.cons_append, List.nil_append, List.append_nil, List.length_cons, List.length_nil, List.replicate, DL.ib_n_i, DL.ib_b_i, DL.ib_i_i, DL.ib_s_i, DL.ib_l_i, DL.ib_t_i, DL.ib_n_b, DL.ib_b_b, DL.ib_i_b, DL.ib_s_b, DL.ib_l_b, DL.ib_t_b, DL.ib_n_s, DL.ib_b_s, DL.ib_i_s, DL.ib_s_s, DL.ib_l_s, DL.ib_t_s, DL.ib_n_lt, DL.ib_b_lt, DL.ib_i_lt, DL.ib_s_lt, DL.ib_l_lt, DL.ib_t_lt, Bool.not_true, Bool.not_false, Bool.false_eq_true, if_true, if_false, reduceIte, true_and, and_true, List.contains_nil, Bool.and_self, Bool.true_and, Bool.and_true, List.all_cons, List.all_nil, Nat.reduceAdd, Nat.reduceSub, Nat.zero_add, DL.q_oAdd, DL.q_oSub, DL.q_oMul, DL.q_oFdiv, DL.q_oMod, DL.q_oPow, DL.q_oShr, DL.q_oLt, DL.q_oLe, DL.q_oGt, DL.q_oGe, DL.q_oNeg, DL.q_oAddS, DL.q_oLeS, DL.q_oLtS, DL.q_oCat, DL.q_oRepL, DL.q_oIx_lst, DL.q_oIx_rd, DL.q_oIx_tup, DL.q_bLen_lst, DL.q_bLen_rd, DL.q_bLen_tup, DL.q_bLen_str, DL.q_bMax2, DL.q_bMin2, DL.q_bInt, DL.q_bIntB, DL.q_bOrd, DL.q_bAbs, DL.q_bStrI, DL.q_bList_lst, DL.q_bList_rd, DL.q_bList_tup, DL.q_asB, DL.q_asA_lst, DL.q_asA_rd, DL.q_asA_tup, DL.q_asL_lst, DL.q_asL_rd, DL.q_asT, DL.q_asS, DL.q_oEq_ii, DL.q_oNe_ii, DL.q_oEq_is, DL.q_oNe_is, DL.q_oEq_in, DL.q_oNe_in, DL.q_oEq_si, DL.q_oNe_si, DL.q_oEq_ss, DL.q_oNe_ss, DL.q_oEq_sb, DL.q_oNe_sb, DL.q_oEq_sn, DL.q_oNe_sn, DL.q_oEq_bs, DL.q_oNe_bs, DL.q_oEq_bb, DL.q_oNe_bb, DL.q_oEq_bn, DL.q_oNe_bn, DL.q_oEq_ni, DL.q_oNe_ni, DL.q_oEq_ns, DL.q_oNe_ns, DL.q_oEq_nb, DL.q_oNe_nb, DL.q_oEq_nn, DL.q_oNe_nn, DL.q_pick0, DL.q_pick1, DL.q_pick2, DL.q_pick3, DL.q_pick4, DL.q_ix40, DL.q_ix41, DL.q_ix42, DL.q_ix43, List.set_cons_zero, List.set_cons_succ, Nat.zero_le, Nat.reduceLeDiff, DL.q_cp_2_64, DL.q_cp_2_63, DL.q_cp_2_41, DL.q_cp_10_18, DL.q_cp_17_29, DL.q_cp_10_60, DL.q_cp_10_17, DL.q_cp_10_19, DL.q_cp_10_79, DL.q_cm_2, DL.q_M, DL.q_posM, List.isEmpty_cons, List.isEmpty_nil, DL.wJoin, DL.joinD, DL.q_oRepS, DL.q_bListS, decide_true, decide_false, DL.wMake, DL.wFld, DL.waMeth, DL.wSplit, DL.wIndexS, DL.wAugC, DL.q_scI, DL.q_scS, DL.q_scB, DL.q_scN, DL.q_oNotInS, DL.q_oInS, DL.q_bIntS, DL.wPar])
local macro_rules
  | `(tactic| w_left) => `(tactic| try simp only [DL.wIfS, DL.wRet, DL.wRetO, DL.wRetN, DL.wSet, DL.wSetO, DL.wAsg, DL.wDrop, DL.wIf, DL.wIfO, DL.wVar, DL.wVarO, DL.wC, DL.wSh, DL.wOp, DL.wOpO, DL.wUn, DL.wTest, DL.wAnd, DL.wOr, DL.wNot, DL.wAndV, DL.wOrV, DL.wNotV, DL.waNil, DL.waCons, DL.waOwn', DL.wTup, DL.wLst, DL.allD, DL.wCall, DL.wCallO, DL.wCB, DL.wCBO, DL.wCBo, DL.wIsi, DL.wChain, DL.wAppend, DL.wPut, DL.wAug, DL.wsNil, DL.wBreak, DL.wCont, DL.wNever, DL.wIxO, DL.wOpL, DL.wSlL, DL.wSlS, DL.wSlT, DL.wpN, DL.wpS, DL.wTupOf, DL.wgName, DL.wgTup, DL.wgNil, DL.wgCons, DL.wiA, DL.wiL, DL.wiT, DL.wiS, DL.wiR1, DL.wiR2, DL.wiZip, DL.wiEnum, DL.ownL, DL.isOwn, DL.nth, DL.put, DL.q_isIo, DL.q_ioNo, DL.q_ioD, DL.q_ioF, DL.q_ioT, DL.q_ioSo, DL.wYes, DL.agD, DL.ownR, DL.updAm, DL.toAg, DL.amsOk, DL.ownB, DL.wipeS, DL.ioFree, DL.oIsN, DL.oIsNot, DL.isNonD, DL.tyD, DL.endsD, DL.initS, DL.agS, DL.outs, List.map_cons, List.map_nil, List.cons_append, List.nil_append, List.append_nil, List.length_cons, List.length_nil, List.replicate, DL.ib_n_i, DL.ib_b_i, DL.ib_i_i, DL.ib_s_i, DL.ib_l_i, DL.ib_t_i, DL.ib_n_b, DL.ib_b_b, DL.ib_i_b, DL.ib_s_b, DL.ib_l_b, DL.ib_t_b, DL.ib_n_s, DL.ib_b_s, DL.ib_i_s, DL.ib_s_s, DL.ib_l_s, DL.ib_t_s, DL.ib_n_lt, DL.ib_b_lt, DL.ib_i_lt, DL.ib_s_lt, DL.ib_l_lt, DL.ib_t_lt, Bool.not_true, Bool.not_false, Bool.false_eq_true, if_true, if_false, reduceIte, true_and, and_true, List.contains_nil, Bool.and_self, Bool.true_and, Bool.and_true, List.all_cons, List.all_nil, Nat.reduceAdd, Nat.reduceSub, Nat.zero_add, DL.q_oAdd, DL.q_oSub, DL.q_oMul, DL.q_oFdiv, DL.q_oMod, DL.q_oPow, DL.q_oShr, DL.q_oLt, DL.q_oLe, DL.q_oGt, DL.q_oGe, DL.q_oNeg, DL.q_oAddS, DL.q_oLeS, DL.q_oLtS, DL.q_oCat, DL.q_oRepL, DL.q_oIx_lst, DL.q_oIx_rd, DL.q_oIx_tup, DL.q_bLen_lst, DL.q_bLen_rd, DL.q_bLen_tup, DL.q_bLen_str, DL.q_bMax2, DL.q_bMin2, DL.q_bInt, DL.q_bIntB, DL.q_bOrd, DL.q_bAbs, DL.q_bStrI, DL.q_bList_lst, DL.q_bList_rd, DL.q_bList_tup, DL.q_asB, DL.q_asA_lst, DL.q_asA_rd, DL.q_asA_tup, DL.q_asL_lst, DL.q_asL_rd, DL.q_asT, DL.q_asS, DL.q_oEq_ii, DL.q_oNe_ii, DL.q_oEq_is, DL.q_oNe_is, DL.q_oEq_in, DL.q_oNe_in, DL.q_oEq_si, DL.q_oNe_si, DL.q_oEq_ss, DL.q_oNe_ss, DL.q_oEq_sb, DL.q_oNe_sb, DL.q_oEq_sn, DL.q_oNe_sn, DL.q_oEq_bs, DL.q_oNe_bs, DL.q_oEq_bb, DL.q_oNe_bb, DL.q_oEq_bn, DL.q_oNe_bn, DL.q_oEq_ni, DL.q_oNe_ni, DL.q_oEq_ns, DL.q_oNe_ns, DL.q_oEq_nb, DL.q_oNe_nb, DL.q_oEq_nn, DL.q_oNe_nn, DL.q_pick0, DL.q_pick1, DL.q_pick2, DL.q_pick3, DL.q_pick4, DL.q_ix40, DL.q_ix41, DL.q_ix42, DL.q_ix43, List.set_cons_zero, List.set_cons_succ, Nat.zero_le, Nat.reduceLeDiff, DL.q_cp_2_64, DL.q_cp_2_63, DL.q_cp_2_41, DL.q_cp_10_18, DL.q_cp_17_29, DL.q_cp_10_60, DL.q_cp_10_17, DL.q_cp_10_19, DL.q_cp_10_79, DL.q_cm_2, DL.q_M, DL.q_posM, List.isEmpty_cons, List.isEmpty_nil, DL.wJoin, DL.joinD, DL.q_oRepS, DL.q_bListS, decide_true, decide_false, DL.wMake, DL.wFld, DL.waMeth, DL.wSplit, DL.wIndexS, DL.wAugC, DL.q_scI, DL.q_scS, DL.q_scB, DL.q_scN, DL.q_oNotInS, DL.q_oInS, DL.q_bIntS, DL.wPar])
local macro_rules
  | `(tactic| w_fin) => `(tactic| (with_reducible refine DL.seq_ ?_; w_left))
section
variable {P : Program} {w : World} {K : PySem.W.Frag} {mg : Str → Option Value} {base : Heap}
theorem ok_run_in (T : Tx K mg) (nd : base.NoDigits) : FnOk P w K mg base CX0 2 (He.ga K "run_in") T.fd_run_in ["word"] (spD K F_run_in) := by
  refine fnD T.F_run_in sc_run_in ?_ (by decide) (fun cdv A outer s H E hr => (sd_cons (sd_set 1 sc_run_in.nd (px_call (dvs := []) (dv := []) (ok_pair_in T) (hr.mono (by first | decide | omega)) T.g_pair_in T.F_pair_in.kp T.b_pair_in .nil (fun _ => rfl) (pa_c (px_var 0) (pa_c px_str pa_n))))
    (sd_cons (sd_if (pq_isN (px_var 1) px_non)
      (sd_one (sd_ret px_non))
      sd_nil)
    (sd_cons (sd_par 2 3 rfl sc_run_in.nd (by decide) (pa_c (px_call (dvs := []) (dv := []) (ok_symbol_of T) (hr.mono (by first | decide | omega)) T.g_symbol_of T.F_symbol_of.kp T.b_symbol_of .nil (fun _ => rfl) (pa_c (px_call (dvs := []) (dv := []) (ok_number_in T nd) (hr.mono (by first | decide | omega)) T.g_number_in T.F_number_in.kp T.b_number_in .nil (fun _ => rfl) (pa_c (px_ix (px_var 1) px_int) pa_n)) pa_n)) (pa_c (px_call (dvs := []) (dv := []) (ok_number_in T nd) (hr.mono (by first | decide | omega)) T.g_number_in T.F_number_in.kp T.b_number_in .nil (fun _ => rfl) (pa_c (px_ix (px_var 1) px_int) pa_n)) pa_n)))
    (sd_one (sd_ret (px_if (PQW.q (pqw_and (pq_isNot (px_var 2) px_non) (pqw_and (pq_isNot (px_var 3) px_non) (pqw_and1 (pq_gt (px_var 3) px_int))))) (px_tup (pa_c (px_var 2) (pa_c (px_var 3) pa_n))) px_non))))))) ?_
  · rintro ags Q ⟨c, w, rfl, _⟩; rfl
  · rintro ags Q ⟨c, w, rfl, hc, hw, hpos, hp⟩
    obtain ⟨c1, c2, c3⟩ := symC_lt hc
    have hb : (126 : Nat) < 2 ^ 600 := by decide +kernel
    obtain ⟨n1, n2⟩ := numW_num c (by omega)
    have hl := n1.2.2.1
    have hl2 := hw.2.2.1
    w_left
    w_fin
    refine ⟨_, w, rfl, dg_not n1.1 (by omega), dg_not hw.1 (by omega), by omega, ?_⟩
    w_left
    w_fin
    w_fin
    refine ⟨_, rfl, n1, ?_⟩
    rw [n2]
    w_left
    refine ⟨c, rfl, hc, ?_⟩
    w_left
    refine ⟨_, rfl, hw, ?_⟩
    w_left
    rw [if_pos (by simpa using hpos)]
    w_left
    exact hp
theorem ok_words_of (T : Tx K mg) : FnOk P w K mg base CX0 1 (He.ga K "words_of") T.fd_words_of ["string"] (spD K F_words_of) := by
  refine fnD T.F_words_of sc_words_of ?_ (by decide) (fun cdv A outer s H E hr => (sd_cons (sd_if (pq_not (pq_val (px_isi (cn := "str") T.m_isinstance (px_var 0) T.m_str (by decide +kernel))))
      (sd_one sd_never)
      sd_nil)
    (sd_one (sd_retO (po_if (pq_ne (px_var 0) px_str) (po_split (px_var 0) px_str) (po_lst pa_n)))))) ?_
  · rintro ags Q ⟨ws, rfl, _⟩; rfl
  · rintro ags Q ⟨ws, rfl, hw, hz, hp⟩
    w_left
    w_fin
    cases ws with
    | nil =>
      have e : Txt.join (Str.ofString " ") [] = Str.ofString "" := by decide
      rw [e] at hp ⊢
      w_left
      exact hp
    | cons w ws =>
      have hne : ¬ Txt.join (Str.ofString " ") (w :: ws) = Str.ofString "" := by
        intro e
        have h1 := congrArg Str.length e
        have h2 := (hw w (by simp)).2
        have h3 : (Str.ofString "").length = 0 := by decide
        rw [h3, join_len_pos h2] at h1
        cases h1
      rw [if_pos (by simpa using hne)]
      refine ⟨by decide, by omega, ?_⟩
      rw [split_words (by simp) fun x hx => (hw x hx).1]
      exact hp
theorem ok_parse_text (T : Tx K mg) (nd : base.NoDigits) : FnOk P w K mg base CX0 3 (He.ga K "parse_text") T.fd_parse_text ["string"] (spD K F_parse_text) := by
  refine fnD T.F_parse_text sc_parse_text ?_ (by decide) (fun cdv A outer s H E hr => (sd_cons (sd_setO 1 sc_parse_text.nd (po_lst pa_n))
    (sd_cons (sd_for PassesOwn.never rfl (pi_en T.m_enumerate (pa_c (px_call (dvs := []) (dv := []) (ok_words_of T) (hr.mono (by first | decide | omega)) T.g_words_of T.F_words_of.kp T.b_words_of .nil (fun _ => rfl) (pa_c (px_var 0) pa_n)) pa_n)) (pg_tp (n := 2) rfl (pgs_c (pg_nm 2 sc_parse_text.nd) (pgs_c (pg_nm 3 sc_parse_text.nd) pgs_n)))
      (sd_cons (sd_set 4 sc_parse_text.nd (px_call (dvs := []) (dv := []) (ok_run_in T nd) (hr.mono (by first | decide | omega)) T.g_run_in T.F_run_in.kp T.b_run_in .nil (fun _ => rfl) (pa_c (px_var 3) pa_n)))
    (sd_cons (sd_if (PQW.q (pqw_or (pq_isN (px_var 4) px_non) (pqw_or1 (PQW.q (pqw_and (pq_cmpL (op_neD (units_of hr)) rv_neD 1 (PO.x (po_lst pa_n)) (nomark _)) (pqw_and1 (pq_eq (px_ix (px_ixO 1 (px_neg px_int)) px_int) (px_ix (px_var 4) px_int))))))))
      (sd_one sd_never)
      sd_nil)
    (sd_one (sd_append 1 (px_var 4))))))
    (sd_one (sd_retO (po_var 1)))))) ?_
  · rintro ags Q ⟨ws, t, rfl, _⟩; rfl
  · rintro ags Q ⟨ws, t, rfl, hw, ht, hz, hp⟩
    have hlen := wruns_len hw
    have room := wruns_room hw hz
    w_left
    w_fin
    w_fin
    refine for_of (enumD 0 (ws.map D.str)) (fun P hP => by w_left; exact ⟨ws, rfl, fun w hw2 => wruns_word hw hw2, hz, hP⟩)
      (fun i s => ∃ (a b c : Option D), s = [.d (.str (Txt.join (Str.ofString " ") ws)), .own false ((t.take i).map runD), so a, so b, so c] ∧ i ≤ t.length) ⟨none, none, none, rfl, Nat.zero_le _⟩ ?_ ?_
    · rintro i x s' hi ⟨a, b, c, rfl, hl⟩
      rw [enumD_get, List.getElem?_map] at hi
      cases e : ws[i]? with
      | none => rw [e] at hi; cases hi
      | some w =>
        rw [e] at hi
        cases hi
        obtain ⟨r, hr, q, u, hw0, hc, hu, hre, hpos⟩ := wruns_at hw e
        subst hre
        have hil : i < t.length := (List.getElem?_eq_some_iff.mp hr).1
        have et : t.take (i + 1) = t.take i ++ [(⟨#[q]⟩, ((dgV u.cps.toList : Nat) : Int))] := by rw [List.take_add_one, hr]; rfl
        have fin : ∃ (a b c : Option D), ([.d (.str (Txt.join (Str.ofString " ") ws)), .own false ((t.take i).map runD ++ [.tup [.str ⟨#[q]⟩, .int ((dgV u.cps.toList : Nat) : Int)]]), .d (.int ((i : Nat) : Int)), .d (.str w), .d (.tup [.str ⟨#[q]⟩, .int ((dgV u.cps.toList : Nat) : Int)])] : DS) = [.d (.str (Txt.join (Str.ofString " ") ws)), .own false ((t.take (i + 1)).map runD), so a, so b, so c] ∧ i + 1 ≤ t.length :=
          ⟨some _, some _, some _, by rw [et, List.map_append]; rfl, hil⟩
        have hp2 : 0 < dgV u.cps.toList := by
          have : (0 : Int) < ((dgV u.cps.toList : Nat) : Int) := hpos
          omega
        have rm : ((t.take i).map runD).length < 16777216 := by
          rw [List.length_map, List.length_take]
          omega
        have okt : okTx (t.take i) := fun r hr => symS_ok (valid_sym ht (List.mem_of_mem_take hr))
        w_left
        w_fin
        subst hw0
        refine ⟨q, u, rfl, hc, hu, hp2, ?_⟩
        w_left
        w_fin
        refine neD_nil (pys_runs _) (shaped_okTx okt) ?_
        w_left
        rcases last_runs (t.take i) with ⟨z1, z2⟩ | ⟨t', r', z1, z2⟩
        · rw [z2]
          rw [z2] at fin
          w_left
          exact ⟨by decide, by simpa only [List.nil_append] using fin⟩
        · have ne : (List.isEmpty (List.map runD (t.take i))) = false := by rw [z2]; simp
          rw [ne]
          w_left
          rw [z2]
          refine pick_last ?_
          refine run_0 (r := r') (show IsRun (runD r') r' from rfl) ?_
          w_left
          have hd : r'.1 ≠ ⟨#[q]⟩ := by
            have hi0 : i = (i - 1) + 1 := by
              cases i with
              | zero => simp at z1
              | succ n => omega
            have g1 : t[i - 1]? = some r' := by
              have : (t.take i)[i - 1]? = some r' := by
                rw [z1]
                have hln := congrArg List.length z1
                rw [List.length_take, List.length_append, List.length_singleton] at hln
                rw [List.getElem?_append_right (by omega), show i - 1 - t'.length = 0 by omega]
                rfl
              rw [List.getElem?_take] at this
              split at this
              · exact this
              · cases this
            have g2 : t[i - 1 + 1]? = some (⟨#[q]⟩, ((dgV u.cps.toList : Nat) : Int)) := by rw [← hi0]; exact hr
            have adjT : adj t = true := by
              unfold validT at ht
              rw [Bool.and_eq_true] at ht
              exact ht.2
            exact adj_get adjT g1 g2
          rw [decide_eq_false hd]
          w_left
          rw [z2] at rm fin
          exact ⟨rm, fin⟩
    · rintro s' ⟨a, b, c, rfl, hl⟩
      have e : (enumD 0 (ws.map D.str)).length = t.length := by rw [enumD_len, List.length_map, hlen]
      rw [e, List.take_length]
      w_left
      exact hp
end
end K54
namespace K54
open PySem L2 DL
local macro_rules
  | `(tactic| k_fill) => `(tactic| simp only [DL.wSeq, DL.wIfS, DL.wRet, DL.wRetO, DL.wRetN, DL.wSet, DL.wSetO, DL.wAsg, DL.wDrop, DL.wIf, DL.wIfO, DL.wVar, DL.wVarO, DL.wC, DL.wSh, DL.wOp, DL.wOpO, DL.wUn, DL.wTest, DL.wAnd, DL.wOr, DL.wNot, DL.wAndV, DL.wOrV, DL.wNotV, DL.waNil, DL.waCons, DL.waOwn', DL.wTup, DL.wLst, DL.allD, DL.wCall, DL.wCallO, DL.wCB, DL.wCBO, DL.wCBo, DL.wIsi, DL.wChain, DL.wAppend, DL.wPut, DL.wAug, DL.wsNil, DL.wBreak, DL.wCont, DL.wNever, DL.wIxO, DL.wOpL, DL.wSlL, DL.wSlS, DL.wSlT, DL.wpN, DL.wpS, DL.wTupOf, DL.wgName, DL.wgTup, DL.wgNil, DL.wgCons, DL.wiA, DL.wiL, DL.wiT, DL.wiS, DL.wiR1, DL.wiR2, DL.wiZip, DL.wiEnum, DL.ownL, DL.isOwn, DL.nth, DL.put, DL.q_isIo, DL.q_ioNo, DL.q_ioD, DL.q_ioF, DL.q_ioT, DL.q_ioSo, DL.wYes, DL.agD, DL.ownR, DL.updAm, DL.toAg, DL.amsOk, DL.ownB, DL.wipeS, DL.ioFree, DL.oIsN, DL.oIsNot, DL.isNonD, DL.tyD, DL.endsD, DL.initS, DL.agS, DL.outs, List.map_cons, List.map_nil, List.cons_append, List.nil_append, List.append_nil, List.length_cons, List.length_nil, List.replicate, DL.ib_n_i, DL.ib_b_i, DL.ib_i_i, DL.ib_s_i, DL.ib_l_i, DL.ib_t_i, DL.ib_n_b, DL.ib_b_b, DL.ib_i_b, DL.ib_s_b, DL.ib_l_b, DL.ib_t_b, DL.ib_n_s, DL.ib_b_s, DL.ib_i_s, DL.ib_s_s, DL.ib_l_s, DL.ib_t_s, DL.ib_n_lt, DL.ib_b_lt, DL.ib_i_lt, DL.ib_s_lt, DL.ib_l_lt, DL.ib_t_lt, Bool.not_true, Bool.not_false, Bool.false_eq_true, if_true, if_false, reduceIte, true_and, and_true, List.contains_nil, Bool.and_self, Bool.true_and, Bool.and_true, List.all_cons, List.all_nil, Nat.reduceAdd, Nat.reduceSub, Nat.zero_add, DL.q_oAdd, DL.q_oSub, DL.q_oMul, DL.q_oFdiv, DL.q_oMod, DL.q_oPow, DL.q_oShr, DL.q_oLt, DL.q_oLe, DL.q_oGt, DL.q_oGe, DL.q_oNeg, DL.q_oAddS, DL.q_oLeS, DL.q_oLtS, DL.q_oCat, DL.q_oRepL, DL.q_oIx_lst, DL.q_oIx_rd, DL.q_oIx_tup, DL.q_bLen_lst, DL.q_bLen_rd, DL.q_bLen_tup, DL.q_bLen_str, DL.q_bMax2, DL.q_bMin2, DL.q_bInt, DL.q_bIntB, DL.q_bOrd, DL.q_bAbs, DL.q_bStrI, DL.q_bList_lst, DL.q_bList_rd, DL.q_bList_tup, DL.q_asB, DL.q_asA_lst, DL.q_asA_rd, DL.q_asA_tup, DL.q_asL_lst, DL.q_asL_rd, DL.q_asT, DL.q_asS, DL.q_oEq_ii, DL.q_oNe_ii, DL.q_oEq_is, DL.q_oNe_is, DL.q_oEq_in, DL.q_oNe_in, DL.q_oEq_si, DL.q_oNe_si, DL.q_oEq_ss, DL.q_oNe_ss, DL.q_oEq_sb, DL.q_oNe_sb, DL.q_oEq_sn, DL.q_oNe_sn, DL.q_oEq_bs, DL.q_oNe_bs, DL.q_oEq_bb, DL.q_oNe_bb, DL.q_oEq_bn, DL.q_oNe_bn, DL.q_oEq_ni, DL.q_oNe_ni, DL.q_oEq_ns, DL.q_oNe_ns, DL.q_oEq_nb, DL.q_oNe_nb, DL.q_oEq_nn, DL.q_oNe_nn, DL.q_pick0, DL.q_pick1, DL.q_pick2, DL.q_pick3, DL.q_pick4, DL.q_ix40, DL.q_ix41, DL.q_ix42, DL.q_ix43, List.set_cons_zero, List.set_cons_succ, Nat.zero_le, Nat.reduceLeDiff, DL.q_cp_2_64, DL.q_cp_2_63, DL.q_cp_2_41, DL.q_cp_10_18, DL.q_cp_17_29, DL.q_cp_10_60, DL.q_cp_10_17, DL.q_cp_10_19, DL.q_cp_10_79, DL.q_cm_2, DL.q_M, DL.q_posM, List.isEmpty_cons, List.isEmpty_nil, DL.wJoin, DL.joinD, DL.q_oRepS, DL.q_bListS, decide_true, decide_false, DL.wMake, DL.wFld, DL.waMeth, DL.wSplit, DL.wIndexS, DL.wAugC, DL.q_scI, DL.q_scS, DL.q_scB, DL.q_scN, DL.q_oNotInS, DL.q_oInS, DL.q_bIntS, DL.wPar])
local macro_rules
  | `(tactic| w_left) => `(tactic| try simp only [DL.wIfS, DL.wRet, DL.wRetO, DL.wRetN, DL.wSet, DL.wSetO, DL.wAsg, DL.wDrop, DL.wIf, DL.wIfO, DL.wVar, DL.wVarO, DL.wC, DL.wSh, DL.wOp, DL.wOpO, DL.wUn, DL.wTest, DL.wAnd, DL.wOr, DL.wNot, DL.wAndV, DL.wOrV, DL.wNotV, DL.waNil, DL.waCons, DL.waOwn', DL.wTup, DL.wLst, DL.allD, DL.wCall, DL.wCallO, DL.wCB, DL.wCBO, DL.wCBo, DL.wIsi, DL.wChain, DL.wAppend, DL.wPut, DL.wAug, DL.wsNil, DL.wBreak, DL.wCont, DL.wNever, DL.wIxO, DL.wOpL, DL.wSlL, DL.wSlS, DL.wSlT, DL.wpN, DL.wpS, DL.wTupOf, DL.wgName, DL.wgTup, DL.wgNil, DL.wgCons, DL.wiA, DL.wiL, DL.wiT, DL.wiS, DL.wiR1, DL.wiR2, DL.wiZip, DL.wiEnum, DL.ownL, DL.isOwn, DL.nth, DL.put, DL.q_isIo, DL.q_ioNo, DL.q_ioD, DL.q_ioF, DL.q_ioT, DL.q_ioSo, DL.wYes, DL.agD, DL.ownR, DL.updAm, DL.toAg, DL.amsOk, DL.ownB, DL.wipeS, DL.ioFree, DL.oIsN, DL.oIsNot, DL.isNonD, DL.tyD, DL.endsD, DL.initS, DL.agS, DL.outs, List.map_cons, List.map_nil, List.cons_append, List.nil_append, List.append_nil, List.length_cons, List.length_nil, List.replicate, DL.ib_n_i, DL.ib_b_i, DL.ib_i_i, DL.ib_s_i, DL.ib_l_i, DL.ib_t_i, DL.ib_n_b, DL.ib_b_b, DL.ib_i_b, DL.ib_s_b, DL.ib_l_b, DL.ib_t_b, DL.ib_n_s, DL.ib_b_s, DL.ib_i_s, DL.ib_s_s, DL.ib_l_s, DL.ib_t_s, DL.ib_n_lt, DL.ib_b_lt, DL.ib_i_lt, DL.ib_s_lt, DL.ib_l_lt, DL.ib_t_lt, Bool.not_true, Bool.not_false, Bool.false_eq_true, if_true, if_false, reduceIte, true_and, and_true, List.contains_nil, Bool.and_self, Bool.true_and, Bool.and_true, List.all_cons, List.all_nil, Nat.reduceAdd, Nat.reduceSub, Nat.zero_add, DL.q_oAdd, DL.q_oSub, DL.q_oMul, DL.q_oFdiv, DL.q_oMod, DL.q_oPow, DL.q_oShr, DL.q_oLt, DL.q_oLe, DL.q_oGt, DL.q_oGe, DL.q_oNeg, DL.q_oAddS, DL.q_oLeS, DL.q_oLtS, DL.q_oCat, DL.q_oRepL, DL.q_oIx_lst, DL.q_oIx_rd, DL.q_oIx_tup, DL.q_bLen_lst, DL.q_bLen_rd, DL.q_bLen_tup, DL.q_bLen_str, DL.q_bMax2, DL.q_bMin2, DL.q_bInt, DL.q_bIntB, DL.q_bOrd, DL.q_bAbs, DL.q_bStrI, DL.q_bList_lst, DL.q_bList_rd, DL.q_bList_tup, DL.q_asB, DL.q_asA_lst, DL.q_asA_rd, DL.q_asA_tup, DL.q_asL_lst, DL.q_asL_rd, DL.q_asT, DL.q_asS, DL.q_oEq_ii, DL.q_oNe_ii, DL.q_oEq_is, DL.q_oNe_is, DL.q_oEq_in, DL.q_oNe_in, DL.q_oEq_si, DL.q_oNe_si, DL.q_oEq_ss, DL.q_oNe_ss, DL.q_oEq_sb, DL.q_oNe_sb, DL.q_oEq_sn, DL.q_oNe_sn, DL.q_oEq_bs, DL.q_oNe_bs, DL.q_oEq_bb, DL.q_oNe_bb, DL.q_oEq_bn, DL.q_oNe_bn, DL.q_oEq_ni, DL.q_oNe_ni, DL.q_oEq_ns, DL.q_oNe_ns, DL.q_oEq_nb, DL.q_oNe_nb, DL.q_oEq_nn, DL.q_oNe_nn, DL.q_pick0, DL.q_pick1, DL.q_pick2, DL.q_pick3, DL.q_pick4, DL.q_ix40, DL.q_ix41, DL.q_ix42, DL.q_ix43, List.set_cons_zero, List.set_cons_succ, Nat.zero_le, Nat.reduceLeDiff, DL.q_cp_2_64, DL.q_cp_2_63, DL.q_cp_2_41, DL.q_cp_10_18, DL.q_cp_17_29, DL.q_cp_10_60, DL.q_cp_10_17, DL.q_cp_10_19, DL.q_cp_10_79, DL.q_cm_2, DL.q_M, DL.q_posM, List.isEmpty_cons, List.isEmpty_nil, DL.wJoin, DL.joinD, DL.q_oRepS, DL.q_bListS, decide_true, decide_false, DL.wMake, DL.wFld, DL.waMeth, DL.wSplit, DL.wIndexS, DL.wAugC, DL.q_scI, DL.q_scS, DL.q_scB, DL.q_scN, DL.q_oNotInS, DL.q_oInS, DL.q_bIntS, DL.wPar])
local macro_rules
  | `(tactic| w_fin) => `(tactic| (with_reducible refine DL.seq_ ?_; w_left))
section
variable {P : Program} {w : World} {K : PySem.W.Frag} {mg : Str → Option Value} {base : Heap}
theorem ok__law_notation (T : Tx K mg) : FnOk P w K mg base CX0 2 (He.ga K "_law_notation") T.fd__law_notation ["_law_runs"] (spD K F__law_notation) := by
  refine fnD T.F__law_notation sc__law_notation ?_ (by decide) (fun cdv A outer s H E hr => (sd_cons (sd_set 1 sc__law_notation.nd (px_call0 (dvs := []) (dv := []) (ok__law_signs T) (hr.mono (by first | decide | omega)) T.g__law_signs T.F__law_signs.kp T.b__law_signs .nil (fun _ => rfl)))
    (sd_cons (sd_set 3 sc__law_notation.nd (PO.x (po_lc (own := [("_law_at", 2)]) rfl sc__law_notation.nd (pi_r1 T.m_range (pa_c px_int pa_n)) (show blkC ["_law_runs", "_law_signs_here", "_law_at", "_law_codes", "_law_sign_here", "_law_count"] (defScope s__law_notation) _ _ = true by decide +kernel) (fun _ _ _ _ _ => (pg_nm 2 sc__law_notation.nd)) (fun _ _ _ _ _ => pq_nil) (fun _ _ _ _ _ => (px_ct call_str_int rc_strI T.m_str (by decide +kernel) (pa_c (px_add (px_add px_int (px_var 2)) (px_ct call_int1 rc_int T.m_int (by decide +kernel) (pa_c (px_gt (px_var 2) px_int) pa_n))) pa_n))))))
    (sd_one (sd_ret (px_join px_str (PO.x (po_lc (own := [("_law_sign_here", 4), ("_law_count", 5)]) rfl sc__law_notation.nd (pi_a (px_var 0)) (show blkC ["_law_runs", "_law_signs_here", "_law_at", "_law_codes", "_law_sign_here", "_law_count"] (defScope s__law_notation) _ _ = true by decide +kernel) (fun _ _ _ _ _ => (pg_tp (n := 2) rfl (pgs_c (pg_nm 4 sc__law_notation.nd) (pgs_c (pg_nm 5 sc__law_notation.nd) pgs_n)))) (fun _ _ _ _ _ => pq_nil) (fun _ _ _ _ _ => (px_addS (px_addS (px_ix (px_var 3) (px_index (px_var 1) (px_var 4))) px_str) (px_ct call_str_int rc_strI T.m_str (by decide +kernel) (pa_c (px_var 5) pa_n)))))))))))) ?_
  · rintro ags Q ⟨t, rfl, _⟩; rfl
  · rintro ags Q ⟨t, rfl, ht, hs, hz, hp⟩
    w_left
    w_fin
    refine ⟨rfl, ?_⟩
    w_left
    w_fin
    refine lc_mapA (List.range 94) (fun i => .int (0 + (i : Nat))) (fun (i : Nat) => .str (Str.ofString (toString (32 + (0 + (i : Int)) + (if decide (0 + (i : Int) > 4) = true then 1 else 0))))) (fun P hP => by
      w_left
      exact ⟨by decide, hP⟩) (by simp) (by w_left) (fun i hi Y hY => ?_) ?_
    · have hi : i < 94 := List.mem_range.mp hi
      w_left
      refine ⟨?_, hY _ rfl⟩
      have : (32 + (0 + (i : Int)) + (if decide (4 < 0 + (i : Int)) = true then 1 else 0)).natAbs < 2 ^ 600 := by
        have hb : (200 : Nat) < 2 ^ 600 := by decide +kernel
        split <;> omega
      have := log_of this
      omega
    · w_left
      refine lc_mapA t runD (fun r => .str (wordR r)) (fun P hP => by w_left; exact hP) (by omega) (by w_left) (fun r hr Y hY => ?_) ?_
      · have h0 := valid_sym ht hr
        have h1 := valid_pos ht hr
        have h2 := hs r hr
        have h3 : r.2.natAbs < 2 ^ 600 := by omega
        have b1 := num_len (code_small h0)
        have b2 := num_len h3
        have b3 : (Str.ofString ":").length = 1 := by decide
        have l2 := log_of h3
        obtain ⟨c, hc, hcs⟩ := symS_code h0
        obtain ⟨c1, c2, c3⟩ := symC_lt hcs
        have tab := List.all_eq_true.mp index_table c (List.mem_range.mpr c1)
        rw [hcs, Bool.not_true, Bool.false_or, beq_iff_eq] at tab
        have hx : ixS c < 94 := by unfold ixS; split <;> omega
        have ev : (32 + (0 + (ixS c : Int)) + (if decide (0 + (ixS c : Int) > 4) = true then 1 else 0)) = (c : Int) := by
          unfold ixS
          by_cases h : c < 37
          · rw [if_pos h, if_neg (by simp; omega)]
            omega
          · rw [if_neg h, if_pos (by simp; omega)]
            omega
        simp only [runD]
        w_left
        refine ⟨ixS c, [], by rw [hc, S94_len]; exact tab, ?_⟩
        refine pickI (d := .str (Str.ofString (toString (c : Int)))) (by omega) ?_ ?_
        · rw [List.getElem?_map, show ((ixS c : Nat) : Int).toNat = ixS c by omega, List.getElem?_range hx]
          simp only [Option.map_some]
          rw [ev]
        · have ec : ((r.1.cps.getD 0 0 : Nat) : Int) = (c : Int) := by rw [hc]; rfl
          rw [ec] at b1
          w_left
          refine ⟨by omega, by omega, by rw [app_len]; omega, ?_⟩
          have ew : Str.ofString (toString (c : Int)) ++ Str.ofString ":" ++ Str.ofString (toString r.2) = wordR r := by
            unfold wordR
            rw [ec]
          rw [ew]
          exact hY _ rfl
      · w_left
        refine ⟨_, strs_map _ t, ?_, ?_⟩
        · have b := sum_le (l := t.map wordR) (B := 1203) fun x hx => by
            obtain ⟨r, hr, rfl⟩ := List.mem_map.mp hx
            have h1 := valid_pos ht hr
            have h2 := hs r hr
            exact wordR_len (valid_sym ht hr) (by omega)
          have e0 : (Str.ofString " ").length = 1 := by decide
          rw [List.length_map] at b ⊢
          rw [e0]
          omega
        · exact hp
end
end K54
namespace K54
open PySem L2 DL
abbrev R : PySem.W.OpenRow := PySem.W.OpenLaw.row PySem.Challenge.rw_slashlevels_k54_notations_of_texts
abbrev hk : PySem.W.Hook := He.hookD 4 fa fn
def ob (s : PySem.W.SharedT) : He.AlD := He.obsDG 4 fa fn (HandSHeadRun.getT s)
theorem ob_eq (s : PySem.W.SharedT) : ob s = hk.obs s.abs := He.obsDG_eq (HandSHeadRun.getT_eq s)
def loose0 : List Str := ["SlashError", "ParseError", "InvalidText", "InvalidNumber", "BACKSLASH", "QUOTE", "PERCENT_CODE", "is_integer", "is_symbol", "is_run", "is_text", "checked_text", "add_run", "MAX_ESCAPES", "check_escapes", "power_of_two", "Part", "parts_of", "add_group", "escaped", "escape", "DIGITS", "FIRST_CODE", "LAST_CODE", "BEFORE_PERCENT", "AFTER_PERCENT", "format_text", "number_in", "pair_in", "symbol_of"]
def loose1 : List Str := ["run_in", "words_of", "parse_text", "_law_reel", "_law_draw", "_law_signs", "_law_sign", "_law_text", "_law_dressed", "_law_notation"]
def loose : List Str := loose0 ++ loose1
theorem run (w : World) : HandSHeadRun.RunEq R (PySem.W.view R.prog [45]) hk ob 4000 loose w := by
  intro os
  kernel_rfl
end K54
namespace K54
open PySem L2 DL
local macro_rules
  | `(tactic| k_fill) => `(tactic| simp only [DL.wSeq, DL.wIfS, DL.wRet, DL.wRetO, DL.wRetN, DL.wSet, DL.wSetO, DL.wAsg, DL.wDrop, DL.wIf, DL.wIfO, DL.wVar, DL.wVarO, DL.wC, DL.wSh, DL.wOp, DL.wOpO, DL.wUn, DL.wTest, DL.wAnd, DL.wOr, DL.wNot, DL.wAndV, DL.wOrV, DL.wNotV, DL.waNil, DL.waCons, DL.waOwn', DL.wTup, DL.wLst, DL.allD, DL.wCall, DL.wCallO, DL.wCB, DL.wCBO, DL.wCBo, DL.wIsi, DL.wChain, DL.wAppend, DL.wPut, DL.wAug, DL.wsNil, DL.wBreak, DL.wCont, DL.wNever, DL.wIxO, DL.wOpL, DL.wSlL, DL.wSlS, DL.wSlT, DL.wpN, DL.wpS, DL.wTupOf, DL.wgName, DL.wgTup, DL.wgNil, DL.wgCons, DL.wiA, DL.wiL, DL.wiT, DL.wiS, DL.wiR1, DL.wiR2, DL.wiZip, DL.wiEnum, DL.ownL, DL.isOwn, DL.nth, DL.put, DL.q_isIo, DL.q_ioNo, DL.q_ioD, DL.q_ioF, DL.q_ioT, DL.q_ioSo, DL.wYes, DL.agD, DL.ownR, DL.updAm, DL.toAg, DL.amsOk, DL.ownB, DL.wipeS, DL.ioFree, DL.oIsN, DL.oIsNot, DL.isNonD, DL.tyD, DL.endsD, DL.initS, DL.agS, DL.outs, List.map_cons, List.map_nil, List.cons_append, List.nil_append, List.append_nil, List.length_cons, List.length_nil, List.replicate, DL.ib_n_i, DL.ib_b_i, DL.ib_i_i, DL.ib_s_i, DL.ib_l_i, DL.ib_t_i, DL.ib_n_b, DL.ib_b_b, DL.ib_i_b, DL.ib_s_b, DL.ib_l_b, DL.ib_t_b, DL.ib_n_s, DL.ib_b_s, DL.ib_i_s, DL.ib_s_s, DL.ib_l_s, DL.ib_t_s, DL.ib_n_lt, DL.ib_b_lt, DL.ib_i_lt, DL.ib_s_lt, DL.ib_l_lt, DL.ib_t_lt, Bool.not_true, Bool.not_false, Bool.false_eq_true, if_true, if_false, reduceIte, true_and, and_true, List.contains_nil, Bool.and_self, Bool.true_and, Bool.and_true, List.all_cons, List.all_nil, Nat.reduceAdd, Nat.reduceSub, Nat.zero_add, DL.q_oAdd, DL.q_oSub, DL.q_oMul, DL.q_oFdiv, DL.q_oMod, DL.q_oPow, DL.q_oShr, DL.q_oLt, DL.q_oLe, DL.q_oGt, DL.q_oGe, DL.q_oNeg, DL.q_oAddS, DL.q_oLeS, DL.q_oLtS, DL.q_oCat, DL.q_oRepL, DL.q_oIx_lst, DL.q_oIx_rd, DL.q_oIx_tup, DL.q_bLen_lst, DL.q_bLen_rd, DL.q_bLen_tup, DL.q_bLen_str, DL.q_bMax2, DL.q_bMin2, DL.q_bInt, DL.q_bIntB, DL.q_bOrd, DL.q_bAbs, DL.q_bStrI, DL.q_bList_lst, DL.q_bList_rd, DL.q_bList_tup, DL.q_asB, DL.q_asA_lst, DL.q_asA_rd, DL.q_asA_tup, DL.q_asL_lst, DL.q_asL_rd, DL.q_asT, DL.q_asS, DL.q_oEq_ii, DL.q_oNe_ii, DL.q_oEq_is, DL.q_oNe_is, DL.q_oEq_in, DL.q_oNe_in, DL.q_oEq_si, DL.q_oNe_si, DL.q_oEq_ss, DL.q_oNe_ss, DL.q_oEq_sb, DL.q_oNe_sb, DL.q_oEq_sn, DL.q_oNe_sn, DL.q_oEq_bs, DL.q_oNe_bs, DL.q_oEq_bb, DL.q_oNe_bb, DL.q_oEq_bn, DL.q_oNe_bn, DL.q_oEq_ni, DL.q_oNe_ni, DL.q_oEq_ns, DL.q_oNe_ns, DL.q_oEq_nb, DL.q_oNe_nb, DL.q_oEq_nn, DL.q_oNe_nn, DL.q_pick0, DL.q_pick1, DL.q_pick2, DL.q_pick3, DL.q_pick4, DL.q_ix40, DL.q_ix41, DL.q_ix42, DL.q_ix43, List.set_cons_zero, List.set_cons_succ, Nat.zero_le, Nat.reduceLeDiff, DL.q_cp_2_64, DL.q_cp_2_63, DL.q_cp_2_41, DL.q_cp_10_18, DL.q_cp_17_29, DL.q_cp_10_60, DL.q_cp_10_17, DL.q_cp_10_19, DL.q_cp_10_79, DL.q_cm_2, DL.q_M, DL.q_posM, List.isEmpty_cons, List.isEmpty_nil, DL.wJoin, DL.joinD, DL.q_oRepS, DL.q_bListS, decide_true, decide_false, DL.wMake, DL.wFld, DL.waMeth, DL.wSplit, DL.wIndexS, DL.wAugC, DL.q_scI, DL.q_scS, DL.q_scB, DL.q_scN, DL.q_oNotInS, DL.q_oInS, DL.q_bIntS, DL.wPar, DL.q_fst, DL.q_fsy, DL.q_fsz, DL.q_fqu, DL.q_fmn, DL.q_ois])
local macro_rules
  | `(tactic| w_left) => `(tactic| try simp only [DL.wIfS, DL.wRet, DL.wRetO, DL.wRetN, DL.wSet, DL.wSetO, DL.wAsg, DL.wDrop, DL.wIf, DL.wIfO, DL.wVar, DL.wVarO, DL.wC, DL.wSh, DL.wOp, DL.wOpO, DL.wUn, DL.wTest, DL.wAnd, DL.wOr, DL.wNot, DL.wAndV, DL.wOrV, DL.wNotV, DL.waNil, DL.waCons, DL.waOwn', DL.wTup, DL.wLst, DL.allD, DL.wCall, DL.wCallO, DL.wCB, DL.wCBO, DL.wCBo, DL.wIsi, DL.wChain, DL.wAppend, DL.wPut, DL.wAug, DL.wsNil, DL.wBreak, DL.wCont, DL.wNever, DL.wIxO, DL.wOpL, DL.wSlL, DL.wSlS, DL.wSlT, DL.wpN, DL.wpS, DL.wTupOf, DL.wgName, DL.wgTup, DL.wgNil, DL.wgCons, DL.wiA, DL.wiL, DL.wiT, DL.wiS, DL.wiR1, DL.wiR2, DL.wiZip, DL.wiEnum, DL.ownL, DL.isOwn, DL.nth, DL.put, DL.q_isIo, DL.q_ioNo, DL.q_ioD, DL.q_ioF, DL.q_ioT, DL.q_ioSo, DL.wYes, DL.agD, DL.ownR, DL.updAm, DL.toAg, DL.amsOk, DL.ownB, DL.wipeS, DL.ioFree, DL.oIsN, DL.oIsNot, DL.isNonD, DL.tyD, DL.endsD, DL.initS, DL.agS, DL.outs, List.map_cons, List.map_nil, List.cons_append, List.nil_append, List.append_nil, List.length_cons, List.length_nil, List.replicate, DL.ib_n_i, DL.ib_b_i, DL.ib_i_i, DL.ib_s_i, DL.ib_l_i, DL.ib_t_i, DL.ib_n_b, DL.ib_b_b, DL.ib_i_b, DL.ib_s_b, DL.ib_l_b, DL.ib_t_b, DL.ib_n_s, DL.ib_b_s, DL.ib_i_s, DL.ib_s_s, DL.ib_l_s, DL.ib_t_s, DL.ib_n_lt, DL.ib_b_lt, DL.ib_i_lt, DL.ib_s_lt, DL.ib_l_lt, DL.ib_t_lt, Bool.not_true, Bool.not_false, Bool.false_eq_true, if_true, if_false, reduceIte, true_and, and_true, List.contains_nil, Bool.and_self, Bool.true_and, Bool.and_true, List.all_cons, List.all_nil, Nat.reduceAdd, Nat.reduceSub, Nat.zero_add, DL.q_oAdd, DL.q_oSub, DL.q_oMul, DL.q_oFdiv, DL.q_oMod, DL.q_oPow, DL.q_oShr, DL.q_oLt, DL.q_oLe, DL.q_oGt, DL.q_oGe, DL.q_oNeg, DL.q_oAddS, DL.q_oLeS, DL.q_oLtS, DL.q_oCat, DL.q_oRepL, DL.q_oIx_lst, DL.q_oIx_rd, DL.q_oIx_tup, DL.q_bLen_lst, DL.q_bLen_rd, DL.q_bLen_tup, DL.q_bLen_str, DL.q_bMax2, DL.q_bMin2, DL.q_bInt, DL.q_bIntB, DL.q_bOrd, DL.q_bAbs, DL.q_bStrI, DL.q_bList_lst, DL.q_bList_rd, DL.q_bList_tup, DL.q_asB, DL.q_asA_lst, DL.q_asA_rd, DL.q_asA_tup, DL.q_asL_lst, DL.q_asL_rd, DL.q_asT, DL.q_asS, DL.q_oEq_ii, DL.q_oNe_ii, DL.q_oEq_is, DL.q_oNe_is, DL.q_oEq_in, DL.q_oNe_in, DL.q_oEq_si, DL.q_oNe_si, DL.q_oEq_ss, DL.q_oNe_ss, DL.q_oEq_sb, DL.q_oNe_sb, DL.q_oEq_sn, DL.q_oNe_sn, DL.q_oEq_bs, DL.q_oNe_bs, DL.q_oEq_bb, DL.q_oNe_bb, DL.q_oEq_bn, DL.q_oNe_bn, DL.q_oEq_ni, DL.q_oNe_ni, DL.q_oEq_ns, DL.q_oNe_ns, DL.q_oEq_nb, DL.q_oNe_nb, DL.q_oEq_nn, DL.q_oNe_nn, DL.q_pick0, DL.q_pick1, DL.q_pick2, DL.q_pick3, DL.q_pick4, DL.q_ix40, DL.q_ix41, DL.q_ix42, DL.q_ix43, List.set_cons_zero, List.set_cons_succ, Nat.zero_le, Nat.reduceLeDiff, DL.q_cp_2_64, DL.q_cp_2_63, DL.q_cp_2_41, DL.q_cp_10_18, DL.q_cp_17_29, DL.q_cp_10_60, DL.q_cp_10_17, DL.q_cp_10_19, DL.q_cp_10_79, DL.q_cm_2, DL.q_M, DL.q_posM, List.isEmpty_cons, List.isEmpty_nil, DL.wJoin, DL.joinD, DL.q_oRepS, DL.q_bListS, decide_true, decide_false, DL.wMake, DL.wFld, DL.waMeth, DL.wSplit, DL.wIndexS, DL.wAugC, DL.q_scI, DL.q_scS, DL.q_scB, DL.q_scN, DL.q_oNotInS, DL.q_oInS, DL.q_bIntS, DL.wPar, DL.q_fst, DL.q_fsy, DL.q_fsz, DL.q_fqu, DL.q_fmn, DL.q_ois])
local macro_rules
  | `(tactic| w_fin) => `(tactic| (with_reducible refine DL.seq_ ?_; w_left))
section
variable {P : Program} {w : World} {K : PySem.W.Frag} {mg : Str → Option Value} {base : Heap}
/-- a text of the law -/
structure GT (t : Txt) : Prop where
  v : validT t = true
  z : t.length ≤ 400
  c : ∀ r ∈ t, r.2 ≤ 10 ^ 60
theorem GT.small {t : Txt} (h : GT t) : smallT t := fun r hr => by
  have := h.c r hr
  have a3 : (10 : Int) ^ 60 < 2 ^ 600 := by decide +kernel
  omega
theorem GT.nat {t : Txt} (h : GT t) : ∀ r ∈ t, r.2.natAbs < 2 ^ 600 := fun r hr => by
  have := h.small r hr
  have := valid_pos h.v hr
  omega
theorem isIo_cases {v : Sl} (h : isIoS v = false) : True := trivial
theorem parts1 {N : Int} (h : 0 < N) : partsT [(bsl, N)] = [⟨0 + N - N, none, N, false, 1⟩] := by
  show partsGo 0 0 [(some bsl, N), (none, 0)] = _
  rw [partsGo_cons, partsGo_cons]
  simp [partStep, h, partsGo]
theorem esc1 {N : Int} {n : Nat} (h : 0 < N) (h2 : 1 ≤ N * 2 ^ n) : escT [(bsl, N)] n = [(bsl, N * 2 ^ n)] := by
  unfold escT
  rw [parts1 h]
  show addG [] (N * 2 ^ n) false = _
  unfold addG
  have e0 : bI false = 0 := rfl
  rw [e0, Int.sub_zero]
  have e1 : addR [] bsl (N * 2 ^ n) = [(bsl, N * 2 ^ n)] := by
    unfold addR
    rw [if_neg (by omega)]
    rfl
  rw [e1]
  unfold addR
  rw [if_pos (by decide)]
theorem ok_law (T : Tx K mg) (nd : base.NoDigits) : FnG P w K mg base 6 (He.ga K "law") T.fd_law ["_law_script"] (spD K F_law) := by
  refine fnDG T.F_law sc_law ?_ (by decide) (fun cdv A outer s H E hg hr => (sd_cons (sd_setO 1 sc_law.nd (po_call (dvs := []) (dv := []) (ok__law_reel T) (hr.mono (by first | decide | omega)) T.g__law_reel T.F__law_reel.kp T.b__law_reel .nil (fun _ => rfl) (pa_c (px_var 0) pa_n)))
    (sd_cons (sd_for PassesOwn.never rfl (pi_r1 T.m_range (pa_c (px_add px_int (px_cb (call_min2 rfl) rc_min2 T.m_min (by decide +kernel) (pa_c (px_len T.m_len (pa_c (px_var 0) pa_n)) (pa_c px_int pa_n)))) pa_n)) (pg_nm 2 sc_law.nd)
      (sd_cons (sd_set 3 sc_law.nd (px_ix (PO.x (po_lst (pa_c px_int (pa_c (px_pow px_int px_int) pa_n)))) (px_call (dvs := []) (dv := []) (ok__law_draw T) (hr.mono (by first | decide | omega)) T.g__law_draw T.F__law_draw.kp T.b__law_draw .nil (fun _ => rfl) (pa_o 1 (pa_c px_int pa_n)))))
    (sd_consI (sd_set 4 sc_law.nd (px_if (pq_ne (px_var 2) px_int) (px_call (dvs := []) (dv := []) (ok__law_text T) (hr.mono (by first | decide | omega)) T.g__law_text T.F__law_text.kp T.b__law_text .nil (fun _ => rfl) (pa_o 1 (pa_c (px_ix (PO.x (po_lst (pa_c px_int (pa_c px_int pa_n)))) (px_mod (px_var 2) px_int)) (pa_c (px_var 3) pa_n)))) (px_call (dvs := []) (dv := []) (ok__law_text T) (hr.mono (by first | decide | omega)) T.g__law_text T.F__law_text.kp T.b__law_text .nil (fun _ => rfl) (pa_o 1 (pa_c px_int (pa_c px_int pa_n))))))
    (sd_consI (sd_if (pq_eq (px_mod (px_var 2) px_int) px_int)
      (sd_cons (sd_set 5 sc_law.nd (px_call (dvs := []) (dv := []) (ok__law_draw T) (hr.mono (by first | decide | omega)) T.g__law_draw T.F__law_draw.kp T.b__law_draw .nil (fun _ => rfl) (pa_o 1 (pa_c px_int pa_n))))
    (sd_one (sd_lc 4 (own := [("_law_sign_here", 6)]) rfl sc_law.nd (pi_s (px_slS (px_repS (px_call0 (dvs := []) (dv := []) (ok__law_signs T) (hr.mono (by first | decide | omega)) T.g__law_signs T.F__law_signs.kp T.b__law_signs .nil (fun _ => rfl)) px_int) (pp_s (px_var 5)) (pp_s (px_add (px_var 5) px_int)))) (show blkC ["_law_script", "_law_reel_here", "_law_k", "_law_longest", "_law_runs", "_law_at", "_law_sign_here", "_law_dressed_here", "_law_kept", "_law_due", "_law_found", "_law_one", "_law_large"] (defScope s_law) _ _ = true by decide +kernel) (fun _ _ _ _ _ => (pg_nm 6 sc_law.nd)) (fun _ _ _ _ _ => pq_nil) (fun _ _ _ _ _ => (px_tup (pa_c (px_var 6) (pa_c (px_add px_int (px_call (dvs := []) (dv := []) (ok__law_draw T) (hr.mono (by first | decide | omega)) T.g__law_draw T.F__law_draw.kp T.b__law_draw .nil (fun _ => rfl) (pa_o 1 (pa_c px_int pa_n)))) pa_n)))) (sw_true rfl rfl rfl (by decide +kernel)))))
      sd_nil)
    (sd_cons (sd_set 7 sc_law.nd (px_call (dvs := []) (dv := []) (ok__law_dressed T 2) (hr.mono (by first | decide | omega)) T.g__law_dressed T.F__law_dressed.kp T.b__law_dressed .nil (fun _ => rfl) (pa_o 1 (pa_c (px_var 4) pa_n))))
    (sd_cons (sd_set 8 sc_law.nd (px_cb (call_repr hg hr) rc_repr T.m_repr (by decide +kernel) (pa_c (PO.x (po_lst (pa_c (px_var 4) (pa_c (px_var 7) pa_n)))) pa_n)))
    (sd_cons (sd_set 9 sc_law.nd (px_call (dvs := []) (dv := []) (ok__law_notation T) (hr.mono (by first | decide | omega)) T.g__law_notation T.F__law_notation.kp T.b__law_notation .nil (fun _ => rfl) (pa_c (px_var 4) pa_n)))
    (sd_cons (sd_if (PQW.q (pqw_or (pq_neD hr (PO.x (po_lst (pa_c (px_call (dvs := []) (dv := []) (ok_format_text T) (hr.mono (by first | decide | omega)) T.g_format_text T.F_format_text.kp T.b_format_text .nil (fun _ => rfl) (pa_c (px_var 4) pa_n)) (pa_c (px_call (dvs := []) (dv := []) (ok_format_text T) (hr.mono (by first | decide | omega)) T.g_format_text T.F_format_text.kp T.b_format_text .nil (fun _ => rfl) (pa_c (px_var 7) pa_n)) pa_n)))) (PO.x (po_lst (pa_c (px_var 9) (pa_c (px_var 9) pa_n))))) (pqw_or1 (pq_ne (px_cb (call_repr hg hr) rc_repr T.m_repr (by decide +kernel) (pa_c (PO.x (po_lst (pa_c (px_var 4) (pa_c (px_var 7) pa_n)))) pa_n)) (px_var 8)))))
      (sd_one (sd_ret px_bl))
      sd_nil)
    (sd_cons (sd_setO 10 sc_law.nd (po_call (dvs := []) (dv := []) (ok_parse_text T nd) (hr.mono (by first | decide | omega)) T.g_parse_text T.F_parse_text.kp T.b_parse_text .nil (fun _ => rfl) (pa_c (px_call (dvs := []) (dv := []) (ok_format_text T) (hr.mono (by first | decide | omega)) T.g_format_text T.F_format_text.kp T.b_format_text .nil (fun _ => rfl) (pa_c (px_var 4) pa_n)) pa_n)))
    (sd_cons (sd_if (pq_ne (px_cbo 10 (call_repr hg hr) rc_repr T.m_repr (by decide +kernel)) (px_cb (call_repr hg hr) rc_repr T.m_repr (by decide +kernel) (pa_c (px_var 4) pa_n)))
      (sd_one (sd_ret px_bl))
      sd_nil)
    (sd_cons (sd_append 10 px_non)
    (sd_one (sd_if (pq_ne (px_cb (call_repr hg hr) rc_repr T.m_repr (by decide +kernel) (pa_c (px_call (dvs := []) (dv := []) (ok_parse_text T nd) (hr.mono (by first | decide | omega)) T.g_parse_text T.F_parse_text.kp T.b_parse_text .nil (fun _ => rfl) (pa_c (px_call (dvs := []) (dv := []) (ok_format_text T) (hr.mono (by first | decide | omega)) T.g_format_text T.F_format_text.kp T.b_format_text .nil (fun _ => rfl) (pa_c (px_var 7) pa_n)) pa_n)) pa_n)) (px_cb (call_repr hg hr) rc_repr T.m_repr (by decide +kernel) (pa_c (px_var 4) pa_n)))
      (sd_one (sd_ret px_bl))
      sd_nil)))))))))))))
    (sd_cons (sd_set 11 sc_law.nd (px_addS px_str (px_repS px_str (px_add px_int (px_call (dvs := []) (dv := []) (ok__law_draw T) (hr.mono (by first | decide | omega)) T.g__law_draw T.F__law_draw.kp T.b__law_draw .nil (fun _ => rfl) (pa_o 1 (pa_c px_int pa_n)))))))
    (sd_cons (sd_if (pq_neD hr (px_call (dvs := []) (dv := []) (ok_parse_text T nd) (hr.mono (by first | decide | omega)) T.g_parse_text T.F_parse_text.kp T.b_parse_text .nil (fun _ => rfl) (pa_c (px_addS px_str (px_var 11)) pa_n)) (PO.x (po_lst (pa_c (px_tup (pa_c px_str (pa_c (px_ct (call_int_strL nd) rc_intS T.m_int (by decide +kernel) (pa_c (px_var 11) pa_n)) pa_n))) pa_n))))
      (sd_one (sd_ret px_bl))
      sd_nil)
    (sd_cons (sd_set 12 sc_law.nd (px_call (dvs := []) (dv := []) (ok_escape T) (hr.mono (by first | decide | omega)) T.g_escape T.F_escape.kp T.b_escape .nil (fun _ => rfl) (pa_c (PO.x (po_lst (pa_c (px_tup (pa_c px_str (pa_c (px_mul (px_pow px_int px_int) (px_pow px_int px_int)) pa_n))) pa_n))) (pa_c px_int pa_n))))
    (sd_cons (sd_if (pq_neD hr (px_call (dvs := []) (dv := []) (ok_parse_text T nd) (hr.mono (by first | decide | omega)) T.g_parse_text T.F_parse_text.kp T.b_parse_text .nil (fun _ => rfl) (pa_c (px_call (dvs := []) (dv := []) (ok_format_text T) (hr.mono (by first | decide | omega)) T.g_format_text T.F_format_text.kp T.b_format_text .nil (fun _ => rfl) (pa_c (px_var 12) pa_n)) pa_n)) (px_var 12))
      (sd_one (sd_ret px_bl))
      sd_nil)
    (sd_one (sd_ret (px_and (px_eq (px_call (dvs := []) (dv := []) (ok_format_text T) (hr.mono (by first | decide | omega)) T.g_format_text T.F_format_text.kp T.b_format_text .nil (fun _ => rfl) (pa_c (PO.x (po_lst pa_n)) pa_n)) px_str) (px_one (px_eqD hr (px_call (dvs := []) (dv := []) (ok_parse_text T nd) (hr.mono (by first | decide | omega)) T.g_parse_text T.F_parse_text.kp T.b_parse_text .nil (fun _ => rfl) (pa_c px_str pa_n)) (PO.x (po_lst pa_n)))))))))))))) ?_

  · rintro ags Q ⟨ns, rfl, _⟩; rfl
  · rintro ags Q ⟨ns, rfl, hz, hp⟩
    w_left
    w_fin
    refine ⟨ns, rfl, hz, fun ys hy => ?_⟩
    w_left
    w_fin
    refine for_of (rangeD 0 (3 + min (ns.length : Int) 6).toNat) (fun P hP => by
        w_left
        rw [List.length_map]
        have e : (if (6 : Int) < (ns.length : Int) then 6 else (ns.length : Int)) = min (ns.length : Int) 6 := by split <;> omega
        rw [e]
        exact ⟨by omega, hP⟩) (fun _ s => ∃ (ys : List D) (a b c d e f g h : Option D) (v : Sl), s = [.d (.rd (ns.map D.int)), .own false ys, so a, so b, so c, so d, so e, so f, so g, so h, v, .no, .no] ∧ IsReel ys ∧ isIoS v = false) ⟨ys, none, none, none, none, none, none, none, none, .no, rfl, hy, rfl⟩ ?_ ?_
    · rintro k x s' hk ⟨ys, a, b, c, d, e, f, g, h, v, rfl, hy, hv⟩
      obtain ⟨hk, rfl⟩ := range_at hk
      w_left
      w_fin
      refine ⟨ys, 2, rfl, hy, by decide, by decide +kernel, fun k1 zs hzs h0 h1 => ?_⟩
      w_left
      refine oIx_ints (l := [3, 10 ^ Int.toNat 60]) h0 h1 fun L hL => ?_
      have l0 : 3 ≤ L ∧ L ≤ 10 ^ 60 := by
        have e60 : (10 : Int) ^ Int.toNat 60 = 10 ^ 60 := by decide +kernel
        rw [e60] at hL
        simp only [List.mem_cons, List.mem_nil_iff, or_false] at hL
        rcases hL with rfl | rfl
        · exact ⟨by decide, by decide +kernel⟩
        · exact ⟨by decide +kernel, Int.le_refl _⟩
      clear hL
      have big : (10 : Int) ^ 60 < 2 ^ 2000 := by decide +kernel
      refine seqI (fun z => ∃ (zs : List D) (t : Txt), z = [.d (.rd (ns.map D.int)), .own false zs, .d (.int (0 + (k : Int))), .d (.int L), .d (.lst (t.map runD)), so d, so e, so f, so g, so h, v, .no, .no] ∧ IsReel zs ∧ GT t) ?_ ?_
      · w_left
        by_cases hk2 : (0 : Int) + (k : Int) = 2
        · rw [if_neg (by simp [hk2])]
          refine ⟨zs, 400, 3, rfl, hzs, by decide, by decide, by decide, by decide +kernel, fun t us hus ht htl htc => ?_⟩
          w_left
          exact ⟨us, t, rfl, hus, ht, by omega, fun r hr => by have := htc r hr; omega⟩
        · rw [if_pos (by rw [decide_eq_false hk2]; rfl)]
          refine ⟨by decide, oIx_ints (l := [10, 40]) (by omega) (by simp; omega) fun M hM => ?_⟩
          have m0 : 0 ≤ M ∧ M ≤ 40 := by
            simp only [List.mem_cons, List.mem_nil_iff, or_false] at hM
            rcases hM with rfl | rfl <;> decide
          refine ⟨zs, M, L, rfl, hzs, m0.1, by omega, l0.1, by omega, fun t us hus ht htl htc => ?_⟩
          w_left
          exact ⟨us, t, rfl, hus, ht, by omega, fun r hr => by have := htc r hr; omega⟩
      · rintro _ ⟨zs, t0, rfl, hzs, hT⟩
        refine seqI (fun z => ∃ (zs : List D) (t : Txt) (v4 : Sl) (d e : Option D), z = [.d (.rd (ns.map D.int)), .own false zs, .d (.int (0 + (k : Int))), .d (.int L), v4, so d, so e, so f, so g, so h, v, .no, .no] ∧ IsReel zs ∧ GT t ∧ (v4 = .d (.lst (t.map runD)) ∨ v4 = .own false (t.map runD))) ?_ ?_
        · w_left
          refine ⟨by decide, ?_⟩
          by_cases hk3 : ((0 : Int) + (k : Int)) % 3 = 1
          · rw [if_pos (decide_eq_true hk3)]
            w_fin
            refine ⟨zs, 94, rfl, hzs, by decide, by decide +kernel, fun at_ us hus a0 a1 => ?_⟩
            w_left
            obtain ⟨z1, z2, z3⟩ := S94_twice
            have zl : (mulS S94 2).cps.toList.length = 188 := by rw [← z3]; exact Array.length_toList
            have ec : (cutS (mulS S94 2) (some at_) (some (at_ + 94))).cps.toList = ((mulS S94 2).cps.toList.drop at_.toNat).take 94 := by
              show (((mulS S94 2).cps.toList.drop (HT.sIx (mulS S94 2).length 0 (some at_))).take (HT.sIx (mulS S94 2).length (mulS S94 2).length (some (at_ + 94)) - HT.sIx (mulS S94 2).length 0 (some at_))).toArray.toList = _
              rw [sIx_nn a0, sIx_nn (by omega), z3, Nat.min_eq_left (by omega), Nat.min_eq_left (by omega)]
              have : (at_ + 94).toNat - at_.toNat = 94 := by omega
              rw [this]
            have adjl : adjN (((mulS S94 2).cps.toList.drop at_.toNat).take 94) = true := adjN_take (adjN_drop z1)
            have syml : ∀ c ∈ ((mulS S94 2).cps.toList.drop at_.toNat).take 94, symC c = true := fun c hc => List.all_eq_true.mp z2 c (List.mem_of_mem_drop (List.mem_of_mem_take hc))
            have lenl : (((mulS S94 2).cps.toList.drop at_.toNat).take 94).length ≤ 94 := by rw [List.length_take]; exact Nat.min_le_left _ _
            generalize hl : ((mulS S94 2).cps.toList.drop at_.toNat).take 94 = l at ec adjl syml lenl
            have es : signsD (cutS (mulS S94 2) (some at_) (some (at_ + 94))) = l.map fun c => D.str ⟨#[c]⟩ := by
              unfold signsD
              rw [ec]
            refine lc_of (l.map fun c => D.str ⟨#[c]⟩) (fun P hP => by
              w_left
              refine ⟨rfl, ?_⟩
              w_left
              refine ⟨⟨by decide, by rw [S94_len]; decide, by decide⟩, ?_⟩
              rw [show Int.toNat 2 = 2 from rfl, es, z3]
              exact ⟨by decide, hP⟩) (by w_left) (fun i acc s => ∃ (ys : List D) (t : Txt), s = [.d (.rd (ns.map D.int)), .own false ys, .d (.int (0 + (k : Int))), .d (.int L), .d (.lst (t0.map runD)), .d (.int at_), .no, so f, so g, so h, v, .no, .no] ∧ IsReel ys ∧ acc = t.map runD ∧ t.map (·.1) = (l.take i).map (fun c => (⟨#[c]⟩ : Str)) ∧ ∀ r ∈ t, 1 ≤ r.2 ∧ r.2 ≤ 3) ⟨us, [], rfl, hus, rfl, rfl, fun r hr => by cases hr⟩ ?_ ?_
            · rintro i x acc s' hi ⟨ys, t, rfl, hy, rfl, ht, hc⟩
              rw [List.getElem?_map] at hi
              obtain ⟨c, hcl, rfl⟩ := Option.map_eq_some_iff.mp hi
              have il : i < l.length := (List.getElem?_eq_some_iff.mp hcl).1
              have tl : t.length = i := by
                have := congrArg List.length ht
                rw [List.length_map, List.length_map, List.length_take] at this
                omega
              w_left
              refine ⟨ys, 3, rfl, hy, by decide, by decide +kernel, fun q us hus q0 q1 => ?_⟩
              w_left
              refine ⟨by rw [List.length_map]; omega, us, t ++ [(⟨#[c]⟩, 1 + q)], rfl, hus, by rw [List.map_append]; rfl, ?_, ?_⟩
              · rw [List.take_add_one, hcl, List.map_append, List.map_append, ht]
                rfl
              · intro r hr
                simp only [List.mem_append, List.mem_singleton] at hr
                rcases hr with hr | rfl
                · exact hc r hr
                · exact ⟨by show 1 ≤ 1 + q; omega, by show 1 + q ≤ 3; omega⟩
            · rintro acc s' ⟨ys, t, rfl, hy, rfl, ht, hc⟩
              rw [List.length_map, List.take_length] at ht
              have tl : t.length ≤ 94 := by
                have := congrArg List.length ht
                rw [List.length_map, List.length_map] at this
                omega
              have g1 : validT t = true := by
                unfold validT
                rw [adj_zip adjl ht, Bool.and_true]
                refine List.all_eq_true.mpr fun r hr => ?_
                have h1 : r.1 ∈ t.map (·.1) := List.mem_map.mpr ⟨r, hr, rfl⟩
                rw [ht] at h1
                obtain ⟨c, hcm, hce⟩ := List.mem_map.mp h1
                rw [← hce]
                have := syml c hcm
                rw [Bool.and_eq_true]
                exact ⟨by simpa [symS] using this, decide_eq_true (hc r hr).1⟩
              w_left
              exact ⟨ys, t, _, some _, none, rfl, hy, ⟨g1, by omega, fun r hr => by have := (hc r hr).2; omega⟩, .inr rfl⟩
          · rw [if_neg (by simpa using hk3)]
            exact ⟨zs, t0, _, d, e, rfl, hzs, hT, .inl rfl⟩
        · rintro _ ⟨zs, t, v4, d, e, rfl, hzs, hT, hv4⟩
          have hTx := isTxt_D hT.v (by have := hT.z; omega)
          obtain ⟨q1, e1, s1⟩ := txt_py hTx hT.nat
          have nf := nota_facts hT.v hT.small (by have := hT.z; omega)
          have tz := hT.z
          have fit1 : (601 + 2) * (4 * t.length) + 601 ≤ 16777216 := by omega
          rcases hv4 with rfl | rfl
          all_goals
            w_fin
            refine ⟨zs, .lst (t.map runD), rfl, hzs, dep_txt (by omega), fun u vs hvs hdr => ?_⟩
            have hu := drs_txt hdr hT.v (by omega)
            obtain ⟨q2, e2, s2⟩ := txt_py hu hT.nat
            have s12 := s1.two s2
            have fits : (601 + 2) * (4 * t.length + 4 * t.length + 2) + 601 ≤ 16777216 := by omega
            w_left
            w_fin
            refine s12.repr (py_two e1 e2) rfl (by decide) (by decide) fits ?_
            w_left
            w_fin
            refine ⟨t, rfl, hT.v, hT.small, by omega, ?_⟩
            w_left
            w_fin
            refine ⟨_, t, rfl, hTx, hT.small, by omega, ?_⟩
            w_left
            refine ⟨_, t, rfl, hu, hT.small, by omega, ?_⟩
            w_left
            refine neD_same (py_two (by rfl) (by rfl)) (Shp.shaped (B := 601) ((shp_str (n := 0) nf.1).two (shp_str (n := 0) nf.1)) (by decide)) ?_
            w_left
            refine s12.repr (py_two e1 e2) rfl (by decide) (by decide) fits ?_
            w_left
            w_fin
            refine ⟨_, t, rfl, hTx, hT.small, by omega, ?_⟩
            w_left
            refine ⟨_, t, rfl, nf.2.2, hT.v, nf.2.1, ?_⟩
            w_left
            refine ⟨hv, ?_⟩
            w_fin
            refine s1.repr e1 rfl (by decide) (by decide) fit1 ?_
            w_left
            refine s1.repr e1 rfl (by decide) (by decide) fit1 ?_
            w_left
            w_fin
            refine ⟨by rw [List.length_map]; omega, ?_⟩
            w_left
            refine ⟨_, t, rfl, hu, hT.small, by omega, ?_⟩
            w_left
            refine ⟨_, t, rfl, nf.2.2, hT.v, nf.2.1, ?_⟩
            w_left
            refine s1.repr e1 rfl (by decide) (by decide) fit1 ?_
            w_left
            refine s1.repr e1 rfl (by decide) (by decide) fit1 ?_
            w_left
            exact ⟨vs, some _, some _, some _, d, e, some _, some _, some _, _, rfl, hvs, rfl⟩
    · rintro s' ⟨ys, a, b, c, d, e, f, g, h, v, rfl, hy, hv⟩
      w_left
      w_fin
      refine ⟨ys, 1890, rfl, hy, by decide, by decide +kernel, fun q us hus q0 q1 => ?_⟩
      w_left
      have ml := mulS_len (Str.ofString "0") (100 + q).toNat
      have l0 : (Str.ofString "0").length = 1 := by decide
      have l1 : (Str.ofString "1").length = 1 := by decide
      have l97 : (Str.ofString "97:").length = 3 := by decide
      refine ⟨⟨by omega, by rw [l0]; omega, by omega⟩, by rw [l1, ml, l0]; omega, ?_⟩
      have onel : (Str.ofString "1" ++ mulS (Str.ofString "0") (100 + q).toNat).length ≤ 2000 := by rw [app_len, l1, ml, l0]; omega
      have oneW : numW (Str.ofString "1" ++ mulS (Str.ofString "0") (100 + q).toNat) := by
        have ec : (Str.ofString "1" ++ mulS (Str.ofString "0") (100 + q).toNat).cps.toList = 49 :: (List.replicate (100 + q).toNat [48]).flatten := by
          rw [app_cps]
          rfl
        refine ⟨?_, ?_, by omega, ?_⟩
        · rw [ec]
          refine List.all_eq_true.mpr fun c hc => ?_
          simp only [List.mem_cons, List.mem_flatten, List.mem_replicate] at hc
          rcases hc with rfl | ⟨l, ⟨_, rfl⟩, hc⟩
          · decide
          · simp only [List.mem_cons, List.mem_nil_iff, or_false] at hc
            subst hc
            decide
        · rw [ec]; simp
        · rw [ec]
          intro z
          simp at z
      have onePos : 0 < dgV (Str.ofString "1" ++ mulS (Str.ofString "0") (100 + q).toNat).cps.toList := by
        have ec : (Str.ofString "1" ++ mulS (Str.ofString "0") (100 + q).toNat).cps.toList = 49 :: (List.replicate (100 + q).toNat [48]).flatten := by
          rw [app_cps]
          rfl
        rw [ec]
        exact dgV_pos _
      generalize hone : (Str.ofString "1" ++ mulS (Str.ofString "0") (100 + q).toNat) = one at onel oneW onePos
      have sa : symS (⟨#[97]⟩ : Str) = true := by decide
      have v97 : validT [((⟨#[97]⟩ : Str), ((dgV one.cps.toList : Nat) : Int))] = true := by
        have : (1 : Int) ≤ ((dgV one.cps.toList : Nat) : Int) := by omega
        simp [validT, adj, sa, this]
      have e97 : Str.ofString "97:" ++ one = Txt.join (Str.ofString " ") [Str.ofString (toString ((97 : Nat) : Int)) ++ Str.ofString ":" ++ one] := by
        have : Str.ofString "97:" = Str.ofString (toString ((97 : Nat) : Int)) ++ Str.ofString ":" := by decide +kernel
        rw [this]
        rfl
      w_fin
      refine ⟨by rw [l97]; omega, ?_⟩
      rw [e97]
      refine ⟨_, [((⟨#[97]⟩ : Str), ((dgV one.cps.toList : Nat) : Int))], rfl, ⟨⟨97, one, rfl, by decide, oneW, rfl, by show (0 : Int) < ((dgV one.cps.toList : Nat) : Int); omega⟩, trivial⟩, v97, by rw [← e97, app_len, l97]; omega, ?_⟩
      w_left
      refine ⟨oneW.1, oneW.2.1, oneW.2.2.1, ?_⟩
      have ea : Str.ofString "a" = ⟨#[97]⟩ := by decide
      rw [ea]
      refine neD_same (x := .lst ([((⟨#[97]⟩ : Str), ((dgV one.cps.toList : Nat) : Int))].map runD)) (py_lst (pys_runs _)) (shaped_runs v97) ?_
      w_left
      w_fin
      have eL : (10 : Int) ^ Int.toNat 60 * 10 ^ Int.toNat 19 = 10 ^ 79 := by decide +kernel
      refine ⟨mulR (by decide) (by decide +kernel), ?_⟩
      w_left
      rw [eL]
      have nb : (1 : Int) ≤ 10 ^ 79 ∧ (10 : Int) ^ 79 < 2 ^ 600 := ⟨by decide +kernel, by decide +kernel⟩
      have pb : (1 : Int) ≤ 10 ^ 79 * 2 ^ Int.toNat 200 ∧ (10 : Int) ^ 79 * 2 ^ Int.toNat 200 < 2 ^ 600 := ⟨by decide +kernel, by decide +kernel⟩
      generalize hN : (10 : Int) ^ 79 = N at nb pb
      have sb : symS bsl = true := by decide
      have v1 : ∀ M : Int, 1 ≤ M → validT [(bsl, M)] = true := fun M hM => by simp [validT, adj, sb, hM]
      have p1 := parts1 (N := N) (by omega)
      refine ⟨_, [(bsl, N)], 200, rfl, isTxt_D (v1 N nb.1) (by simp), by simp, by decide, by decide, ?_, ?_, ?_⟩
      · rw [p1]
        intro p hp2
        simp only [List.mem_cons, List.mem_nil_iff, or_false] at hp2
        subst hp2
        exact ⟨by show 0 ≤ N; omega, nb.2, ⟨by show (0 : Int) ≤ 1; decide, by show (1 : Int) < 2 ^ 60; decide⟩, fun x hx => by cases hx⟩
      · rw [p1]
        show 2 ≤ 16000000
        decide
      rw [esc1 (by omega) pb.1]
      w_left
      have sm : smallT [(bsl, N * 2 ^ Int.toNat 200)] := fun r hr => by
        simp only [List.mem_cons, List.mem_nil_iff, or_false] at hr
        subst hr
        exact pb.2
      have v2 := v1 _ pb.1
      have nf := nota_facts v2 sm (by simp)
      w_fin
      refine ⟨_, [(bsl, N * 2 ^ Int.toNat 200)], rfl, isTxt_D v2 (by simp), sm, by simp, ?_⟩
      w_left
      refine ⟨_, [(bsl, N * 2 ^ Int.toNat 200)], rfl, nf.2.2, v2, nf.2.1, ?_⟩
      w_left
      refine neD_same (x := .lst ([(bsl, N * 2 ^ Int.toNat 200)].map runD)) (py_lst (pys_runs _)) (shaped_runs v2) ?_
      w_left
      refine ⟨_, [], rfl, ⟨[], rfl, trivial, rfl, Nat.zero_le _⟩, (fun r hr => by cases hr), by decide, ?_⟩
      w_left
      rw [show notaT [] = Str.ofString "" from by decide]
      w_left
      refine ⟨[], [], by rw [show Txt.join (Str.ofString " ") [] = Str.ofString "" from by decide], trivial, rfl, by decide, ?_⟩
      w_left
      refine eqD_nil (xs := []) rfl (by rfl) ?_
      exact hp
end
end K54
namespace K54
open PySem L2 DL PySem.W PyProof.Rows
theorem law_says {K : PySem.W.Frag} {H : Hp} {a : Addr} {ns : List Int} (hl : ns.length ≤ 63) (hS : SqL K H a (ns.map V.int)) : spD K F_law [.ref a] H (fun v _ => v = .bl true) (fun _ _ _ => False) := by
  have rpI : ∀ l : List Int, RpAll K H (l.map D.int) (l.map V.int) := by
    intro l
    induction l with
    | nil => rfl
    | cons i l ih => exact ⟨_, _, rfl, rfl, ih⟩
  refine ⟨H, [.d (.rd (ns.map D.int))], fun r _ => r = .d (.bl true), fun _ _ e => e, ⟨rfl, ?_, ?_, ?_⟩, ⟨ns, rfl, hl, rfl⟩, ?_⟩
  · intro i x e
    match i, e with
    | 0, e => cases e; exact ⟨_, rfl, a, _, rfl, hS, rpI ns⟩
  · intro i xs e
    match i, e with
    | 0, e => cases e
  · intro i j xs ys l _ e
    match i, e with
    | 0, e => cases e
  · rintro v r ags' G' H' _ rs rfl
    exact rs
theorem facts {P : Program} {w : World} {K : PySem.W.Frag} {h : Heap} {mg : Str → Option Value} {f : Addr} (X : K.In h) (G : h.Ns mainGlobals mg) (hfa : mg ("law" : Str) = some (.ref f)) (c : He.SaysD fa fn K) :
    ∃ fd : FuncData, (∀ (s : Shared) (v : Value), BindsTo s fd ⟨[v], []⟩ [("_law_script", v)]) ∧ ∀ base : Heap, K.In base → base.Ns mainGlobals mg → base.NoDigits → FnG P w K mg base 6 f fd ["_law_script"] (spD K F_law) := by
  obtain ⟨T⟩ := mkTx X G c
  cases hfa.symm.trans T.g_law
  have b := FunD.bindsA (ps := ["_law_script"]) T.F_law fun _ _ _ _ _ _ us hl => match us, hl with | [_], _ => rfl
  exact ⟨T.fd_law, fun s v => b s [v] rfl, fun base _ _ nd => ok_law T nd⟩
end K54
open PySem PySem.W PySem.Calls PyProof.Rows
theorem PySem.Challenge.cw_slashlevels_k54_notations_of_texts_holds : PySem.Challenge.rw_slashlevels_k54_notations_of_texts.Holds := by
  w_on; o_law
  refine HandSHeadRun.head_any (r := K54.R) (q := view K54.R.prog [45]) (H := K54.hk) (ob := K54.ob) (M := 4000) (loose := K54.loose) (d := HandSHeadRun.topDef K54.R.prog 45) (kwd := []) K54.ob_eq
    (by kernel_rfl) (fun s => by kernel_rfl) K54.run (by kernel_rfl) (by kernel_rfl) (by kernel_rfl) (by rfl) (by first | assumption | decide +kernel) (by decide +kernel) ⟨rfl, rfl, rfl, rfl, rfl, by decide +kernel⟩ ?hw ?hc
  case hw => w_witness2
  case hc =>
    refine DL.walk_ofG (l := PySem.Challenge.rw_slashlevels_k54_notations_of_texts) (n := 63) (k := 6) (x := "_law_script") rfl (by decide) (by kernel_rfl) ⟨rfl, by decide, by decide⟩ ?F
    intro w mg fa h Y G hmg0
    obtain ⟨K, KX, c⟩ := Y
    have hmg : mg ("law" : PySem.Str) = some (.ref fa) := by
      have e : (HandSHeadRun.topDef K54.R.prog 45).name = ("law" : PySem.Str) := by kernel_rfl
      rw [← e]
      exact hmg0
    obtain ⟨fd, hb, hF⟩ := K54.facts (P := (PySem.Challenge.rw_slashlevels_k54_notations_of_texts).prog) (w := w) KX G hmg c
    exact ⟨K, fd, DL.spD K DL.F_law, KX, hb, fun H a ns hl hS => K54.law_says hl hS, hF⟩
