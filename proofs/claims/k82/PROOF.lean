import PyProof.Rows.All
import Wide.All
import OpenK.AllK
import Wide.FinOn
import HandS.ForMost
import HandS.Wide
import HandS.TupAny
import HandS.TupMul
import HandS.Style
import HandS.NoneIn
import HandS.Walk
import HandS.Zip
import KE.GoesEnum
import HandS.Defaults
import HandS.Conv
import HandS.IsInst
import HandS.Text
import HandS.RaiseMore
import KE.DataMinMax
import KE.KDictPairs
import KE.SortData
import KE.KDictDisplayH
import HandS.Words
import HandS.Codes
import KE.KItemsList
import KE.KDictZip
import HandS.ListItems
import KE.KStateDown
import HandS.Base
import HandS.Call
import HandS.Ends
import HandS.More
import HandS.WordsExc
import HandS.Head0
import HandS.Head1
import HandS.Head2
import HandS.HeadEnd
import HandS.HeadHook1
import HandS.HeadHook2
import PySem.Challenge.RW_rowsback_k82_whole_rows_made_of_rows
set_option Elab.async false
set_option linter.all false
set_option maxRecDepth 100000
set_option maxHeartbeats 4000000
/-! G0: pure data in slots, cells, the state told by them. -/
namespace G
open PySem PySem.Spec PyProof.Rows L2

/-- data that never change -/
inductive D where
  | non | bl (b : Bool) | int (i : Int) | str (x : Str) | tup (ds : List D)
  /-- a tuple that is known to the object -/
  | fz (ds : List D)
  /-- a list of ints that nobody changes -/
  | fl (ns : List Int)
/-- a plain tuple's object -/
def FzO (o : Obj) : Prop := o.cls = .type "tuple" ∧ o.dict = none
def SqF (K : PySem.W.Frag) (H : Hp) (a : Addr) (ns : List Int) : Prop := (∃ o, H a = some (.frz o (.lst (ns.map V.int)))) ∨ ∀ H', SqL K H' a (ns.map V.int)
theorem SqF.sq {K : PySem.W.Frag} {H : Hp} {a : Addr} {ns : List Int} (h : SqF K H a ns) : SqL K H a (ns.map V.int) := h.elim (fun ⟨o, h⟩ => .inl (.inr ⟨o, h⟩)) fun h => h H

mutual
inductive Is (K : PySem.W.Frag) (H : Hp) : V → D → Prop
  | non : Is K H .non .non
  | bl (b : Bool) : Is K H (.bl b) (.bl b)
  | int (i : Int) : Is K H (.int i) (.int i)
  | str (x : Str) : Is K H (.str x) (.str x)
  | tup {a : Addr} {xs : List V} {ds : List D} : H a = some (.tup xs) → IsA K H xs ds → Is K H (.ref a) (.tup ds)
  | fz {a : Addr} {o : Obj} {xs : List V} {ds : List D} : H a = some (.frz o (.tup xs)) → FzO o → IsA K H xs ds → Is K H (.ref a) (.fz ds)
  | fl {a : Addr} {ns : List Int} : SqF K H a ns → Is K H (.ref a) (.fl ns)
inductive IsA (K : PySem.W.Frag) (H : Hp) : List V → List D → Prop
  | nil : IsA K H [] []
  | cons {v : V} {vs : List V} {d : D} {ds : List D} : Is K H v d → IsA K H vs ds → IsA K H (v :: vs) (d :: ds)
end

/-- what never changes -/
def TP : HO → Prop
  | .tup _ => True
  | .frz _ _ => True
  | _ => False
/-- tuples stay -/
def Tx (H H' : Hp) : Prop := ∀ a o, TP o → H a = some o → H' a = some o
theorem tx_upd {H : Hp} {p : Addr} {o o' : HO} (h : H p = some o) (n : ¬ TP o) : Tx H (upd H p o') := fun a u t q => by
  rw [upd_ne (fun z => by subst z; rw [h] at q; cases q; exact n t)]; exact q
def Ex (H H' : Hp) : Prop := ∀ a o, H a = some o → H' a = some o
theorem Ex.refl (H : Hp) : Ex H H := fun _ _ h => h
theorem Ex.trans {H H1 H2 : Hp} (a : Ex H H1) (b : Ex H1 H2) : Ex H H2 := fun x o h => b x o (a x o h)
theorem Ex.new {H : Hp} {p : Addr} {o : HO} (h : H p = none) : Ex H (upd H p o) := fun a u e => by
  rw [upd_ne (ne_of_none e h)]; exact e
theorem Ex.tx {H H' : Hp} (e : Ex H H') : Tx H H' := fun a xs _ r => e _ _ r
theorem Tx.refl (H : Hp) : Tx H H := fun _ _ _ h => h
theorem Tx.trans {H H1 H2 : Hp} (a : Tx H H1) (b : Tx H1 H2) : Tx H H2 := fun x o t h => b x o t (a x o t h)
section
variable {K : PySem.W.Frag} {H H' : Hp} {a : Addr} {xs : List V}
theorem SqL.ex (t : Ex H H') (h : SqL K H a xs) : SqL K H' a xs := h.elim (fun h => .inl (h.elim (fun h => .inl (t _ _ h)) fun ⟨o, h⟩ => .inr ⟨o, t _ _ h⟩)) .inr
mutual
theorem Is.tx (t : Tx H H') : ∀ {v : V} {d : D}, Is K H v d → Is K H' v d
  | _, _, .non => .non
  | _, _, .bl b => .bl b
  | _, _, .int i => .int i
  | _, _, .str x => .str x
  | _, _, .tup h r => .tup (t _ _ trivial h) (IsA.tx t r)
  | _, _, .fz h f r => .fz (t _ _ trivial h) f (IsA.tx t r)
  | _, _, .fl h => .fl (h.elim (fun ⟨o, h⟩ => .inl ⟨o, t _ _ trivial h⟩) .inr)
theorem IsA.tx (t : Tx H H') : ∀ {vs : List V} {ds : List D}, IsA K H vs ds → IsA K H' vs ds
  | _, _, .nil => .nil
  | _, _, .cons a b => .cons (Is.tx t a) (IsA.tx t b)
end
theorem IsA.length : ∀ {vs : List V} {ds : List D}, IsA K H vs ds → vs.length = ds.length
  | _, _, .nil => rfl
  | _, _, .cons _ r => by simp [IsA.length r]
theorem IsA.get : ∀ {vs : List V} {ds : List D} {i : Nat} {d : D}, IsA K H vs ds → ds[i]? = some d → ∃ v, vs[i]? = some v ∧ Is K H v d
  | _, _, _, _, .nil, e => by simp at e
  | _, _, 0, _, .cons r _, e => by simp at e; subst e; exact ⟨_, rfl, r⟩
  | _, _, i + 1, d, .cons _ t, e => by
    obtain ⟨u, h1, h2⟩ := IsA.get (i := i) (d := d) t (by simpa using e)
    exact ⟨u, by simpa using h1, h2⟩
theorem IsA.get' : ∀ {vs : List V} {ds : List D} {i : Nat} {v : V}, IsA K H vs ds → vs[i]? = some v → ∃ d, ds[i]? = some d ∧ Is K H v d
  | _, _, _, _, .nil, e => by simp at e
  | _, _, 0, _, .cons r _, e => by simp at e; subst e; exact ⟨_, rfl, r⟩
  | _, _, i + 1, d, .cons _ t, e => by
    obtain ⟨u, h1, h2⟩ := IsA.get' (i := i) (v := d) t (by simpa using e)
    exact ⟨u, by simpa using h1, h2⟩
theorem IsA.append : ∀ {vs ws : List V} {ds es : List D}, IsA K H vs ds → IsA K H ws es → IsA K H (vs ++ ws) (ds ++ es)
  | _, _, _, _, .nil, s => s
  | _, _, _, _, .cons r t, s => .cons r (IsA.append t s)
theorem IsA.take : ∀ {vs : List V} {ds : List D} (n : Nat), IsA K H vs ds → IsA K H (vs.take n) (ds.take n)
  | _, _, 0, _ => .nil
  | _, _, _ + 1, .nil => .nil
  | _, _, n + 1, .cons r t => .cons r (IsA.take n t)
theorem IsA.drop : ∀ {vs : List V} {ds : List D} (n : Nat), IsA K H vs ds → IsA K H (vs.drop n) (ds.drop n)
  | _, _, 0, r => r
  | _, _, _ + 1, .nil => .nil
  | _, _, n + 1, .cons _ t => IsA.drop n t
theorem IsA.set {v : V} {d : D} (r : Is K H v d) : ∀ {vs : List V} {ds : List D} (i : Nat), IsA K H vs ds → IsA K H (vs.set i v) (ds.set i d)
  | _, _, _, .nil => .nil
  | _, _, 0, .cons _ t => .cons r t
  | _, _, i + 1, .cons q t => .cons q (IsA.set r i t)
theorem IsA.one {v : V} {d : D} (r : Is K H v d) : IsA K H [v] [d] := .cons r .nil
theorem IsA.reverse : ∀ {vs : List V} {ds : List D}, IsA K H vs ds → IsA K H vs.reverse ds.reverse
  | _, _, .nil => .nil
  | _, _, .cons r t => by
    rw [List.reverse_cons, List.reverse_cons]
    exact IsA.append (IsA.reverse t) (.one r)
theorem IsA.rep {vs : List V} {ds : List D} (h : IsA K H vs ds) : ∀ k : Nat, IsA K H (List.replicate k vs).flatten (List.replicate k ds).flatten
  | 0 => .nil
  | k + 1 => by
    rw [List.replicate_succ, List.replicate_succ, List.flatten_cons, List.flatten_cons]
    exact h.append (IsA.rep h k)
theorem Is.inv_int {v : V} {i : Int} (h : Is K H v (.int i)) : v = .int i := by cases h; rfl
theorem Is.inv_bl {v : V} {i : Bool} (h : Is K H v (.bl i)) : v = .bl i := by cases h; rfl
theorem Is.inv_str {v : V} {i : Str} (h : Is K H v (.str i)) : v = .str i := by cases h; rfl
theorem Is.inv_non {v : V} (h : Is K H v .non) : v = .non := by cases h; rfl
theorem Is.inv_tup {v : V} {ds : List D} (h : Is K H v (.tup ds)) : ∃ a xs, v = .ref a ∧ H a = some (.tup xs) ∧ IsA K H xs ds := by
  cases h with
  | tup h r => exact ⟨_, _, rfl, h, r⟩
theorem Is.inv_fz {v : V} {ds : List D} (h : Is K H v (.fz ds)) : ∃ a o xs, v = .ref a ∧ H a = some (.frz o (.tup xs)) ∧ FzO o ∧ IsA K H xs ds := by
  cases h with
  | fz h f r => exact ⟨_, _, _, rfl, h, f, r⟩
theorem Is.inv_fl {v : V} {ns : List Int} (h : Is K H v (.fl ns)) : ∃ a, v = .ref a ∧ SqF K H a ns := by
  cases h with
  | fl h => exact ⟨_, rfl, h⟩
theorem IsA.ints : ∀ {vs : List V} {ns : List Int}, IsA K H vs (ns.map .int) → vs = ns.map .int
  | _, [], h => by cases h; rfl
  | _, n :: ns, h => by
    cases h with
    | cons r t => rw [Is.inv_int r, IsA.ints t]; rfl
theorem IsA.of_ints : ∀ (ns : List Int), IsA K H (ns.map .int) (ns.map .int)
  | [] => .nil
  | n :: ns => .cons (.int n) (IsA.of_ints ns)
theorem IsA.bls : ∀ {vs : List V} {ns : List Bool}, IsA K H vs (ns.map .bl) → vs = ns.map .bl
  | _, [], h => by cases h; rfl
  | _, n :: ns, h => by
    cases h with
    | cons r t => rw [Is.inv_bl r, IsA.bls t]; rfl
theorem IsA.strs : ∀ {vs : List V} {ns : List Str}, IsA K H vs (ns.map .str) → vs = ns.map .str
  | _, [], h => by cases h; rfl
  | _, n :: ns, h => by
    cases h with
    | cons r t => rw [Is.inv_str r, IsA.strs t]; rfl
theorem IsA.of_strs : ∀ (ns : List Str), IsA K H (ns.map .str) (ns.map .str)
  | [] => .nil
  | n :: ns => .cons (.str n) (IsA.of_strs ns)
end

/-- what is held at an address and changes -/
inductive C where
  | ls (ds : List D) | dk (kvs : List (Key × D)) | dt (kvs : List (List Key × D))
  | deck (as bs : List Int) (n : Int)
  | steps (c : Addr) (rows : List D)
def IsK {κ : Type} (K : PySem.W.Frag) (H : Hp) : List (κ × V) → List (κ × D) → Prop := Paired fun p q => p.1 = q.1 ∧ Is K H p.2 q.2
theorem IsK.tx {κ : Type} {K : PySem.W.Frag} {H H' : Hp} (t : Tx H H') {vs : List (κ × V)} {ds : List (κ × D)} (h : IsK K H vs ds) : IsK K H' vs ds :=
  Paired.mapP h fun _ _ z => ⟨z.1, z.2.tx t⟩
def CAt (K : PySem.W.Frag) (H : Hp) (p : Addr) : C → List Addr → Prop
  | .ls ds, fp => fp = [p] ∧ ∃ xs, H p = some (.lst xs) ∧ IsA K H xs ds
  | .dk kvs, fp => fp = [p] ∧ ∃ vs, H p = some (.dK vs) ∧ IsK K H vs kvs
  | .dt kvs, fp => fp = [p] ∧ ∃ vs, H p = some (.dT vs) ∧ IsK K H vs kvs
  | .deck as bs n, fp => ∃ b c, fp = [p, b, c] ∧ p ≠ b ∧ p ≠ c ∧ b ≠ c ∧ H p = some (.lst [.ref b, .ref c, .int n]) ∧ H b = some (.lst (as.map .int)) ∧ H c = some (.lst (bs.map .int))
  | .steps cl rows, fp => ∃ dx l xs, fp = [p, dx, l] ∧ p ≠ dx ∧ p ≠ l ∧ dx ≠ l ∧ H p = some (.ins cl dx [(("rows" : Str), .ref l)]) ∧ H dx = some (.own p) ∧ H l = some (.lst xs) ∧ IsA K H xs rows
/-- no tuple stands there -/
def NT : HO → Prop
  | .tup _ => False
  | .frz _ _ => False
  | _ => True
section
variable {K : PySem.W.Frag} {H H' : Hp} {p : Addr} {c : C} {fp : List Addr}
theorem CAt.mem (h : CAt K H p c fp) : p ∈ fp := by
  cases c with
  | ls ds => rw [h.1]; simp
  | dk ds => rw [h.1]; simp
  | dt ds => rw [h.1]; simp
  | deck => obtain ⟨b, c, e, _⟩ := h; rw [e]; simp
  | steps => obtain ⟨b, c, _, e, _⟩ := h; rw [e]; simp
theorem CAt.dom (h : CAt K H p c fp) : ∀ a ∈ fp, ∃ o, H a = some o ∧ NT o := by
  intro a ha
  cases c with
  | ls ds =>
    obtain ⟨e, xs, h1, _⟩ := h
    rw [e] at ha; simp at ha; subst ha; exact ⟨_, h1, trivial⟩
  | dk ds =>
    obtain ⟨e, xs, h1, _⟩ := h
    rw [e] at ha; simp at ha; subst ha; exact ⟨_, h1, trivial⟩
  | dt ds =>
    obtain ⟨e, xs, h1, _⟩ := h
    rw [e] at ha; simp at ha; subst ha; exact ⟨_, h1, trivial⟩
  | deck as bs n =>
    obtain ⟨b, c, e, _, _, _, h1, h2, h3⟩ := h
    rw [e] at ha; simp at ha
    rcases ha with rfl | rfl | rfl
    · exact ⟨_, h1, trivial⟩
    · exact ⟨_, h2, trivial⟩
    · exact ⟨_, h3, trivial⟩
  | steps cl rows =>
    obtain ⟨dx, l, xs, e, _, _, _, h1, h2, h3, _⟩ := h
    rw [e] at ha; simp at ha
    rcases ha with rfl | rfl | rfl
    · exact ⟨_, h1, trivial⟩
    · exact ⟨_, h2, trivial⟩
    · exact ⟨_, h3, trivial⟩
theorem CAt.stay (h : CAt K H p c fp) (e : ∀ a ∈ fp, H' a = H a) (t : Tx H H') : CAt K H' p c fp := by
  cases c with
  | ls ds =>
    obtain ⟨z, xs, h1, h2⟩ := h
    subst z
    exact ⟨rfl, xs, (e p (by simp)).trans h1, h2.tx t⟩
  | dk ds =>
    obtain ⟨z, xs, h1, h2⟩ := h
    subst z
    exact ⟨rfl, xs, (e p (by simp)).trans h1, h2.tx t⟩
  | dt ds =>
    obtain ⟨z, xs, h1, h2⟩ := h
    subst z
    exact ⟨rfl, xs, (e p (by simp)).trans h1, h2.tx t⟩
  | deck as bs n =>
    obtain ⟨b, c, z, n1, n2, n3, h1, h2, h3⟩ := h
    subst z
    exact ⟨b, c, rfl, n1, n2, n3, (e p (by simp)).trans h1, (e b (by simp)).trans h2, (e c (by simp)).trans h3⟩
  | steps cl rows =>
    obtain ⟨dx, l, xs, z, n1, n2, n3, h1, h2, h3, h4⟩ := h
    subst z
    exact ⟨dx, l, xs, rfl, n1, n2, n3, (e p (by simp)).trans h1, (e dx (by simp)).trans h2, (e l (by simp)).trans h3, h4.tx t⟩
end

/-- what a slot holds -/
inductive Sl where
  | un | im (d : D) | ce (c : C)
/-- what an expression gives: data, the cell of a slot, a new cell -/
inductive R where
  | im (d : D) | sl (i : Nat) | tm (c : C)
abbrev Gm := List Sl
abbrev Fps := List (List Addr)
def SlAt (K : PySem.W.Frag) (H : Hp) (o : Option V) (s : Sl) (fp : List Addr) : Prop := match s with
  | .un => fp = []
  | .im d => fp = [] ∧ ∃ v, o = some v ∧ Is K H v d
  | .ce c => ∃ p, o = some (.ref p) ∧ CAt K H p c fp
def In (fps : Fps) (a : Addr) : Prop := ∃ (i : Nat) (f : List Addr), fps[i]? = some f ∧ a ∈ f
/-- all but the slots' cells is kept -/
def Pv (fps : Fps) (H H' : Hp) : Prop := ∀ a o, H a = some o → ¬ In fps a → H' a = some o
def Nw (fps fps' : Fps) (H : Hp) : Prop := ∀ a, In fps' a → In fps a ∨ H a = none

structure At (K : PySem.W.Frag) (np : Nat) (B : Hp) (P : List (V × List Addr)) (fps : Fps) (Γ : Gm) (σ : L2.St) (H : Hp) : Prop where
  l1 : σ.length = Γ.length
  l2 : fps.length = Γ.length
  sl : ∀ (i : Nat) (o : Option V) (s : Sl) (f : List Addr), σ[i]? = some o → Γ[i]? = some s → fps[i]? = some f → SlAt K H o s f
  dj : ∀ (i j : Nat) (f g : List Addr) (a : Addr), i ≠ j → fps[i]? = some f → fps[j]? = some g → a ∈ f → a ∈ g → False
  fr : ∀ (i : Nat) (f : List Addr) (a : Addr), np ≤ i → fps[i]? = some f → a ∈ f → B a = none
  ba : ∀ a o, B a = some o → (∀ (i : Nat) (f : List Addr), i < np → fps[i]? = some f → a ∉ f) → H a = some o
  pn : P.length = np ∧ ∀ (j : Nat) (v : V) (f : List Addr), P[j]? = some (v, f) → σ[j]? = some (some v) ∧ fps[j]? = some f

section
variable {K : PySem.W.Frag} {np : Nat} {B : Hp} {P : List (V × List Addr)} {fps : Fps} {Γ : Gm} {σ : L2.St} {H H' H1 H2 : Hp}
theorem Pv.refl : Pv fps H H := fun _ _ h _ => h
theorem Pv.trans (a : Pv fps H H1) (b : Pv fps H1 H2) : Pv fps H H2 := fun x o h n => b x o (a x o h n) n
theorem Pv.of_ex (e : Ex H H') : Pv fps H H' := fun a o h _ => e a o h
theorem Nw.refl : Nw fps fps H := fun _ h => .inl h
theorem Pv.chain {fps' : Fps} (a : Pv fps H H1) (n : Nw fps fps' H) (b : Pv fps' H1 H2) : Pv fps H H2 := fun x o h k => b x o (a x o h k) fun z => by
  rcases n x z with z | z
  · exact k z
  · rw [h] at z; cases z
theorem Nw.chain {fps' fps'' : Fps} (n : Nw fps fps' H) (a : Pv fps H H1) (m : Nw fps' fps'' H1) : Nw fps fps'' H := fun x z => by
  rcases m x z with z | z
  · exact n x z
  · by_cases k : In fps x
    · exact .inl k
    · right
      cases q : H x with
      | none => rfl
      | some o => rw [a x o q k] at z; cases z
theorem At.at (A : At K np B P fps Γ σ H) {i : Nat} {s : Sl} (h : Γ[i]? = some s) : ∃ o f, σ[i]? = some o ∧ fps[i]? = some f ∧ SlAt K H o s f := by
  have hi : i < Γ.length := (List.getElem?_eq_some_iff.mp h).1
  have h1 : σ[i]? = some (σ[i]'(by rw [A.l1]; exact hi)) := List.getElem?_eq_getElem (by rw [A.l1]; exact hi)
  have h2 : fps[i]? = some (fps[i]'(by rw [A.l2]; exact hi)) := List.getElem?_eq_getElem (by rw [A.l2]; exact hi)
  exact ⟨_, _, h1, h2, A.sl i _ _ _ h1 h h2⟩
theorem At.fat (A : At K np B P fps Γ σ H) {i : Nat} {f : List Addr} (h : fps[i]? = some f) : ∃ o s, σ[i]? = some o ∧ Γ[i]? = some s ∧ SlAt K H o s f := by
  have hi : i < fps.length := (List.getElem?_eq_some_iff.mp h).1
  have h1 : σ[i]? = some (σ[i]'(by rw [A.l1, ← A.l2]; exact hi)) := List.getElem?_eq_getElem (by rw [A.l1, ← A.l2]; exact hi)
  have h2 : Γ[i]? = some (Γ[i]'(by rw [← A.l2]; exact hi)) := List.getElem?_eq_getElem (by rw [← A.l2]; exact hi)
  exact ⟨_, _, h1, h2, A.sl i _ _ _ h1 h2 h⟩
theorem At.im (A : At K np B P fps Γ σ H) {i : Nat} {d : D} (h : Γ[i]? = some (.im d)) : ∃ v, σ[i]? = some (some v) ∧ Is K H v d := by
  obtain ⟨o, f, h1, h2, _, v, rfl, r⟩ := A.at h
  exact ⟨v, h1, r⟩
theorem At.ce (A : At K np B P fps Γ σ H) {i : Nat} {c : C} (h : Γ[i]? = some (.ce c)) : ∃ p f, σ[i]? = some (some (.ref p)) ∧ fps[i]? = some f ∧ CAt K H p c f := by
  obtain ⟨o, f, h1, h2, p, rfl, r⟩ := A.at h
  exact ⟨p, f, h1, h2, r⟩
theorem At.dom (A : At K np B P fps Γ σ H) {a : Addr} (h : In fps a) : ∃ o, H a = some o ∧ NT o := by
  obtain ⟨i, f, h1, h2⟩ := h
  obtain ⟨o, s, _, _, q⟩ := A.fat h1
  cases s with
  | un => rw [show f = [] from q] at h2; cases h2
  | im d => rw [q.1] at h2; cases h2
  | ce c => obtain ⟨p, _, q⟩ := q; exact q.dom a h2
theorem At.free (A : At K np B P fps Γ σ H) {a : Addr} (h : H a = none) : ¬ In fps a := fun z => by
  obtain ⟨o, e, _⟩ := A.dom z
  rw [h] at e; cases e
theorem nt_tp {o : HO} (n : NT o) (t : TP o) : False := by cases o <;> first | exact n | exact t
theorem At.tx (A : At K np B P fps Γ σ H) (v : Pv fps H H') : Tx H H' := fun a u t r => by
  have n : ¬ In fps a := fun z => by
    obtain ⟨o, e, nt⟩ := A.dom z
    rw [r] at e; cases e; exact nt_tp nt t
  exact v a _ r n
theorem At.bnone (A : At K np B P fps Γ σ H) {a : Addr} (h : H a = none) : B a = none := by
  cases q : B a with
  | none => rfl
  | some o =>
    have n := A.free h
    rw [A.ba a o q fun i f _ e m => n ⟨i, f, e, m⟩] at h
    cases h
/-- the cells as they stand, the rest kept -/
theorem At.pv (A : At K np B P fps Γ σ H) (e : ∀ a, In fps a → H' a = H a) (v : Pv fps H H') : At K np B P fps Γ σ H' where
  l1 := A.l1
  l2 := A.l2
  sl := fun i o s f h1 h2 h3 => by
    have q := A.sl i o s f h1 h2 h3
    have t := A.tx v
    cases s with
    | un => exact q
    | im d => obtain ⟨z, v, hv, r⟩ := q; exact ⟨z, v, hv, r.tx t⟩
    | ce c => obtain ⟨p, hp, r⟩ := q; exact ⟨p, hp, r.stay (fun a ha => e a ⟨i, f, h3, ha⟩) t⟩
  dj := A.dj
  fr := A.fr
  ba := fun a o h n => by
    have h1 := A.ba a o h n
    refine v a o h1 fun ⟨i, f, e, m⟩ => ?_
    by_cases hi : i < np
    · exact n i f hi e m
    · have z := A.fr i f a (by omega) e m
      rw [h] at z; cases z
  pn := A.pn
theorem At.ex (A : At K np B P fps Γ σ H) (e : Ex H H') : At K np B P fps Γ σ H' :=
  A.pv (fun a h => by obtain ⟨o, q, _⟩ := A.dom h; rw [q, e a o q]) (Pv.of_ex e)
/-- the cell of slot i is changed -/
theorem At.put (A : At K np B P fps Γ σ H) {i : Nat} {c c' : C} {p : Addr} {f : List Addr} (h : Γ[i]? = some (.ce c)) (hs : σ[i]? = some (some (.ref p))) (hf : fps[i]? = some f) (new : CAt K H' p c' f)
    (e : ∀ a o, a ∉ f → H a = some o → H' a = some o) : At K np B P fps (Γ.set i (.ce c')) σ H' ∧ Pv fps H H' := by
  have v : Pv fps H H' := fun a o q n => e a o (fun z => n ⟨i, f, hf, z⟩) q
  have t := A.tx v
  refine ⟨⟨by rw [List.length_set]; exact A.l1, by rw [List.length_set]; exact A.l2, fun j o s g h1 h2 h3 => ?_, A.dj, A.fr, fun a o q n => ?_, A.pn⟩, v⟩
  · by_cases hj : i = j
    · subst hj
      have hi : i < Γ.length := (List.getElem?_eq_some_iff.mp h).1
      rw [List.getElem?_set_self hi] at h2
      cases h2
      rw [hs] at h1; cases h1
      rw [hf] at h3; cases h3
      exact ⟨p, rfl, new⟩
    · rw [List.getElem?_set_ne hj] at h2
      have q := A.sl j o s g h1 h2 h3
      cases s with
      | un => exact q
      | im d => obtain ⟨z, v, hv, r⟩ := q; exact ⟨z, v, hv, r.tx t⟩
      | ce c2 =>
        obtain ⟨p2, hp, r⟩ := q
        refine ⟨p2, hp, r.stay (fun a ha => ?_) t⟩
        obtain ⟨u, hu, _⟩ := r.dom a ha
        rw [hu, e a u (fun z => A.dj i j f g a hj hf h3 z ha) hu]
  · have h1 := A.ba a o q n
    by_cases hi : i < np
    · exact e a o (n i f hi hf) h1
    · refine e a o (fun z => ?_) h1
      have z := A.fr i f a (by omega) hf z
      rw [q] at z; cases z
/-- a slot (no parameter's) is given anew -/
theorem At.set (A : At K np B P fps Γ σ H) {i : Nat} {s : Sl} {o : Option V} {f : List Addr} (hi : np ≤ i) (hs : SlAt K H o s f) (hf : ∀ a ∈ f, ¬ In fps a ∧ B a = none) : At K np B P (fps.set i f) (Γ.set i s) (σ.set i o) H := by
  refine ⟨by simp [A.l1], by simp [A.l2], fun j u z g h1 h2 h3 => ?_, fun j k g1 g2 a hjk e1 e2 m1 m2 => ?_, fun j g a hj e m => ?_, fun a u q n => A.ba a u q fun j g hj e => ?_, A.pn.1, fun j v g e => ?_⟩
  · by_cases hj : i = j
    · subst hj
      have hl : i < σ.length := by
        have := (List.getElem?_eq_some_iff.mp h1).1
        simpa using this
      rw [List.getElem?_set_self hl] at h1; cases h1
      rw [List.getElem?_set_self (by rw [← A.l1]; exact hl)] at h2; cases h2
      rw [List.getElem?_set_self (by rw [A.l2, ← A.l1]; exact hl)] at h3; cases h3
      exact hs
    · rw [List.getElem?_set_ne hj] at h1 h2 h3
      exact A.sl j u z g h1 h2 h3
  · by_cases hj : i = j
    · subst hj
      have hl : i < fps.length := by
        have := (List.getElem?_eq_some_iff.mp e1).1
        simpa using this
      rw [List.getElem?_set_self hl] at e1; cases e1
      rw [List.getElem?_set_ne hjk] at e2
      exact (hf a m1).1 ⟨k, g2, e2, m2⟩
    · by_cases hk : i = k
      · subst hk
        have hl : i < fps.length := by
          have := (List.getElem?_eq_some_iff.mp e2).1
          simpa using this
        rw [List.getElem?_set_self hl] at e2; cases e2
        rw [List.getElem?_set_ne hj] at e1
        exact (hf a m2).1 ⟨j, g1, e1, m1⟩
      · rw [List.getElem?_set_ne hj] at e1
        rw [List.getElem?_set_ne hk] at e2
        exact A.dj j k g1 g2 a hjk e1 e2 m1 m2
  · by_cases hj' : i = j
    · subst hj'
      have hl : i < fps.length := by
        have := (List.getElem?_eq_some_iff.mp e).1
        simpa using this
      rw [List.getElem?_set_self hl] at e; cases e
      exact (hf a m).2
    · rw [List.getElem?_set_ne hj'] at e
      exact A.fr j g a hj e m
  · refine n j g hj ?_
    rw [List.getElem?_set_ne (show i ≠ j by omega)]
    exact e
  · obtain ⟨q1, q2⟩ := A.pn.2 j v g e
    have hj : j < np := by rw [← A.pn.1]; exact (List.getElem?_eq_some_iff.mp e).1
    rw [List.getElem?_set_ne (show i ≠ j by omega), List.getElem?_set_ne (show i ≠ j by omega)]
    exact ⟨q1, q2⟩
theorem At.nw_set (f : List Addr) (i : Nat) (hf : ∀ a ∈ f, H a = none) : Nw fps (fps.set i f) H := fun a ⟨j, g, e, m⟩ => by
  by_cases hj : i = j
  · subst hj
    have hl : i < fps.length := by
      have := (List.getElem?_eq_some_iff.mp e).1
      simpa using this
    rw [List.getElem?_set_self hl] at e; cases e
    exact .inr (hf a m)
  · rw [List.getElem?_set_ne hj] at e
    exact .inl ⟨j, g, e, m⟩
end

/-! ### what an expression gives -/
def RAt (K : PySem.W.Frag) (Γ : Gm) (σ : L2.St) (H H' : Hp) (v : V) : R → Prop
  | .im d => Is K H' v d
  | .sl i => σ[i]? = some (some v) ∧ ∃ c, Γ[i]? = some (.ce c)
  | .tm c => ∃ p fp, v = .ref p ∧ CAt K H' p c fp ∧ ∀ a ∈ fp, H a = none
section
variable {K : PySem.W.Frag} {np : Nat} {B : Hp} {P : List (V × List Addr)} {fps : Fps} {Γ Γ' : Gm} {σ : L2.St} {H H' H1 H2 : Hp} {v : V} {r : R}
/-- behind more that is reckoned -/
theorem RAt.step (h : RAt K Γ σ H H1 v r) (A0 : ∀ a, In fps a → ∃ o, H a = some o) (A1 : At K np B P fps Γ σ H1) (p : Pv fps H1 H2) (A2 : At K np B P fps Γ' σ H2) : RAt K Γ' σ H H2 v r := by
  have t := A1.tx p
  cases r with
  | im d => exact Is.tx t h
  | sl i =>
    obtain ⟨h1, c, h2⟩ := h
    refine ⟨h1, ?_⟩
    obtain ⟨q, f, e1, e2, e3⟩ := A1.ce h2
    obtain ⟨o, s, e4, e5, e6⟩ := A2.fat e2
    have m := e3.mem
    cases s with
    | un => rw [show f = [] from e6] at m; cases m
    | im d => rw [e6.1] at m; cases m
    | ce c => exact ⟨c, e5⟩
  | tm c =>
    obtain ⟨q, fp, e, h1, h2⟩ := h
    refine ⟨q, fp, e, h1.stay (fun a ha => ?_) t, h2⟩
    obtain ⟨o, ho, _⟩ := h1.dom a ha
    rw [ho]
    refine p a o ho fun z => ?_
    obtain ⟨u, hu⟩ := A0 a z
    rw [h2 a ha] at hu; cases hu
theorem RAt.back {H0 : Hp} (h : RAt K Γ σ H H1 v r) (e : ∀ a, H a = none → H0 a = none) : RAt K Γ σ H0 H1 v r := by
  cases r with
  | im d => exact h
  | sl i => exact h
  | tm c => obtain ⟨q, fp, z, h1, h2⟩ := h; exact ⟨q, fp, z, h1, fun a ha => e a (h2 a ha)⟩
theorem At.dom' (A : At K np B P fps Γ σ H) : ∀ a, In fps a → ∃ o, H a = some o := fun a h => let ⟨o, e, _⟩ := A.dom h; ⟨o, e⟩
/-- what is free behind was free ahead -/
theorem At.freeBack (A : At K np B P fps Γ σ H) (A1 : At K np B P fps Γ' σ H1) (p : Pv fps H H1) : ∀ a, H1 a = none → H a = none := fun a h => by
  cases q : H a with
  | none => rfl
  | some o => rw [p a o q (A1.free h)] at h; cases h
end
abbrev WE := Gm → (R → Gm → Prop) → Prop
abbrev WT := Gm → (Bool → Gm → Prop) → Prop
abbrev WA := Gm → (List R → Gm → Prop) → Prop
def SndE (K : PySem.W.Frag) (np : Nat) (t : TE) (w : WE) : Prop := ∀ B P fps Γ σ H (Q : VK) (Z : R → Gm → Prop), At K np B P fps Γ σ H → w Γ Z →
  (∀ v r Γ' H', At K np B P fps Γ' σ H' → Pv fps H H' → RAt K Γ' σ H H' v r → Z r Γ' → Q v H') → t σ H Q
def SndT (K : PySem.W.Frag) (np : Nat) (t : TT) (w : WT) : Prop := ∀ B P fps Γ σ H (Q : Bool → Hp → Prop) (Z : Bool → Gm → Prop), At K np B P fps Γ σ H → w Γ Z →
  (∀ b Γ' H', At K np B P fps Γ' σ H' → Pv fps H H' → Z b Γ' → Q b H') → t σ H Q
/-- the same with the cells told -/
def RAf (K : PySem.W.Frag) (Γ : Gm) (σ : L2.St) (H H' : Hp) (v : V) (g : List Addr) : R → Prop
  | .im d => g = [] ∧ Is K H' v d
  | .sl i => g = [] ∧ σ[i]? = some (some v) ∧ ∃ c, Γ[i]? = some (.ce c)
  | .tm c => ∃ p, v = .ref p ∧ CAt K H' p c g ∧ ∀ a ∈ g, H a = none
theorem RAf.of {K : PySem.W.Frag} {Γ : Gm} {σ : L2.St} {H H' : Hp} {v : V} {r : R} (h : RAt K Γ σ H H' v r) : ∃ g, RAf K Γ σ H H' v g r := by
  cases r with
  | im d => exact ⟨[], rfl, h⟩
  | sl i => exact ⟨[], rfl, h⟩
  | tm c => obtain ⟨p, fp, e, h1, h2⟩ := h; exact ⟨fp, p, e, h1, h2⟩
theorem RAf.at {K : PySem.W.Frag} {Γ : Gm} {σ : L2.St} {H H' : Hp} {v : V} {r : R} {g : List Addr} (h : RAf K Γ σ H H' v g r) : RAt K Γ σ H H' v r := by
  cases r with
  | im d => exact h.2
  | sl i => exact h.2
  | tm c => obtain ⟨p, e, h1, h2⟩ := h; exact ⟨p, g, e, h1, h2⟩
inductive RA (K : PySem.W.Frag) (Γ : Gm) (σ : L2.St) (H H' : Hp) : List V → List R → Fps → Prop
  | nil : RA K Γ σ H H' [] [] []
  | cons {v : V} {vs : List V} {r : R} {rs : List R} {g : List Addr} {gs : Fps} : RAf K Γ σ H H' v g r → RA K Γ σ H H' vs rs gs → (∀ a ∈ g, ¬ In gs a) → RA K Γ σ H H' (v :: vs) (r :: rs) (g :: gs)
def SndA (K : PySem.W.Frag) (np : Nat) (t : TA) (w : WA) : Prop := ∀ B P fps Γ σ H (Q : List V → Hp → Prop) (Z : List R → Gm → Prop), At K np B P fps Γ σ H → w Γ Z →
  (∀ vs rs gs Γ' H', At K np B P fps Γ' σ H' → Pv fps H H' → RA K Γ' σ H H' vs rs gs → Z rs Γ' → Q vs H') → t σ H Q
structure GE (X : Cx) (np : Nat) (e : Expr) (t : TE) (w : WE) : Prop where
  pe : PE X e t
  sd : SndE X.K np t w
structure GT (X : Cx) (np : Nat) (e : Expr) (t : TT) (w : WT) : Prop where
  pt : PT X e t
  sd : SndT X.K np t w
structure GA (X : Cx) (np : Nat) (es : List Expr) (t : TA) (w : WA) : Prop where
  pa : PA X es t
  sd : SndA X.K np t w
section
variable {K : PySem.W.Frag} {np : Nat} {B : Hp} {P : List (V × List Addr)} {fps : Fps} {Γ Γ' : Gm} {σ : L2.St} {H H' H1 H2 : Hp}
theorem RAf.step {v : V} {r : R} {g : List Addr} (h : RAf K Γ σ H H1 v g r) (A0 : ∀ a, In fps a → ∃ o, H a = some o) (A1 : At K np B P fps Γ σ H1) (p : Pv fps H1 H2) (A2 : At K np B P fps Γ' σ H2) : RAf K Γ' σ H H2 v g r := by
  have k := RAt.step h.at A0 A1 p A2
  cases r with
  | im d => exact ⟨h.1, k⟩
  | sl i => exact ⟨h.1, k⟩
  | tm c =>
    obtain ⟨q, e, h1, h2⟩ := h
    refine ⟨q, e, h1.stay (fun a ha => ?_) (A1.tx p), h2⟩
    obtain ⟨o, ho, _⟩ := h1.dom a ha
    rw [ho]
    refine p a o ho fun z => ?_
    obtain ⟨u, hu⟩ := A0 a z
    rw [h2 a ha] at hu; cases hu
theorem RAf.dom {v : V} {r : R} {g : List Addr} (h : RAf K Γ σ H H1 v g r) : ∀ a ∈ g, ∃ o, H1 a = some o ∧ NT o := by
  cases r with
  | im d => rw [h.1]; intro a ha; cases ha
  | sl i => rw [h.1]; intro a ha; cases ha
  | tm c => obtain ⟨q, e, h1, h2⟩ := h; exact h1.dom
theorem RAf.new {v : V} {r : R} {g : List Addr} (h : RAf K Γ σ H H1 v g r) : ∀ a ∈ g, H a = none := by
  cases r with
  | im d => rw [h.1]; intro a ha; cases ha
  | sl i => rw [h.1]; intro a ha; cases ha
  | tm c => obtain ⟨q, e, h1, h2⟩ := h; exact h2
theorem RAf.back {v : V} {r : R} {g : List Addr} {H0 : Hp} (h : RAf K Γ σ H H1 v g r) (e : ∀ a, H a = none → H0 a = none) : RAf K Γ σ H0 H1 v g r := by
  cases r with
  | im d => exact h
  | sl i => exact h
  | tm c => obtain ⟨q, z, h1, h2⟩ := h; exact ⟨q, z, h1, fun a ha => e a (h2 a ha)⟩
theorem RA.new : ∀ {vs : List V} {rs : List R} {gs : Fps}, RA K Γ σ H H1 vs rs gs → ∀ a, In gs a → H a = none
  | _, _, _, .nil, a, ⟨i, f, e, _⟩ => by simp at e
  | _, _, _, .cons h t n, a, ⟨0, f, e, m⟩ => by simp at e; subst e; exact h.new a m
  | _, _, _, .cons h t n, a, ⟨i + 1, f, e, m⟩ => RA.new t a ⟨i, f, by simpa using e, m⟩
theorem RA.back {H0 : Hp} (e : ∀ a, H a = none → H0 a = none) : ∀ {vs : List V} {rs : List R} {gs : Fps}, RA K Γ σ H H1 vs rs gs → RA K Γ σ H0 H1 vs rs gs
  | _, _, _, .nil => .nil
  | _, _, _, .cons h t n => .cons (h.back e) (RA.back e t) n
/-! ### argument lists -/
def wNil : WA := fun Γ Z => Z [] Γ
def wCons (we : WE) (wr : WA) : WA := fun Γ Z => we Γ fun r Γ1 => wr Γ1 fun rs Γ2 => Z (r :: rs) Γ2
end
section
variable {X : Cx} {np : Nat} {e : Expr} {es : List Expr} {te : TE} {ta : TA} {we : WE} {wa : WA}
theorem ga_nil : GA X np [] tNil wNil := ⟨pa_nil, fun B P fps Γ σ H Q Z A w k => k [] [] [] Γ H A Pv.refl .nil w⟩
theorem ga_cons (h : GE X np e te we) (hr : GA X np es ta wa) (hs : starEach (e :: es) X.env = (false, eval e X.env) :: starEach es X.env := by rfl) : GA X np (e :: es) (tCons te ta) (wCons we wa) :=
  ⟨pa_cons h.pe hr.pa hs, fun B P fps Γ σ H Q Z A w k => h.sd B P fps Γ σ H _ _ A w fun v r Γ1 H1 A1 p1 r1 w1 => hr.sd B P fps Γ1 σ H1 _ _ A1 w1 fun vs rs gs Γ2 H2 A2 p2 r2 w2 => by
    obtain ⟨g, q⟩ := RAf.of r1
    refine k (v :: vs) (r :: rs) (g :: gs) Γ2 H2 A2 (p1.trans p2) (.cons (q.step A.dom' A1 p2 A2) (r2.back (A.freeBack A1 p1)) fun a ha z => ?_) w2
    obtain ⟨o, ho, _⟩ := q.dom a ha
    rw [r2.new a z] at ho
    cases ho⟩
end
end G
set_option maxRecDepth 100000
set_option maxHeartbeats 4000000
/-! G1: expressions. -/
namespace G
open PySem PySem.Spec PyProof.Rows L2

/-! ### names, constants -/
def wVar (i : Nat) : WE := fun Γ Z => match Γ[i]? with
  | some (.im d) => Z (.im d) Γ
  | some (.ce _) => Z (.sl i) Γ
  | _ => False
def wC (d : D) : WE := fun Γ Z => Z (.im d) Γ
section
variable {K : PySem.W.Frag} {np : Nat}
theorem sd_var {i : Nat} : SndE K np (tVar i) (wVar i) := fun B P fps Γ σ H Q Z A w k => by
  unfold wVar at w
  split at w
  · rename_i d h
    obtain ⟨v, h1, r⟩ := A.im h
    exact ⟨v, h1, k v (.im d) Γ H A Pv.refl r w⟩
  · rename_i c h
    obtain ⟨p, f, h1, h2, h3⟩ := A.ce h
    exact ⟨_, h1, k _ (.sl i) Γ H A Pv.refl ⟨h1, c, h⟩ w⟩
  · exact w.elim
theorem sd_c {v : V} {d : D} (h : ∀ H, Is K H v d) : SndE K np (tC v) (wC d) := fun B P fps Γ σ H Q Z A w k => k v (.im d) Γ H A Pv.refl (h H) w
end
section
variable {X : Cx} {np : Nat} {pos : Pos}
theorem gv (i : Nat) {x : Str} (hN : X.N[i]? = some x := by rfl) (hv : Vis X.env.scope x := by first | exact Or.inl rfl | exact Or.inr (Or.inl rfl) | exact Or.inr (Or.inr rfl)) (hd : (x == ("__debug__" : Str)) = false := by decide)
    (hcd : (x == ("__classdict__" : Str)) = false := by decide) : GE X np (.Name x pos) (tVar i) (wVar i) := ⟨pe_var hN hv hd hcd, sd_var⟩
theorem g_int {i : Int} {j : Nat} : GE X np (.Constant (.int i) j pos) (tC (.int i)) (wC (.int i)) := ⟨pe_int, sd_c fun _ => .int i⟩
theorem g_bl {b : Bool} {j : Nat} : GE X np (.Constant (.bool b) j pos) (tC (.bl b)) (wC (.bl b)) := ⟨pe_bl, sd_c fun _ => .bl b⟩
theorem g_non {j : Nat} : GE X np (.Constant .none j pos) (tC .non) (wC .non) := ⟨pe_non, sd_c fun _ => .non⟩
theorem g_str {x : Str} {j : Nat} : GE X np (.Constant (.str x) j pos) (tC (.str x)) (wC (.str x)) := ⟨pe_str, sd_c fun _ => .str x⟩
/-- a constant of the module -/
theorem g_glob {x : Str} {v : V} {d : D} {u : Value} (hg : Gl X x) (hm : X.mg x = some u) (r : RelV v u) (h : ∀ H, Is X.K H v d) (hd : (x == ("__debug__" : Str)) = false := by decide) : GE X np (.Name x pos) (tC v) (wC d) := ⟨pe_glob hg hm r hd, sd_c h⟩
theorem g_globI {x : Str} {i : Int} (hm : ∃ t, X.mg x = some (.int i t)) (hg : Gl X x := by rfl) (hd : (x == ("__debug__" : Str)) = false := by decide) : GE X np (.Name x pos) (tC (.int i)) (wC (.int i)) := by
  obtain ⟨t, hm⟩ := hm
  exact g_glob hg hm ⟨_, rfl⟩ (fun _ => .int i) hd
end

/-! ### operators on data -/
def OG (K : PySem.W.Frag) (r : R2) (g : D → D → (D → Prop) → Prop) : Prop := ∀ (H : Hp) (x y : V) (d e : D) (Z : D → Prop) (Q : VK), Is K H x d → Is K H y e → g d e Z → (∀ v d' H', Ex H H' → Is K H' v d' → Z d' → Q v H') → r x y H Q
def UG (K : PySem.W.Frag) (r : V → Hp → VK → Prop) (g : D → (D → Prop) → Prop) : Prop := ∀ (H : Hp) (x : V) (d : D) (Z : D → Prop) (Q : VK), Is K H x d → g d Z → (∀ v d' H', Ex H H' → Is K H' v d' → Z d' → Q v H') → r x H Q
def wOp (g : D → D → (D → Prop) → Prop) (wa wb : WE) : WE := fun Γ Z => wa Γ fun x Γ1 => wb Γ1 fun y Γ2 => match x, y with
  | .im d, .im e => g d e fun d' => Z (.im d') Γ2
  | _, _ => False
def wUn (g : D → (D → Prop) → Prop) (wa : WE) : WE := fun Γ Z => wa Γ fun x Γ1 => match x with
  | .im d => g d fun d' => Z (.im d') Γ1
  | _ => False
section
variable {K : PySem.W.Frag} {np : Nat} {ta tb : TE} {wa wb : WE}
/-- two expressions in a row -/
theorem sd_two (ha : SndE K np ta wa) (hb : SndE K np tb wb) {B : Hp} {P : List (V × List Addr)} {fps : Fps} {Γ : Gm} {σ : L2.St} {H : Hp} {Z : R → R → Gm → Prop} {T : V → V → Hp → Prop} (A : At K np B P fps Γ σ H)
    (w : wa Γ fun x Γ1 => wb Γ1 fun y Γ2 => Z x y Γ2)
    (k : ∀ v u x y Γ' H', At K np B P fps Γ' σ H' → Pv fps H H' → RAt K Γ' σ H H' v x → RAt K Γ' σ H H' u y → Z x y Γ' → T v u H') : ta σ H fun v H1 => tb σ H1 fun u H2 => T v u H2 :=
  ha B P fps Γ σ H _ _ A w fun v x Γ1 H1 A1 p1 r1 w1 => hb B P fps Γ1 σ H1 _ _ A1 w1 fun u y Γ2 H2 A2 p2 r2 w2 =>
    k v u x y Γ2 H2 A2 (p1.trans p2) (r1.step A.dom' A1 p2 A2) (r2.back (A.freeBack A1 p1)) w2
theorem sd_op {r : R2} {g : D → D → (D → Prop) → Prop} (hr : OG K r g) (ha : SndE K np ta wa) (hb : SndE K np tb wb) : SndE K np (tOp r ta tb) (wOp g wa wb) := fun B P fps Γ σ H Q Z A w k =>
  sd_two ha hb (Z := fun x y Γ2 => match x, y with
    | .im d, .im e => g d e fun d' => Z (.im d') Γ2
    | _, _ => False) A w fun v u x y Γ' H' A' p rx ry w' => by
    cases x with
    | im d =>
      cases y with
      | im e => exact hr H' v u d e _ Q rx ry w' fun z d' H2 ex is q => k z (.im d') Γ' H2 (A'.ex ex) (p.trans (Pv.of_ex ex)) is q
      | sl i => exact w'.elim
      | tm c => exact w'.elim
    | sl i => exact w'.elim
    | tm c => exact w'.elim
theorem sd_un {r : V → Hp → VK → Prop} {g : D → (D → Prop) → Prop} (hr : UG K r g) (ha : SndE K np ta wa) : SndE K np (tUn r ta) (wUn g wa) := fun B P fps Γ σ H Q Z A w k =>
  ha B P fps Γ σ H _ _ A w fun v x Γ1 H1 A1 p1 r1 w1 => by
    cases x with
    | im d => exact hr H1 v d _ Q r1 w1 fun z d' H2 ex is q => k z (.im d') Γ1 H2 (A1.ex ex) (p1.trans (Pv.of_ex ex)) is q
    | sl i => exact w1.elim
    | tm c => exact w1.elim
end

/-! sums: ints, texts, tuples -/
def gAdd : D → D → (D → Prop) → Prop
  | .int i, .int j, Z => Z (.int (i + j))
  | .str a, .str b, Z => a.length + b.length ≤ sizeLine ∧ Z (.str (a ++ b))
  | .tup xs, .tup ys, Z => xs.length + ys.length ≤ sizeLine ∧ Z (.tup (xs ++ ys))
  | _, _, _ => False
def gSub : D → D → (D → Prop) → Prop
  | .int i, .int j, Z => Z (.int (i - j))
  | _, _, _ => False
def gMul : D → D → (D → Prop) → Prop
  | .int i, .int j, Z => CMulW i j ∧ Z (.int (i * j))
  | _, _, _ => False
def gDiv : D → D → (D → Prop) → Prop
  | .int i, .int j, Z => CDiv i j ∧ Z (.int (i / j))
  | _, _, _ => False
def gMod : D → D → (D → Prop) → Prop
  | .int i, .int j, Z => 0 < j ∧ Z (.int (i % j))
  | _, _, _ => False
def gPow : D → D → (D → Prop) → Prop
  | .int i, .int j, Z => CPow i j ∧ Z (.int (i ^ j.toNat))
  | _, _, _ => False
def gLt : D → D → (D → Prop) → Prop
  | .int i, .int j, Z => Z (.bl (decide (i < j)))
  | _, _, _ => False
def gLe : D → D → (D → Prop) → Prop
  | .int i, .int j, Z => Z (.bl (decide (i ≤ j)))
  | _, _, _ => False
def gGt : D → D → (D → Prop) → Prop
  | .int i, .int j, Z => Z (.bl (decide (j < i)))
  | _, _, _ => False
def gGe : D → D → (D → Prop) → Prop
  | .int i, .int j, Z => Z (.bl (decide (j ≤ i)))
  | _, _, _ => False
def rAddA (K : PySem.W.Frag) : R2 := fun x y H Q => (rI0 fun i j => .int (i + j)) x y H Q ∨ (fun x y H Q => ∃ i j, x = .str i ∧ y = .str j ∧ i.length + j.length ≤ sizeLine ∧ Q (.str (i ++ j)) H : R2) x y H Q ∨ rCatA K x y H Q
theorem op_addA {X : Cx} : OpR X (binaryOp .Add) (rAddA X.K) := op_add.or (op_add_str.or op_catA)
theorem og_add {K : PySem.W.Frag} : OG K (rAddA K) gAdd := fun H x y d e Z Q hx hy g k => by
  cases d with
  | int i =>
    cases e with
    | int j => rw [hx.inv_int, hy.inv_int]; exact .inl ⟨i, j, rfl, rfl, k _ _ H (Ex.refl H) (.int _) g⟩
    | _ => exact g.elim
  | str a =>
    cases e with
    | str b => rw [hx.inv_str, hy.inv_str]; exact .inr (.inl ⟨a, b, rfl, rfl, g.1, k _ _ H (Ex.refl H) (.str _) g.2⟩)
    | _ => exact g.elim
  | tup xs =>
    cases e with
    | tup ys =>
      obtain ⟨a, vs, rfl, h1, h2⟩ := hx.inv_tup
      obtain ⟨b, us, rfl, h3, h4⟩ := hy.inv_tup
      refine .inr (.inr ⟨a, b, vs, us, rfl, rfl, .of h1, .of h3, by rw [h2.length, h4.length]; exact g.1, fun e => ?_, fun e1 e2 => ?_, fun e1 e2 p hp => ?_⟩)
      · subst e
        cases h2
        exact k _ _ H (Ex.refl H) (.tup h3 h4) g.2
      · subst e2
        cases h4
        have g2 := g.2
        rw [List.append_nil] at g2
        exact k _ _ H (Ex.refl H) (.tup h1 h2) g2
      · exact k _ _ _ (Ex.new hp) (.tup upd_same ((h2.append h4).tx (Ex.new hp).tx)) g.2
    | _ => exact g.elim
  | _ => exact g.elim
theorem og_I0 {K : PySem.W.Frag} {f : Int → Int → Int} {g : D → D → (D → Prop) → Prop} (hg : ∀ d e Z, g d e Z → ∃ i j, d = .int i ∧ e = .int j ∧ Z (.int (f i j))) : OG K (rI0 fun i j => .int (f i j)) g := fun H x y d e Z Q hx hy w k => by
  obtain ⟨i, j, rfl, rfl, z⟩ := hg d e Z w
  rw [hx.inv_int, hy.inv_int]
  exact ⟨i, j, rfl, rfl, k _ _ H (Ex.refl H) (.int _) z⟩
theorem og_B0 {K : PySem.W.Frag} {f : Int → Int → Bool} {g : D → D → (D → Prop) → Prop} (hg : ∀ d e Z, g d e Z → ∃ i j, d = .int i ∧ e = .int j ∧ Z (.bl (f i j))) : OG K (rI0 fun i j => .bl (f i j)) g := fun H x y d e Z Q hx hy w k => by
  obtain ⟨i, j, rfl, rfl, z⟩ := hg d e Z w
  rw [hx.inv_int, hy.inv_int]
  exact ⟨i, j, rfl, rfl, k _ _ H (Ex.refl H) (.bl _) z⟩
theorem og_I {K : PySem.W.Frag} {C : Int → Int → Prop} {f : Int → Int → Int} {g : D → D → (D → Prop) → Prop} (hg : ∀ d e Z, g d e Z → ∃ i j, d = .int i ∧ e = .int j ∧ C i j ∧ Z (.int (f i j))) : OG K (rI C fun i j => .int (f i j)) g := fun H x y d e Z Q hx hy w k => by
  obtain ⟨i, j, rfl, rfl, c, z⟩ := hg d e Z w
  rw [hx.inv_int, hy.inv_int]
  exact ⟨i, j, rfl, rfl, c, k _ _ H (Ex.refl H) (.int _) z⟩
theorem i2_of {P : Int → Int → (D → Prop) → Prop} {g : D → D → (D → Prop) → Prop} (h1 : ∀ i j Z, g (.int i) (.int j) Z = P i j Z) (h2 : ∀ d e Z, (∀ i, d ≠ .int i) ∨ (∀ i, e ≠ .int i) → g d e Z → False) : ∀ d e Z, g d e Z → ∃ i j, d = .int i ∧ e = .int j ∧ P i j Z := fun d e Z w => by
  by_cases hd : ∃ i, d = .int i
  · obtain ⟨i, rfl⟩ := hd
    by_cases he : ∃ j, e = .int j
    · obtain ⟨j, rfl⟩ := he
      exact ⟨i, j, rfl, rfl, by rw [← h1]; exact w⟩
    · exact (h2 _ _ _ (.inr fun i z => he ⟨i, z⟩) w).elim
  · exact (h2 _ _ _ (.inl fun i z => hd ⟨i, z⟩) w).elim
section
variable {K : PySem.W.Frag}
theorem og_sub : OG K (rI0 fun i j => .int (i - j)) gSub := og_I0 fun d e Z w => by
  cases d <;> cases e <;> first | exact ⟨_, _, rfl, rfl, w⟩ | exact w.elim
theorem og_mul : OG K (rI CMulW fun i j => .int (i * j)) gMul := og_I fun d e Z w => by
  cases d <;> cases e <;> first | exact ⟨_, _, rfl, rfl, w.1, w.2⟩ | exact w.elim
theorem og_div : OG K (rI CDiv fun i j => .int (i / j)) gDiv := og_I fun d e Z w => by
  cases d <;> cases e <;> first | exact ⟨_, _, rfl, rfl, w.1, w.2⟩ | exact w.elim
theorem og_mod : OG K (rI (fun _ j => 0 < j) fun i j => .int (i % j)) gMod := og_I fun d e Z w => by
  cases d <;> cases e <;> first | exact ⟨_, _, rfl, rfl, w.1, w.2⟩ | exact w.elim
theorem og_pow : OG K (rI CPow fun i j => .int (i ^ j.toNat)) gPow := og_I fun d e Z w => by
  cases d <;> cases e <;> first | exact ⟨_, _, rfl, rfl, w.1, w.2⟩ | exact w.elim
theorem og_lt : OG K (rI0 fun i j => .bl (decide (i < j))) gLt := og_B0 fun d e Z w => by
  cases d <;> cases e <;> first | exact ⟨_, _, rfl, rfl, w⟩ | exact w.elim
theorem og_le : OG K (rI0 fun i j => .bl (decide (i ≤ j))) gLe := og_B0 fun d e Z w => by
  cases d <;> cases e <;> first | exact ⟨_, _, rfl, rfl, w⟩ | exact w.elim
theorem og_gt : OG K (rI0 fun i j => .bl (decide (j < i))) gGt := og_B0 fun d e Z w => by
  cases d <;> cases e <;> first | exact ⟨_, _, rfl, rfl, w⟩ | exact w.elim
theorem og_ge : OG K (rI0 fun i j => .bl (decide (j ≤ i))) gGe := og_B0 fun d e Z w => by
  cases d <;> cases e <;> first | exact ⟨_, _, rfl, rfl, w⟩ | exact w.elim
end
section
variable {X : Cx} {np : Nat} {pos : Pos} {a b : Expr} {ta tb : TE} {wa wb : WE}
theorem g_add (ha : GE X np a ta wa) (hb : GE X np b tb wb) : GE X np (.BinOp a .Add b pos) (tOp (rAddA X.K) ta tb) (wOp gAdd wa wb) := ⟨pe_op op_addA ha.pe hb.pe, sd_op og_add ha.sd hb.sd⟩
theorem g_sub (ha : GE X np a ta wa) (hb : GE X np b tb wb) : GE X np (.BinOp a .Sub b pos) (tOp (rI0 fun i j => .int (i - j)) ta tb) (wOp gSub wa wb) := ⟨pe_op op_sub ha.pe hb.pe, sd_op og_sub ha.sd hb.sd⟩
theorem g_mul (ha : GE X np a ta wa) (hb : GE X np b tb wb) : GE X np (.BinOp a .Mult b pos) (tOp (rI CMulW fun i j => .int (i * j)) ta tb) (wOp gMul wa wb) := ⟨pe_op op_mulW ha.pe hb.pe, sd_op og_mul ha.sd hb.sd⟩
theorem g_div (ha : GE X np a ta wa) (hb : GE X np b tb wb) : GE X np (.BinOp a .FloorDiv b pos) (tOp (rI CDiv fun i j => .int (i / j)) ta tb) (wOp gDiv wa wb) := ⟨pe_op op_fdiv ha.pe hb.pe, sd_op og_div ha.sd hb.sd⟩
theorem g_mod (ha : GE X np a ta wa) (hb : GE X np b tb wb) : GE X np (.BinOp a .Mod b pos) (tOp (rI (fun _ j => 0 < j) fun i j => .int (i % j)) ta tb) (wOp gMod wa wb) := ⟨pe_op op_mod ha.pe hb.pe, sd_op og_mod ha.sd hb.sd⟩
theorem g_pow (ha : GE X np a ta wa) (hb : GE X np b tb wb) : GE X np (.BinOp a .Pow b pos) (tOp (rI CPow fun i j => .int (i ^ j.toNat)) ta tb) (wOp gPow wa wb) := ⟨pe_op op_pow ha.pe hb.pe, sd_op og_pow ha.sd hb.sd⟩
theorem g_lt (ha : GE X np a ta wa) (hb : GE X np b tb wb) : GE X np (.Compare a [.Lt] [b] pos) (tOp (rI0 fun i j => .bl (decide (i < j))) ta tb) (wOp gLt wa wb) := ⟨pe_cmpR op_lt ha.pe hb.pe (nomark _), sd_op og_lt ha.sd hb.sd⟩
theorem g_le (ha : GE X np a ta wa) (hb : GE X np b tb wb) : GE X np (.Compare a [.LtE] [b] pos) (tOp (rI0 fun i j => .bl (decide (i ≤ j))) ta tb) (wOp gLe wa wb) := ⟨pe_cmpR op_le ha.pe hb.pe (nomark _), sd_op og_le ha.sd hb.sd⟩
theorem g_gt (ha : GE X np a ta wa) (hb : GE X np b tb wb) : GE X np (.Compare a [.Gt] [b] pos) (tOp (rI0 fun i j => .bl (decide (j < i))) ta tb) (wOp gGt wa wb) := ⟨pe_cmpR op_gt ha.pe hb.pe (nomark _), sd_op og_gt ha.sd hb.sd⟩
theorem g_ge (ha : GE X np a ta wa) (hb : GE X np b tb wb) : GE X np (.Compare a [.GtE] [b] pos) (tOp (rI0 fun i j => .bl (decide (j ≤ i))) ta tb) (wOp gGe wa wb) := ⟨pe_cmpR op_ge ha.pe hb.pe (nomark _), sd_op og_ge ha.sd hb.sd⟩
end
end G
set_option maxRecDepth 100000
set_option maxHeartbeats 4000000
/-! G2: sequences, comparisons, tests, displays, dicts. -/
namespace G
open PySem PySem.Spec PyProof.Rows L2

/-! ### what is read as a sequence -/
def lsOf (Γ : Gm) : R → Option (List D)
  | .im _ => none
  | .tm (.ls ds) => some ds
  | .tm _ => none
  | .sl i => match Γ[i]? with
    | some (.ce (.ls ds)) => some ds
    | _ => none
def seqOf (Γ : Gm) : R → Option (List D)
  | .im (.tup ds) => some ds
  | .im (.fz ds) => some ds
  | r => lsOf Γ r
section
variable {K : PySem.W.Frag} {np : Nat} {B : Hp} {P : List (V × List Addr)} {fps : Fps} {Γ : Gm} {σ : L2.St} {H H' : Hp} {v : V} {r : R} {ds : List D}
theorem RAt.ls (h : RAt K Γ σ H H' v r) (A : At K np B P fps Γ σ H') (e : lsOf Γ r = some ds) : ∃ p xs, v = .ref p ∧ H' p = some (.lst xs) ∧ IsA K H' xs ds := by
  cases r with
  | im d => cases e
  | tm c =>
    cases c with
    | ls es =>
      cases e
      obtain ⟨p, fp, rfl, ⟨_, xs, h1, h2⟩, _⟩ := h
      exact ⟨p, xs, rfl, h1, h2⟩
    | _ => cases e
  | sl i =>
    obtain ⟨h1, c, h2⟩ := h
    simp only [lsOf, h2] at e
    cases c with
    | ls es =>
      cases e
      obtain ⟨p, f, e1, e2, _, xs, e3, e4⟩ := A.ce h2
      rw [h1] at e1; cases e1
      exact ⟨p, xs, rfl, e3, e4⟩
    | _ => cases e
theorem RAt.seq (h : RAt K Γ σ H H' v r) (A : At K np B P fps Γ σ H') (e : seqOf Γ r = some ds) : ∃ p xs, v = .ref p ∧ (SqL K H' p xs ∨ SqT K H' p xs) ∧ IsA K H' xs ds := by
  unfold seqOf at e
  split at e
  · cases e
    obtain ⟨a, xs, rfl, h1, h2⟩ := Is.inv_tup h
    exact ⟨a, xs, rfl, .inr (.of h1), h2⟩
  · cases e
    obtain ⟨a, o, xs, rfl, h1, _, h2⟩ := Is.inv_fz h
    exact ⟨a, xs, rfl, .inr (.inl (.inr ⟨o, h1⟩)), h2⟩
  · obtain ⟨p, xs, e1, e2, e3⟩ := h.ls A e
    exact ⟨p, xs, e1, .inl (.of e2), e3⟩
end
theorem IsA.atI {K : PySem.W.Frag} {H : Hp} {vs : List V} {ds : List D} {i : Int} {d : D} (h : IsA K H vs ds) (e : L2.atI ds i = some d) : ∃ v, L2.atI vs i = some v ∧ Is K H v d := by
  unfold L2.atI at e ⊢
  rw [h.length]
  cases q : ixN ds.length i with
  | none => rw [q] at e; cases e
  | some j => rw [q] at e; exact h.get e

/-! ### items -/
def IxZ0 (Γ : Gm) (x : R) (i : Int) (Z : D → Prop) : Prop := match x with
  | .im (.str s) => ∃ c, s.length ≤ sizeLine ∧ L2.atI s.cps.toList i = some c ∧ Z (.str ⟨#[c]⟩)
  | r => ∃ ds d, seqOf Γ r = some ds ∧ L2.atI ds i = some d ∧ Z d
structure IxZ (Γ : Gm) (x : R) (i : Int) (Z : D → Prop) : Prop where
  h : IxZ0 Γ x i Z
def wIx (wa wb : WE) : WE := fun Γ Z => wa Γ fun x Γ1 => wb Γ1 fun y Γ2 => match y with
  | .im (.int i) => IxZ Γ2 x i fun d => Z (.im d) Γ2
  | _ => False
section
variable {X : Cx} {np : Nat} {pos : Pos} {a b : Expr} {ta tb : TE} {wa wb : WE}
theorem g_ix (ha : GE X np a ta wa) (hb : GE X np b tb wb) (hs : PlainIx b := by exact fun _ _ => rfl) : GE X np (.Subscript a b pos) (tOp (rIx X.K) ta tb) (wIx wa wb) :=
  ⟨pe_ix ix_seq ha.pe hb.pe hs, fun B P fps Γ σ H Q Z A w k => sd_two ha.sd hb.sd (Z := fun x y Γ2 => match y with
    | .im (.int i) => IxZ Γ2 x i fun d => Z (.im d) Γ2
    | _ => False) A w fun v u x y Γ' H' A' p rx ry w' => by
    split at w'
    · rename_i i
      rw [Is.inv_int ry]
      replace w' := w'.h
      unfold IxZ0 at w'
      split at w'
      · obtain ⟨c, h1, h2, h3⟩ := w'
        rw [Is.inv_str rx]
        exact .inr (.inr ⟨_, i, c, rfl, rfl, h1, h2, k _ (.im _) Γ' H' A' p (.str _) h3⟩)
      · obtain ⟨ds, d, h1, h2, h3⟩ := w'
        obtain ⟨q, xs, rfl, h4, h5⟩ := rx.seq A' h1
        obtain ⟨z, h6, h7⟩ := h5.atI h2
        rcases h4 with h4 | h4
        · exact .inl ⟨q, xs, i, z, rfl, rfl, h4, h6, k z (.im d) Γ' H' A' p h7 h3⟩
        · exact .inr (.inl ⟨q, xs, i, z, rfl, rfl, h4, h6, k z (.im d) Γ' H' A' p h7 h3⟩)
    · exact w'.elim⟩
end

/-! ### slices -/
abbrev WO := Gm → (Option Int → Gm → Prop) → Prop
def SndO (K : PySem.W.Frag) (np : Nat) (t : TO) (w : WO) : Prop := ∀ B P fps Γ σ H (Q : Option Int → Hp → Prop) (Z : Option Int → Gm → Prop), At K np B P fps Γ σ H → w Γ Z →
  (∀ b Γ' H', At K np B P fps Γ' σ H' → Pv fps H H' → Z b Γ' → Q b H') → t σ H Q
structure GO (X : Cx) (np : Nat) (e : Option Expr) (t : TO) (w : WO) : Prop where
  po : PO X e t
  sd : SndO X.K np t w
def wNo : WO := fun Γ Z => Z none Γ
def wPart (w : WE) : WO := fun Γ Z => w Γ fun x Γ1 => match x with
  | .im (.int i) => Z (some i) Γ1
  | _ => False
def cutD (xs : List D) (lo hi : Option Int) : List D := (xs.drop (HT.sIx xs.length 0 lo)).take (HT.sIx xs.length xs.length hi - HT.sIx xs.length 0 lo)
theorem IsA.cut {K : PySem.W.Frag} {H : Hp} {vs : List V} {ds : List D} (h : IsA K H vs ds) (lo hi : Option Int) : IsA K H (cutV vs lo hi) (cutD ds lo hi) := by
  unfold cutV cutD
  rw [h.length]
  exact (h.drop _).take _
/-- a slice of a tuple, a text: data; of a list: a new list -/
def SlZ (Γ : Gm) (x : R) (lo hi : Option Int) (Z : R → Prop) : Prop := match x with
  | .im (.str s) => s.length ≤ sizeLine ∧ Z (.im (.str (cutS s lo hi)))
  | .im (.tup ds) => Z (.im (.tup (cutD ds lo hi)))
  | .im (.fl ns) => Z (.tm (.ls (cutD (ns.map .int) lo hi)))
  | r => ∃ ds, lsOf Γ r = some ds ∧ Z (.tm (.ls (cutD ds lo hi)))
def wSl (we : WE) (wl wh : WO) : WE := fun Γ Z => we Γ fun x Γ1 => wl Γ1 fun lo Γ2 => wh Γ2 fun hi Γ3 => SlZ Γ3 x lo hi fun r => Z r Γ3
def rSlX (K : PySem.W.Frag) : V → Option Int → Option Int → Hp → VK → Prop := fun x lo hi H Q => rSlS x lo hi H Q ∨ rSlA K x lo hi H Q ∨ rSlL K x lo hi H Q
theorem sl_all {X : Cx} : SlR X (rSlX X.K) := sl_str.or (sl_tupA.or sl_list)
theorem tm_ls {K : PySem.W.Frag} {Γ : Gm} {σ : L2.St} {H0 H : Hp} {p : Addr} {xs : List V} {ds : List D} (hp : H p = none) (h0 : H0 p = none) (h : IsA K H xs ds) : RAt K Γ σ H0 (upd H p (.lst xs)) (.ref p) (.tm (.ls ds)) :=
  ⟨p, [p], rfl, ⟨rfl, xs, upd_same, h.tx (Ex.new hp).tx⟩, fun a ha => by simp at ha; subst ha; exact h0⟩
section
variable {X : Cx} {np : Nat} {pos p2 : Pos} {e : Expr} {lo hi : Option Expr} {te : TE} {tl th : TO} {we : WE} {wl wh : WO}
theorem go_none : GO X np none tNoPart wNo := ⟨po_none, fun B P fps Γ σ H Q Z A w k => k none Γ H A Pv.refl w⟩
theorem go_some (h : GE X np e te we) : GO X np (some e) (tPart te) (wPart we) := ⟨po_some h.pe, fun B P fps Γ σ H Q Z A w k => h.sd B P fps Γ σ H _ _ A w fun v r Γ1 H1 A1 p1 r1 w1 => by
  split at w1
  · rename_i i
    rw [Is.inv_int r1]
    exact ⟨i, rfl, k _ _ _ A1 p1 w1⟩
  · exact w1.elim⟩
theorem g_slice (h : GE X np e te we) (hl : GO X np lo tl wl) (hu : GO X np hi th wh) : GE X np (.Subscript e (.Slice lo hi none p2) pos) (tSl (rSlX X.K) te tl th) (wSl we wl wh) :=
  ⟨pe_slice sl_all h.pe hl.po hu.po, fun B P fps Γ σ H Q Z A w k => h.sd B P fps Γ σ H _ _ A w fun v r Γ1 H1 A1 p1 r1 w1 => hl.sd B P fps Γ1 σ H1 _ _ A1 w1 fun lo' Γ2 H2 A2 p2 w2 => hu.sd B P fps Γ2 σ H2 _ _ A2 w2 fun hi' Γ3 H3 A3 p3 w3 => by
    have r3 : RAt X.K Γ3 σ H H3 v r := r1.step A.dom' A1 (p2.trans p3) A3
    have pp : Pv fps H H3 := p1.trans (p2.trans p3)
    unfold SlZ at w3
    split at w3
    · obtain ⟨h1, h2⟩ := w3
      rw [Is.inv_str r3]
      exact .inl ⟨_, rfl, h1, k _ (.im _) Γ3 H3 A3 pp (.str _) h2⟩
    · rename_i ds
      obtain ⟨a, xs, rfl, h4, h5⟩ := Is.inv_tup r3
      refine .inr (.inl ⟨a, xs, rfl, .of h4, fun hw => ?_, fun hw p hp => ?_⟩)
      · refine k _ (.im _) Γ3 H3 A3 pp ?_ w3
        have e : cutD ds lo' hi' = ds := by
          unfold cutD
          rw [← h5.length, hw.1, hw.2, List.drop_zero, Nat.sub_zero, h5.length, List.take_length]
        rw [e]
        exact .tup h4 h5
      · exact k _ (.im _) Γ3 _ (A3.ex (Ex.new hp)) (pp.trans (Pv.of_ex (Ex.new hp))) (.tup upd_same ((h5.cut lo' hi').tx (Ex.new hp).tx)) w3
    · rename_i ns
      obtain ⟨a, rfl, h4⟩ := Is.inv_fl r3
      refine .inr (.inr ⟨a, ns.map .int, rfl, h4.sq, fun p hp => ?_⟩)
      exact k _ (.tm _) Γ3 _ (A3.ex (Ex.new hp)) (pp.trans (Pv.of_ex (Ex.new hp))) (tm_ls hp (A.freeBack A3 pp p hp) ((IsA.of_ints ns).cut lo' hi')) w3
    · obtain ⟨ds, h1, h2⟩ := w3
      obtain ⟨q, xs, rfl, h4, h5⟩ := r3.ls A3 h1
      refine .inr (.inr ⟨q, xs, rfl, .of h4, fun p hp => ?_⟩)
      exact k _ (.tm _) Γ3 _ (A3.ex (Ex.new hp)) (pp.trans (Pv.of_ex (Ex.new hp))) (tm_ls hp (A.freeBack A3 pp p hp) (h5.cut lo' hi')) h2⟩
end

/-! ### == and != -/
mutual
def toPy : D → PyData
  | .non => .none
  | .bl b => .bool b
  | .int i => .int i
  | .str x => .str x
  | .tup ds => .tuple (toPyA ds)
  | .fz ds => .tuple (toPyA ds)
  | .fl ns => .list (ns.map .int)
def toPyA : List D → List PyData
  | [] => []
  | d :: ds => toPy d :: toPyA ds
end
mutual
/-- made of ints, texts, None and tuples of these: no two of them alike but the same -/
def pur : D → Bool
  | .non => true
  | .bl _ => false
  | .int _ => true
  | .str _ => true
  | .tup ds => purA ds
  | .fz ds => purA ds
  | .fl _ => false
def purA : List D → Bool
  | [] => true
  | d :: ds => pur d && purA ds
end
mutual
def dep : D → Nat
  | .tup ds => depA ds + 1
  | .fz ds => depA ds + 1
  | _ => 0
def depA : List D → Nat
  | [] => 0
  | d :: ds => max (dep d) (depA ds)
end
theorem dp_ints {K : PySem.W.Frag} {H : Hp} : ∀ ns : List Int, DpAll K H (ns.map V.int) (ns.map .int)
  | [] => .nil
  | n :: ns => .cons (.int n) (dp_ints ns)
mutual
theorem Is.dp {K : PySem.W.Frag} {H : Hp} : ∀ {v : V} {d : D}, Is K H v d → Dp K H v (toPy d)
  | _, _, .non => .non
  | _, _, .bl b => .bl b
  | _, _, .int i => .int i
  | _, _, .str x => .str x
  | _, _, .tup h r => .tup (.of h) (IsA.dp r)
  | _, _, .fz h _ r => .tup (.inl (.inr ⟨_, h⟩)) (IsA.dp r)
  | _, _, .fl h => .lst h.sq (dp_ints _)
theorem IsA.dp {K : PySem.W.Frag} {H : Hp} : ∀ {vs : List V} {ds : List D}, IsA K H vs ds → DpAll K H vs (toPyA ds)
  | _, _, .nil => .nil
  | _, _, .cons a b => .cons (Is.dp a) (IsA.dp b)
end
end G
set_option maxRecDepth 100000
set_option maxHeartbeats 4000000
/-! G3: equality, in, tests, displays, dicts. -/
namespace G
open PySem PySem.Spec PyProof.Rows L2

/-- texts that are texts, depth at most n -/
def okd : Nat → D → Bool
  | _, .non => true
  | _, .bl _ => true
  | _, .int _ => true
  | _, .str x => PyData.strOk x
  | 0, .tup _ => false
  | n + 1, .tup ds => ds.all (okd n)
  | 0, .fz _ => false
  | n + 1, .fz ds => ds.all (okd n)
  | _, .fl _ => false
theorem toPyA_all : ∀ (ds : List D), (∀ d ∈ ds, (toPy d).canLay0 = true) → PyData.canLayAll0 (toPyA ds) = true
  | [], _ => by simp only [toPyA, PyData.canLayAll0]
  | d :: ds, h => by
    simp only [toPyA, PyData.canLayAll0, Bool.and_eq_true]
    exact ⟨h d (by simp), toPyA_all ds fun e he => h e (by simp [he])⟩
theorem toPyA_dep (n : Nat) : ∀ (ds : List D), (∀ d ∈ ds, (toPy d).depth ≤ n) → PyData.depthAll (toPyA ds) ≤ n
  | [], _ => by simp only [toPyA, PyData.depthAll]; exact Nat.zero_le _
  | d :: ds, h => by
    simp only [toPyA, PyData.depthAll]
    exact Nat.max_le.mpr ⟨h d (by simp), toPyA_dep n ds fun e he => h e (by simp [he])⟩
theorem okd_ok : ∀ (n : Nat) (d : D), okd n d = true → (toPy d).canLay0 = true ∧ (toPy d).depth ≤ n
  | n, .non, _ => by simp [toPy, PyData.canLay0, PyData.depth]
  | n, .bl _, _ => by simp [toPy, PyData.canLay0, PyData.depth]
  | n, .int _, _ => by simp [toPy, PyData.canLay0, PyData.depth]
  | n, .str x, h => by
    have h' : PyData.strOk x = true := by cases n <;> simpa [okd] using h
    simp [toPy, PyData.canLay0, PyData.depth, h']
  | 0, .tup ds, h => by simp [okd] at h
  | n + 1, .tup ds, h => by
    have h' : ∀ d ∈ ds, okd n d = true := by simpa [okd] using h
    simp only [toPy, PyData.canLay0, PyData.depth]
    exact ⟨toPyA_all ds fun d hd => (okd_ok n d (h' d hd)).1, Nat.succ_le_succ (toPyA_dep n ds fun d hd => (okd_ok n d (h' d hd)).2)⟩
  | 0, .fz ds, h => by simp [okd] at h
  | n + 1, .fz ds, h => by
    have h' : ∀ d ∈ ds, okd n d = true := by simpa [okd] using h
    simp only [toPy, PyData.canLay0, PyData.depth]
    exact ⟨toPyA_all ds fun d hd => (okd_ok n d (h' d hd)).1, Nat.succ_le_succ (toPyA_dep n ds fun d hd => (okd_ok n d (h' d hd)).2)⟩
  | 0, .fl ns, h => by simp [okd] at h
  | n + 1, .fl ns, h => by simp [okd] at h
theorem okd_fl {n : Nat} {ns : List Int} : okd n (.fl ns) = false := by cases n <;> rfl
theorem okd_shaped {n : Nat} {d : D} (h : okd n d = true) (hn : n ≤ 64 := by decide) : SeqAt.shaped (toPy d) = true := by
  obtain ⟨h1, h2⟩ := okd_ok n d h
  unfold SeqAt.shaped
  rw [h1, Bool.true_and]
  exact decide_eq_true (Nat.le_trans h2 hn)
/-- == -/
def deq (d e : D) : Bool := PyData.eqv (toPy d) (toPy e)
theorem eqv_ints : ∀ ns : List Int, PyData.eqvAll (ns.map .int) (ns.map .int) = true
  | [] => by simp [PyData.eqvAll]
  | n :: ns => by simp only [List.map_cons, PyData.eqvAll, PyData.eqv, eqv_ints ns, Bool.and_true]; simp
mutual
theorem eqv_refl : ∀ d : D, PyData.eqv (toPy d) (toPy d) = true
  | .non => by simp [toPy, PyData.eqv]
  | .bl b => by simp [toPy, PyData.eqv]
  | .int i => by simp [toPy, PyData.eqv]
  | .str x => by simp [toPy, PyData.eqv]
  | .tup ds => by simp only [toPy, PyData.eqv]; exact eqvA_refl ds
  | .fz ds => by simp only [toPy, PyData.eqv]; exact eqvA_refl ds
  | .fl ns => by simp only [toPy, PyData.eqv]; exact eqv_ints ns
theorem eqvA_refl : ∀ ds : List D, PyData.eqvAll (toPyA ds) (toPyA ds) = true
  | [] => by simp [toPyA, PyData.eqvAll]
  | d :: ds => by simp only [toPyA, PyData.eqvAll, eqv_refl d, eqvA_refl ds, Bool.and_self]
end
theorem deq_refl (d : D) : deq d d = true := eqv_refl d
theorem deq_nil (ds : List D) : deq (.tup ds) (.tup []) = ds.isEmpty := by
  cases ds <;> simp [deq, toPy, toPyA, PyData.eqv, PyData.eqvAll]
def gEq : D → D → (D → Prop) → Prop
  | .int i, .int j, Z => Z (.bl (decide (i = j)))
  | .str i, .str j, Z => Z (.bl (decide (i = j)))
  | .tup a, .tup b, Z => ∃ n, n ≤ 64 ∧ okd n (.tup a) = true ∧ okd n (.tup b) = true ∧ Z (.bl (deq (.tup a) (.tup b)))
  | _, _, _ => False
def gNe : D → D → (D → Prop) → Prop
  | .int i, .int j, Z => Z (.bl (!decide (i = j)))
  | .str i, .str j, Z => Z (.bl (!decide (i = j)))
  | .tup a, .tup b, Z => ∃ n, n ≤ 64 ∧ okd n (.tup a) = true ∧ okd n (.tup b) = true ∧ Z (.bl (!deq (.tup a) (.tup b)))
  | _, _, _ => False
def rEqA (K : PySem.W.Frag) : R2 := fun x y H Q => rEq x y H Q ∨ rEqD K x y H Q
def rNeA (K : PySem.W.Frag) : R2 := fun x y H Q => rNe x y H Q ∨ rNeD K x y H Q
theorem dec_ii {i j : Int} : decide (V.int i = V.int j) = decide (i = j) := by
  by_cases h : i = j
  · subst h; simp
  · rw [decide_eq_false h, decide_eq_false (fun z => h (V.int.inj z))]
theorem dec_ss {i j : Str} : decide (V.str i = V.str j) = decide (i = j) := by
  by_cases h : i = j
  · subst h; simp
  · rw [decide_eq_false h, decide_eq_false (fun z => h (V.str.inj z))]
theorem og_eq {K : PySem.W.Frag} : OG K (rEqA K) gEq := fun H x y d e Z Q hx hy g k => by
  unfold gEq at g
  split at g
  · rw [hx.inv_int, hy.inv_int]
    exact .inl ⟨rfl, by rw [dec_ii]; exact k _ _ H (Ex.refl H) (.bl _) g⟩
  · rw [hx.inv_str, hy.inv_str]
    exact .inl ⟨rfl, by rw [dec_ss]; exact k _ _ H (Ex.refl H) (.bl _) g⟩
  · obtain ⟨n, hn, h1, h2, h3⟩ := g
    exact .inr ⟨_, _, hx.dp, hy.dp, okd_shaped h1 hn, okd_shaped h2 hn, k _ _ H (Ex.refl H) (.bl _) h3⟩
  · exact g.elim
theorem og_ne {K : PySem.W.Frag} : OG K (rNeA K) gNe := fun H x y d e Z Q hx hy g k => by
  unfold gNe at g
  split at g
  · rw [hx.inv_int, hy.inv_int]
    exact .inl ⟨rfl, by rw [dec_ii]; exact k _ _ H (Ex.refl H) (.bl _) g⟩
  · rw [hx.inv_str, hy.inv_str]
    exact .inl ⟨rfl, by rw [dec_ss]; exact k _ _ H (Ex.refl H) (.bl _) g⟩
  · obtain ⟨n, hn, h1, h2, h3⟩ := g
    exact .inr ⟨_, _, hx.dp, hy.dp, okd_shaped h1 hn, okd_shaped h2 hn, k _ _ H (Ex.refl H) (.bl _) h3⟩
  · exact g.elim
/-- the two ways of a test -/
structure Br (b : Bool) (P Q : Prop) : Prop where
  t : b = true → P
  f : b = false → Q
/-! ### a comparison as a value and as a test -/
def wTest (we : WE) : WT := fun Γ Z => we Γ fun x Γ1 => match x with
  | .im (.bl b) => Z b Γ1
  | _ => False
theorem sd_test {K : PySem.W.Frag} {np : Nat} {t : TE} {w : WE} (h : SndE K np t w) : SndT K np (tTest t) (wTest w) := fun B P fps Γ σ H Q Z A w' k =>
  h B P fps Γ σ H _ _ A w' fun v r Γ1 H1 A1 p1 r1 w1 => by
    split at w1
    · rename_i b
      rw [Is.inv_bl r1]
      exact ⟨b, rfl, k b Γ1 H1 A1 p1 w1⟩
    · exact w1.elim
/-- a comparison by its rule -/
structure GC (X : Cx) (np : Nat) (op : CmpOp) (a b : Expr) (ta tb : TE) (r : R2) (w : WE) : Prop where
  ho : OpR X (compareOp op) r
  pa : PE X a ta
  pb : PE X b tb
  sd : SndE X.K np (tOp r ta tb) w
  hm : behindInMarks op b = false
section
variable {X : Cx} {np : Nat} {pos : Pos} {op : CmpOp} {r : R2} {a b c e : Expr} {ta tb tc te : TE} {w wa wb wc we : WE}
theorem g_cmp (h : GC X np op a b ta tb r w) : GE X np (.Compare a [op] [b] pos) (tOp r ta tb) w := ⟨pe_cmpR h.ho h.pa h.pb h.hm, h.sd⟩
theorem gt_cmp (h : GC X np op a b ta tb r w) : GT X np (.Compare a [op] [b] pos) (tTest (tOp r ta tb)) (wTest w) := ⟨pt_cmpR h.ho h.pa h.pb h.hm, sd_test h.sd⟩
theorem gc_lt (ha : GE X np a ta wa) (hb : GE X np b tb wb) : GC X np .Lt a b ta tb (rI0 fun i j => .bl (decide (i < j))) (wOp gLt wa wb) := ⟨op_lt, ha.pe, hb.pe, sd_op og_lt ha.sd hb.sd, nomark _⟩
theorem gc_le (ha : GE X np a ta wa) (hb : GE X np b tb wb) : GC X np .LtE a b ta tb (rI0 fun i j => .bl (decide (i ≤ j))) (wOp gLe wa wb) := ⟨op_le, ha.pe, hb.pe, sd_op og_le ha.sd hb.sd, nomark _⟩
theorem gc_gt (ha : GE X np a ta wa) (hb : GE X np b tb wb) : GC X np .Gt a b ta tb (rI0 fun i j => .bl (decide (j < i))) (wOp gGt wa wb) := ⟨op_gt, ha.pe, hb.pe, sd_op og_gt ha.sd hb.sd, nomark _⟩
theorem gc_ge (ha : GE X np a ta wa) (hb : GE X np b tb wb) : GC X np .GtE a b ta tb (rI0 fun i j => .bl (decide (j ≤ i))) (wOp gGe wa wb) := ⟨op_ge, ha.pe, hb.pe, sd_op og_ge ha.sd hb.sd, nomark _⟩
theorem gc_eq (hu : X.A.units + 64 < cLine) (ha : GE X np a ta wa) (hb : GE X np b tb wb) : GC X np .Eq a b ta tb (rEqA X.K) (wOp gEq wa wb) := ⟨op_eq.or (op_eqD hu), ha.pe, hb.pe, sd_op og_eq ha.sd hb.sd, nomark _⟩
theorem gc_ne (hu : X.A.units + 64 < cLine) (ha : GE X np a ta wa) (hb : GE X np b tb wb) : GC X np .NotEq a b ta tb (rNeA X.K) (wOp gNe wa wb) := ⟨op_ne.or (op_neD hu), ha.pe, hb.pe, sd_op og_ne ha.sd hb.sd, nomark _⟩
/-- is None, is not None -/
def nonD : D → Bool
  | .non => true
  | _ => false
def gIsN : D → D → (D → Prop) → Prop
  | d, .non, Z => Z (.bl (nonD d))
  | _, _, _ => False
def gNotN : D → D → (D → Prop) → Prop
  | d, .non, Z => Z (.bl (!nonD d))
  | _, _, _ => False
theorem Is.nonD {K : PySem.W.Frag} {H : Hp} {v : V} {d : D} (h : Is K H v d) : decide (v = .non) = nonD d := by cases h <;> rfl
abbrev rIsN : R2 := fun x y H Q => y = .non ∧ Q (.bl (decide (x = .non))) H
abbrev rNotN : R2 := fun x y H Q => y = .non ∧ Q (.bl (!decide (x = .non))) H
theorem og_isN {K : PySem.W.Frag} : OG K rIsN gIsN := fun H x y d e Z Q hx hy g k => by
  cases e with
  | non => rw [hy.inv_non]; exact ⟨rfl, by rw [hx.nonD]; exact k _ _ H (Ex.refl H) (.bl _) g⟩
  | _ => exact g.elim
theorem og_notN {K : PySem.W.Frag} : OG K rNotN gNotN := fun H x y d e Z Q hx hy g k => by
  cases e with
  | non => rw [hy.inv_non]; exact ⟨rfl, by rw [hx.nonD]; exact k _ _ H (Ex.refl H) (.bl _) g⟩
  | _ => exact g.elim
theorem gc_isN {j : Nat} {p : Pos} (ha : GE X np a ta wa) : GC X np .Is a (.Constant .none j p) ta (tC .non) rIsN (wOp gIsN wa (wC .non)) := ⟨op_isN, ha.pe, pe_non, sd_op og_isN ha.sd (sd_c fun _ => .non), nomark _⟩
theorem gc_notN {j : Nat} {p : Pos} (ha : GE X np a ta wa) : GC X np .IsNot a (.Constant .none j p) ta (tC .non) rNotN (wOp gNotN wa (wC .non)) := ⟨op_notN, ha.pe, pe_non, sd_op og_notN ha.sd (sd_c fun _ => .non), nomark _⟩

/-! ### in, not in a flat sequence -/
def flD : D → Bool
  | .tup _ => false
  | .fz _ => false
  | .fl _ => false
  | _ => true
def vD : D → V
  | .non => .non
  | .bl b => .bl b
  | .int i => .int i
  | .str x => .str x
  | .tup _ => .non
  | .fz _ => .non
  | .fl _ => .non
theorem Is.flat {K : PySem.W.Frag} {H : Hp} {v : V} {d : D} (h : Is K H v d) (f : flD d = true) : v = vD d := by
  cases h <;> first | rfl | cases f
theorem vD_flat {d : D} (f : flD d = true) : flatV (vD d) = true := by cases d <;> first | rfl | cases f
theorem IsA.flat {K : PySem.W.Frag} {H : Hp} : ∀ {vs : List V} {ds : List D}, IsA K H vs ds → ds.all flD = true → vs = ds.map vD ∧ vs.all flatV = true
  | _, _, .nil, _ => ⟨rfl, rfl⟩
  | _, _, .cons (d := d) (ds := ds) a b, h => by
    have h' : flD d = true ∧ ds.all flD = true := by simpa using h
    obtain ⟨e1, e2⟩ := IsA.flat b h'.2
    have e := Is.flat a h'.1
    subst e
    refine ⟨by rw [e1]; rfl, ?_⟩
    rw [List.all_cons, vD_flat h'.1, Bool.true_and]
    exact e2
def inD (d : D) (ds : List D) : Bool := inV (vD d) (ds.map vD)
def wIn (neg : Bool) (wa wb : WE) : WE := fun Γ Z => wa Γ fun x Γ1 => wb Γ1 fun y Γ2 => match x with
  | .im d => ∃ ds, seqOf Γ2 y = some ds ∧ flD d = true ∧ ds.all flD = true ∧ Z (.im (.bl (if neg then !inD d ds else inD d ds))) Γ2
  | _ => False
theorem sd_in {K : PySem.W.Frag} {neg : Bool} (ha : SndE K np ta wa) (hb : SndE K np tb wb) : SndE K np (tOp (rIn K neg) ta tb) (wIn neg wa wb) := fun B P fps Γ σ H Q Z A w k =>
  sd_two ha hb (Z := fun x y Γ2 => match x with
    | .im d => ∃ ds, seqOf Γ2 y = some ds ∧ flD d = true ∧ ds.all flD = true ∧ Z (.im (.bl (if neg then !inD d ds else inD d ds))) Γ2
    | _ => False) A w fun v u x y Γ' H' A' p rx ry w' => by
    split at w'
    · rename_i d
      obtain ⟨ds, h1, h2, h3, h4⟩ := w'
      obtain ⟨q, xs, rfl, h5, h6⟩ := ry.seq A' h1
      obtain ⟨e1, e2⟩ := h6.flat h3
      have e3 := Is.flat rx h2
      refine ⟨q, xs, rfl, h5, by rw [e3]; exact vD_flat h2, e2, k _ (.im (.bl _)) Γ' H' A' p ?_ h4⟩
      rw [e1, e3]
      exact .bl _
    · exact w'.elim
theorem gc_in (ha : GE X np a ta wa) (hb : GE X np b tb wb) (hm : behindInMarks .In b = false := by rfl) : GC X np .In a b ta tb (rIn X.K false) (wIn false wa wb) := ⟨op_in_seq, ha.pe, hb.pe, sd_in ha.sd hb.sd, hm⟩
theorem gc_notIn (ha : GE X np a ta wa) (hb : GE X np b tb wb) (hm : behindInMarks .NotIn b = false := by rfl) : GC X np .NotIn a b ta tb (rIn X.K true) (wIn true wa wb) := ⟨op_notIn_seq, ha.pe, hb.pe, sd_in ha.sd hb.sd, hm⟩

/-! ### tests -/
theorem gt_val (h : GE X np e te we) (he : ∀ whole, isTrue e X.env whole = (do let v ← whole; standAt e.pos; holding [v] (truthy v)) := by intro _; rfl) : GT X np e (tB te) (wTest we) := ⟨pt_val h.pe he, sd_test h.sd⟩
def wNot (w : WT) : WT := fun Γ Z => w Γ fun b Γ1 => Z (!b) Γ1
def wAnd (w u : WT) : WT := fun Γ Z => w Γ fun b Γ1 => Br b (u Γ1 Z) (Z false Γ1)
def wOr (w u : WT) : WT := fun Γ Z => w Γ fun b Γ1 => Br b (Z true Γ1) (u Γ1 Z)
structure GW (X : Cx) (np : Nat) (e : Expr) (t : TT) (w : WT) : Prop where
  pw : PW X e t
  sd : SndT X.K np t w
variable {tt tu : TT} {wt wu : WT} {rest : List Expr}
theorem gt_not (h : GT X np a tt wt) : GT X np (.UnaryOp .Not a pos) (tNot tt) (wNot wt) := ⟨pt_not h.pt, fun B P fps Γ σ H Q Z A w k => h.sd B P fps Γ σ H _ _ A w fun b Γ1 H1 A1 p1 w1 => k (!b) Γ1 H1 A1 p1 w1⟩
theorem gw_and1 (h : GT X np a tt wt) : GW X np (.BoolOp .And [a] pos) tt wt := ⟨pw_and1 h.pt, h.sd⟩
theorem gw_or1 (h : GT X np a tt wt) : GW X np (.BoolOp .Or [a] pos) tt wt := ⟨pw_or1 h.pt, h.sd⟩
theorem sd_and {K : PySem.W.Frag} (h : SndT K np tt wt) (hu : SndT K np tu wu) : SndT K np (tAnd tt tu) (wAnd wt wu) := fun B P fps Γ σ H Q Z A w k => h B P fps Γ σ H _ _ A w fun b Γ1 H1 A1 p1 w1 => by
  cases b with
  | true => exact iteT (hu B P fps Γ1 σ H1 Q Z A1 (w1.t rfl) fun b Γ2 H2 A2 p2 w2 => k b Γ2 H2 A2 (p1.trans p2) w2)
  | false => exact iteF (k false Γ1 H1 A1 p1 (w1.f rfl))
theorem sd_or {K : PySem.W.Frag} (h : SndT K np tt wt) (hu : SndT K np tu wu) : SndT K np (tOr tt tu) (wOr wt wu) := fun B P fps Γ σ H Q Z A w k => h B P fps Γ σ H _ _ A w fun b Γ1 H1 A1 p1 w1 => by
  cases b with
  | false => exact iteF (hu B P fps Γ1 σ H1 Q Z A1 (w1.f rfl) fun b Γ2 H2 A2 p2 w2 => k b Γ2 H2 A2 (p1.trans p2) w2)
  | true => exact iteT (k true Γ1 H1 A1 p1 (w1.t rfl))
theorem gw_and (h : GT X np a tt wt) (hu : GW X np (.BoolOp .And (b :: rest) pos) tu wu) : GW X np (.BoolOp .And (a :: b :: rest) pos) (tAnd tt tu) (wAnd wt wu) := ⟨pw_and h.pt hu.pw, sd_and h.sd hu.sd⟩
theorem gw_or (h : GT X np a tt wt) (hu : GW X np (.BoolOp .Or (b :: rest) pos) tu wu) : GW X np (.BoolOp .Or (a :: b :: rest) pos) (tOr tt tu) (wOr wt wu) := ⟨pw_or h.pt hu.pw, sd_or h.sd hu.sd⟩
theorem GW.gt (h : GW X np e tt wt) : GT X np e tt wt := ⟨h.pw.pt, h.sd⟩
/-! as values -/
def wAndV (wa wb : WE) : WE := fun Γ Z => wa Γ fun x Γ1 => match x with
  | .im (.bl c) => Br c (wb Γ1 Z) (Z (.im (.bl false)) Γ1)
  | _ => False
def wOrV (wa wb : WE) : WE := fun Γ Z => wa Γ fun x Γ1 => match x with
  | .im (.bl c) => Br c (Z (.im (.bl true)) Γ1) (wb Γ1 Z)
  | _ => False
def wNotV (wa : WE) : WE := fun Γ Z => wa Γ fun x Γ1 => match x with
  | .im (.bl c) => Z (.im (.bl (!c))) Γ1
  | _ => False
theorem g_one {o : PySem.BoolOp} (h : GE X np a ta wa) : GE X np (.BoolOp o [a] pos) ta wa := ⟨pe_one h.pe, h.sd⟩
theorem g_and (h : GE X np a ta wa) (hu : GE X np (.BoolOp .And (b :: rest) pos) tb wb) : GE X np (.BoolOp .And (a :: b :: rest) pos) (tAndV ta tb) (wAndV wa wb) :=
  ⟨pe_and h.pe hu.pe, fun B P fps Γ σ H Q Z A w k => h.sd B P fps Γ σ H _ _ A w fun v r Γ1 H1 A1 p1 r1 w1 => by
    split at w1
    · rename_i c
      rw [Is.inv_bl r1]
      refine ⟨c, rfl, ?_⟩
      cases c with
      | true => exact iteT (hu.sd B P fps Γ1 σ H1 Q Z A1 (w1.t rfl) fun v r Γ2 H2 A2 p2 r2 w2 => k v r Γ2 H2 A2 (p1.trans p2) (r2.back (A.freeBack A1 p1)) w2)
      | false => exact iteF (k _ (.im (.bl false)) Γ1 H1 A1 p1 (.bl _) (w1.f rfl))
    · exact w1.elim⟩
theorem g_or (h : GE X np a ta wa) (hu : GE X np (.BoolOp .Or (b :: rest) pos) tb wb) : GE X np (.BoolOp .Or (a :: b :: rest) pos) (tOrV ta tb) (wOrV wa wb) :=
  ⟨pe_or h.pe hu.pe, fun B P fps Γ σ H Q Z A w k => h.sd B P fps Γ σ H _ _ A w fun v r Γ1 H1 A1 p1 r1 w1 => by
    split at w1
    · rename_i c
      rw [Is.inv_bl r1]
      refine ⟨c, rfl, ?_⟩
      cases c with
      | false => exact iteF (hu.sd B P fps Γ1 σ H1 Q Z A1 (w1.f rfl) fun v r Γ2 H2 A2 p2 r2 w2 => k v r Γ2 H2 A2 (p1.trans p2) (r2.back (A.freeBack A1 p1)) w2)
      | true => exact iteT (k _ (.im (.bl true)) Γ1 H1 A1 p1 (.bl _) (w1.t rfl))
    · exact w1.elim⟩
theorem g_not (h : GE X np a ta wa) : GE X np (.UnaryOp .Not a pos) (tNotV ta) (wNotV wa) :=
  ⟨pe_not h.pe, fun B P fps Γ σ H Q Z A w k => h.sd B P fps Γ σ H _ _ A w fun v r Γ1 H1 A1 p1 r1 w1 => by
    split at w1
    · rename_i c
      rw [Is.inv_bl r1]
      exact ⟨c, rfl, k _ (.im (.bl (!c))) Γ1 H1 A1 p1 (.bl _) w1⟩
    · exact w1.elim⟩
/-- a if t else b -/
def wIfE (wt : WT) (wa wb : WE) : WE := fun Γ Z => wt Γ fun c Γ1 => Br c (wa Γ1 Z) (wb Γ1 Z)
theorem g_ifE (ht : GT X np c tt wt) (ha : GE X np a ta wa) (hb : GE X np b tb wb) : GE X np (.IfExp c a b pos) (tIf tt ta tb) (wIfE wt wa wb) :=
  ⟨pe_ifExp ht.pt ha.pe hb.pe, fun B P fps Γ σ H Q Z A w k => ht.sd B P fps Γ σ H _ _ A w fun d Γ1 H1 A1 p1 w1 => by
    cases d with
    | true => exact iteT (ha.sd B P fps Γ1 σ H1 Q Z A1 (w1.t rfl) fun v r Γ2 H2 A2 p2 r2 w2 => k v r Γ2 H2 A2 (p1.trans p2) (r2.back (A.freeBack A1 p1)) w2)
    | false => exact iteF (hb.sd B P fps Γ1 σ H1 Q Z A1 (w1.f rfl) fun v r Γ2 H2 A2 p2 r2 w2 => k v r Γ2 H2 A2 (p1.trans p2) (r2.back (A.freeBack A1 p1)) w2)⟩
/-- a <= b <= c of ints -/
def wLeLe (wa wb wc : WE) : WE := fun Γ Z => wa Γ fun x Γ1 => wb Γ1 fun y Γ2 => match x, y with
  | .im (.int i), .im (.int j) => Br (decide (i ≤ j)) (wc Γ2 fun z Γ3 => (match z with
    | .im (.int k) => Z (.im (.bl (decide (j ≤ k)))) Γ3
    | _ => False)) (Z (.im (.bl false)) Γ2)
  | _, _ => False
abbrev rLe : R2 := rI0 fun i j => .bl (decide (i ≤ j))
theorem g_lele (ha : GE X np a ta wa) (hb : GE X np b tb wb) (hc : GE X np c tc wc) (hm : lastMarks [.LtE, .LtE] [b, c] = false := by with_unfolding_all rfl) : GE X np (.Compare a [.LtE, .LtE] [b, c] pos) (tChain rLe rLe ta tb tc) (wLeLe wa wb wc) :=
  ⟨pe_chain op_le op_le ha.pe hb.pe hc.pe hm, fun B P fps Γ σ H Q Z A w k =>
    sd_two ha.sd hb.sd (Z := fun x y Γ2 => match x, y with
      | .im (.int i), .im (.int j) => Br (decide (i ≤ j)) (wc Γ2 fun z Γ3 => (match z with
        | .im (.int k) => Z (.im (.bl (decide (j ≤ k)))) Γ3
        | _ => False)) (Z (.im (.bl false)) Γ2)
      | _, _ => False) (T := fun v u H' => rLe v u H' fun z H3 => ∃ k, z = .bl k ∧ (if k = true then tc σ H3 fun w' H4 => rLe u w' H4 Q else Q (.bl false) H3)) A w fun v u x y Γ' H' A' p rx ry w' => by
      split at w'
      · rename_i i j
        rw [Is.inv_int rx, Is.inv_int ry]
        refine ⟨i, j, rfl, rfl, _, rfl, ?_⟩
        by_cases hij : i ≤ j
        · rw [decide_eq_true hij] at w' ⊢
          refine iteT (hc.sd B P fps Γ' σ H' _ _ A' (w'.t rfl) fun v2 r2 Γ2 H2 A2 p2 q2 w2 => ?_)
          split at w2
          · rename_i kk
            rw [Is.inv_int q2]
            exact ⟨j, kk, rfl, rfl, k _ (.im (.bl _)) Γ2 H2 A2 (p.trans p2) (.bl _) w2⟩
          · exact w2.elim
        · rw [decide_eq_false hij] at w' ⊢
          exact iteF (k _ (.im (.bl false)) Γ' H' A' p (.bl _) (w'.f rfl))
      · exact w'.elim⟩
end
end G
set_option maxRecDepth 100000
set_option maxHeartbeats 4000000
/-! G4: displays, dicts. -/
namespace G
open PySem PySem.Spec PyProof.Rows L2

/-! ### displays -/
def imsOf : List R → Option (List D)
  | [] => some []
  | .im d :: rs => (imsOf rs).map (d :: ·)
  | _ :: _ => none
theorem RA.ims {K : PySem.W.Frag} {Γ : Gm} {σ : L2.St} {H H' : Hp} : ∀ {vs : List V} {rs : List R} {gs : Fps} {ds : List D}, RA K Γ σ H H' vs rs gs → imsOf rs = some ds → IsA K H' vs ds
  | _, _, _, _, .nil, e => by cases e; exact .nil
  | _, _, _, ds, .cons (r := r) (rs := rs) h t n, e => by
    cases r with
    | im d =>
      simp only [imsOf] at e
      cases q : imsOf rs with
      | none => rw [q] at e; cases e
      | some es => rw [q] at e; cases e; exact .cons h.2 (RA.ims t q)
    | sl i => simp [imsOf] at e
    | tm c => simp [imsOf] at e
def wTup (wa : WA) : WE := fun Γ Z => wa Γ fun rs Γ1 => match imsOf rs with
  | some ds => ds.length ≤ 1000 ∧ Z (.im (.tup ds)) Γ1
  | none => False
def wLst (wa : WA) : WE := fun Γ Z => wa Γ fun rs Γ1 => match imsOf rs with
  | some ds => ds.length ≤ 1000 ∧ Z (.tm (.ls ds)) Γ1
  | none => False
theorem line1000 {n : Nat} (h : n ≤ 1000) : n ≤ sizeLine := Nat.le_of_lt (small1000 h)
section
variable {X : Cx} {np : Nat} {pos : Pos} {a b e o i : Expr} {es : List Expr} {ta tb td ty tx te : TE} {tl : TA} {wa wb wd wy wx we : WE} {wl : WA}
theorem g_tup {x1 : Nat} (h : GA X np es tl wl) : GE X np (.Tuple es x1 pos) (tTup tl) (wTup wl) := ⟨pe_tup h.pa, fun B P fps Γ σ H Q Z A w k => h.sd B P fps Γ σ H _ _ A w fun vs rs gs Γ1 H1 A1 p1 r1 w1 => by
  split at w1
  · rename_i ds hd
    have is := r1.ims hd
    refine ⟨line1000 (by rw [is.length]; exact w1.1), fun p hp => ?_⟩
    exact k _ (.im _) Γ1 _ (A1.ex (Ex.new hp)) (p1.trans (Pv.of_ex (Ex.new hp))) (.tup upd_same (is.tx (Ex.new hp).tx)) w1.2
  · exact w1.elim⟩
theorem g_lst (h : GA X np es tl wl) : GE X np (.List es pos) (tLst tl) (wLst wl) := ⟨pe_lst h.pa, fun B P fps Γ σ H Q Z A w k => h.sd B P fps Γ σ H _ _ A w fun vs rs gs Γ1 H1 A1 p1 r1 w1 => by
  split at w1
  · rename_i ds hd
    have is := r1.ims hd
    refine ⟨line1000 (by rw [is.length]; exact w1.1), fun p hp => ?_⟩
    exact k _ (.tm _) Γ1 _ (A1.ex (Ex.new hp)) (p1.trans (Pv.of_ex (Ex.new hp))) (tm_ls hp (A.freeBack A1 p1 p hp) is) w1.2
  · exact w1.elim⟩

/-! ### dicts -/
def kD : Key → D
  | .inl i => .int i
  | .inr x => .str x
theorem Is.key {K : PySem.W.Frag} {H : Hp} {v : V} {k : Key} (h : Is K H v (kD k)) : v = kV k := by
  cases k with
  | inl i => exact Is.inv_int h
  | inr x => exact Is.inv_str h
theorem IsA.keys {K : PySem.W.Frag} {H : Hp} : ∀ {vs : List V} {ks : List Key}, IsA K H vs (ks.map kD) → vs = ks.map kV
  | _, [], h => by cases h; rfl
  | _, k :: ks, h => by
    cases h with
    | cons a b => rw [Is.key a, IsA.keys b]; rfl
variable {κ β γ : Type} [DecidableEq κ]
def look (kvs : List (κ × β)) (k : κ) : Option β := (kvs.find? fun kv => decide (kv.1 = k)).map (·.2)
def put (kvs : List (κ × β)) (k : κ) (v : β) : List (κ × β) :=
  if (kvs.any fun kv => decide (kv.1 = k)) = true then kvs.map (fun kv => if kv.1 = k then (kv.1, v) else kv) else kvs ++ [(k, v)]
theorem look_nil {k : κ} : look ([] : List (κ × β)) k = none := rfl
theorem look_cons {p : κ × β} {r : List (κ × β)} {k : κ} : look (p :: r) k = if p.1 = k then some p.2 else look r k := by
  by_cases e : p.1 = k <;> simp [look, List.find?_cons, e]
theorem IsK.look {K : PySem.W.Frag} {H : Hp} : ∀ {vs : List (κ × V)} {ds : List (κ × D)} {k : κ} {d : D}, IsK K H vs ds → look ds k = some d → ∃ v, valV vs k = some v ∧ Is K H v d
  | _, _, k, d, .nil, e => by cases e
  | _, _, k, d, .cons (a := p) (b := q) r t, e => by
    rw [look_cons] at e
    by_cases h : q.1 = k
    · rw [if_pos h] at e
      cases e
      exact ⟨p.2, valV_pos (r.1.trans h), r.2⟩
    · rw [if_neg h] at e
      obtain ⟨v, h1, h2⟩ := IsK.look t e
      exact ⟨v, by rw [valV_neg (fun z => h (r.1.symm.trans z))]; exact h1, h2⟩
theorem IsK.look_none {K : PySem.W.Frag} {H : Hp} : ∀ {vs : List (κ × V)} {ds : List (κ × D)} {k : κ}, IsK K H vs ds → G.look ds k = none → valV vs k = none
  | _, _, k, .nil, e => rfl
  | _, _, k, .cons (a := p) (b := q) r t, e => by
    rw [look_cons] at e
    by_cases h : q.1 = k
    · rw [if_pos h] at e; cases e
    · rw [if_neg h] at e
      rw [valV_neg (fun z => h (r.1.symm.trans z))]
      exact IsK.look_none t e
theorem IsK.any {K : PySem.W.Frag} {H : Hp} {k : κ} : ∀ {vs : List (κ × V)} {ds : List (κ × D)}, IsK K H vs ds → (vs.any fun kv => decide (kv.1 = k)) = (ds.any fun kv => decide (kv.1 = k))
  | _, _, .nil => rfl
  | _, _, .cons r t => by rw [List.any_cons, List.any_cons, IsK.any t, r.1]
theorem IsK.length {K : PySem.W.Frag} {H : Hp} {vs : List (κ × V)} {ds : List (κ × D)} (h : IsK K H vs ds) : vs.length = ds.length := Paired.length h
theorem IsK.mapPut {K : PySem.W.Frag} {H : Hp} {k : κ} {v : V} {d : D} (hv : Is K H v d) : ∀ {vs : List (κ × V)} {ds : List (κ × D)}, IsK K H vs ds → IsK K H (vs.map fun kv => if kv.1 = k then (kv.1, v) else kv) (ds.map fun kv => if kv.1 = k then (kv.1, d) else kv)
  | _, _, .nil => .nil
  | _, _, .cons (a := p) (b := q) r t => by
    refine .cons ?_ (IsK.mapPut hv t)
    dsimp only
    by_cases h : q.1 = k
    · rw [if_pos h, if_pos (r.1.trans h)]
      exact ⟨r.1, hv⟩
    · rw [if_neg h, if_neg (fun z => h (r.1.symm.trans z))]
      exact r
theorem IsK.snoc {K : PySem.W.Frag} {H : Hp} {k : κ} {v : V} {d : D} (hv : Is K H v d) : ∀ {vs : List (κ × V)} {ds : List (κ × D)}, IsK K H vs ds → IsK K H (vs ++ [(k, v)]) (ds ++ [(k, d)])
  | _, _, .nil => .cons ⟨rfl, hv⟩ .nil
  | _, _, .cons r t => .cons r (IsK.snoc hv t)
theorem IsK.put {K : PySem.W.Frag} {H : Hp} {k : κ} {v : V} {d : D} (hv : Is K H v d) {vs : List (κ × V)} {ds : List (κ × D)} (h : IsK K H vs ds) : IsK K H (putK vs k v) (G.put ds k d) := by
  unfold putK G.put
  rw [h.any]
  split
  · exact h.mapPut hv
  · exact h.snoc hv
def dkOf (Γ : Gm) : R → Option (List (Key × D))
  | .tm (.dk kvs) => some kvs
  | .sl i => match Γ[i]? with
    | some (.ce (.dk kvs)) => some kvs
    | _ => none
  | _ => none
def dtOf (Γ : Gm) : R → Option (List (List Key × D))
  | .tm (.dt kvs) => some kvs
  | .sl i => match Γ[i]? with
    | some (.ce (.dt kvs)) => some kvs
    | _ => none
  | _ => none
section
variable {K : PySem.W.Frag} {B : Hp} {P : List (V × List Addr)} {fps : Fps} {Γ : Gm} {σ : L2.St} {H H' : Hp} {v : V} {r : R}
theorem RAt.dk {kvs : List (Key × D)} (h : RAt K Γ σ H H' v r) (A : At K np B P fps Γ σ H') (e : dkOf Γ r = some kvs) : ∃ p vs, v = .ref p ∧ H' p = some (.dK vs) ∧ IsK K H' vs kvs := by
  cases r with
  | im d => cases e
  | tm c =>
    cases c with
    | dk es =>
      cases e
      obtain ⟨p, fp, rfl, ⟨_, xs, h1, h2⟩, _⟩ := h
      exact ⟨p, xs, rfl, h1, h2⟩
    | _ => cases e
  | sl i =>
    obtain ⟨h1, c, h2⟩ := h
    simp only [dkOf, h2] at e
    cases c with
    | dk es =>
      cases e
      obtain ⟨p, f, e1, e2, _, xs, e3, e4⟩ := A.ce h2
      rw [h1] at e1; cases e1
      exact ⟨p, xs, rfl, e3, e4⟩
    | _ => cases e
theorem RAt.dt {kvs : List (List Key × D)} (h : RAt K Γ σ H H' v r) (A : At K np B P fps Γ σ H') (e : dtOf Γ r = some kvs) : ∃ p vs, v = .ref p ∧ H' p = some (.dT vs) ∧ IsK K H' vs kvs := by
  cases r with
  | im d => cases e
  | tm c =>
    cases c with
    | dt es =>
      cases e
      obtain ⟨p, fp, rfl, ⟨_, xs, h1, h2⟩, _⟩ := h
      exact ⟨p, xs, rfl, h1, h2⟩
    | _ => cases e
  | sl i =>
    obtain ⟨h1, c, h2⟩ := h
    simp only [dtOf, h2] at e
    cases c with
    | dt es =>
      cases e
      obtain ⟨p, f, e1, e2, _, xs, e3, e4⟩ := A.ce h2
      rw [h1] at e1; cases e1
      exact ⟨p, xs, rfl, e3, e4⟩
    | _ => cases e
end
/-- d[k] -/
def wDGetK (wd wy : WE) : WE := fun Γ Z => wd Γ fun x Γ1 => wy Γ1 fun y Γ2 => match y with
  | .im d => ∃ kvs k v, dkOf Γ2 x = some kvs ∧ d = kD k ∧ look kvs k = some v ∧ Z (.im v) Γ2
  | _ => False
def wDGetT (wd wy : WE) : WE := fun Γ Z => wd Γ fun x Γ1 => wy Γ1 fun y Γ2 => match y with
  | .im d => ∃ kvs k v, dtOf Γ2 x = some kvs ∧ d = .tup (k.map kD) ∧ look kvs k = some v ∧ Z (.im v) Γ2
  | _ => False
theorem g_dgetK (hu : X.A.units + 64 < cLine) (hd : GE X np o td wd) (hy : GE X np i ty wy) (hs : NoSl i := by exact fun _ _ => rfl) : GE X np (.Subscript o i pos) (tDGet td ty) (wDGetK wd wy) :=
  ⟨pe_dget (by omega) hd.pe hy.pe hs, fun B P fps Γ σ H Q Z A w k => sd_two hd.sd hy.sd (Z := fun x y Γ2 => match y with
    | .im d => ∃ kvs k v, dkOf Γ2 x = some kvs ∧ d = kD k ∧ look kvs k = some v ∧ Z (.im v) Γ2
    | _ => False) (T := fun x y H2 => ∃ a v, x = .ref a ∧ DGet H2 a y (some v) ∧ Q v H2) A w fun v u x y Γ' H' A' p rx ry w' => by
    split at w'
    · obtain ⟨kvs, key, d, h1, rfl, h2, h3⟩ := w'
      obtain ⟨q, vs, rfl, h4, h5⟩ := rx.dk A' h1
      obtain ⟨z, h6, h7⟩ := h5.look h2
      rw [Is.key ry]
      exact ⟨q, z, rfl, h6 ▸ DGet.k h4, k z (.im d) Γ' H' A' p h7 h3⟩
    · exact w'.elim⟩
theorem g_dgetT (hu : X.A.units + 64 < cLine) (hd : GE X np o td wd) (hy : GE X np i ty wy) (hs : NoSl i := by exact fun _ _ => rfl) : GE X np (.Subscript o i pos) (tDGet td ty) (wDGetT wd wy) :=
  ⟨pe_dget (by omega) hd.pe hy.pe hs, fun B P fps Γ σ H Q Z A w k => sd_two hd.sd hy.sd (Z := fun x y Γ2 => match y with
    | .im d => ∃ kvs k v, dtOf Γ2 x = some kvs ∧ d = .tup (k.map kD) ∧ look kvs k = some v ∧ Z (.im v) Γ2
    | _ => False) (T := fun x y H2 => ∃ a v, x = .ref a ∧ DGet H2 a y (some v) ∧ Q v H2) A w fun v u x y Γ' H' A' p rx ry w' => by
    split at w'
    · obtain ⟨kvs, key, d, h1, rfl, h2, h3⟩ := w'
      obtain ⟨q, vs, rfl, h4, h5⟩ := rx.dt A' h1
      obtain ⟨z, h6, h7⟩ := h5.look h2
      obtain ⟨b, xs, rfl, h8, h9⟩ := Is.inv_tup ry
      rw [h9.keys] at h8
      exact ⟨q, z, rfl, h6 ▸ DGet.t h4 h8, k z (.im d) Γ' H' A' p h7 h3⟩
    · exact w'.elim⟩
/-- k not in d -/
def wDNotInK (wy wd : WE) : WE := fun Γ Z => wy Γ fun y Γ1 => wd Γ1 fun x Γ2 => match y with
  | .im d => ∃ kvs k, dkOf Γ2 x = some kvs ∧ d = kD k ∧ Z (.im (.bl (!(look kvs k).isSome))) Γ2
  | _ => False
def wDNotInT (wy wd : WE) : WE := fun Γ Z => wy Γ fun y Γ1 => wd Γ1 fun x Γ2 => match y with
  | .im d => ∃ kvs k, dtOf Γ2 x = some kvs ∧ d = .tup (k.map kD) ∧ Z (.im (.bl (!(look kvs k).isSome))) Γ2
  | _ => False
theorem IsK.some_eq {K : PySem.W.Frag} {H : Hp} {vs : List (κ × V)} {ds : List (κ × D)} (h : IsK K H vs ds) (k : κ) : (valV vs k).isSome = (G.look ds k).isSome := by
  cases e : G.look ds k with
  | none => rw [h.look_none e]; rfl
  | some d => obtain ⟨v, h1, _⟩ := h.look e; rw [h1]; rfl
theorem gt_dnotinK (hu : X.A.units + 64 < cLine) (hy : GE X np i ty wy) (hd : GE X np o td wd) (hm : behindInMarks .NotIn o = false := by rfl) : GT X np (.Compare i [.NotIn] [o] pos) (tB (tDNotIn ty td)) (wTest (wDNotInK wy wd)) :=
  ⟨pt_cmp (pc_dnotin (by omega) hy.pe hd.pe) hm, sd_test fun B P fps Γ σ H Q Z A w k => sd_two hy.sd hd.sd (Z := fun y x Γ2 => match y with
    | .im d => ∃ kvs k, dkOf Γ2 x = some kvs ∧ d = kD k ∧ Z (.im (.bl (!(look kvs k).isSome))) Γ2
    | _ => False) (T := fun y x H2 => ∃ a o, x = .ref a ∧ DGet H2 a y o ∧ Q (.bl (!o.isSome)) H2) A w fun v u y x Γ' H' A' p ry rx w' => by
    split at w'
    · obtain ⟨kvs, key, h1, rfl, h3⟩ := w'
      obtain ⟨q, vs, rfl, h4, h5⟩ := rx.dk A' h1
      rw [Is.key ry]
      refine ⟨q, _, rfl, DGet.k h4, k _ (.im (.bl _)) Γ' H' A' p ?_ h3⟩
      rw [h5.some_eq]
      exact .bl _
    · exact w'.elim⟩
theorem gt_dnotinT (hu : X.A.units + 64 < cLine) (hy : GE X np i ty wy) (hd : GE X np o td wd) (hm : behindInMarks .NotIn o = false := by rfl) : GT X np (.Compare i [.NotIn] [o] pos) (tB (tDNotIn ty td)) (wTest (wDNotInT wy wd)) :=
  ⟨pt_cmp (pc_dnotin (by omega) hy.pe hd.pe) hm, sd_test fun B P fps Γ σ H Q Z A w k => sd_two hy.sd hd.sd (Z := fun y x Γ2 => match y with
    | .im d => ∃ kvs k, dtOf Γ2 x = some kvs ∧ d = .tup (k.map kD) ∧ Z (.im (.bl (!(look kvs k).isSome))) Γ2
    | _ => False) (T := fun y x H2 => ∃ a o, x = .ref a ∧ DGet H2 a y o ∧ Q (.bl (!o.isSome)) H2) A w fun v u y x Γ' H' A' p ry rx w' => by
    split at w'
    · obtain ⟨kvs, key, h1, rfl, h3⟩ := w'
      obtain ⟨q, vs, rfl, h4, h5⟩ := rx.dt A' h1
      obtain ⟨b, xs, rfl, h8, h9⟩ := Is.inv_tup ry
      rw [h9.keys] at h8
      refine ⟨q, _, rfl, DGet.t h4 h8, k _ (.im (.bl _)) Γ' H' A' p ?_ h3⟩
      rw [h5.some_eq]
      exact .bl _
    · exact w'.elim⟩
/-- d.get(k, x), tuple keys -/
def wGet2T (wd wy wx : WE) : WE := fun Γ Z => wd Γ fun x Γ1 => (∃ kvs, dtOf Γ1 x = some kvs) ∧ wy Γ1 fun y Γ2 => wx Γ2 fun z Γ3 => match y, z with
  | .im d, .im e => ∃ kvs k, dtOf Γ3 x = some kvs ∧ d = .tup (k.map kD) ∧ Z (.im ((look kvs k).getD e)) Γ3
  | _, _ => False
theorem g_get2T {apos cpos : Pos} {f : Expr} (hu : X.A.units + 64 < cLine) (hd : GE X np o td wd) (hy : GE X np e ty wy) (hx : GE X np f tx wx) (m : M2 X o "get" apos e f cpos) : GE X np (.Call (.Attribute o "get" apos) [e, f] [] cpos) (tDGet2 td ty tx) (wGet2T wd wy wx) :=
  ⟨pe_dget2 (by omega) hd.pe hy.pe hx.pe m, fun B P fps Γ σ H Q Z A w k => hd.sd B P fps Γ σ H _ _ A w fun v r Γ1 H1 A1 p1 r1 w1 => by
    obtain ⟨⟨kvs, h0⟩, w1⟩ := w1
    obtain ⟨q, vs, rfl, h4, h5⟩ := r1.dt A1 h0
    refine ⟨q, rfl, .inr ⟨vs, .inl h4⟩, ?_⟩
    refine sd_two hy.sd hx.sd (Z := fun y z Γ3 => match y, z with
      | .im d, .im e => ∃ kvs k, dtOf Γ3 r = some kvs ∧ d = .tup (k.map kD) ∧ Z (.im ((look kvs k).getD e)) Γ3
      | _, _ => False) (T := fun y z H3 => ∃ o, DGet H3 q y o ∧ Q (o.getD z) H3) A1 w1 fun v u y z Γ' H' A' p ry rz w' => ?_
    split at w'
    · obtain ⟨kvs', key, h1, rfl, h3⟩ := w'
      have r2 := r1.step A.dom' A1 p A'
      obtain ⟨q', vs', e', h4', h5'⟩ := r2.dt A' h1
      cases e'
      obtain ⟨b, xs, rfl, h8, h9⟩ := Is.inv_tup ry
      rw [h9.keys] at h8
      refine ⟨_, DGet.t h4' h8, k _ (.im _) Γ' H' A' (p1.trans p) ?_ h3⟩
      cases e : look kvs' key with
      | none => rw [h5'.look_none e]; exact rz
      | some d =>
        obtain ⟨v, h6, h7⟩ := h5'.look e
        rw [h6]
        exact h7
    · exact w'.elim⟩
/-- {} -/
def wNewK : WE := fun Γ Z => Z (.tm (.dk [])) Γ
def wNewT : WE := fun Γ Z => Z (.tm (.dt [])) Γ
theorem tm_dk {K : PySem.W.Frag} {Γ : Gm} {σ : L2.St} {H0 H : Hp} {p : Addr} {xs : List (Key × V)} {ds : List (Key × D)} (hp : H p = none) (h0 : H0 p = none) (h : IsK K H xs ds) : RAt K Γ σ H0 (upd H p (.dK xs)) (.ref p) (.tm (.dk ds)) :=
  ⟨p, [p], rfl, ⟨rfl, xs, upd_same, h.tx (Ex.new hp).tx⟩, fun a ha => by simp at ha; subst ha; exact h0⟩
theorem tm_dt {K : PySem.W.Frag} {Γ : Gm} {σ : L2.St} {H0 H : Hp} {p : Addr} {xs : List (List Key × V)} {ds : List (List Key × D)} (hp : H p = none) (h0 : H0 p = none) (h : IsK K H xs ds) : RAt K Γ σ H0 (upd H p (.dT xs)) (.ref p) (.tm (.dt ds)) :=
  ⟨p, [p], rfl, ⟨rfl, xs, upd_same, h.tx (Ex.new hp).tx⟩, fun a ha => by simp at ha; subst ha; exact h0⟩
theorem g_newK : GE X np (.Dict [] [] pos) tDNewK wNewK := ⟨pe_dnewK, fun B P fps Γ σ H Q Z A w k p hp => k _ (.tm _) Γ _ (A.ex (Ex.new hp)) (Pv.of_ex (Ex.new hp)) (tm_dk hp hp .nil) w⟩
theorem g_newT : GE X np (.Dict [] [] pos) tDNewT wNewT := ⟨pe_dnewT, fun B P fps Γ σ H Q Z A w k p hp => k _ (.tm _) Γ _ (A.ex (Ex.new hp)) (Pv.of_ex (Ex.new hp)) (tm_dt hp hp .nil) w⟩
end
end G
set_option maxRecDepth 100000
set_option maxHeartbeats 4000000
/-! G5: statements. -/
namespace G
open PySem PySem.Spec PyProof.Rows L2

/-- what is wanted behind a statement -/
structure Zs where
  nx : Gm → Prop
  rt : R → Gm → Prop
  bk : Gm → Prop := fun _ => False
  ct : Gm → Prop := fun _ => False
abbrev WS := Zs → Gm → Prop
def RRet (K : PySem.W.Frag) (B H : Hp) (v : V) : R → Prop
  | .im d => Is K H v d
  | .tm c => ∃ p fp, v = .ref p ∧ CAt K H p c fp ∧ ∀ a ∈ fp, B a = none
  | .sl _ => False
/-- the ends are reached from where it stands -/
def Nx (K : PySem.W.Frag) (np : Nat) (B : Hp) (P : List (V × List Addr)) (fps : Fps) (H : Hp) (z : Gm → Prop) (q : L2.St → Hp → Prop) : Prop :=
  ∀ fps' Γ' σ' H', At K np B P fps' Γ' σ' H' → Pv fps H H' → Nw fps fps' H → z Γ' → q σ' H'
def Rt (K : PySem.W.Frag) (np : Nat) (B : Hp) (P : List (V × List Addr)) (z : R → Gm → Prop) (q : VK) : Prop :=
  ∀ v r fps' Γ' σ' H', At K np B P fps' Γ' σ' H' → RRet K B H' v r → z r Γ' → q v H'
structure Ln (K : PySem.W.Frag) (np : Nat) (B : Hp) (P : List (V × List Addr)) (fps : Fps) (H : Hp) (Z : Zs) (D : Ends) : Prop where
  nx : Nx K np B P fps H Z.nx D.nx
  rt : Rt K np B P Z.rt D.rt
  bk : Nx K np B P fps H Z.bk D.bk
  ct : Nx K np B P fps H Z.ct D.ct
def SndS (K : PySem.W.Frag) (np : Nat) (t : TS) (w : WS) : Prop := ∀ B P fps Γ σ H (D : Ends) (Z : Zs), At K np B P fps Γ σ H → w Z Γ → Ln K np B P fps H Z D → t D σ H
structure GS (X : Cx) (np : Nat) (st : Stmt) (t : TS) (w : WS) : Prop where
  ps : PS X st t
  sd : SndS X.K np t w
structure GSs (X : Cx) (np : Nat) (st : List Stmt) (t : TS) (w : WS) : Prop where
  ps : PSs X st t
  sd : SndS X.K np t w
section
variable {K : PySem.W.Frag} {np : Nat} {B : Hp} {P : List (V × List Addr)} {fps fps' : Fps} {H H' : Hp} {z : Gm → Prop} {q : L2.St → Hp → Prop} {Z : Zs} {D : Ends}
theorem Nx.move (h : Nx K np B P fps H z q) (p : Pv fps H H') (n : Nw fps fps' H) : Nx K np B P fps' H' z q := fun f Γ σ H2 A p2 n2 w => h f Γ σ H2 A (p.chain n p2) (n.chain p n2) w
theorem Ln.move (h : Ln K np B P fps H Z D) (p : Pv fps H H') (n : Nw fps fps' H) : Ln K np B P fps' H' Z D := ⟨h.nx.move p n, h.rt, h.bk.move p n, h.ct.move p n⟩
theorem Nx.same (h : Nx K np B P fps H z q) (p : Pv fps H H') : Nx K np B P fps H' z q := h.move p Nw.refl
theorem Ln.same (h : Ln K np B P fps H Z D) (p : Pv fps H H') : Ln K np B P fps H' Z D := h.move p Nw.refl
end
def wNext : WS := fun Z Γ => Z.nx Γ
def wSeq (w u : WS) : WS := fun Z Γ => w { Z with nx := u Z } Γ
section
variable {X : Cx} {np : Nat} {pos : Pos} {st : Stmt} {rest : List Stmt} {t u : TS} {w w2 : WS} {e : Expr} {te : TE} {we : WE}
theorem gs_nil : GSs X np [] tNext wNext := ⟨pss_nil, fun B P fps Γ σ H D Z A w L => L.nx fps Γ σ H A Pv.refl Nw.refl w⟩
theorem gs_cons (h : GS X np st t w) (hr : GSs X np rest u w2) : GSs X np (st :: rest) (tSeq t u) (wSeq w w2) := ⟨pss_cons h.ps hr.ps, fun B P fps Γ σ H D Z A w' L =>
  h.sd B P fps Γ σ H _ _ A w' ⟨fun f Γ1 σ1 H1 A1 p n w1 => hr.sd B P f Γ1 σ1 H1 D Z A1 w1 (L.move p n), L.rt, L.bk, L.ct⟩⟩
theorem gs_one (h : GS X np st t w) : GSs X np [st] t w := ⟨pss_one h.ps, h.sd⟩
/-! ### returns, dropped values, ifs -/
def wRet (np : Nat) (we : WE) : WS := fun Z Γ => we Γ fun r Γ1 => match r with
  | .im d => Z.rt (.im d) Γ1
  | .tm c => Z.rt (.tm c) Γ1
  | .sl i => ∃ c, Γ1[i]? = some (.ce c) ∧ np ≤ i ∧ Z.rt (.tm c) Γ1
theorem gs_ret (h : GE X np e te we) : GS X np (.Return (some e) pos) (tRet te) (wRet np we) := ⟨ps_ret h.pe, fun B P fps Γ σ H D Z A w L => h.sd B P fps Γ σ H _ _ A w fun v r Γ1 H1 A1 p1 r1 w1 => by
  cases r with
  | im d => exact L.rt v (.im d) fps Γ1 σ H1 A1 r1 w1
  | tm c =>
    obtain ⟨p, fp, e1, e2, e3⟩ := r1
    exact L.rt v (.tm c) fps Γ1 σ H1 A1 ⟨p, fp, e1, e2, fun a ha => A.bnone (e3 a ha)⟩ w1
  | sl i =>
    obtain ⟨c, h1, h2, h3⟩ := w1
    obtain ⟨e1, _⟩ := r1
    obtain ⟨p, f, q1, q2, q3⟩ := A1.ce h1
    rw [e1] at q1; cases q1
    exact L.rt _ (.tm c) fps Γ1 σ H1 A1 ⟨p, f, rfl, q3, fun a ha => A1.fr i f a h2 q2 ha⟩ h3⟩
def wRetN : WS := fun Z Γ => Z.rt (.im .non) Γ
theorem gs_retN : GS X np (.Return none pos) tRetN wRetN := ⟨ps_retN, fun B P fps Γ σ H D Z A w L => L.rt .non (.im .non) fps Γ σ H A .non w⟩
def wDrop (we : WE) : WS := fun Z Γ => we Γ fun _ Γ1 => Z.nx Γ1
theorem gs_expr (h : GE X np e te we) (hs : swapsWith e none pos.line X.env = pure false := by rfl) : GS X np (.Expr e pos) (tDrop te) (wDrop we) := ⟨ps_expr h.pe hs, fun B P fps Γ σ H D Z A w L => h.sd B P fps Γ σ H _ _ A w fun v r Γ1 H1 A1 p1 r1 w1 => L.nx fps Γ1 σ H1 A1 p1 Nw.refl w1⟩
def wIf (wt : WT) (w u : WS) : WS := fun Z Γ => wt Γ fun b Γ1 => Br b (w Z Γ1) (u Z Γ1)
theorem gs_if {c : Expr} {a b : List Stmt} {tc : TT} {wc : WT} (hc : GT X np c tc wc) (ha : GSs X np a t w) (hb : GSs X np b u w2) : GS X np (.If c a b pos) (tIfS tc t u) (wIf wc w w2) :=
  ⟨ps_if hc.pt ha.ps hb.ps, fun B P fps Γ σ H D Z A w' L => hc.sd B P fps Γ σ H _ _ A w' fun b Γ1 H1 A1 p1 w1 => by
    cases b with
    | true => exact iteT (ha.sd B P fps Γ1 σ H1 D Z A1 (w1.t rfl) (L.same p1))
    | false => exact iteF (hb.sd B P fps Γ1 σ H1 D Z A1 (w1.f rfl) (L.same p1))⟩
def wNever : WS := fun _ _ => False
theorem gs_never : GS X np st tNever wNever := ⟨ps_never, fun B P fps Γ σ H D Z A w L => w.elim⟩

/-! ### stores to names -/
def stZ (i : Nat) (r : R) (Z : Gm → Prop) : Gm → Prop := fun Γ => match r with
  | .im d => Z (Γ.set i (.im d))
  | .tm c => Z (Γ.set i (.ce c))
  | .sl _ => False
def wAsg (i : Nat) (we : WE) : WS := fun Z Γ => we Γ fun r Γ1 => stZ i r Z.nx Γ1
theorem At.store {K : PySem.W.Frag} {B : Hp} {P : List (V × List Addr)} {fps : Fps} {Γ : Gm} {σ : L2.St} {H H0 : Hp} {i : Nat} {v : V} {r : R} {g : List Addr} {z : Gm → Prop} (A : At K np B P fps Γ σ H) (hi : np ≤ i) (h : RAf K Γ σ H0 H v g r)
    (h0 : ∀ a, In fps a → ∃ o, H0 a = some o) (hb : ∀ a, H0 a = none → B a = none) (w : stZ i r z Γ) : ∃ s, At K np B P (fps.set i g) (Γ.set i s) (σ.set i (some v)) H ∧ Nw fps (fps.set i g) H0 ∧ z (Γ.set i s) := by
  cases r with
  | im d =>
    obtain ⟨rfl, is⟩ := h
    exact ⟨.im d, A.set hi ⟨rfl, v, rfl, is⟩ (fun a ha => nomatch ha), At.nw_set _ _ (fun a ha => nomatch ha), w⟩
  | tm c =>
    obtain ⟨p, rfl, e1, e2⟩ := h
    exact ⟨.ce c, A.set hi ⟨p, rfl, e1⟩ (fun a ha => ⟨fun z => (by obtain ⟨o, q⟩ := h0 a z; rw [e2 a ha] at q; cases q), hb a (e2 a ha)⟩), At.nw_set _ _ e2, w⟩
  | sl j => exact w.elim
theorem sd_asg {K : PySem.W.Frag} {i : Nat} (hi : np ≤ i) (h : SndE K np te we) : SndS K np (tAsg te (gName i)) (wAsg i we) := fun B P fps Γ σ H D Z A w L => h B P fps Γ σ H _ _ A w fun v r Γ1 H1 A1 p1 r1 w1 => by
  obtain ⟨g, f⟩ := RAf.of r1
  obtain ⟨s, A2, n, z⟩ := A1.store hi f A.dom' (fun a => A.bnone) w1
  exact L.nx _ _ _ _ A2 p1 n z
theorem gs_set {i : Nat} {x : Str} {pos' : Pos} (hN : X.N.Nodup) (hi : X.N[i]? = some x) (hx : Loc X.env.scope x) (h : GE X np e te we) (hp : np ≤ i := by decide) (hs : swapsWith e (some (.Name x pos')) pos.line X.env = pure false := by rfl)
    (hf : X.fn x = true ∨ X.env.scope.names.lookup x = some .local := by first | exact .inl rfl | exact .inr rfl | assumption) : GS X np (.Assign [.Name x pos'] e pos) (tAsg te (gName i)) (wAsg i we) := ⟨ps_set hN hi hx h.pe hs hf, sd_asg hp h.sd⟩
/-- a, b = x, y -/
def wPar (i j : Nat) (wa : WA) : WS := fun Z Γ => wa Γ fun rs Γ1 => match rs with
  | [r, q] => stZ i r (stZ j q Z.nx) Γ1
  | _ => False
theorem sd_two_store {K : PySem.W.Frag} {i j : Nat} {B : Hp} {P : List (V × List Addr)} {fps : Fps} {Γ Γ1 : Gm} {σ : L2.St} {H H1 : Hp} {v u : V} {r q : R} {gs : Fps} {z : Gm → Prop} (hi : np ≤ i) (hj : np ≤ j) (A : At K np B P fps Γ σ H) (A1 : At K np B P fps Γ1 σ H1) (p1 : Pv fps H H1)
    (h : RA K Γ1 σ H H1 [v, u] [r, q] gs) (w : stZ i r (stZ j q z) Γ1) : ∃ fps' Γ', At K np B P fps' Γ' ((σ.set i (some v)).set j (some u)) H1 ∧ Nw fps fps' H ∧ z Γ' := by
  cases h with
  | @cons _ _ _ _ g gs1 a1 t n1 =>
    cases t with
    | @cons _ _ _ _ g2 gs2 a2 t n2 =>
      cases t
      obtain ⟨s, A2, k2, z2⟩ := A1.store hi a1 A.dom' (fun a => A.bnone) w
      have a2' : RAf K (Γ1.set i s) (σ.set i (some v)) H H1 u g2 q := by
        cases q with
        | im d => exact a2
        | tm c => exact a2
        | sl m => exact z2.elim
      have k0 : ∀ a ∈ g2, ¬ In (fps.set i g) a ∧ B a = none := fun a ha => ⟨fun ⟨m, f, e1, e2⟩ => (by
        by_cases hm : i = m
        · subst hm
          have hl : i < fps.length := by
            have := (List.getElem?_eq_some_iff.mp e1).1
            simpa using this
          rw [List.getElem?_set_self hl] at e1; cases e1
          exact n1 a e2 ⟨0, g2, rfl, ha⟩
        · rw [List.getElem?_set_ne hm] at e1
          obtain ⟨o, ho⟩ := A.dom' a ⟨m, f, e1, e2⟩
          rw [a2.new a ha] at ho; cases ho), A.bnone (a2.new a ha)⟩
      have n3 : Nw (fps.set i g) ((fps.set i g).set j g2) H := At.nw_set _ _ (fun a ha => a2.new a ha)
      cases q with
      | im d => exact ⟨_, _, A2.set hj (s := .im d) ⟨a2.1, u, rfl, a2.2⟩ k0, fun a ha => (n3 a ha).elim (k2 a) .inr, z2⟩
      | tm c =>
        obtain ⟨p, rfl, e1, e2⟩ := a2
        exact ⟨_, _, A2.set hj (s := .ce c) ⟨p, rfl, e1⟩ k0, fun a ha => (n3 a ha).elim (k2 a) .inr, z2⟩
      | sl m => exact z2.elim
theorem RA.len {K : PySem.W.Frag} {Γ : Gm} {σ : L2.St} {H H' : Hp} : ∀ {vs : List V} {rs : List R} {gs : Fps}, RA K Γ σ H H' vs rs gs → vs.length = rs.length
  | _, _, _, .nil => rfl
  | _, _, _, .cons _ t _ => by simp [RA.len t]
theorem gs_par {i j : Nat} {x y : Str} {a b : Expr} {ta : TA} {wa : WA} {px py pt : Pos} {kt k2 : Nat} {pt2 : Pos} (hc : X.calm = true) (hN : X.N.Nodup) (hi : X.N[i]? = some x) (hj : X.N[j]? = some y) (hij : i ≠ j) (hx : X.env.scope.names.lookup x = some .local) (hy : X.env.scope.names.lookup y = some .local)
    (ha : GA X np [a, b] ta wa) (hw : swappedStores [.Tuple [.Name x px, .Name y py] kt pt] (.Tuple [a, b] k2 pt2) X.env = pure (some [x, y])) (hpi : np ≤ i := by decide) (hpj : np ≤ j := by decide)
    (hs : swapsWithSole [.Tuple [.Name x px, .Name y py] kt pt] (.Tuple [a, b] k2 pt2) pos.line X.env = pure false := by rfl) : GS X np (.Assign [.Tuple [.Name x px, .Name y py] kt pt] (.Tuple [a, b] k2 pt2) pos) (tPar i j ta) (wPar i j wa) :=
  ⟨ps_par hc hN hi hj hij hx hy ha.pa hw hs, fun B P fps Γ σ H D Z A w L => ha.sd B P fps Γ σ H _ _ A w fun vs rs gs Γ1 H1 A1 p1 r1 w1 => by
    have hl := r1.len
    split at w1
    · rename_i r q
      match vs, hl with
      | [v, u], _ =>
        obtain ⟨f, Γ', A2, n, z⟩ := sd_two_store hpi hpj A A1 p1 r1 w1
        exact ⟨v, u, rfl, L.nx _ _ _ _ A2 p1 n z⟩
    · exact w1.elim⟩
/-- the same where a name is captured: by a new pair -/
theorem gs_parC {i j : Nat} {x y : Str} {a b : Expr} {ta : TA} {wa : WA} {px py pt : Pos} {kt k2 : Nat} {pt2 : Pos} (hc : X.calm = true) (hN : X.N.Nodup) (hi : X.N[i]? = some x) (hj : X.N[j]? = some y) (hx : Loc X.env.scope x) (hy : Loc X.env.scope y)
    (ha : GA X np [a, b] ta wa) (hpi : np ≤ i := by decide) (hpj : np ≤ j := by decide) (hfx : X.fn x = true ∨ X.env.scope.names.lookup x = some .local := by first | exact .inl rfl | exact .inr rfl) (hfy : X.fn y = true ∨ X.env.scope.names.lookup y = some .local := by first | exact .inl rfl | exact .inr rfl)
    (h2 : (assignEach [.Name x px, .Name y py] X.env).length = 2 := by rfl) (h3 : (assignEach [.Name x px, .Name y py] X.env).findIdx? (·.1) = none := by rfl)
    (h4 : (assignEach [.Name x px, .Name y py] X.env).map (·.2) = assign (.Name x px) X.env :: (assignEach [.Name y py] X.env).map (·.2) := by rfl) (h5 : (assignEach [.Name y py] X.env).map (·.2) = assign (.Name y py) X.env :: (assignEach [] X.env).map (·.2) := by rfl)
    (hs : swapsWithSole [.Tuple [.Name x px, .Name y py] kt pt] (.Tuple [a, b] k2 pt2) pos.line X.env = pure false := by rfl) (hw : swappedStores [.Tuple [.Name x px, .Name y py] kt pt] (.Tuple [a, b] k2 pt2) X.env = pure none := by rfl)
    (h1 : (assignEach [.Tuple [.Name x px, .Name y py] kt pt] X.env).map (·.2) = [assign (.Tuple [.Name x px, .Name y py] kt pt) X.env] := by rfl) :
    GS X np (.Assign [.Tuple [.Name x px, .Name y py] kt pt] (.Tuple [a, b] k2 pt2) pos) (tAsg (tTup ta) (gTup X.K 2 (gCons (gName i) (gCons (gName j) gNil)))) (wPar i j wa) :=
  ⟨ps_asg (pe_tup ha.pa) (pg_tup hc (pgs_cons (pg_name hN hi hx hfx) (pgs_cons (pg_name hN hj hy hfy) pgs_nil h5) h4) h2 h3) hs hw h1, fun B P fps Γ σ H D Z A w L => ha.sd B P fps Γ σ H _ _ A w fun vs rs gs Γ1 H1 A1 p1 r1 w1 => by
    have hl := r1.len
    split at w1
    · rename_i r q
      match vs, hl with
      | [v, u], _ =>
        obtain ⟨f, Γ', A2, n, z⟩ := sd_two_store hpi hpj A A1 p1 r1 w1
        refine ⟨by show 2 ≤ sizeLine; decide, fun p hp => ⟨p, [v, u], rfl, .of upd_same, rfl, v, [u], rfl, u, [], rfl, rfl, ?_⟩⟩
        exact L.nx _ _ _ _ (A2.ex (Ex.new hp)) (p1.trans (Pv.of_ex (Ex.new hp))) n z
    · exact w1.elim⟩
end
end G
set_option maxRecDepth 100000
set_option maxHeartbeats 4000000
/-! G6: cells changed, targets, loops, comprehensions. -/
namespace G
open PySem PySem.Spec PyProof.Rows L2

section
variable {X : Cx} {np : Nat} {pos : Pos} {o i e : Expr} {to ti te : TE} {wo wi we : WE}
/-! ### xs.append(e) -/
def wApp (wo we : WE) : WE := fun Γ Z => wo Γ fun x Γ1 => (∃ ds, lsOf Γ1 x = some ds) ∧ we Γ1 fun y Γ2 => match x, y with
  | .sl k, .im d => ∃ ds, Γ2[k]? = some (.ce (.ls ds)) ∧ ds.length < 1000 ∧ Z (.im .non) (Γ2.set k (.ce (.ls (ds ++ [d]))))
  | _, _ => False
theorem At.lsSet {K : PySem.W.Frag} {B : Hp} {P : List (V × List Addr)} {fps : Fps} {Γ : Gm} {σ : L2.St} {H : Hp} {k : Nat} {ds es : List D} {v : V} (A : At K np B P fps Γ σ H) (h : Γ[k]? = some (.ce (.ls ds))) (hv : σ[k]? = some (some v)) :
    ∃ p xs, v = .ref p ∧ H p = some (.lst xs) ∧ IsA K H xs ds ∧ ∀ ys, IsA K H ys es → At K np B P fps (Γ.set k (.ce (.ls es))) σ (upd H p (.lst ys)) ∧ Pv fps H (upd H p (.lst ys)) := by
  obtain ⟨p, f, h1, h2, e1, xs, h3, h4⟩ := A.ce h
  rw [hv] at h1; cases h1
  subst e1
  refine ⟨p, xs, rfl, h3, h4, fun ys hy => ?_⟩
  have tx : Tx H (upd H p (.lst ys)) := tx_upd h3 (fun z => z)
  exact A.put h hv h2 ⟨rfl, ys, upd_same, hy.tx tx⟩ fun a o n q => by
    rw [upd_ne (fun z => n (by simp [z]))]; exact q
theorem g_app {apos cpos : Pos} (ho : GE X np o to wo) (he : GE X np e te we) (hb : PE X (.Call (.Attribute o "append" apos) [e] [] cpos) (tBM X.K "list" rAppend to (tCons te tNil))) : GE X np (.Call (.Attribute o "append" apos) [e] [] cpos) (tBM X.K "list" rAppend to (tCons te tNil)) (wApp wo we) :=
  ⟨hb, fun B P fps Γ σ H Q Z A w k => ho.sd B P fps Γ σ H _ _ A w fun v x Γ1 H1 A1 p1 r1 w1 => by
    obtain ⟨⟨ds, hd⟩, w1⟩ := w1
    obtain ⟨p, xs, rfl, h1, h2⟩ := r1.ls A1 hd
    refine ⟨.inl ⟨rfl, _, .inl (.inl h1)⟩, ?_⟩
    refine he.sd B P fps Γ1 σ H1 _ _ A1 w1 fun u y Γ2 H2 A2 p2 r2 w2 => ?_
    split at w2
    · rename_i kk d
      obtain ⟨es, e1, e2, e3⟩ := w2
      obtain ⟨p', ys, ep, h3, h4, new⟩ := A2.lsSet (es := es ++ [d]) e1 r1.1
      cases ep
      obtain ⟨A3, p3⟩ := new (ys ++ [u]) (h4.append (.one r2))
      exact ⟨p, ys, u, rfl, rfl, h3, by rw [h4.length]; exact small1000 (Nat.le_of_lt e2), k .non (.im .non) _ _ A3 (p1.trans (p2.trans p3)) .non e3⟩
    · exact w2.elim⟩
/-! ### xs[i] = e -/
def wSetL (we wo wi : WE) : WS := fun Z Γ => we Γ fun y Γ1 => wo Γ1 fun x Γ2 => wi Γ2 fun z Γ3 => match x, y, z with
  | .sl k, .im d, .im (.int n) => ∃ ds j, Γ3[k]? = some (.ce (.ls ds)) ∧ ixN ds.length n = some j ∧ Z.nx (Γ3.set k (.ce (.ls (ds.set j d))))
  | _, _, _ => False
theorem sd_setL {K : PySem.W.Frag} (he : SndE K np te we) (ho : SndE K np to wo) (hi : SndE K np ti wi) : SndS K np (tAsg te (L2.gSub to ti rSetL)) (wSetL we wo wi) := fun B P fps Γ σ H D Z A w L =>
  he B P fps Γ σ H _ _ A w fun v y Γ1 H1 A1 p1 r1 w1 => ho B P fps Γ1 σ H1 _ _ A1 w1 fun u x Γ2 H2 A2 p2 r2 w2 => hi B P fps Γ2 σ H2 _ _ A2 w2 fun b z Γ3 H3 A3 p3 r3 w3 => by
    split at w3
    · rename_i k d n
      obtain ⟨ds, j, e1, e2, e3⟩ := w3
      rw [Is.inv_int r3]
      have r1' : Is K H3 v d := Is.tx (A1.tx (p2.trans p3)) r1
      obtain ⟨p, xs, ep, h3, h4, new⟩ := A3.lsSet (es := ds.set j d) e1 r2.1
      subst ep
      obtain ⟨A4, p4⟩ := new (xs.set j v) (h4.set r1' j)
      exact ⟨p, xs, n, j, rfl, rfl, h3, by rw [h4.length]; exact e2, L.nx _ _ _ _ A4 (p1.trans (p2.trans (p3.trans p4))) Nw.refl e3⟩
    · exact w3.elim
theorem gs_setL {pos' : Pos} (he : GE X np e te we) (ho : GE X np o to wo) (hi : GE X np i ti wi)
    (ha : ∀ v, assign (.Subscript o i pos') X.env v = (do
      let ov ← holding [v] (eval o X.env)
      let iv ← holding [v, ov] (eval i X.env)
      standAt pos'
      holding [v, ov, iv] (setItem ov iv v)
      release [v, ov, iv] []) := by intro _; rfl)
    (hs : swapsWithSole [.Subscript o i pos'] e pos.line X.env = pure false := by rfl) (hw : swappedStores [.Subscript o i pos'] e X.env = pure none := by rfl)
    (h1 : (assignEach [.Subscript o i pos'] X.env).map (·.2) = [assign (.Subscript o i pos') X.env] := by rfl) : GS X np (.Assign [.Subscript o i pos'] e pos) (tAsg te (L2.gSub to ti rSetL)) (wSetL we wo wi) := ⟨ps_asg he.pe (pg_sub ho.pe hi.pe set_list ha) hs hw h1, sd_setL he.sd ho.sd hi.sd⟩
/-! ### d[k] = e -/
def wPutK (we wo wi : WE) : WS := fun Z Γ => we Γ fun y Γ1 => wo Γ1 fun x Γ2 => wi Γ2 fun z Γ3 => match x, y, z with
  | .sl k, .im d, .im c => ∃ kvs key, Γ3[k]? = some (.ce (.dk kvs)) ∧ c = kD key ∧ kvs.length < 1000 ∧ Z.nx (Γ3.set k (.ce (.dk (put kvs key d))))
  | _, _, _ => False
def wPutT (we wo wi : WE) : WS := fun Z Γ => we Γ fun y Γ1 => wo Γ1 fun x Γ2 => wi Γ2 fun z Γ3 => match x, y, z with
  | .sl k, .im d, .im c => ∃ kvs key, Γ3[k]? = some (.ce (.dt kvs)) ∧ c = .tup (key.map kD) ∧ kvs.length < 1000 ∧ Z.nx (Γ3.set k (.ce (.dt (put kvs key d))))
  | _, _, _ => False
theorem gs_putK {pos' : Pos} (hu : X.A.units + 64 < cLine) (he : GE X np e te we) (ho : GE X np o to wo) (hi : GE X np i ti wi) (hs : swapsWith e (some (.Subscript o i pos')) pos.line X.env = pure false := by rfl) : GS X np (.Assign [.Subscript o i pos'] e pos) (sDPut to ti te) (wPutK we wo wi) :=
  ⟨ps_dput (by omega) ho.pe hi.pe he.pe hs, fun B P fps Γ σ H D Z A w L => he.sd B P fps Γ σ H _ _ A w fun v y Γ1 H1 A1 p1 r1 w1 => ho.sd B P fps Γ1 σ H1 _ _ A1 w1 fun u x Γ2 H2 A2 p2 r2 w2 => hi.sd B P fps Γ2 σ H2 _ _ A2 w2 fun b z Γ3 H3 A3 p3 r3 w3 => by
    split at w3
    · rename_i k d c
      obtain ⟨kvs, key, e1, rfl, e2, e3⟩ := w3
      have r1' : Is X.K H3 v d := Is.tx (A1.tx (p2.trans p3)) r1
      obtain ⟨p, f, h1, h2, ef, vs, h3, h4⟩ := A3.ce e1
      rw [r2.1] at h1; cases h1
      subst ef
      rw [Is.key r3]
      have tx : Tx H3 (upd H3 p (.dK (putK vs key v))) := tx_upd h3 (fun z => z)
      obtain ⟨A4, p4⟩ := A3.put (H' := upd H3 p (.dK (putK vs key v))) e1 r2.1 h2 (c' := .dk (put kvs key d)) ⟨rfl, _, upd_same, (h4.put r1').tx tx⟩ fun a o n q => by
        rw [upd_ne (fun z => n (by simp [z]))]; exact q
      exact ⟨p, _, rfl, DPut.k h3 (by rw [h4.length]; exact small1000 (Nat.le_of_lt e2)), L.nx _ _ _ _ A4 (p1.trans (p2.trans (p3.trans p4))) Nw.refl e3⟩
    · exact w3.elim⟩
theorem gs_putT {pos' : Pos} (hu : X.A.units + 64 < cLine) (he : GE X np e te we) (ho : GE X np o to wo) (hi : GE X np i ti wi) (hs : swapsWith e (some (.Subscript o i pos')) pos.line X.env = pure false := by rfl) : GS X np (.Assign [.Subscript o i pos'] e pos) (sDPut to ti te) (wPutT we wo wi) :=
  ⟨ps_dput (by omega) ho.pe hi.pe he.pe hs, fun B P fps Γ σ H D Z A w L => he.sd B P fps Γ σ H _ _ A w fun v y Γ1 H1 A1 p1 r1 w1 => ho.sd B P fps Γ1 σ H1 _ _ A1 w1 fun u x Γ2 H2 A2 p2 r2 w2 => hi.sd B P fps Γ2 σ H2 _ _ A2 w2 fun b z Γ3 H3 A3 p3 r3 w3 => by
    split at w3
    · rename_i k d c
      obtain ⟨kvs, key, e1, rfl, e2, e3⟩ := w3
      have r1' : Is X.K H3 v d := Is.tx (A1.tx (p2.trans p3)) r1
      obtain ⟨p, f, h1, h2, ef, vs, h3, h4⟩ := A3.ce e1
      rw [r2.1] at h1; cases h1
      subst ef
      obtain ⟨q, xs, rfl, h8, h9⟩ := Is.inv_tup r3
      rw [h9.keys] at h8
      have tx : Tx H3 (upd H3 p (.dT (putK vs key v))) := tx_upd h3 (fun z => z)
      obtain ⟨A4, p4⟩ := A3.put (H' := upd H3 p (.dT (putK vs key v))) e1 r2.1 h2 (c' := .dt (put kvs key d)) ⟨rfl, _, upd_same, (h4.put r1').tx tx⟩ fun a o n q => by
        rw [upd_ne (fun z => n (by simp [z]))]; exact q
      exact ⟨p, _, rfl, DPut.t h3 h8 (by rw [h4.length]; exact small1000 (Nat.le_of_lt e2)), L.nx _ _ _ _ A4 (p1.trans (p2.trans (p3.trans p4))) Nw.refl e3⟩
    · exact w3.elim⟩
end

/-! ### targets of loops -/
abbrev WG := D → Gm → (Gm → Prop) → Prop
theorem wipe_set {σ : L2.St} {i : Nat} {o : Option V} : ∀ {vs : List Nat}, i ∈ vs → wipe (σ.set i o) vs = wipe σ vs
  | v :: vs, h => by
    by_cases hv : i ∈ vs
    · show (wipe (σ.set i o) vs).set v none = (wipe σ vs).set v none
      rw [wipe_set hv]
    · have e : i = v := by
        rcases List.mem_cons.mp h with e | e
        · exact e
        · exact absurd e hv
      subst e
      have com : ∀ (τ : L2.St) (us : List Nat), i ∉ us → wipe (τ.set i o) us = (wipe τ us).set i o := by
        intro τ us
        induction us with
        | nil => intro _; rfl
        | cons u us ih =>
          intro hu
          show (wipe (τ.set i o) us).set u none = ((wipe τ us).set u none).set i o
          rw [ih (fun z => hu (List.mem_cons_of_mem _ z)), List.set_comm _ _ (fun z => hu (by simp [z]))]
      show (wipe (σ.set i o) vs).set i none = (wipe σ vs).set i none
      rw [com σ vs hv, List.set_set]
/-- v has the data d -/
def SndG (K : PySem.W.Frag) (np : Nat) (g : TG) (is : List Nat) (w : WG) : Prop := ∀ B P fps Γ σ H (v : V) (d : D) (Q : L2.St → Hp → Prop) (Z : Gm → Prop), At K np B P fps Γ σ H → Is K H v d → w d Γ Z →
  (∀ Γ' σ', At K np B P fps Γ' σ' H → (∀ vs, (∀ i ∈ is, i ∈ vs) → wipe σ' vs = wipe σ vs) → Z Γ' → Q σ' H) → g v σ H Q
def SndGs (K : PySem.W.Frag) (np : Nat) (g : TGs) (is : List Nat) (w : List D → Gm → (Gm → Prop) → Prop) : Prop := ∀ B P fps Γ σ H (vs : List V) (ds : List D) (Q : L2.St → Hp → Prop) (Z : Gm → Prop), At K np B P fps Γ σ H → IsA K H vs ds → w ds Γ Z →
  (∀ Γ' σ', At K np B P fps Γ' σ' H → (∀ vs, (∀ i ∈ is, i ∈ vs) → wipe σ' vs = wipe σ vs) → Z Γ' → Q σ' H) → g vs σ H Q
structure GG (X : Cx) (np : Nat) (tg : Expr) (g : TG) (is : List Nat) (w : WG) : Prop where
  pg : PG X tg g
  sd : SndG X.K np g is w
structure GGs (X : Cx) (np : Nat) (tgs : List Expr) (g : TGs) (is : List Nat) (w : List D → Gm → (Gm → Prop) → Prop) : Prop where
  pg : PGs X tgs g
  sd : SndGs X.K np g is w
/-- no cell -/
def Fx : Sl → Prop
  | .ce _ => False
  | _ => True
def wgName (i : Nat) : WG := fun d Γ Z => ∃ s, Γ[i]? = some s ∧ Fx s ∧ Z (Γ.set i (.im d))
def wgNil : List D → Gm → (Gm → Prop) → Prop := fun ds Γ Z => ds = [] ∧ Z Γ
def wgCons (w : WG) (u : List D → Gm → (Gm → Prop) → Prop) : List D → Gm → (Gm → Prop) → Prop := fun ds Γ Z => match ds with
  | [] => False
  | d :: r => w d Γ fun Γ1 => u r Γ1 Z
def wgTup (n : Nat) (u : List D → Gm → (Gm → Prop) → Prop) : WG := fun d Γ Z => match d with
  | .tup ds => ds.length = n ∧ u ds Γ Z
  | _ => False
section
variable {X : Cx} {np : Nat} {pos : Pos} {tg : Expr} {tgs : List Expr} {g : TG} {gs : TGs} {is js : List Nat} {w : WG} {u : List D → Gm → (Gm → Prop) → Prop}
theorem gg_name {i : Nat} {x : Str} (hN : X.N.Nodup) (hi : X.N[i]? = some x) (hx : Loc X.env.scope x) (hp : np ≤ i := by decide) (hf : X.fn x = true ∨ X.env.scope.names.lookup x = some .local := by first | exact .inl rfl | exact .inr rfl | assumption) : GG X np (.Name x pos) (gName i) [i] (wgName i) :=
  ⟨pg_name hN hi hx hf, fun B P fps Γ σ H v d Q Z A is w k => by
    obtain ⟨s, hi', hs, w⟩ := w
    have hl : i < Γ.length := (List.getElem?_eq_some_iff.mp hi').1
    obtain ⟨o, f, h1, h2, h3⟩ := A.at hi'
    have hf : f = [] := by
      cases s with
      | un => exact h3
      | im d => exact h3.1
      | ce c => exact hs.elim
    subst hf
    have A2 := A.set hp (s := .im d) (o := some v) (f := []) ⟨rfl, v, rfl, is⟩ (fun a ha => nomatch ha)
    have e : fps.set i [] = fps := by
      apply List.ext_getElem?
      intro j
      by_cases hj : i = j
      · subst hj; rw [List.getElem?_set_self (by rw [A.l2]; exact hl)]; exact h2.symm
      · rw [List.getElem?_set_ne hj]
    rw [e] at A2
    exact k _ _ A2 (fun vs hv => wipe_set (hv i (by simp))) w⟩
theorem ggs_nil : GGs X np [] gNil [] wgNil := ⟨pgs_nil, fun B P fps Γ σ H vs ds Q Z A is w k => by
  obtain ⟨e, w⟩ := w
  subst e
  cases is
  exact ⟨rfl, k Γ σ A (fun _ _ => rfl) w⟩⟩
theorem ggs_cons (h1 : GG X np tg g is w) (h2 : GGs X np tgs gs js u) (hs : (assignEach (tg :: tgs) X.env).map (·.2) = assign tg X.env :: (assignEach tgs X.env).map (·.2) := by rfl) : GGs X np (tg :: tgs) (gCons g gs) (is ++ js) (wgCons w u) :=
  ⟨pgs_cons h1.pg h2.pg hs, fun B P fps Γ σ H vs ds Q Z A his w' k => by
    cases his with
    | nil => exact w'.elim
    | cons a b =>
      refine ⟨_, _, rfl, h1.sd B P fps Γ σ H _ _ _ _ A a w' fun Γ1 σ1 A1 e1 w1 => ?_⟩
      exact h2.sd B P fps Γ1 σ1 H _ _ _ _ A1 b w1 fun Γ2 σ2 A2 e2 w2 => k Γ2 σ2 A2 (fun vs hv => (e2 vs fun i hi => hv i (by simp [hi])).trans (e1 vs fun i hi => hv i (by simp [hi]))) w2⟩
theorem gg_tup {k n : Nat} (hc : X.calm = true) (h : GGs X np tgs gs is u) (hn : (assignEach tgs X.env).length = n := by rfl) (hst : (assignEach tgs X.env).findIdx? (·.1) = none := by rfl) : GG X np (.Tuple tgs k pos) (gTup X.K n gs) is (wgTup n u) :=
  ⟨pg_tup hc h.pg hn hst, fun B P fps Γ σ H v d Q Z A his w k => by
    unfold wgTup at w
    split at w
    · obtain ⟨e, w⟩ := w
      obtain ⟨a, xs, rfl, h1, h2⟩ := Is.inv_tup his
      exact ⟨a, xs, rfl, .of h1, by rw [h2.length]; exact e, h.sd B P fps Γ σ H xs _ Q Z A h2 w k⟩
    · exact w.elim⟩
end
end G
set_option maxRecDepth 100000
set_option maxHeartbeats 4000000
/-! L1: enumerate over a tuple; zip over tuples as a walk. -/
namespace G
open PySem PySem.Spec PyProof.Rows L2
/-! ### enumerate(tuple) -/
theorem meets_enumT (l : Addr) (items : Array Value) :
    Meets (Builtin.«enumerate.__new__» ⟨[.type "enumerate", .ref l], []⟩) (fun _ R s => s.heap.IsTuple l items ∧
      R (.ok (.ret (.ref (s.heap.push { cls := .type "tuple_iterator", data := .fields #[.ref l, .int 0 0] }).objs.size)))
        { s with heap := (s.heap.push { cls := .type "tuple_iterator", data := .fields #[.ref l, .int 0 0] }).push { cls := .type "enumerate", data := .fields #[.none, .bool false, .ref s.heap.objs.size, rawInt 0, .none, .none] } }) :=
  .of_wp fun prog w A R s h => by
    obtain ⟨hp, g, d, tk, os⟩ := s; obtain ⟨h1, h⟩ := h
    have hsub := sub_enumerate
    have q1 : ∀ {A' : Around} {E : Value → Shared → Prop} {Q : Value → Shared → Prop}, Q (.ref hp.objs.size) ⟨hp.push { cls := .type "tuple_iterator", data := .fields #[.ref l, .int 0 0] }, g, d, tk, os⟩ → wpAny (model prog w) A' (pyIter (.ref l)) Q E ⟨hp, g, d, tk, os⟩ :=
      fun q => wpAny_pyIter_tuple (s := ⟨hp, g, d, tk, os⟩) h1 q
    wp_walk using q1
    refine wpAny_stack_any fun st => wpAny_pure ?_
    split
    · rename_i c _ _ _ _ _
      cases (c == Value.type "enumerate")
      · wp_walk using q1
        exact ⟨_, rfl, h⟩
      · wp_walk using q1
        exact ⟨_, rfl, h⟩
    · wp_walk using q1
      exact ⟨_, rfl, h⟩
section
variable {prog : Program} {w : World} {A : Around} {E : Value → Shared → Prop} {s : Shared}
theorem call_enumT {l : Addr} {items : Array Value} {Q : Value → Shared → Prop} (hL : s.heap.IsTuple l items)
    (h : ∀ h', IsEnum h' (s.heap.objs.size + 1) s.heap.objs.size 0 .none → h'.IsTupleIter s.heap.objs.size l 0 → h'.objs.size = s.heap.objs.size + 2 →
      (∀ b o, s.heap.get? b = some o → h'.get? b = some o) → Q (.ref (s.heap.objs.size + 1)) { s with heap := h' }) :
    wpAny (model prog w) A (call (.type "enumerate") [.ref l]) Q E s := by
  refine callType_new F.called_enumerate (by decide) (F.typeCall_enumerate_1 _) (F.newCall_enumerate_1 _) (fun obj => F.args_object_init_2 obj _) F.entry_enumerate_new
    (meets_enumT l items) ⟨hL, ?_⟩
  have hz : (s.heap.push { cls := .type "tuple_iterator", data := .fields #[.ref l, .int 0 0] }).objs.size = s.heap.objs.size + 1 := Heap.size_push ..
  show _ ∧ _
  rw [hz]
  have he : IsEnum ((s.heap.push { cls := .type "tuple_iterator", data := .fields #[.ref l, .int 0 0] }).push
      { cls := .type "enumerate", data := .fields #[.none, .bool false, .ref s.heap.objs.size, rawInt 0, .none, .none] }) (s.heap.objs.size + 1) s.heap.objs.size 0 .none := by
    have := Heap.get?_push_size (s.heap.push { cls := .type "tuple_iterator", data := .fields #[.ref l, .int 0 0] })
      (o := { cls := .type "enumerate", data := .fields #[.none, .bool false, .ref s.heap.objs.size, rawInt 0, .none, .none] }) rfl
    rw [hz] at this; exact this
  refine ⟨⟨_, he, rfl⟩, h _ he ⟨_, Heap.get?_push_of_some _ (Heap.get?_push_size _ rfl), rfl, rfl⟩ (by rw [Heap.size_push, hz]) fun b o x => Heap.get?_push_of_some _ (Heap.get?_push_of_some _ x)⟩
end
section
variable {prog : Program} {w : World} {A : Around} {E : Value → Shared → Prop} {s : Shared}
theorem wpAny_pyNext_enum_end_tup {e it t : Addr} {i : Nat} {c : Int} {old : Value} {items : Array Value} {Q : Option Value → Shared → Prop} (hh : A.handled = none) (he : IsEnum s.heap e it c old) (hit : s.heap.IsTupleIter it t i) (ht : s.heap.IsTuple t items) (hx : items[i]? = none)
    (hQ : ∀ h', Heap.ExtBut it s.heap h' → Q none { s with heap := h' }) : wpAny (model prog w) A (pyNext (.ref e)) Q E s := by
  have hT : s.TypeIs (.ref e) "enumerate" := ⟨_, he, rfl⟩
  unfold pyNext
  refine wpAny_bind (wpAny_attempt (wpAny_callSpecial?_slot (name := Str.ofString "__next__") hT F.slot_enumerate_next
    (wpAny_call_entry F.slot_enumerate_next hT F.entry_enumerate_next ?_ (F.args_enumerate_next_1 _))))
  show wpAny _ _ (field (.ref e) 2 >>= _) _ _ _
  refine wpAny_bind (wpAny_field he rfl (x := .ref it) rfl ?_)
  refine wpAny_bind (wpAny_nextOf_tuple_end (A := A.in1) (show A.in1.handled = none from hh) hit ht hx fun h' x he' hx' => ?_)
  obtain ⟨o, ho, hc⟩ := hx'
  refine wpAny_bind (wpAny_isInstance (T := "StopIteration") (b := true) ⟨o, ho, hc⟩ isSubtype_stop ?_)
  exact wpAny_pure (hQ _ he')
end
/-- the tuple at a, its items with their numbers in new pairs -/
def IteT (K : PySem.W.Frag) (a : Addr) : It :=
  ⟨fun i H => ∃ xs x, SqT K H a xs ∧ xs[i]? = some x, fun i H v H' => ∃ T x, v = .ref T ∧ H T = none ∧ H' = upd H T (.tup [.int (i : Nat), x]) ∧ ∀ xs, SqT K H a xs → xs[i]? = some x, fun i H => ∃ xs, SqT K H a xs ∧ xs.length ≤ i⟩
theorem turn_enumT {P : Program} {w : World} {K : PySem.W.Frag} {elts : List Expr} {kk : Nat} {tpos : Pos} (a e it : Addr) :
    Turn P w K (.Tuple elts kk tpos) (IteT K a) [e, it] e (fun i h => (∃ old, IsEnum h e it ((i : Nat) : Int) old) ∧ h.IsTupleIter it a i ∧ e ≠ it ∧ a ≠ it ∧ a ≠ e) where
  mem := by simp
  obj := fun i h st b hb => by
    obtain ⟨⟨old, he⟩, ⟨o, ho, hc, hd⟩, _⟩ := st
    have e' : b = e ∨ b = it := by simpa using hb
    rcases e' with z | z
    · rw [z]; exact ⟨_, he, fun v q => nomatch q⟩
    · rw [z]; exact ⟨o, ho, fun v q => by rw [hd] at q; cases q⟩
  keep := fun i h h' st k => let ⟨⟨old, he⟩, hi, hne⟩ := st; ⟨⟨old, k e (by simp) _ he⟩, hi.at fun o q => k it (by simp) o q, hne⟩
  item := by
    intro X hP hw hK hc i pins s σ H E I hf st hg
    subst hP hw hK
    obtain ⟨⟨old, he⟩, hit, hne, hai, hae⟩ := st
    obtain ⟨xs, x, hq, hx⟩ := hg
    obtain ⟨its, rv, p, hz⟩ := I.tuple hq
    obtain ⟨u, hu, ru⟩ := rv.get hx
    have hel : e < s.heap.objs.size := Heap.lt_size he
    have hil : it < s.heap.objs.size := by obtain ⟨_, q, _⟩ := hit; exact Heap.lt_size q
    have hlt : i < its.toArray.size := by
      rw [List.size_toArray]
      exact (List.getElem?_eq_some_iff.mp hu).1
    have pT : s.heap.IsTuple a its.toArray := p
    refine wpAny_pyNext_enum_itemC (Draws.tuple (A := X.A.in1) (show X.A.in1.handled = none from I.ok.hd hc) it a hai its.toArray) (c := ((i : Nat) : Int)) he ⟨hit, pT⟩ hlt hne (by simp; exact ⟨hne, Ne.symm hae⟩) fun u' h' tk hu' ho hst' hT hsz hk => ?_
    have eu : u' = u := by
      have q1 : its.toArray[i]? = some u := by simpa using hu
      rw [q1] at hu'; cases hu'; rfl
    subst eu
    refine ⟨_, rfl, wpAny_letOwnedTupleGo_enum (s := { s with heap := h', toks := tk + 1 }) ho fun h'' he' sb => ?_⟩
    have hT2 : h''.get? s.heap.objs.size = some { cls := .type "tuple", data := .seq #[.int i tk, u'] } := (sb.2 _ (Nat.ne_of_gt hel)).trans hT
    have new : ObjOk X.prog X.w (upd H s.heap.objs.size (.tup [.int (i : Nat), x])) h'' s.heap.objs.size (.tup [.int (i : Nat), x]) :=
      ⟨by show 2 ≤ sizeLine; decide, [.int i tk, u'], .cons ⟨_, rfl⟩ (.cons ru .nil), ⟨_, hT2, rfl, _, rfl⟩⟩
    have I1 : Inv X pins σ (upd H s.heap.objs.size (.tup [.int (i : Nat), x])) { s with heap := h'', toks := tk + 1 } :=
      I.turnedNew (ch := [e, it]) (fun b ob hb q => (sb.2 b (fun z => hb (by simp [z]))).trans (hk b ob (fun z => hb (by simp [z])) (fun z => hb (by simp [z])) q)) hf (Nat.le_refl _) new
    refine ⟨.ref s.heap.objs.size, _, I1, rfl, ⟨_, x, rfl, I.hok.fresh (Nat.le_refl _), rfl, fun ys hy => by rw [I.tuple_inj hy hq]; exact hx⟩, ⟨⟨u', ?_⟩, hst'.1.at fun o q => (sb.2 it (Ne.symm hne)).trans q, hne, hai, hae⟩, fun b hb => ?_⟩
    · have e1 : ((i + 1 : Nat) : Int) = (i : Int) + 1 := by omega
      rw [e1]; exact he'
    · have hb' : b < s.heap.objs.size := by
        have e' : b = e ∨ b = it := by simpa using hb
        rcases e' with z | z
        · rw [z]; exact hel
        · rw [z]; exact hil
      rw [upd_ne (Nat.ne_of_lt hb')]
      exact (hf b hb).1
  done := by
    intro X hP hw hK hc i pins s σ H E I hf st hg
    subst hP hw hK
    obtain ⟨⟨old, he⟩, hit, hne, hai, hae⟩ := st
    obtain ⟨xs, hq, hx⟩ := hg
    obtain ⟨its, rv, p, hz⟩ := I.tuple hq
    obtain ⟨f0, f1, f2, f3, f4, f5⟩ := hf it (by simp)
    have hl := rv.length
    have pT : s.heap.IsTuple a its.toArray := p
    exact wpAny_pyNext_enum_end_tup (I.ok.hd hc) he hit pT (by simp; omega) fun h' eb => ⟨rfl, I.turned (t' := s.toks) (fun b o hb q => eb b o hb q) f0 f1 f3 f4 f5⟩
  self := fun A i s Q E st h => let ⟨⟨_, he⟩, _⟩ := st; wpAny_pyIter_enum he h
/-- enumerate(list or tuple) -/
def iEnumA (K : PySem.W.Frag) (ta : TA) : TI := fun σ H R => ta σ H fun vs H1 => ∃ a xs, vs = [.ref a] ∧ ((SqL K H1 a xs ∧ R (Ite K a) H1) ∨ (SqT K H1 a xs ∧ R (IteT K a) H1))
theorem pi_enumA {X : Cx} {e : Expr} {ta : TA} {p pos tpos : Pos} {elts : List Expr} {kk : Nat} (hg : Gl X "enumerate") (hm : X.mg "enumerate" = none) (ha : PA X [e] ta) (hs : starEach [e] X.env = [(false, eval e X.env)] := by rfl) :
    PI X (.Tuple elts kk tpos) (.Call (.Name "enumerate" p) [e] [] pos) (iEnumA X.K ta) := by
  refine ⟨fun pins s σ H R I h => ?_⟩
  refine Call_ (ld_blt I hg hm boot_enumerate (PyProof.Rows.callWith_type1 (thn (ha.run pos pins s σ H _ I h) fun us s1 ⟨vs, H1, I1, r1, q1⟩ => ?_) hs rfl))
  obtain ⟨a, xs, ex, q1⟩ := q1
  subst ex
  cases r1 with
  | cons r rr =>
    cases rr
    cases r
    rcases q1 with ⟨hq, q⟩ | ⟨hq, q⟩
    · obtain ⟨its, rv, p', hz⟩ := I1.list hq
      refine call_enumerate_list p'.isList fun h' he hit hsz hk => wpAny_pyIter_enum he ?_
      have I2 : Inv X pins σ H1 { s1 with heap := h' } := I1.kept (t' := s1.toks) hk
      refine ⟨s1.heap.objs.size + 1, [s1.heap.objs.size + 1, s1.heap.objs.size], _, _, H1, rfl, I2, turn_enum a (s1.heap.objs.size + 1) s1.heap.objs.size, ⟨⟨.none, he⟩, hit, Nat.succ_ne_self _⟩, fun b hb => ?_, q⟩
      have e' : b = s1.heap.objs.size + 1 ∨ b = s1.heap.objs.size := by simpa using hb
      have hle : s1.heap.objs.size ≤ b := by
        rcases e' with z | z
        · rw [z]; exact Nat.le_add_right _ _
        · rw [z]; exact Nat.le_refl _
      exact I1.fpOk hle (I1.hok.fresh hle)
    · obtain ⟨its, rv, p', hz⟩ := I1.tuple hq
      have hlt : a < s1.heap.objs.size := by
        obtain ⟨o, ho, _⟩ := p'
        exact Heap.lt_size ho
      refine call_enumT (show s1.heap.IsTuple a its.toArray from p') fun h' he hit hsz hk => wpAny_pyIter_enum he ?_
      have I2 : Inv X pins σ H1 { s1 with heap := h' } := I1.kept (t' := s1.toks) hk
      refine ⟨s1.heap.objs.size + 1, [s1.heap.objs.size + 1, s1.heap.objs.size], _, _, H1, rfl, I2, turn_enumT a (s1.heap.objs.size + 1) s1.heap.objs.size, ⟨⟨.none, he⟩, hit, Nat.succ_ne_self _, Nat.ne_of_lt hlt, Nat.ne_of_lt (Nat.lt_succ_of_lt hlt)⟩, fun b hb => ?_, q⟩
      have e' : b = s1.heap.objs.size + 1 ∨ b = s1.heap.objs.size := by simpa using hb
      have hle : s1.heap.objs.size ≤ b := by
        rcases e' with z | z
        · rw [z]; exact Nat.le_add_right _ _
        · rw [z]; exact Nat.le_refl _
      exact I1.fpOk hle (I1.hok.fresh hle)
end G
set_option maxRecDepth 100000
set_option maxHeartbeats 4000000
/-! G7: what is walked, loops, comprehensions. -/
namespace G
open PySem PySem.Spec PyProof.Rows L2

abbrev Hk := Option (Nat × List D)
abbrev WI := Gm → (List D → Hk → Gm → Prop) → Prop
def Yd (K : PySem.W.Frag) (ds : List D) : Nat → Hp → V → Hp → Prop := fun i H x H' => Ex H H' ∧ ∃ d, ds[i]? = some d ∧ Is K H' x d
/-- the list of a slot stands -/
def IHold (K : PySem.W.Frag) (σ : L2.St) (k : Hk) (H : Hp) : Prop := match k with
  | none => True
  | some (j, ds) => ∃ p xs, σ[j]? = some (some (.ref p)) ∧ H p = some (.lst xs) ∧ IsA K H xs ds
def IOk (K : PySem.W.Frag) (fps : Fps) (σ : L2.St) (J : It) (ds : List D) (k : Hk) (H1 : Hp) : Prop :=
  ∃ Gd : Hp → Prop, Walk J ds.length Gd (Yd K ds) ∧ ∀ H2, Pv fps H1 H2 → IHold K σ k H2 → Gd H2
def SndI (K : PySem.W.Frag) (np : Nat) (t : TI) (w : WI) : Prop := ∀ B P fps Γ σ H (R : It → Hp → Prop) (Z : List D → Hk → Gm → Prop), At K np B P fps Γ σ H → w Γ Z →
  (∀ J ds k Γ1 H1, At K np B P fps Γ1 σ H1 → Pv fps H H1 → IOk K fps σ J ds k H1 → Z ds k Γ1 → R J H1) → t σ H R
structure GI (X : Cx) (np : Nat) (tg iter : Expr) (t : TI) (w : WI) : Prop where
  pi : PI X tg iter t
  sd : SndI X.K np t w
/-- what is read and stays (not a slot's) -/
def stayOf : R → Option (List D)
  | .im (.tup ds) => some ds
  | .tm (.ls ds) => some ds
  | _ => none
def wiTup (we : WE) : WI := fun Γ Z => we Γ fun r Γ1 => match r with
  | .im (.tup ds) => Z ds none Γ1
  | .im (.fz ds) => Z ds none Γ1
  | _ => False
def wiLst (we : WE) : WI := fun Γ Z => we Γ fun r Γ1 => match r with
  | .tm (.ls ds) => Z ds none Γ1
  | .sl k => ∃ ds, Γ1[k]? = some (.ce (.ls ds)) ∧ Z ds (some (k, ds)) Γ1
  | _ => False
section
variable {K : PySem.W.Frag} {np : Nat} {B : Hp} {P : List (V × List Addr)} {fps : Fps} {Γ : Gm} {σ : L2.St} {H H1 H2 : Hp}
theorem At.tupStay (A : At K np B P fps Γ σ H1) (p : Pv fps H1 H2) {a : Addr} {xs : List V} {ds : List D} (h1 : H1 a = some (.tup xs)) (h2 : IsA K H1 xs ds) : H2 a = some (.tup xs) ∧ IsA K H2 xs ds :=
  ⟨A.tx p a _ trivial h1, h2.tx (A.tx p)⟩
theorem iok_tup (A : At K np B P fps Γ σ H1) {a : Addr} {xs : List V} {ds : List D} (h1 : H1 a = some (.tup xs)) (h2 : IsA K H1 xs ds) : IOk K fps σ (Itt K a) ds none H1 := by
  refine ⟨fun H => H a = some (.tup xs) ∧ IsA K H xs ds, ⟨fun i H hi q => ?_, fun H q => ⟨xs, .of q.1, by rw [q.2.length]; exact Nat.le_refl _⟩, fun i H x H' hi q y => ?_⟩, fun H2 p _ => A.tupStay p h1 h2⟩
  · obtain ⟨v, e, _⟩ := q.2.get (List.getElem?_eq_getElem hi)
    exact ⟨xs, v, .of q.1, e⟩
  · obtain ⟨e1, e2⟩ := y
    subst e1
    obtain ⟨v, e, r⟩ := q.2.get (List.getElem?_eq_getElem hi)
    have e3 := e2 xs (.of q.1)
    rw [e] at e3; cases e3
    exact ⟨Ex.refl _, _, List.getElem?_eq_getElem hi, r⟩
theorem iok_fz {a : Addr} {o : Obj} {xs : List V} {ds : List D} (A : At K np B P fps Γ σ H1) (h1 : H1 a = some (.frz o (.tup xs))) (h2 : IsA K H1 xs ds) : IOk K fps σ (Itt K a) ds none H1 := by
  have sq : ∀ H : Hp, H a = some (.frz o (.tup xs)) → SqT K H a xs := fun H q => .inl (.inr ⟨o, q⟩)
  refine ⟨fun H => H a = some (.frz o (.tup xs)) ∧ IsA K H xs ds, ⟨fun i H hi q => ?_, fun H q => ⟨xs, sq H q.1, by rw [q.2.length]; exact Nat.le_refl _⟩, fun i H x H' hi q y => ?_⟩, fun H2 p _ => ⟨A.tx p a _ trivial h1, h2.tx (A.tx p)⟩⟩
  · obtain ⟨v, e, _⟩ := q.2.get (List.getElem?_eq_getElem hi)
    exact ⟨xs, v, sq H q.1, e⟩
  · obtain ⟨e1, e2⟩ := y
    subst e1
    obtain ⟨v, e, r⟩ := q.2.get (List.getElem?_eq_getElem hi)
    have e3 := e2 xs (sq _ q.1)
    rw [e] at e3; cases e3
    exact ⟨Ex.refl _, _, List.getElem?_eq_getElem hi, r⟩
theorem iok_lst {k : Hk} {a : Addr} {ds : List D} (h : ∀ H2, Pv fps H1 H2 → IHold K σ k H2 → ∃ xs, H2 a = some (.lst xs) ∧ IsA K H2 xs ds) : IOk K fps σ (Itl K a) ds k H1 := by
  refine ⟨fun H => ∃ xs, H a = some (.lst xs) ∧ IsA K H xs ds, ⟨fun i H hi ⟨xs, q1, q2⟩ => ?_, fun H ⟨xs, q1, q2⟩ => ⟨xs, .of q1, by rw [q2.length]; exact Nat.le_refl _⟩, fun i H x H' hi ⟨xs, q1, q2⟩ y => ?_⟩, h⟩
  · obtain ⟨v, e, _⟩ := q2.get (List.getElem?_eq_getElem hi)
    exact ⟨xs, v, .of q1, e⟩
  · obtain ⟨e1, e2⟩ := y
    subst e1
    obtain ⟨v, e, r⟩ := q2.get (List.getElem?_eq_getElem hi)
    have e3 := e2 xs (.of q1)
    rw [e] at e3; cases e3
    exact ⟨Ex.refl _, _, List.getElem?_eq_getElem hi, r⟩
/-- a new list stays -/
theorem tm_stays {v : V} {ds : List D} (A : At K np B P fps Γ σ H1) (A0 : ∀ a, In fps a → ∃ o, H a = some o) (h : RAt K Γ σ H H1 v (.tm (.ls ds))) : ∃ p xs, v = .ref p ∧ H1 p = some (.lst xs) ∧ IsA K H1 xs ds ∧ ∀ H2, Pv fps H1 H2 → H2 p = some (.lst xs) ∧ IsA K H2 xs ds := by
  obtain ⟨p, fp, rfl, ⟨e, xs, h1, h2⟩, n⟩ := h
  subst e
  refine ⟨p, xs, rfl, h1, h2, fun H2 q => ⟨q p _ h1 fun z => ?_, h2.tx (A.tx q)⟩⟩
  obtain ⟨o, ho⟩ := A0 p z
  rw [n p (by simp)] at ho; cases ho
theorem ihold_of {k : Nat} {ds : List D} {v : V} (hs : σ[k]? = some (some v)) (H2 : Hp) (h : IHold K σ (some (k, ds)) H2) : ∃ p xs, v = .ref p ∧ H2 p = some (.lst xs) ∧ IsA K H2 xs ds := by
  obtain ⟨p, xs, e1, e2, e3⟩ := h
  rw [hs] at e1; cases e1
  exact ⟨p, xs, rfl, e2, e3⟩
end
section
variable {X : Cx} {np : Nat} {tg e e2 : Expr} {te : TE} {we : WE} {ta : TA} {wa : WA} {p pos : Pos}
theorem gi_tup (h : GE X np e te we) : GI X np tg e (iTup X.K te) (wiTup we) := ⟨pi_tup h.pe, fun B P fps Γ σ H R Z A w k => h.sd B P fps Γ σ H _ _ A w fun v r Γ1 H1 A1 p1 r1 w1 => by
  split at w1
  · obtain ⟨a, xs, rfl, h1, h2⟩ := Is.inv_tup r1
    exact ⟨a, rfl, ⟨xs, .of h1⟩, k _ _ none Γ1 H1 A1 p1 (iok_tup A1 h1 h2) w1⟩
  · obtain ⟨a, o, xs, rfl, h1, _, h2⟩ := Is.inv_fz r1
    exact ⟨a, rfl, ⟨xs, .inl (.inr ⟨o, h1⟩)⟩, k _ _ none Γ1 H1 A1 p1 (iok_fz A1 h1 h2) w1⟩
  · exact w1.elim⟩
theorem gi_lst (h : GE X np e te we) : GI X np tg e (iList X.K te) (wiLst we) := ⟨pi_list h.pe, fun B P fps Γ σ H R Z A w k => h.sd B P fps Γ σ H _ _ A w fun v r Γ1 H1 A1 p1 r1 w1 => by
  split at w1
  · obtain ⟨q, xs, rfl, h1, h2, h3⟩ := tm_stays A1 A.dom' r1
    exact ⟨q, rfl, ⟨xs, .of h1⟩, k _ _ none Γ1 H1 A1 p1 (iok_lst fun H2 p2 _ => ⟨xs, h3 H2 p2⟩) w1⟩
  · rename_i j
    obtain ⟨ds, h1, h2⟩ := w1
    obtain ⟨q, xs, rfl, h3, h4⟩ := r1.ls A1 (show lsOf Γ1 (.sl j) = some ds by simp only [lsOf, h1])
    refine ⟨q, rfl, ⟨xs, .of h3⟩, k _ ds (some (j, ds)) Γ1 H1 A1 p1 (iok_lst fun H2 p2 hh => ?_) h2⟩
    obtain ⟨q', ys, e1, e2, e3⟩ := ihold_of r1.1 H2 hh
    cases e1
    exact ⟨ys, e2, e3⟩
  · exact w1.elim⟩
/-! ranges -/
def rngD (lo : Int) (n : Nat) : List D := (List.range n).map fun i : Nat => .int (lo + (i : Int))
def rngC (lo c : Int) (n : Nat) : List D := (List.range n).map fun i : Nat => .int (lo + (i : Int) * c)
theorem rngD_len (lo : Int) (n : Nat) : (rngD lo n).length = n := by simp [rngD]
theorem rngC_len (lo c : Int) (n : Nat) : (rngC lo c n).length = n := by simp [rngC]
theorem rngD_get {lo : Int} {n i : Nat} (h : i < n) : (rngD lo n)[i]? = some (.int (lo + (i : Int))) := by simp [rngD, h]
theorem rngC_get {lo c : Int} {n i : Nat} (h : i < n) : (rngC lo c n)[i]? = some (.int (lo + (i : Int) * c)) := by simp [rngC, h]
def wiRng1 (wa : WA) : WI := fun Γ Z => wa Γ fun rs Γ1 => match rs with
  | [.im (.int j)] => (-1000 ≤ j ∧ j ≤ 1000) ∧ Z (rngD 0 j.toNat) none Γ1
  | _ => False
def wiRng2 (wa : WA) : WI := fun Γ Z => wa Γ fun rs Γ1 => match rs with
  | [.im (.int i), .im (.int j)] => (-1000 ≤ i ∧ i ≤ 1000 ∧ -1000 ≤ j ∧ j ≤ 1000) ∧ Z (rngD i (j - i).toNat) none Γ1
  | _ => False
def wiDown (wa : WA) : WI := fun Γ Z => wa Γ fun rs Γ1 => match rs with
  | [.im (.int i), .im (.int j), .im (.int c)] => (-1000 ≤ i ∧ i ≤ 1000 ∧ -1000 ≤ j ∧ j ≤ 1000) ∧ c = -1 ∧ Z (rngC i (-1) (i - j).toNat) none Γ1
  | _ => False
theorem iok_rng {K : PySem.W.Frag} {fps : Fps} {σ : L2.St} {H1 : Hp} {lo : Int} {n : Nat} : IOk K fps σ (Itr lo n) (rngD lo n) none H1 :=
  ⟨fun _ => True, ⟨fun i H hi _ => by rw [rngD_len] at hi; exact hi, fun H _ => by rw [rngD_len]; exact Nat.le_refl _, fun i H x H' hi _ y => by
    obtain ⟨e1, e2⟩ := y
    subst e1 e2
    rw [rngD_len] at hi
    exact ⟨Ex.refl _, _, rngD_get hi, .int _⟩⟩, fun _ _ _ => trivial⟩
theorem iok_rngC {K : PySem.W.Frag} {fps : Fps} {σ : L2.St} {H1 : Hp} {lo c : Int} {n : Nat} : IOk K fps σ (Itc lo c n) (rngC lo c n) none H1 :=
  ⟨fun _ => True, ⟨fun i H hi _ => by rw [rngC_len] at hi; exact hi, fun H _ => by rw [rngC_len]; exact Nat.le_refl _, fun i H x H' hi _ y => by
    obtain ⟨e1, e2⟩ := y
    subst e1 e2
    rw [rngC_len] at hi
    exact ⟨Ex.refl _, _, rngC_get hi, .int _⟩⟩, fun _ _ _ => trivial⟩
theorem RA.one {K : PySem.W.Frag} {Γ : Gm} {σ : L2.St} {H H' : Hp} {vs : List V} {r : R} {gs : Fps} (h : RA K Γ σ H H' vs [r] gs) : ∃ v, vs = [v] ∧ RAt K Γ σ H H' v r := by
  cases h with
  | cons a t n => cases t; exact ⟨_, rfl, a.at⟩
theorem RA.two {K : PySem.W.Frag} {Γ : Gm} {σ : L2.St} {H H' : Hp} {vs : List V} {r q : R} {gs : Fps} (h : RA K Γ σ H H' vs [r, q] gs) : ∃ v u, vs = [v, u] ∧ RAt K Γ σ H H' v r ∧ RAt K Γ σ H H' u q := by
  cases h with
  | cons a t n => obtain ⟨u, rfl, b⟩ := t.one; exact ⟨_, _, rfl, a.at, b⟩
theorem RA.three {K : PySem.W.Frag} {Γ : Gm} {σ : L2.St} {H H' : Hp} {vs : List V} {r q s : R} {gs : Fps} (h : RA K Γ σ H H' vs [r, q, s] gs) : ∃ v u t, vs = [v, u, t] ∧ RAt K Γ σ H H' v r ∧ RAt K Γ σ H H' u q ∧ RAt K Γ σ H H' t s := by
  cases h with
  | cons a t n => obtain ⟨u, w, rfl, b, c⟩ := t.two; exact ⟨_, _, _, rfl, a.at, b, c⟩
theorem gi_rng1 {a : Expr} (hg : Gl X "range") (hm : X.mg "range" = none) (ha : GA X np [a] ta wa) (hs : starEach [a] X.env = [(false, eval a X.env)] := by rfl) : GI X np tg (.Call (.Name "range" p) [a] [] pos) (iRng1 ta) (wiRng1 wa) :=
  ⟨pi_range1 hg hm ha.pa hs, fun B P fps Γ σ H R Z A w k => ha.sd B P fps Γ σ H _ _ A w fun vs rs gs Γ1 H1 A1 p1 r1 w1 => by
    split at w1
    · rename_i j
      obtain ⟨v, rfl, r2⟩ := r1.one
      rw [Is.inv_int r2]
      exact ⟨j, rfl, by omega, by omega, k _ _ none Γ1 H1 A1 p1 iok_rng w1.2⟩
    · exact w1.elim⟩
theorem gi_rng2 {a b : Expr} (hg : Gl X "range") (hm : X.mg "range" = none) (ha : GA X np [a, b] ta wa) (hs : starEach [a, b] X.env = [(false, eval a X.env), (false, eval b X.env)] := by rfl) (hs2 : starEach [b] X.env = [(false, eval b X.env)] := by rfl) : GI X np tg (.Call (.Name "range" p) [a, b] [] pos) (iRng2 ta) (wiRng2 wa) :=
  ⟨pi_range2 hg hm ha.pa hs hs2, fun B P fps Γ σ H R Z A w k => ha.sd B P fps Γ σ H _ _ A w fun vs rs gs Γ1 H1 A1 p1 r1 w1 => by
    split at w1
    · rename_i i j
      obtain ⟨v, u, rfl, r2, r3⟩ := r1.two
      rw [Is.inv_int r2, Is.inv_int r3]
      exact ⟨i, j, rfl, by omega, k _ _ none Γ1 H1 A1 p1 iok_rng w1.2⟩
    · exact w1.elim⟩
theorem gi_down {a b c : Expr} (hg : Gl X "range") (hm : X.mg "range" = none) (ha : GA X np [a, b, c] ta wa) (hb : PI X tg (.Call (.Name "range" p) [a, b, c] [] pos) (iRng3 ta)) : GI X np tg (.Call (.Name "range" p) [a, b, c] [] pos) (iRng3 ta) (wiDown wa) :=
  ⟨hb, fun B P fps Γ σ H R Z A w k => ha.sd B P fps Γ σ H _ _ A w fun vs rs gs Γ1 H1 A1 p1 r1 w1 => by
    split at w1
    · rename_i i j c
      obtain ⟨v, u, t, rfl, r2, r3, r4⟩ := r1.three
      obtain ⟨b, rfl, w2⟩ := w1
      rw [Is.inv_int r2, Is.inv_int r3, Is.inv_int r4]
      exact ⟨i, j, -1, _, rfl, RgC.neg (by omega) (by omega) (by omega) (by omega), k _ _ none Γ1 H1 A1 p1 iok_rngC w2⟩
    · exact w1.elim⟩
/-! signs of a text -/
def sgnD (z : Str) : List D := z.cps.toList.map fun c => .str ⟨#[c]⟩
def wiStr (we : WE) : WI := fun Γ Z => we Γ fun r Γ1 => match r with
  | .im (.str z) => Z (sgnD z) none Γ1
  | _ => False
theorem gi_str (h : GE X np e te we) : GI X np tg e (iStr te) (wiStr we) := ⟨pi_str h.pe, fun B P fps Γ σ H R Z A w k => h.sd B P fps Γ σ H _ _ A w fun v r Γ1 H1 A1 p1 r1 w1 => by
  split at w1
  · rename_i z
    rw [Is.inv_str r1]
    refine ⟨z, rfl, k _ _ none Γ1 H1 A1 p1 ⟨fun _ => True, ⟨fun i H hi _ => ?_, fun H _ => ?_, fun i H x H' hi _ y => ?_⟩, fun _ _ _ => trivial⟩ w1⟩
    · rw [sgnD, List.length_map, Array.length_toList] at hi; exact hi
    · show z.cps.size ≤ _
      rw [sgnD, List.length_map, Array.length_toList]; exact Nat.le_refl _
    · obtain ⟨e1, c, e2, e3⟩ := y
      subst e1 e3
      refine ⟨Ex.refl _, .str ⟨#[c]⟩, ?_, .str _⟩
      rw [sgnD, List.getElem?_map, Array.getElem?_toList, e2]
      rfl
  · exact w1.elim⟩
/-! zip of two tuples -/
def zipD : List D → List D → List D
  | x :: xs, y :: ys => .tup [x, y] :: zipD xs ys
  | _, _ => []
theorem zipD_len : ∀ xs ys : List D, (zipD xs ys).length = min xs.length ys.length
  | [], _ => by simp [zipD]
  | _ :: _, [] => by simp [zipD]
  | x :: xs, y :: ys => by simp [zipD, zipD_len xs ys, Nat.succ_min_succ]
theorem zipD_get : ∀ {xs ys : List D} {i : Nat} {x y : D}, xs[i]? = some x → ys[i]? = some y → (zipD xs ys)[i]? = some (.tup [x, y])
  | [], _, _, _, _, h, _ => by simp at h
  | _ :: _, [], _, _, _, _, h => by simp at h
  | _ :: _, _ :: _, 0, _, _, h, h' => by simp at h h'; subst h h'; rfl
  | _ :: xs, _ :: ys, i + 1, _, _, h, h' => by
    simp at h h'
    show (zipD xs ys)[i]? = _
    exact zipD_get h h'
def wiZip (wa : WA) : WI := fun Γ Z => wa Γ fun rs Γ1 => match rs with
  | [.im (.tup xs), .im (.tup ys)] => Z (zipD xs ys) none Γ1
  | _ => False
theorem is_pair {K : PySem.W.Frag} {H : Hp} {T : Addr} {x y : V} {d e : D} (n : H T = none) (h1 : Is K H x d) (h2 : Is K H y e) : Is K (upd H T (.tup [x, y])) (.ref T) (.tup [d, e]) :=
  .tup upd_same (.cons (h1.tx (Ex.new n).tx) (.cons (h2.tx (Ex.new n).tx) .nil))
theorem gi_zip {elts : List Expr} {kk : Nat} {tpos : Pos} (hg : Gl X "zip") (hm : X.mg "zip" = none) (ha : GA X np [e, e2] ta wa)
    (hs : starEach [e, e2] X.env = (false, eval e X.env) :: starEach [e2] X.env := by rfl) (hpl : (backTo pos (starEach [e2] X.env)).any (·.1) = false := by rfl) : GI X np (.Tuple elts kk tpos) (.Call (.Name "zip" p) [e, e2] [] pos) (RZ.iZipA X.K ta) (wiZip wa) :=
  ⟨RZ.pi_zipA hg hm ha.pa hs hpl, fun B P fps Γ σ H R Z A w k => ha.sd B P fps Γ σ H _ _ A w fun vs rs gs Γ1 H1 A1 p1 r1 w1 => by
    split at w1
    · rename_i ds es
      obtain ⟨v, u, rfl, r2, r3⟩ := r1.two
      obtain ⟨a, xs, rfl, h1, h2⟩ := Is.inv_tup r2
      obtain ⟨b, ys, rfl, h3, h4⟩ := Is.inv_tup r3
      refine ⟨a, b, xs, ys, rfl, .inr ⟨.of h1, .of h3, k _ _ none Γ1 H1 A1 p1 ⟨fun H => (H a = some (.tup xs) ∧ IsA X.K H xs ds) ∧ (H b = some (.tup ys) ∧ IsA X.K H ys es), ⟨fun i H hi q => ?_, fun H q => ?_, fun i H x H' hi q y => ?_⟩, fun H2 p2 _ => ⟨A1.tupStay p2 h1 h2, A1.tupStay p2 h3 h4⟩⟩ w1⟩⟩
      · rw [zipD_len] at hi
        obtain ⟨x, q1, _⟩ := q.1.2.get (i := i) (List.getElem?_eq_getElem (by omega))
        obtain ⟨y, q2, _⟩ := q.2.2.get (i := i) (List.getElem?_eq_getElem (by omega))
        exact ⟨xs, ys, x, y, .of q.1.1, .of q.2.1, q1, q2⟩
      · refine ⟨xs, ys, .of q.1.1, .of q.2.1, ?_⟩
        rw [zipD_len, q.1.2.length, q.2.2.length]
        omega
      · rw [zipD_len] at hi
        obtain ⟨T, x1, y1, rfl, n, rfl, f1, f2⟩ := y
        have d1 : ds[i]? = some (ds[i]'(by omega)) := List.getElem?_eq_getElem (by omega)
        have d2 : es[i]? = some (es[i]'(by omega)) := List.getElem?_eq_getElem (by omega)
        obtain ⟨x, q1, s1⟩ := q.1.2.get d1
        obtain ⟨y, q2, s2⟩ := q.2.2.get d2
        have e1 := f1 xs (.of q.1.1)
        have e2 := f2 ys (.of q.2.1)
        rw [q1] at e1; cases e1
        rw [q2] at e2; cases e2
        exact ⟨Ex.new n, _, zipD_get d1 d2, is_pair n s1 s2⟩
    · exact w1.elim⟩
/-! enumerate -/
def enumD (ds : List D) : List D := zipD (rngD 0 ds.length) ds
theorem enumD_len (ds : List D) : (enumD ds).length = ds.length := by rw [enumD, zipD_len, rngD_len]; omega
theorem enumD_get {ds : List D} {i : Nat} {d : D} (h : ds[i]? = some d) : (enumD ds)[i]? = some (.tup [.int (i : Int), d]) := by
  have hi : i < ds.length := (List.getElem?_eq_some_iff.mp h).1
  have := zipD_get (rngD_get (lo := 0) hi) h
  rw [Int.zero_add] at this
  exact this
def wiEnum (wa : WA) : WI := fun Γ Z => wa Γ fun rs Γ1 => match rs with
  | [.im (.tup ds)] => Z (enumD ds) none Γ1
  | _ => False
theorem gi_enum {elts : List Expr} {kk : Nat} {tpos : Pos} (hg : Gl X "enumerate") (hm : X.mg "enumerate" = none) (ha : GA X np [e] ta wa) (hs : starEach [e] X.env = [(false, eval e X.env)] := by rfl) : GI X np (.Tuple elts kk tpos) (.Call (.Name "enumerate" p) [e] [] pos) (iEnumA X.K ta) (wiEnum wa) :=
  ⟨pi_enumA hg hm ha.pa hs, fun B P fps Γ σ H R Z A w k => ha.sd B P fps Γ σ H _ _ A w fun vs rs gs Γ1 H1 A1 p1 r1 w1 => by
    split at w1
    · rename_i ds
      obtain ⟨v, rfl, r2⟩ := r1.one
      obtain ⟨a, xs, rfl, h1, h2⟩ := Is.inv_tup r2
      refine ⟨a, xs, rfl, .inr ⟨.of h1, k _ _ none Γ1 H1 A1 p1 ⟨fun H => (H a = some (.tup xs) ∧ IsA X.K H xs ds), ⟨fun i H hi q => ?_, fun H q => ?_, fun i H x H' hi q y => ?_⟩, fun H2 p2 _ => A1.tupStay p2 h1 h2⟩ w1⟩⟩
      · rw [enumD_len] at hi
        obtain ⟨x, q1, _⟩ := q.2.get (i := i) (List.getElem?_eq_getElem hi)
        exact ⟨xs, x, .of q.1, q1⟩
      · exact ⟨xs, .of q.1, by rw [enumD_len, q.2.length]; exact Nat.le_refl _⟩
      · rw [enumD_len] at hi
        obtain ⟨T, x1, rfl, n, rfl, f1⟩ := y
        have d1 : ds[i]? = some (ds[i]'hi) := List.getElem?_eq_getElem hi
        obtain ⟨x, q1, s1⟩ := q.2.get d1
        have e1 := f1 xs (.of q.1)
        rw [q1] at e1; cases e1
        exact ⟨Ex.new n, _, enumD_get d1, is_pair n (.int _) s1⟩
    · exact w1.elim⟩
/-- enumerate of a slot's list (in a comprehension) -/
def wiEnumL (wa : WA) : WI := fun Γ Z => wa Γ fun rs Γ1 => match rs with
  | [.sl j] => ∃ ds, Γ1[j]? = some (.ce (.ls ds)) ∧ Z (enumD ds) (some (j, ds)) Γ1
  | _ => False
theorem gi_enumL {elts : List Expr} {kk : Nat} {tpos : Pos} (hg : Gl X "enumerate") (hm : X.mg "enumerate" = none) (ha : GA X np [e] ta wa) (hs : starEach [e] X.env = [(false, eval e X.env)] := by rfl) : GI X np (.Tuple elts kk tpos) (.Call (.Name "enumerate" p) [e] [] pos) (iEnumA X.K ta) (wiEnumL wa) :=
  ⟨pi_enumA hg hm ha.pa hs, fun B P fps Γ σ H R Z A w k => ha.sd B P fps Γ σ H _ _ A w fun vs rs gs Γ1 H1 A1 p1 r1 w1 => by
    split at w1
    · rename_i j
      obtain ⟨ds, hj, w1⟩ := w1
      obtain ⟨v, rfl, r2⟩ := r1.one
      obtain ⟨a, xs, rfl, h1, h2⟩ := r2.ls A1 (show lsOf Γ1 (.sl j) = some ds by simp only [lsOf, hj])
      refine ⟨a, xs, rfl, .inl ⟨.of h1, k _ _ (some (j, ds)) Γ1 H1 A1 p1 ⟨fun H => ∃ xs, (H a = some (.lst xs) ∧ IsA X.K H xs ds), ⟨fun i H hi q => ?_, fun H q => ?_, fun i H x H' hi q y => ?_⟩, fun H2 p2 hh => ?_⟩ w1⟩⟩
      · obtain ⟨xs, q⟩ := q
        rw [enumD_len] at hi
        obtain ⟨x, q1, _⟩ := q.2.get (i := i) (List.getElem?_eq_getElem hi)
        exact ⟨xs, x, .of q.1, q1⟩
      · obtain ⟨xs, q⟩ := q
        exact ⟨xs, .of q.1, by rw [enumD_len, q.2.length]; exact Nat.le_refl _⟩
      · obtain ⟨xs, q⟩ := q
        rw [enumD_len] at hi
        obtain ⟨T, x1, rfl, n, rfl, f1⟩ := y
        have d1 : ds[i]? = some (ds[i]'hi) := List.getElem?_eq_getElem hi
        obtain ⟨x, q1, s1⟩ := q.2.get d1
        have e1 := f1 xs (.of q.1)
        rw [q1] at e1; cases e1
        exact ⟨Ex.new n, _, enumD_get d1, is_pair n (.int _) s1⟩
      · obtain ⟨q', ys, e1, e2, e3⟩ := ihold_of r2.1 H2 hh
        cases e1
        exact ⟨ys, e2, e3⟩
    · exact w1.elim⟩
end
end G
set_option maxRecDepth 100000
set_option maxHeartbeats 4000000
/-! G8: for, comprehensions. -/
namespace G
open PySem PySem.Spec PyProof.Rows L2

def wFor (wi : WI) (wg : WG) (wb : WS) : WS := fun Z Γ => wi Γ fun ds k Γ1 => match k with
  | some _ => False
  | none => ∃ I : Nat → Gm → Prop, I 0 Γ1 ∧ (∀ i d Γ, ds[i]? = some d → I i Γ → wg d Γ fun Γ2 => wb { nx := I (i + 1), rt := Z.rt, bk := Z.nx, ct := I (i + 1) } Γ2) ∧ ∀ Γ, I ds.length Γ → Z.nx Γ
section
variable {X : Cx} {np : Nat} {pos : Pos} {tg iter : Expr} {body : List Stmt} {ti : TI} {g : TG} {tb : TS} {is : List Nat} {wi : WI} {wg : WG} {wb : WS}
theorem gs_for (hp : PassesOwn (model X.prog X.w) X.A X.env X.xe) (hc : X.calm = true) (hi : GI X np tg iter ti wi) (hg : GG X np tg g is wg) (hb : GSs X np body tb wb) (hs : ∀ x, foldedSetIterable iter X.env x = pure x := by intro _; rfl) : GS X np (.For tg iter body [] pos) (tFor ti g tb) (wFor wi wg wb) :=
  ⟨ps_for hp hc hi.pi hg.pg hb.ps hs, fun B P fps Γ σ H D Z A w L => hi.sd B P fps Γ σ H _ _ A w fun J ds k Γ1 H1 A1 p1 io w1 => by
    split at w1
    · exact w1.elim
    · obtain ⟨I, i0, st, en⟩ := w1
      obtain ⟨Gd, wk, hold⟩ := io
      refine for_it wk (fun i σ H => ∃ f Γ', At X.K np B P f Γ' σ H ∧ Pv fps H1 H ∧ Nw fps f H1 ∧ I i Γ') ⟨fps, Γ1, A1, Pv.refl, Nw.refl, i0⟩ (fun i σ H _ ⟨f, Γ', _, p, _, _⟩ => hold H p trivial) (fun i x σ2 H2 H3 hlt ⟨f, Γ', A2, p2, n2, hI⟩ ⟨ex, d, hd, is⟩ => ?_) (fun σ2 H2 ⟨f, Γ', A2, p2, n2, hI⟩ => ?_)
      · refine hg.sd B P f Γ' σ2 H3 x d _ _ (A2.ex ex) is (st i d Γ' hd hI) fun Γ3 σ3 A3 _ w3 => ?_
        have p3 : Pv fps H1 H3 := p2.trans (Pv.of_ex ex)
        have nxI : Nx X.K np B P f H3 (I (i + 1)) (fun σ H => ∃ f Γ', At X.K np B P f Γ' σ H ∧ Pv fps H1 H ∧ Nw fps f H1 ∧ I (i + 1) Γ') := fun f4 Γ4 σ4 H4 A4 p4 n4 w4 => ⟨f4, Γ4, A4, p3.chain n2 p4, n2.chain p3 n4, w4⟩
        exact hb.sd B P f Γ3 σ3 H3 _ _ A3 w3 ⟨nxI, L.rt, (L.nx.same p1).move p3 n2, nxI⟩
      · exact (L.nx.same p1).move p2 n2 f Γ' σ2 H2 A2 Pv.refl Nw.refl (en Γ' hI)⟩
end

/-! ### comprehensions -/
def wipeG (Γ : Gm) : List Nat → Gm
  | [] => Γ
  | v :: vs => (wipeG Γ vs).set v .un
def noCe : Option Sl → Bool
  | some .un => true
  | some (.im _) => true
  | _ => false
def holdG (k : Hk) (Γ : Gm) : Prop := match k with
  | none => True
  | some (j, ds) => Γ[j]? = some (.ce (.ls ds))
theorem wipeG_len (Γ : Gm) : ∀ vs, (wipeG Γ vs).length = Γ.length
  | [] => rfl
  | v :: vs => by unfold wipeG; rw [List.length_set, wipeG_len Γ vs]
theorem wipeG_in {Γ : Gm} {i : Nat} {s : Sl} : ∀ {vs : List Nat}, i ∈ vs → (wipeG Γ vs)[i]? = some s → s = .un
  | v :: vs, h, e => by
    unfold wipeG at e
    by_cases hv : v = i
    · subst hv
      have hl : v < (wipeG Γ vs).length := by
        have := (List.getElem?_eq_some_iff.mp e).1
        simpa using this
      rw [List.getElem?_set_self hl] at e
      cases e; rfl
    · rw [List.getElem?_set_ne hv] at e
      exact wipeG_in (by rcases List.mem_cons.mp h with z | z; exact absurd z.symm hv; exact z) e
theorem wipeG_out {Γ : Gm} {i : Nat} : ∀ {vs : List Nat}, i ∉ vs → (wipeG Γ vs)[i]? = Γ[i]?
  | [], _ => rfl
  | v :: vs, h => by
    unfold wipeG
    rw [List.getElem?_set_ne (fun z => h (by simp [z]))]
    exact wipeG_out fun z => h (by simp [z])
theorem wipe_out {σ : L2.St} {i : Nat} : ∀ {vs : List Nat}, i ∉ vs → (wipe σ vs)[i]? = σ[i]?
  | [], _ => rfl
  | v :: vs, h => by
    unfold wipe
    rw [List.getElem?_set_ne (fun z => h (by simp [z]))]
    exact wipe_out fun z => h (by simp [z])
theorem wipe_in {σ : L2.St} {i : Nat} {o : Option V} : ∀ {vs : List Nat}, i ∈ vs → (wipe σ vs)[i]? = some o → o = none
  | v :: vs, h, e => by
    unfold wipe at e
    by_cases hv : v = i
    · subst hv
      have hl : v < (wipe σ vs).length := by
        have := (List.getElem?_eq_some_iff.mp e).1
        simpa using this
      rw [List.getElem?_set_self hl] at e
      cases e; rfl
    · rw [List.getElem?_set_ne hv] at e
      exact wipe_in (by rcases List.mem_cons.mp h with z | z; exact absurd z.symm hv; exact z) e
theorem wipe_wipe {σ : L2.St} {vs : List Nat} : ∀ {us : List Nat}, (∀ i ∈ us, i ∈ vs) → wipe (wipe σ us) vs = wipe σ vs
  | [], _ => rfl
  | u :: us, h => by
    show wipe ((wipe σ us).set u none) vs = _
    rw [wipe_set (h u (by simp))]
    exact wipe_wipe fun i hi => h i (by simp [hi])
section
variable {K : PySem.W.Frag} {np : Nat} {B : Hp} {P : List (V × List Addr)} {fps : Fps} {Γ : Gm} {σ σ2 : L2.St} {H : Hp} {vs : List Nat}
/-- own slots forgotten -/
theorem At.resl (A : At K np B P fps Γ σ2 H) (hn : ∀ i ∈ vs, np ≤ i) (hf : ∀ i ∈ vs, ∀ f, fps[i]? = some f → f = []) (e : wipe σ2 vs = wipe σ vs) : At K np B P fps (wipeG Γ vs) (wipe σ vs) H where
  l1 := by rw [← e, wipe_length, wipeG_len]; exact A.l1
  l2 := by rw [wipeG_len]; exact A.l2
  sl := fun i o s f h1 h2 h3 => by
    by_cases hi : i ∈ vs
    · rw [wipeG_in hi h2]
      exact hf i hi f h3
    · rw [wipeG_out hi] at h2
      rw [← e, wipe_out hi] at h1
      exact A.sl i o s f h1 h2 h3
  dj := A.dj
  fr := A.fr
  ba := A.ba
  pn := ⟨A.pn.1, fun j v f h => by
    obtain ⟨h1, h2⟩ := A.pn.2 j v f h
    have hj : j < np := by rw [← A.pn.1]; exact (List.getElem?_eq_some_iff.mp h).1
    have hv : j ∉ vs := fun z => by have := hn j z; omega
    rw [← e, wipe_out hv]
    exact ⟨h1, h2⟩⟩
theorem At.unwipe (A : At K np B P fps Γ (wipe σ vs) H) (hn : ∀ i ∈ vs, np ≤ i) : At K np B P fps Γ σ H where
  l1 := by rw [← A.l1, wipe_length]
  l2 := A.l2
  sl := fun i o s f h1 h2 h3 => by
    by_cases hi : i ∈ vs
    · have hl : i < (wipe σ vs).length := by rw [wipe_length]; exact (List.getElem?_eq_some_iff.mp h1).1
      have q := A.sl i _ s f (List.getElem?_eq_getElem hl) h2 h3
      have z := wipe_in hi (List.getElem?_eq_getElem hl)
      rw [z] at q
      cases s with
      | un => exact q
      | im d => obtain ⟨_, v, e, _⟩ := q; cases e
      | ce c => obtain ⟨p, e, _⟩ := q; cases e
    · exact A.sl i o s f (by rw [wipe_out hi]; exact h1) h2 h3
  dj := A.dj
  fr := A.fr
  ba := A.ba
  pn := ⟨A.pn.1, fun j v f h => by
    obtain ⟨h1, h2⟩ := A.pn.2 j v f h
    have hj : j < np := by rw [← A.pn.1]; exact (List.getElem?_eq_some_iff.mp h).1
    have hv : j ∉ vs := fun z => by have := hn j z; omega
    rw [wipe_out hv] at h1
    exact ⟨h1, h2⟩⟩
theorem At.updOther (A : At K np B P fps Γ σ H) {D : Addr} {xs ys : List V} (h : H D = some (.lst xs)) (n : ¬ In fps D) (b : B D = none) : At K np B P fps Γ σ (upd H D (.lst ys)) := by
  have t : Tx H (upd H D (.lst ys)) := tx_upd h (fun z => z)
  refine ⟨A.l1, A.l2, fun i o s f h1 h2 h3 => ?_, A.dj, A.fr, fun a o q m => ?_, A.pn⟩
  · have q := A.sl i o s f h1 h2 h3
    cases s with
    | un => exact q
    | im d => obtain ⟨z, v, hv, r⟩ := q; exact ⟨z, v, hv, r.tx t⟩
    | ce c =>
      obtain ⟨p, hp, r⟩ := q
      exact ⟨p, hp, r.stay (fun a ha => upd_ne fun z => by subst z; exact n ⟨i, f, h3, ha⟩) t⟩
  · rw [upd_ne (fun z => by subst z; rw [b] at q; cases q)]
    exact A.ba a o q m
end
def wYes : WT := fun Γ Z => Z true Γ
structure GTs (X : Cx) (np : Nat) (ifs : List Expr) (t : TT) (w : WT) : Prop where
  pt : PTs X ifs t
  sd : SndT X.K np t w
theorem gts_nil {X : Cx} {np : Nat} : GTs X np [] tYes wYes := ⟨pts_nil, fun B P fps Γ σ H Q Z A w k => k true Γ H A Pv.refl w⟩
theorem gts_one {X : Cx} {np : Nat} {c : Expr} {t : TT} {w : WT} (h : GT X np c t w) : GTs X np [c] t w := ⟨pts_one h.pt, h.sd⟩
def wLc (wi : WI) (wg : WG) (wt : WT) (we : WE) (vs : List Nat) : WE := fun Γ Z => wi Γ fun ds k Γ1 => vs.all (fun i => noCe Γ1[i]?) = true ∧ ds.length ≤ 1000 ∧ ∃ I : Nat → List D → Gm → Prop,
  I 0 [] (wipeG Γ1 vs) ∧ (∀ i acc Γ, I i acc Γ → holdG k Γ) ∧
  (∀ i d acc Γ, ds[i]? = some d → I i acc Γ → wg d Γ fun Γ2 => wt Γ2 fun b Γ3 => Br b (we Γ3 fun r Γ4 => (match r with
    | .im e => I (i + 1) (acc ++ [e]) (wipeG Γ4 vs)
    | _ => False)) (I (i + 1) acc (wipeG Γ3 vs))) ∧
  ∀ acc Γ, I ds.length acc Γ → Z (.tm (.ls acc)) Γ
theorem sd_lc {K : PySem.W.Frag} {np : Nat} {ti : TI} {g : TG} {tt : TT} {te : TE} {is vs : List Nat} {wi : WI} {wg : WG} {wt : WT} {we : WE} (hi : SndI K np ti wi) (hg : SndG K np g is wg) (ht : SndT K np tt wt) (he : SndE K np te we) (hv : ∀ i ∈ is, i ∈ vs) (hn : ∀ i ∈ vs, np ≤ i) :
    SndE K np (tLc ti g tt te vs) (wLc wi wg wt we vs) := fun B P fps Γ σ H Q Z A w kk => hi B P fps Γ σ H _ _ A w fun J ds k Γ1 H1 A1 p1 io w1 => by
  obtain ⟨un, hlen, I, i0, ih, st, en⟩ := w1
  obtain ⟨Gd, wk, hold⟩ := io
  intro D hD
  have nD : ¬ In fps D := A1.free hD
  have bD : B D = none := A1.bnone hD
  have hf : ∀ i ∈ vs, ∀ f, fps[i]? = some f → f = [] := fun i hi f e => by
    have hu := List.all_eq_true.mp un i hi
    obtain ⟨o, s, _, e2, e3⟩ := A1.fat e
    rw [e2] at hu
    cases s with
    | un => exact e3
    | im d => exact e3.1
    | ce c => cases hu
  have A1w : At K np B P fps (wipeG Γ1 vs) (wipe σ vs) H1 := A1.resl (σ := σ) hn hf rfl
  refine lc_it wk (fun i H2 => ∃ Γ2 acc xs, At K np B P fps Γ2 (wipe σ vs) H2 ∧ Pv fps H1 H2 ∧ H2 D = some (.lst xs) ∧ IsA K H2 xs acc ∧ acc.length ≤ i ∧ I i acc Γ2)
    ⟨wipeG Γ1 vs, [], [], A1w.ex (Ex.new hD), Pv.of_ex (Ex.new hD), upd_same, .nil, Nat.le_refl _, i0⟩ (fun i H2 hi ⟨Γ2, acc, xs, A2, p2, h2, h3, h4, hI⟩ => hold H2 p2 ?_)
    (fun i x H2 H3 hlt ⟨Γ2, acc, xs, A2, p2, h2, h3, h4, hI⟩ ⟨ex, d, hd, is'⟩ => ?_) (fun H2 ⟨Γ2, acc, xs, A2, p2, h2, h3, h4, hI⟩ => ?_)
  · have hh := ih i acc Γ2 hI
    cases k with
    | none => trivial
    | some jd =>
      obtain ⟨j, es⟩ := jd
      obtain ⟨p, f, e1, e2, _, ys, e3, e4⟩ := A2.ce (show Γ2[j]? = some (.ce (.ls es)) from hh)
      exact ⟨p, ys, (wipe_some e1).1, e3, e4⟩
  · have p3 : Pv fps H1 H3 := p2.trans (Pv.of_ex ex)
    refine hg B P fps Γ2 (wipe σ vs) H3 x d _ _ (A2.ex ex) is' (st i d acc Γ2 hd hI) fun Γ3 σ3 A3 e3 w3 => ?_
    have e3' : wipe σ3 vs = wipe σ vs := (e3 vs hv).trans (wipe_wipe fun _ h => h)
    refine ⟨e3', ht B P fps Γ3 σ3 H3 _ _ A3 w3 fun b Γ4 H4 A4 p4 w4 => ?_⟩
    have hi1 : i < 1000 := Nat.lt_of_lt_of_le hlt hlen
    cases b with
    | true =>
      refine iteT (he B P fps Γ4 σ3 H4 _ _ A4 (w4.t rfl) fun y r Γ5 H5 A5 p5 r5 w5 => ?_)
      split at w5
      · rename_i e
        have pp : Pv fps H3 H5 := p4.trans p5
        have h5 : H5 D = some (.lst xs) := pp D _ (ex D _ h2) nD
        refine ⟨xs, h5, small1000 (by rw [h3.length]; omega), wipeG Γ5 vs, acc ++ [e], xs ++ [y], ?_, fun a o q n => ?_, upd_same, ?_, by rw [List.length_append]; simp; omega, w5⟩
        · exact (A5.updOther h5 nD bD).resl (σ := σ) hn hf e3'
        · rw [upd_ne (fun z => by subst z; rw [hD] at q; cases q)]
          exact (p3.trans pp) a o q n
        · have t : Tx H5 (upd H5 D (.lst (xs ++ [y]))) := tx_upd h5 (fun z => z)
          exact ((h3.tx (ex.tx.trans (A3.tx pp))).append (.one r5)).tx t
      · exact w5.elim
    | false =>
      refine iteF ⟨wipeG Γ4 vs, acc, xs, A4.resl (σ := σ) hn hf e3', p3.trans p4, p4 D _ (ex D _ h2) nD, h3.tx (ex.tx.trans (A3.tx p4)), by omega, ?_⟩
      exact w4.f rfl
  · have pp : Pv fps H H2 := p1.trans p2
    exact kk (.ref D) (.tm (.ls acc)) Γ2 H2 (A2.unwipe hn) pp ⟨D, [D], rfl, ⟨rfl, xs, h2, h3⟩, fun a ha => by simp at ha; subst ha; exact A.freeBack A1 p1 _ hD⟩ (en acc Γ2 hI)
section
variable {X : Cx} {np : Nat} {elt tg iter : Expr} {ifs : List Expr} {scope : Scope} {own : List (Str × Nat)} {pos : Pos} {ti : TI} {g : TG} {tt : TT} {te : TE} {is : List Nat} {wi : WI} {wg : WG} {wt : WT} {we : WE}
theorem g_lc (hc : X.calm = true) (hN : X.N.Nodup) (hi : GI X np tg iter ti wi) (ok : BlkOk X.N X.env.scope scope own)
    (hg : ∀ (s : Shared) (H : Hp) (C : Addr) (cl : List (Str × Addr)) (fp : List Addr), GG (X.blk s H scope (compEnvC scope cl C X.env) fp) np tg g is wg) (ht : ∀ (s : Shared) (H : Hp) (C : Addr) (cl : List (Str × Addr)) (fp : List Addr), GTs (X.blk s H scope (compEnvC scope cl C X.env) fp) np ifs tt wt)
    (he : ∀ (s : Shared) (H : Hp) (C : Addr) (cl : List (Str × Addr)) (fp : List Addr), GE (X.blk s H scope (compEnvC scope cl C X.env) fp) np elt te we) (hv : ∀ i ∈ is, i ∈ own.map (·.2) := by decide) (hn : ∀ i ∈ own.map (·.2), np ≤ i := by decide) (hs : ∀ x, foldedSetIterable iter X.env x = pure x := by intro _; rfl) :
    GE X np (.ListComp elt [⟨tg, iter, ifs, 0⟩] scope pos) (tLc ti g tt te (own.map (·.2))) (wLc wi wg wt we (own.map (·.2))) :=
  ⟨pe_lc hc hN hi.pi ok (fun s H C cl fp => (hg s H C cl fp).pg) (fun s H C cl fp => (ht s H C cl fp).pt) (fun s H C cl fp => (he s H C cl fp).pe) hs,
    sd_lc hi.sd (hg X.s_0 X.H_0 0 [] []).sd (ht X.s_0 X.H_0 0 [] []).sd (he X.s_0 X.H_0 0 [] []).sd hv hn⟩
theorem gs_setLc {i : Nat} {y : Str} {py spos : Pos} (hc : X.calm = true) (hN : X.N.Nodup) (hy : X.N[i]? = some y) (hyl : X.env.scope.names.lookup y = some .local)
    (hsw : swapsWith (.ListComp elt [⟨tg, iter, ifs, 0⟩] scope pos) (some (.Name y py)) spos.line X.env = pure true) (hi : GI X np tg iter ti wi) (ok : BlkOk X.N X.env.scope scope own)
    (hg : ∀ (s : Shared) (H : Hp) (C : Addr) (cl : List (Str × Addr)) (fp : List Addr), GG (X.blk s H scope (compEnvC scope cl C X.env) fp) np tg g is wg) (ht : ∀ (s : Shared) (H : Hp) (C : Addr) (cl : List (Str × Addr)) (fp : List Addr), GTs (X.blk s H scope (compEnvC scope cl C X.env) fp) np ifs tt wt)
    (he : ∀ (s : Shared) (H : Hp) (C : Addr) (cl : List (Str × Addr)) (fp : List Addr), GE (X.blk s H scope (compEnvC scope cl C X.env) fp) np elt te we) (hp : np ≤ i := by decide) (hv : ∀ i ∈ is, i ∈ own.map (·.2) := by decide) (hn : ∀ i ∈ own.map (·.2), np ≤ i := by decide) (hs : ∀ x, foldedSetIterable iter X.env x = pure x := by intro _; rfl) :
    GS X np (.Assign [.Name y py] (.ListComp elt [⟨tg, iter, ifs, 0⟩] scope pos) spos) (tAsg (tLc ti g tt te (own.map (·.2))) (gName i)) (wAsg i (wLc wi wg wt we (own.map (·.2)))) :=
  ⟨ps_setLc hc hN hy hyl hsw hi.pi ok (fun s H C cl fp => (hg s H C cl fp).pg) (fun s H C cl fp => (ht s H C cl fp).pt) (fun s H C cl fp => (he s H C cl fp).pe) hs,
    sd_asg hp (sd_lc hi.sd (hg X.s_0 X.H_0 0 [] []).sd (ht X.s_0 X.H_0 0 [] []).sd (he X.s_0 X.H_0 0 [] []).sd hv hn)⟩
end
end G
set_option maxRecDepth 100000
set_option maxHeartbeats 4000000
/-! G9: defs and their calls. -/
namespace G
open PySem PySem.Spec PyProof.Rows L2

/-- the arguments as they stand -/
inductive Ar (K : PySem.W.Frag) (H : Hp) : List V → List Sl → Fps → Prop
  | nil : Ar K H [] [] []
  | cons {v : V} {vs : List V} {s : Sl} {ss : List Sl} {f : List Addr} {fs : Fps} : SlAt K H (some v) s f → Ar K H vs ss fs → Ar K H (v :: vs) (s :: ss) (f :: fs)
def Dj (fs : Fps) : Prop := ∀ (i j : Nat) (f g : List Addr) (a : Addr), i ≠ j → fs[i]? = some f → fs[j]? = some g → a ∈ f → a ∈ g → False
/-- what a def does: its arguments, what is wanted of its result and of the arguments behind it -/
abbrev GSp := List Sl → (R → List Sl → Prop) → Prop
def toSp (K : PySem.W.Frag) (gs : GSp) : Sp := fun vs H Q _ => ∃ (args : List Sl) (fs : Fps) (Zg : R → List Sl → Prop), Ar K H vs args fs ∧ Dj fs ∧ gs args Zg ∧ ∀ r outs v H', Zg r outs → (∀ a o, H a = some o → ¬ In fs a → H' a = some o) → Ar K H' vs outs fs → RRet K H H' v r → Q v H'
section
variable {K : PySem.W.Frag} {H H' : Hp}
theorem Ar.len : ∀ {vs : List V} {ss : List Sl} {fs : Fps}, Ar K H vs ss fs → vs.length = ss.length ∧ fs.length = ss.length
  | _, _, _, .nil => ⟨rfl, rfl⟩
  | _, _, _, .cons _ t => by obtain ⟨h1, h2⟩ := Ar.len t; simp [h1, h2]
theorem Ar.at : ∀ {vs : List V} {ss : List Sl} {fs : Fps}, Ar K H vs ss fs → ∀ {i : Nat} {v : V} {s : Sl} {f : List Addr}, vs[i]? = some v → ss[i]? = some s → fs[i]? = some f → SlAt K H (some v) s f
  | _, _, _, .nil, i, v, s, f, h1, _, _ => by simp at h1
  | _, _, _, .cons a t, 0, v, s, f, h1, h2, h3 => by simp at h1 h2 h3; subst h1 h2 h3; exact a
  | _, _, _, .cons a t, i + 1, v, s, f, h1, h2, h3 => Ar.at t (i := i) (by simpa using h1) (by simpa using h2) (by simpa using h3)
theorem Ar.mk : ∀ {vs : List V} {ss : List Sl} {fs : Fps}, vs.length = ss.length → fs.length = ss.length → (∀ (i : Nat) (v : V) (s : Sl) (f : List Addr), vs[i]? = some v → ss[i]? = some s → fs[i]? = some f → SlAt K H (some v) s f) → Ar K H vs ss fs
  | [], [], [], _, _, _ => .nil
  | v :: vs, s :: ss, f :: fs, h1, h2, h => .cons (h 0 v s f rfl rfl rfl) (Ar.mk (by simpa using h1) (by simpa using h2) fun i v' s' f' e1 e2 e3 => h (i + 1) v' s' f' (by simpa using e1) (by simpa using e2) (by simpa using e3))
end

/-! ### a def's body -/
def endsOf (np : Nat) (Z : R → List Sl → Prop) : Zs := { nx := fun Γ => Z (.im .non) (Γ.take np), rt := fun r Γ => Z r (Γ.take np) }
theorem at_start {K : PySem.W.Frag} {H : Hp} {vs : List V} {args : List Sl} {fs : Fps} (h : Ar K H vs args fs) (d : Dj fs) (k : Nat) :
    At K args.length H (vs.zip fs) (fs ++ List.replicate k []) (args ++ List.replicate k .un) (vs.map some ++ List.replicate k none) H := by
  obtain ⟨l1, l2⟩ := h.len
  have rep : ∀ {α : Type} (xs : List α) (y : α) (i : Nat) (z : α), xs.length ≤ i → (xs ++ List.replicate k y)[i]? = some z → z = y := by
    intro α xs y i z hi e
    rw [List.getElem?_append_right hi, List.getElem?_replicate] at e
    split at e
    · cases e; rfl
    · cases e
  have low : ∀ {α : Type} (xs : List α) (y : α) (i : Nat), i < xs.length → (xs ++ List.replicate k y)[i]? = xs[i]? := by
    intro α xs y i hi
    rw [List.getElem?_append_left hi]
  refine ⟨by simp [l1], by simp [l2], fun i o s f h1 h2 h3 => ?_, fun i j f g a hij h1 h2 m1 m2 => ?_, fun i f a hi h1 m => ?_, fun a o q _ => q, by simp [l1, l2], fun j v f q => ?_⟩
  · by_cases hi : i < args.length
    · rw [low _ _ _ (by rw [List.length_map, l1]; exact hi), List.getElem?_map] at h1
      rw [low _ _ _ hi] at h2
      rw [low _ _ _ (by rw [l2]; exact hi)] at h3
      cases q : vs[i]? with
      | none => rw [q] at h1; cases h1
      | some v =>
        rw [q] at h1
        simp at h1
        subst h1
        exact h.at q h2 h3
    · have e2 := rep args .un i s (by omega) h2
      have e3 := rep fs [] i f (by omega) h3
      subst e2 e3
      rfl
  · by_cases hi : i < args.length
    · by_cases hj : j < args.length
      · rw [low _ _ _ (by omega)] at h1 h2
        exact d i j f g a hij h1 h2 m1 m2
      · rw [rep fs [] j g (by omega) h2] at m2; cases m2
    · rw [rep fs [] i f (by omega) h1] at m1; cases m1
  · rw [rep fs [] i f (by omega) h1] at m; cases m
  · rw [List.getElem?_zip_eq_some] at q
    obtain ⟨q1, q2⟩ := q
    have hj : j < vs.length := (List.getElem?_eq_some_iff.mp q1).1
    rw [low _ _ _ (by rw [List.length_map]; exact hj), low _ _ _ (by omega), List.getElem?_map, q1]
    exact ⟨rfl, q2⟩
theorem body_of {K : PySem.W.Frag} {np n : Nat} {t : TS} {w : WS} {gs : GSp} (hs : SndS K np t w) (hw : ∀ args Z, gs args Z → args.length = np ∧ w (endsOf np Z) (args ++ List.replicate (n - np) .un)) {vs : List V} {H : Hp} {Q : VK} {E : XK} (h : toSp K gs vs H Q E) :
    t { nx := fun _ H' => Q .non H', rt := Q } (vs.map some ++ List.replicate (n - vs.length) none) H := by
  obtain ⟨args, fs, Zg, ar, dj, g, fz⟩ := h
  obtain ⟨hl, hw⟩ := hw args _ g
  obtain ⟨l1, l2⟩ := ar.len
  subst hl
  have A := at_start ar dj (n - args.length)
  rw [l1]
  have fin : ∀ v r fps' Γ' σ' H', At K args.length H (vs.zip fs) fps' Γ' σ' H' → RRet K H H' v r → (∀ v H', (∀ a o, H a = some o → ¬ In fs a → H' a = some o) → Ar K H' vs (Γ'.take args.length) fs → RRet K H H' v r → Q v H') → Q v H' := by
    intro v r fps' Γ' σ' H' A' rr k
    have pn : ∀ (j : Nat) (v : V) (f : List Addr), vs[j]? = some v → fs[j]? = some f → σ'[j]? = some (some v) ∧ fps'[j]? = some f := fun j v f h1 h2 => A'.pn.2 j v f (by rw [List.getElem?_zip_eq_some]; exact ⟨h1, h2⟩)
    have hle : args.length ≤ Γ'.length := by
      rw [← A'.l1]
      by_cases h0 : args.length = 0
      · omega
      · obtain ⟨q1, _⟩ := pn (args.length - 1) (vs[args.length - 1]'(by omega)) (fs[args.length - 1]'(by omega)) (List.getElem?_eq_getElem (by omega)) (List.getElem?_eq_getElem (by omega))
        have := (List.getElem?_eq_some_iff.mp q1).1
        omega
    refine k v H' (fun a o q n => A'.ba a o q fun i f hi e m => n ⟨i, f, ?_, m⟩) (Ar.mk (by rw [List.length_take]; omega) (by rw [List.length_take]; omega) fun i v s f h1 h2 h3 => ?_) rr
    · obtain ⟨_, q2⟩ := pn i (vs[i]'(by omega)) (fs[i]'(by omega)) (List.getElem?_eq_getElem (by omega)) (List.getElem?_eq_getElem (by omega))
      rw [e] at q2
      rw [List.getElem?_eq_getElem (by omega)]
      exact q2.symm
    · obtain ⟨q1, q2⟩ := pn i v f h1 h3
      have hi : i < args.length := by
        have := (List.getElem?_eq_some_iff.mp h1).1
        omega
      rw [List.getElem?_take_of_lt hi] at h2
      exact A'.sl i _ s f q1 h2 q2
  exact hs H (vs.zip fs) _ _ _ H _ _ A hw ⟨fun f Γ σ H' A' _ _ z => fin .non (.im .non) f Γ σ H' A' .non fun v H' a b c => fz _ _ v H' z a b c, fun v r f Γ σ H' A' rr z => fin v r f Γ σ H' A' rr fun v H' a b c => fz _ _ v H' z a b c, fun f Γ σ H' A' _ _ z => z.elim, fun f Γ σ H' A' _ _ z => z.elim⟩
/-- a def that may be called -/
structure Fn (P : Program) (w : World) (K : PySem.W.Frag) (mg : Str → Option Value) (base : Heap) (k : Nat) (x : Str) (ps : List Str) (gs : GSp) : Prop where
  ex : ∃ f fd, mg x = some (.ref f) ∧ PySem.W.keepIn K (.ref f) = true ∧ Binds K fd ps [] ∧ FnOk P w K mg base CX0 k f fd ps (toSp K gs)
/-- where a def of the text stands -/
structure Here (K : PySem.W.Frag) (mg : Str → Option Value) (x : Str) (st : Stmt) (ps : List Str) : Prop where
  ex : ∃ f fd, mg x = some (.ref f) ∧ FunD K x x (defArgs st) (defBody st) (defScope st) [] [] f fd ∧ Binds K fd ps []
theorem Here.fn {P : Program} {w : World} {K : PySem.W.Frag} {mg : Str → Option Value} {base : Heap} {k : Nat} {x : Str} {st : Stmt} {N ps : List Str} {gs : GSp} (T : Here K mg x st ps) (S : FnScope N ps (defScope st)) (ww : WS)
    (hb : ∀ (f : Addr) (cdv : Value) (A : Around) (outer : List Env) (s : Shared) (H : Hp) (E : XK), Room k (A.deeper (envOfC x (defScope st) s.heap.objs.size f cdv)) → ∃ t, GSs (cxOf CX0 P w K mg base N x (defScope st) f cdv A outer s H E).nox ps.length (defBody st) t ww)
    (hw : ∀ args Z, gs args Z → args.length = ps.length ∧ ww (endsOf ps.length Z) (args ++ List.replicate (N.length - ps.length) .un)) : Fn P w K mg base (k + 1) x ps gs := by
  obtain ⟨f, fd, hm, F, B⟩ := T.ex
  refine ⟨f, fd, hm, F.kp, B, F.ok S (fun vs H Q E h => ?_) fun cdv A outer s H vs Q E hr h => ?_⟩
  · obtain ⟨args, fs, _, ar, _, g, _⟩ := h
    rw [ar.len.1, (hw args _ g).1]
  · have hl : vs.length = ps.length := by
      obtain ⟨args, fs, _, ar, _, g, _⟩ := h
      rw [ar.len.1, (hw args _ g).1]
    obtain ⟨t, d⟩ := hb f cdv A outer s H E hr
    exact ⟨t, d.ps.nox, body_of (n := N.length) d.sd hw h⟩

/-! ### a call -/
def rsv (Γ : Gm) : R → Sl
  | .im d => .im d
  | .tm c => .ce c
  | .sl i => Γ.getD i .un
def slIx : List R → List Nat
  | [] => []
  | .sl i :: rs => i :: slIx rs
  | .im _ :: rs => slIx rs
  | .tm _ :: rs => slIx rs
def ndup : List Nat → Bool
  | [] => true
  | i :: r => !r.contains i && ndup r
/-- the slots' cells behind the call -/
def wbk : Gm → List R → List Sl → Gm
  | Γ, .sl i :: rs, s :: outs => wbk (Γ.set i s) rs outs
  | Γ, .im _ :: rs, _ :: outs => wbk Γ rs outs
  | Γ, .tm _ :: rs, _ :: outs => wbk Γ rs outs
  | Γ, _ :: _, [] => Γ
  | Γ, [], _ => Γ
def wCall (gs : GSp) (wa : WA) : WE := fun Γ Z => wa Γ fun rs Γ1 => ndup (slIx rs) = true ∧ gs (rs.map (rsv Γ1)) fun r outs => match r with
  | .sl _ => False
  | r => Z r (wbk Γ1 rs outs)
theorem slIx_mem {i : Nat} : ∀ {rs : List R}, i ∈ slIx rs ↔ R.sl i ∈ rs
  | [] => by simp [slIx]
  | .im d :: rs => by simp [slIx, slIx_mem]
  | .tm d :: rs => by simp [slIx, slIx_mem]
  | .sl j :: rs => by rw [slIx, List.mem_cons, List.mem_cons, slIx_mem]; simp
theorem wbk_len : ∀ (rs : List R) (Γ : Gm) (outs : List Sl), (wbk Γ rs outs).length = Γ.length
  | [], Γ, _ => by simp [wbk]
  | .im _ :: rs, Γ, [] => by simp [wbk]
  | .tm _ :: rs, Γ, [] => by simp [wbk]
  | .sl _ :: rs, Γ, [] => by simp [wbk]
  | .im _ :: rs, Γ, s :: outs => by rw [wbk, wbk_len rs]
  | .tm _ :: rs, Γ, s :: outs => by rw [wbk, wbk_len rs]
  | .sl i :: rs, Γ, s :: outs => by rw [wbk, wbk_len rs]; simp
theorem wbk_out {i : Nat} : ∀ (rs : List R) (Γ : Gm) (outs : List Sl), i ∉ slIx rs → (wbk Γ rs outs)[i]? = Γ[i]?
  | [], Γ, _, _ => by simp [wbk]
  | .im _ :: rs, Γ, [], _ => by simp [wbk]
  | .tm _ :: rs, Γ, [], _ => by simp [wbk]
  | .sl _ :: rs, Γ, [], _ => by simp [wbk]
  | .im _ :: rs, Γ, s :: outs, h => by rw [wbk, wbk_out rs Γ outs h]
  | .tm _ :: rs, Γ, s :: outs, h => by rw [wbk, wbk_out rs Γ outs h]
  | .sl j :: rs, Γ, s :: outs, h => by
    rw [slIx, List.mem_cons, not_or] at h
    rw [wbk, wbk_out rs _ outs h.2, List.getElem?_set_ne (Ne.symm h.1)]
theorem wbk_in {i : Nat} : ∀ (rs : List R) (Γ : Gm) (outs : List Sl), ndup (slIx rs) = true → i ∈ slIx rs → outs.length = rs.length → i < Γ.length → ∃ (m : Nat) (s : Sl), rs[m]? = some (R.sl i) ∧ outs[m]? = some s ∧ (wbk Γ rs outs)[i]? = some s
  | [], Γ, _, _, h, _, _ => by simp [slIx] at h
  | .im _ :: rs, Γ, [], _, _, hl, _ => by simp at hl
  | .tm _ :: rs, Γ, [], _, _, hl, _ => by simp at hl
  | .sl _ :: rs, Γ, [], _, _, hl, _ => by simp at hl
  | .im _ :: rs, Γ, s :: outs, hn, h, hl, hi => by
    obtain ⟨m, z, e1, e2, e3⟩ := wbk_in rs Γ outs hn h (by simpa using hl) hi
    exact ⟨m + 1, z, by simpa using e1, by simpa using e2, by rw [wbk]; exact e3⟩
  | .tm _ :: rs, Γ, s :: outs, hn, h, hl, hi => by
    obtain ⟨m, z, e1, e2, e3⟩ := wbk_in rs Γ outs hn h (by simpa using hl) hi
    exact ⟨m + 1, z, by simpa using e1, by simpa using e2, by rw [wbk]; exact e3⟩
  | .sl j :: rs, Γ, s :: outs, hn, h, hl, hi => by
    rw [slIx, ndup, Bool.and_eq_true] at hn
    by_cases hj : i ∈ slIx rs
    · obtain ⟨m, z, e1, e2, e3⟩ := wbk_in rs (Γ.set j s) outs hn.2 hj (by simpa using hl) (by simpa using hi)
      exact ⟨m + 1, z, by simpa using e1, by simpa using e2, by rw [wbk]; exact e3⟩
    · have e : i = j := by
        rw [slIx, List.mem_cons] at h
        exact h.resolve_right hj
      subst e
      exact ⟨0, s, rfl, rfl, by rw [wbk, wbk_out rs _ outs hj, List.getElem?_set_self hi]⟩
theorem ar_of {K : PySem.W.Frag} {np : Nat} {B : Hp} {P : List (V × List Addr)} {fps : Fps} {Γ : Gm} {σ : L2.St} {H H1 : Hp} (A : At K np B P fps Γ σ H1) (A0 : ∀ a, In fps a → ∃ o, H a = some o) : ∀ {vs : List V} {rs : List R} {gs : Fps}, RA K Γ σ H H1 vs rs gs → ndup (slIx rs) = true →
    ∃ fs : Fps, Ar K H1 vs (rs.map (rsv Γ)) fs ∧ Dj fs ∧ fs.length = rs.length ∧ (∀ (m i : Nat), rs[m]? = some (R.sl i) → ∃ f, fs[m]? = some f ∧ fps[i]? = some f) ∧ ∀ a, In fs a → In gs a ∨ ∃ i f, i ∈ slIx rs ∧ fps[i]? = some f ∧ a ∈ f
  | _, _, _, .nil, _ => ⟨[], .nil, fun i j f g a _ h => by simp at h, rfl, fun m i h => by simp at h, fun a ⟨i, f, h, _⟩ => by simp at h⟩
  | _, _, _, @RA.cons _ _ _ _ _ v vs r rs g gs h t n, nd => by
    cases r with
    | im d =>
      obtain ⟨fs, a1, d1, l1, s1, i1⟩ := ar_of A A0 t nd
      refine ⟨[] :: fs, .cons ⟨rfl, v, rfl, h.2⟩ a1, fun i j f g' a hij e1 e2 m1 m2 => ?_, by simp [l1], fun m i e => ?_, fun a ⟨i, f, e, m⟩ => ?_⟩
      · cases i with
        | zero => simp at e1; subst e1; cases m1
        | succ i => cases j with
          | zero => simp at e2; subst e2; cases m2
          | succ j => exact d1 i j f g' a (fun z => hij (by rw [z])) (by simpa using e1) (by simpa using e2) m1 m2
      · cases m with
        | zero => simp at e
        | succ m => simpa using s1 m i (by simpa using e)
      · cases i with
        | zero => simp at e; subst e; cases m
        | succ i =>
          rcases i1 a ⟨i, f, by simpa using e, m⟩ with ⟨j, f', e', m'⟩ | q
          · exact .inl ⟨j + 1, f', by simpa using e', m'⟩
          · exact .inr q
    | tm c =>
      obtain ⟨fs, a1, d1, l1, s1, i1⟩ := ar_of A A0 t nd
      obtain ⟨p, rfl, h1, h2⟩ := h
      have out : ∀ a ∈ g, ¬ In fs a := fun a ha z => by
        rcases i1 a z with q | ⟨i, f, _, e, m⟩
        · exact n a ha q
        · obtain ⟨o, ho⟩ := A0 a ⟨i, f, e, m⟩
          rw [h2 a ha] at ho; cases ho
      refine ⟨g :: fs, .cons ⟨p, rfl, h1⟩ a1, fun i j f g' a hij e1 e2 m1 m2 => ?_, by simp [l1], fun m i e => ?_, fun a ⟨i, f, e, m⟩ => ?_⟩
      · cases i with
        | zero =>
          simp at e1; subst e1
          cases j with
          | zero => exact hij rfl
          | succ j => exact out a m1 ⟨j, g', by simpa using e2, m2⟩
        | succ i => cases j with
          | zero => simp at e2; subst e2; exact out a m2 ⟨i, f, by simpa using e1, m1⟩
          | succ j => exact d1 i j f g' a (fun z => hij (by rw [z])) (by simpa using e1) (by simpa using e2) m1 m2
      · cases m with
        | zero => simp at e
        | succ m => simpa using s1 m i (by simpa using e)
      · cases i with
        | zero => simp at e; subst e; exact .inl ⟨0, g, rfl, m⟩
        | succ i =>
          rcases i1 a ⟨i, f, by simpa using e, m⟩ with ⟨j, f', e', m'⟩ | q
          · exact .inl ⟨j + 1, f', by simpa using e', m'⟩
          · exact .inr q
    | sl k =>
      rw [slIx, ndup, Bool.and_eq_true] at nd
      obtain ⟨fs, a1, d1, l1, s1, i1⟩ := ar_of A A0 t nd.2
      obtain ⟨hg, h1, c, h2⟩ := h
      obtain ⟨p, f0, e1, e2, e3⟩ := A.ce h2
      rw [h1] at e1; cases e1
      have hk : k ∉ slIx rs := by simpa using nd.1
      have out : ∀ a ∈ f0, ¬ In fs a := fun a ha z => by
        rcases i1 a z with q | ⟨i, f, hi, e, m⟩
        · have := t.new a q
          obtain ⟨o, ho⟩ := A0 a ⟨k, f0, e2, ha⟩
          rw [this] at ho; cases ho
        · exact A.dj k i f0 f a (fun z => hk (z ▸ hi)) e2 e ha m
      have er : rsv Γ (.sl k) = .ce c := by
        show List.getD Γ k .un = _
        rw [List.getD_eq_getElem?_getD, h2]
        rfl
      refine ⟨f0 :: fs, .cons (by rw [er]; exact ⟨p, rfl, e3⟩) a1, fun i j f g' a hij q1 q2 m1 m2 => ?_, by simp [l1], fun m i e => ?_, fun a ⟨i, f, e, m⟩ => ?_⟩
      · cases i with
        | zero =>
          simp at q1; subst q1
          cases j with
          | zero => exact hij rfl
          | succ j => exact out a m1 ⟨j, g', by simpa using q2, m2⟩
        | succ i => cases j with
          | zero => simp at q2; subst q2; exact out a m2 ⟨i, f, by simpa using q1, m1⟩
          | succ j => exact d1 i j f g' a (fun z => hij (by rw [z])) (by simpa using q1) (by simpa using q2) m1 m2
      · cases m with
        | zero => simp at e; subst e; exact ⟨f0, rfl, e2⟩
        | succ m => simpa using s1 m i (by simpa using e)
      · cases i with
        | zero => simp at e; subst e; exact .inr ⟨k, _, by simp [slIx], e2, m⟩
        | succ i =>
          rcases i1 a ⟨i, f, by simpa using e, m⟩ with ⟨j, f', e', m'⟩ | ⟨i', f', h', q⟩
          · exact .inl ⟨j + 1, f', by simpa using e', m'⟩
          · exact .inr ⟨i', f', by simp [slIx, h'], q⟩
theorem sd_call {K : PySem.W.Frag} {np : Nat} {gs : GSp} {ta : TA} {wa : WA} (ha : SndA K np ta wa) : SndE K np (tCall (toSp K gs) [] E0 ta) (wCall gs wa) := fun B P fps Γ σ H Q Z A w k =>
  ha B P fps Γ σ H _ _ A w fun vs rs gfs Γ1 H1 A1 p1 r1 w1 => by
    obtain ⟨nd, w1⟩ := w1
    obtain ⟨fs, ar, dj, lf, sf, inn⟩ := ar_of A1 A.dom' r1 nd
    rw [List.append_nil]
    refine ⟨_, fs, _, ar, dj, w1, fun r outs v H' zg kp ar' rr => ?_⟩
    obtain ⟨lv, lo⟩ := ar'.len
    have lr : vs.length = rs.length := r1.len
    have fb : ∀ a, H1 a = none → H a = none := A.freeBack A1 p1
    -- what is kept
    have pv : Pv fps H H' := fun a o q n => kp a o (p1 a o q n) fun z => by
      rcases inn a z with z | ⟨i, f, _, e, m⟩
      · rw [r1.new a z] at q; cases q
      · exact n ⟨i, f, e, m⟩
    have tx : Tx H1 H' := fun a u tp q => kp a _ q fun z => by
      rcases inn a z with z | ⟨i, f, _, e, m⟩
      · obtain ⟨j, g, e1, e2⟩ := z
        have : ∃ o, H1 a = some o ∧ NT o := by
          clear w1 ar dj lf sf inn zg kp ar' rr lv lo lr pv nd
          induction r1 generalizing j with
          | nil => simp at e1
          | cons h t n ih =>
            cases j with
            | zero => simp at e1; subst e1; exact h.dom a e2
            | succ j => exact ih j (by simpa using e1)
        obtain ⟨o, e3, e4⟩ := this
        rw [q] at e3; cases e3; exact nt_tp e4 tp
      · obtain ⟨o, e3, e4⟩ := A1.dom ⟨i, f, e, m⟩
        rw [q] at e3; cases e3; exact nt_tp e4 tp
    have A2 : At K np B P fps (wbk Γ1 rs outs) σ H' := by
      refine ⟨by rw [wbk_len]; exact A1.l1, by rw [wbk_len]; exact A1.l2, fun i o s f h1 h2 h3 => ?_, A1.dj, A1.fr, fun a o q n => ?_, A1.pn⟩
      · by_cases hi : i ∈ slIx rs
        · have hl : i < Γ1.length := by
            have := (List.getElem?_eq_some_iff.mp h1).1
            rw [A1.l1] at this; exact this
          obtain ⟨m, z, e1, e2, e3⟩ := wbk_in rs Γ1 outs nd hi (by omega) hl
          rw [e3] at h2; cases h2
          obtain ⟨f', e4, e5⟩ := sf m i e1
          rw [h3] at e5; cases e5
          obtain ⟨v', e6, e7⟩ : ∃ v', vs[m]? = some v' ∧ σ[i]? = some (some v') := by
            clear w1 ar dj lf sf inn zg kp ar' rr lv lo pv nd tx e4 e2 e3 hi
            induction r1 generalizing m with
            | nil => simp at e1
            | cons h t n ih =>
              cases m with
              | zero =>
                simp at e1; subst e1
                exact ⟨_, rfl, h.2.1⟩
              | succ m =>
                obtain ⟨v', q1, q2⟩ := ih (by simpa using lr) m (by simpa using e1)
                exact ⟨v', by simpa using q1, q2⟩
          rw [e7] at h1; cases h1
          exact ar'.at e6 e2 e4
        · rw [wbk_out rs Γ1 outs hi] at h2
          have q := A1.sl i o s f h1 h2 h3
          cases s with
          | un => exact q
          | im d => obtain ⟨z, v, hv, r⟩ := q; exact ⟨z, v, hv, r.tx tx⟩
          | ce c =>
            obtain ⟨p, hp, r⟩ := q
            refine ⟨p, hp, r.stay (fun a ha => ?_) tx⟩
            obtain ⟨u, hu, _⟩ := r.dom a ha
            rw [hu]
            refine kp a u hu fun z => ?_
            rcases inn a z with z | ⟨j, g, hj, e, m⟩
            · obtain ⟨o', ho'⟩ := A.dom' a ⟨i, f, h3, ha⟩
              rw [r1.new a z] at ho'; cases ho'
            · exact A1.dj i j f g a (fun z => hi (z ▸ hj)) h3 e ha m
      · have h1 := A1.ba a o q n
        refine kp a o h1 fun z => ?_
        rcases inn a z with z | ⟨i, f, _, e, m⟩
        · have := A.bnone (r1.new a z)
          rw [q] at this; cases this
        · by_cases hi : i < np
          · exact n i f hi e m
          · have := A1.fr i f a (by omega) e m
            rw [q] at this; cases this
    cases r with
    | im d => exact k v (.im d) _ H' A2 pv rr zg
    | tm c =>
      obtain ⟨p, fp, e1, e2, e3⟩ := rr
      exact k v (.tm c) _ H' A2 pv ⟨p, fp, e1, e2, fun a ha => fb a (e3 a ha)⟩ zg
    | sl i => exact rr.elim
section
variable {X : Cx} {np k : Nat} {x : Str} {ps : List Str} {gs : GSp} {e : Expr} {es : List Expr} {ta : TA} {wa : WA} {p pos : Pos}
theorem g_call (F : Fn X.prog X.w X.K X.mg X.base k x ps gs) (hr : Room k X.A) (ha : GA X np (e :: es) ta wa) (hg : Gl X x := by rfl) (hd : (x == ("__debug__" : Str)) = false := by decide)
    (hs : starEach (e :: es) X.env = (false, eval e X.env) :: starEach es X.env := by rfl) (hpl : (backTo pos (starEach es X.env)).any (·.1) = false := by rfl) : GE X np (.Call (.Name x p) (e :: es) [] pos) (tCall (toSp X.K gs) [] E0 ta) (wCall gs wa) := by
  obtain ⟨f, fd, hm, hk, hb, ok⟩ := F.ex
  exact ⟨pe_call ok hr hg hm hk hb .nil pass0 ha.pa hd hs hpl, sd_call ha.sd⟩
end
end G
set_option maxRecDepth 100000
set_option maxHeartbeats 4000000
/-! G10: built-in functions. -/
namespace G
open PySem PySem.Spec PyProof.Rows L2

/-- what a built-in gives -/
abbrev GB := Gm → List R → (R → Prop) → Prop
def BG (K : PySem.W.Frag) (r : List V → Hp → VK → Prop) (g : GB) : Prop := ∀ np B P fps Γ σ H0 H vs rs gs (Q : VK) (Z : R → Prop), At K np B P fps Γ σ H → (∀ a, H a = none → H0 a = none) → RA K Γ σ H0 H vs rs gs → g Γ rs Z →
  (∀ v r H', Ex H H' → RAt K Γ σ H0 H' v r → Z r → Q v H') → r vs H Q
def wB (g : GB) (wa : WA) : WE := fun Γ Z => wa Γ fun rs Γ1 => g Γ1 rs fun r => Z r Γ1
theorem sd_cb {K : PySem.W.Frag} {np : Nat} {r : List V → Hp → VK → Prop} {g : GB} {ta : TA} {wa : WA} (h : BG K r g) (ha : SndA K np ta wa) : SndE K np (tCB r ta) (wB g wa) := fun B P fps Γ σ H Q Z A w k =>
  ha B P fps Γ σ H _ _ A w fun vs rs gs Γ1 H1 A1 p1 r1 w1 => h np B P fps Γ1 σ H H1 vs rs gs _ _ A1 (A.freeBack A1 p1) r1 w1 fun v r H' ex q z => k v r Γ1 H' (A1.ex ex) (p1.trans (Pv.of_ex ex)) q z
section
variable {X : Cx} {np : Nat} {x : Str} {id T : String} {e : Expr} {es : List Expr} {p pos : Pos} {r : List V → Hp → VK → Prop} {g : GB} {ta : TA} {wa : WA}
theorem g_callB (hc : CallR X (.builtin id) r) (hb : BG X.K r g) (hg : Gl X x) (hm : X.mg x = none) (hv : bootBuiltins x = some (.builtin id)) (ha : GA X np (e :: es) ta wa) (hn : x ≠ "__name__" := by decide) (hdb : (x == ("__debug__" : Str)) = false := by decide)
    (he : starEach (e :: es) X.env = (false, eval e X.env) :: starEach es X.env := by rfl) (hpl : (backTo pos (starEach es X.env)).any (·.1) = false := by rfl) : GE X np (.Call (.Name x p) (e :: es) [] pos) (tCB r ta) (wB g wa) :=
  ⟨pe_callB hc hg hm hv ha.pa hn hdb he hpl, sd_cb hb ha.sd⟩
theorem g_callTy (hc : CallR X (.type T) r) (hb : BG X.K r g) (hg : Gl X x) (hm : X.mg x = none) (hv : bootBuiltins x = some (.type T)) (ha : GA X np (e :: es) ta wa) (hn : x ≠ "__name__" := by decide) (hdb : (x == ("__debug__" : Str)) = false := by decide)
    (he : starEach (e :: es) X.env = (false, eval e X.env) :: starEach es X.env := by rfl) (hpl : (backTo pos (starEach es X.env)).any (·.1) = false := by rfl) : GE X np (.Call (.Name x p) (e :: es) [] pos) (tCB r ta) (wB g wa) :=
  ⟨pe_callTy hc hg hm hv ha.pa hn hdb he hpl, sd_cb hb ha.sd⟩
end

/-! len -/
def gLen : GB := fun Γ rs Z => match rs with
  | [.im (.str z)] => z.length ≤ sizeLine ∧ Z (.im (.int z.length))
  | [r] => ∃ ds, seqOf Γ r = some ds ∧ Z (.im (.int ds.length))
  | _ => False
abbrev rLen (K : PySem.W.Frag) : List V → Hp → VK → Prop := fun xs H Q => (∃ p ys, xs = [.ref p] ∧ (SqL K H p ys ∨ SqT K H p ys) ∧ Q (.int ys.length) H) ∨ (∃ z, xs = [.str z] ∧ z.length ≤ sizeLine ∧ Q (.int z.length) H)
theorem cl_len {X : Cx} : CallR X (.builtin "len") (rLen X.K) := call_len_seq.or call_len_str
theorem bg_len {K : PySem.W.Frag} : BG K (rLen K) gLen := fun np B P fps Γ σ H0 H vs rs gs Q Z A f ra g k => by
  unfold gLen at g
  split at g
  · obtain ⟨v, rfl, h⟩ := ra.one
    obtain ⟨h1, h2⟩ := g
    rw [Is.inv_str h]
    exact .inr ⟨_, rfl, h1, k _ (.im _) H (Ex.refl H) (.int _) h2⟩
  · rename_i r _
    obtain ⟨v, rfl, h⟩ := ra.one
    obtain ⟨ds, h1, h2⟩ := g
    obtain ⟨p, xs, rfl, h3, h4⟩ := h.seq A h1
    refine .inl ⟨p, xs, rfl, h3, ?_⟩
    rw [h4.length]
    exact k _ (.im _) H (Ex.refl H) (.int _) h2
  · exact g.elim

/-! max, min of two -/
def gMax2 : GB := fun Γ rs Z => match rs with
  | [.im (.int i), .im (.int j)] => Z (.im (.int (max i j)))
  | _ => False
def gMin2 : GB := fun Γ rs Z => match rs with
  | [.im (.int i), .im (.int j)] => Z (.im (.int (min i j)))
  | _ => False
abbrev rMax2 : List V → Hp → VK → Prop := fun xs H Q => ∃ i j, xs = [.int i, .int j] ∧ Q (.int (if j > i then j else i)) H
abbrev rMin2 : List V → Hp → VK → Prop := fun xs H Q => ∃ i j, xs = [.int i, .int j] ∧ Q (.int (if j < i then j else i)) H
theorem bg_max2 {K : PySem.W.Frag} : BG K rMax2 gMax2 := fun np B P fps Γ σ H0 H vs rs gs Q Z A f ra g k => by
  unfold gMax2 at g
  split at g
  · rename_i i j
    obtain ⟨v, u, rfl, h1, h2⟩ := ra.two
    rw [Is.inv_int h1, Is.inv_int h2]
    refine ⟨i, j, rfl, ?_⟩
    have e : (if j > i then j else i) = max i j := by omega
    rw [e]
    exact k _ (.im _) H (Ex.refl H) (.int _) g
  · exact g.elim
theorem bg_min2 {K : PySem.W.Frag} : BG K rMin2 gMin2 := fun np B P fps Γ σ H0 H vs rs gs Q Z A f ra g k => by
  unfold gMin2 at g
  split at g
  · rename_i i j
    obtain ⟨v, u, rfl, h1, h2⟩ := ra.two
    rw [Is.inv_int h1, Is.inv_int h2]
    refine ⟨i, j, rfl, ?_⟩
    have e : (if j < i then j else i) = min i j := by omega
    rw [e]
    exact k _ (.im _) H (Ex.refl H) (.int _) g
  · exact g.elim

/-! sum, all of a list -/
def gSum : GB := fun Γ rs Z => match rs with
  | [r] => ∃ ns : List Int, lsOf Γ r = some (ns.map .int) ∧ Z (.im (.int ns.sum))
  | _ => False
def gAll : GB := fun Γ rs Z => match rs with
  | [r] => ∃ ns : List Bool, lsOf Γ r = some (ns.map .bl) ∧ Z (.im (.bl (ns.all id)))
  | _ => False
theorem bg_sum {K : PySem.W.Frag} : BG K (rSum K) gSum := fun np B P fps Γ σ H0 H vs rs gs Q Z A f ra g k => by
  unfold gSum at g
  split at g
  · obtain ⟨v, rfl, h⟩ := ra.one
    obtain ⟨ns, h1, h2⟩ := g
    obtain ⟨p, xs, rfl, h3, h4⟩ := h.ls A h1
    rw [h4.ints] at h3
    exact ⟨p, ns, rfl, .of h3, k _ (.im _) H (Ex.refl H) (.int _) h2⟩
  · exact g.elim
theorem bg_all {K : PySem.W.Frag} : BG K (rAll K) gAll := fun np B P fps Γ σ H0 H vs rs gs Q Z A f ra g k => by
  unfold gAll at g
  split at g
  · obtain ⟨v, rfl, h⟩ := ra.one
    obtain ⟨ns, h1, h2⟩ := g
    obtain ⟨p, xs, rfl, h3, h4⟩ := h.ls A h1
    rw [h4.bls] at h3
    exact ⟨p, ns, rfl, .of h3, k _ (.im _) H (Ex.refl H) (.bl _) h2⟩
  · exact g.elim

/-! tuple(list), list(tuple), list(list) -/
def gTuple : GB := fun Γ rs Z => match rs with
  | [r] => ∃ ds, lsOf Γ r = some ds ∧ Z (.im (.tup ds))
  | _ => False
def gList : GB := fun Γ rs Z => match rs with
  | [r] => ∃ ds, seqOf Γ r = some ds ∧ Z (.tm (.ls ds))
  | _ => False
abbrev rTuple (K : PySem.W.Frag) : List V → Hp → VK → Prop := fun xs H Q => ∃ p ys, xs = [.ref p] ∧ ((SqL K H p ys ∧ ∀ l, H l = none → Q (.ref l) (upd H l (.tup ys))) ∨ (SqT K H p ys ∧ Q (.ref p) H))
abbrev rList (K : PySem.W.Frag) : List V → Hp → VK → Prop := fun xs H Q => ∃ p ys, xs = [.ref p] ∧ (SqL K H p ys ∨ SqT K H p ys) ∧ ∀ l, H l = none → Q (.ref l) (upd H l (.lst ys))
theorem bg_tuple {K : PySem.W.Frag} : BG K (rTuple K) gTuple := fun np B P fps Γ σ H0 H vs rs gs Q Z A f ra g k => by
  unfold gTuple at g
  split at g
  · obtain ⟨v, rfl, h⟩ := ra.one
    obtain ⟨ds, h1, h2⟩ := g
    obtain ⟨p, xs, rfl, h3, h4⟩ := h.ls A h1
    exact ⟨p, xs, rfl, .inl ⟨.of h3, fun l hl => k _ (.im _) _ (Ex.new hl) (.tup upd_same (h4.tx (Ex.new hl).tx)) h2⟩⟩
  · exact g.elim
theorem bg_list {K : PySem.W.Frag} : BG K (rList K) gList := fun np B P fps Γ σ H0 H vs rs gs Q Z A f ra g k => by
  unfold gList at g
  split at g
  · obtain ⟨v, rfl, h⟩ := ra.one
    obtain ⟨ds, h1, h2⟩ := g
    obtain ⟨p, xs, rfl, h3, h4⟩ := h.seq A h1
    exact ⟨p, xs, rfl, h3, fun l hl => k _ (.tm _) _ (Ex.new hl) (tm_ls hl (f l hl) h4) h2⟩
  · exact g.elim

/-! int, abs, str -/
def gInt : GB := fun Γ rs Z => match rs with
  | [.im (.int i)] => Z (.im (.int i))
  | [.im (.bl b)] => Z (.im (.int (if b then 1 else 0)))
  | [.im (.str a)] => ∃ n, PySem.intText? a = some n ∧ a.length ≤ 640 ∧ Z (.im (.int n))
  | _ => False
abbrev rInt1 : List V → Hp → VK → Prop := fun xs H Q => ((∃ i, xs = [.int i] ∧ Q (.int i) H) ∨ ∃ k, xs = [.bl k] ∧ Q (.int (if k then 1 else 0)) H) ∨ (∃ a n, xs = [.str a] ∧ PySem.intText? a = some n ∧ a.length ≤ 640 ∧ Q (.int n) H)
theorem cl_int {X : Cx} : CallR X (.type "int") rInt1 := call_int1.or call_int_str
theorem bg_int {K : PySem.W.Frag} : BG K rInt1 gInt := fun np B P fps Γ σ H0 H vs rs gs Q Z A f ra g k => by
  unfold gInt at g
  split at g
  · obtain ⟨v, rfl, h⟩ := ra.one
    rw [Is.inv_int h]
    exact .inl (.inl ⟨_, rfl, k _ (.im _) H (Ex.refl H) (.int _) g⟩)
  · obtain ⟨v, rfl, h⟩ := ra.one
    rw [Is.inv_bl h]
    exact .inl (.inr ⟨_, rfl, k _ (.im _) H (Ex.refl H) (.int _) g⟩)
  · obtain ⟨v, rfl, h⟩ := ra.one
    obtain ⟨n, h1, h2, h3⟩ := g
    rw [Is.inv_str h]
    exact .inr ⟨_, n, rfl, h1, h2, k _ (.im _) H (Ex.refl H) (.int _) h3⟩
  · exact g.elim
def gAbs : GB := fun Γ rs Z => match rs with
  | [.im (.int i)] => Z (.im (.int (if i < 0 then -i else i)))
  | _ => False
abbrev rAbs : List V → Hp → VK → Prop := fun xs H Q => ∃ i, xs = [.int i] ∧ Q (.int (if i < 0 then -i else i)) H
theorem bg_abs {K : PySem.W.Frag} : BG K rAbs gAbs := fun np B P fps Γ σ H0 H vs rs gs Q Z A f ra g k => by
  unfold gAbs at g
  split at g
  · obtain ⟨v, rfl, h⟩ := ra.one
    rw [Is.inv_int h]
    exact ⟨_, rfl, k _ (.im _) H (Ex.refl H) (.int _) g⟩
  · exact g.elim

/-! max of a tuple of ints -/
def rMaxT (K : PySem.W.Frag) : List V → Hp → VK → Prop := fun xs H Q => ∃ (p : Addr) (ns : List Int), xs = [.ref p] ∧ SqT K H p (ns.map V.int) ∧ 0 < ns.length ∧ ∀ m, m ∈ ns → Q (.int m) H
theorem vals_ints {h : Heap} : ∀ {ns : List Int} {us : List Value}, Vals (ns.map V.int) us → ∃ as, ReadsAll h us (ns.map PyData.int) as
  | [], _, .nil => ⟨[], .nil⟩
  | n :: ns, _, .cons r t => by
    obtain ⟨as, q⟩ := vals_ints (h := h) t
    obtain ⟨tk, rfl⟩ := r
    exact ⟨_, .cons (.int _ _) q⟩
theorem depth_ints0 : ∀ ns : List Int, PyData.depthAll (ns.map PyData.int) = 0
  | [] => by simp [PyData.depthAll]
  | n :: ns => by
    rw [List.map_cons, PyData.depthAll, depth_ints0 ns]
    simp [PyData.depth]
theorem cl_maxT {X : Cx} (hc : X.calm = true) (hu : X.A.units + 64 < cLine) : CallR X (.builtin "max") (rMaxT X.K) := by
  intro pins s σ H vs us Q I r h
  obtain ⟨p, ns, rfl, hs, hl, q⟩ := h
  obtain ⟨its, rv, pl, hz⟩ := I.tuple hs
  rw [Vals.ref1 r]
  obtain ⟨n, ns', rfl⟩ : ∃ n ns', ns = n :: ns' := by
    cases ns with
    | nil => simp at hl
    | cons n ns => exact ⟨n, ns, rfl⟩
  obtain ⟨as, ra⟩ := vals_ints (h := s.heap) rv
  refine PySem.W.max_tuple_data (vs := its.toArray) (x := .int n) (xs := ns'.map .int) (I.ok.hd hc) pl ra ?_ ?_ fun i v h' tk bs hv _ kp => ?_
  · refine ⟨fun x hx y hy => ?_, fun x hx => ?_⟩
    · have hx' : x ∈ (n :: ns').map PyData.int := hx
      have hy' : y ∈ (n :: ns').map PyData.int := hy
      obtain ⟨a, _, rfl⟩ := List.mem_map.mp hx'
      obtain ⟨b, _, rfl⟩ := List.mem_map.mp hy'
      simp [PySem.W.alike]
    · have hx' : x ∈ (n :: ns').map PyData.int := hx
      obtain ⟨a, _, rfl⟩ := List.mem_map.mp hx'
      exact nofun
  · have := depth_ints0 (n :: ns')
    rw [List.map_cons] at this
    rw [this]
    omega
  · obtain ⟨m, hm, t, e⟩ : ∃ m, m ∈ n :: ns' ∧ ∃ t, v = .int m t := by
      have hv' : its[i]? = some v := by simpa using hv
      clear q hs hl hz pl ra r
      generalize n :: ns' = L at *
      induction L generalizing its i with
      | nil => cases rv; simp at hv'
      | cons a L ih =>
        cases rv with
        | cons r1 t1 =>
          cases i with
          | zero =>
            simp at hv'
            obtain ⟨t, e⟩ := r1
            exact ⟨a, by simp, t, by rw [← hv', e]⟩
          | succ i =>
            obtain ⟨m, hm, t, e⟩ := ih _ i (by simpa using hv) (by simpa using hv') t1
            exact ⟨m, by simp [hm], t, e⟩
    rw [e]
    exact ⟨.int m, H, I.kept kp, ⟨t, rfl⟩, q m hm⟩
def gMaxT : GB := fun Γ rs Z => match rs with
  | [.im (.tup ds)] => ∃ ns : List Int, ds = ns.map .int ∧ 0 < ns.length ∧ ∀ m, m ∈ ns → Z (.im (.int m))
  | _ => False
theorem bg_maxT {K : PySem.W.Frag} : BG K (rMaxT K) gMaxT := fun np B P fps Γ σ H0 H vs rs gs Q Z A f ra g k => by
  unfold gMaxT at g
  split at g
  · obtain ⟨v, rfl, h⟩ := ra.one
    obtain ⟨ns, rfl, h1, h2⟩ := g
    obtain ⟨p, xs, rfl, h3, h4⟩ := Is.inv_tup h
    rw [h4.ints] at h3
    exact ⟨p, ns, rfl, .of h3, h1, fun m hm => k _ (.im _) H (Ex.refl H) (.int _) (h2 m hm)⟩
  · exact g.elim
/-! str -/
def gStr : GB := fun Γ rs Z => match rs with
  | [.im (.int i)] => i.natAbs.log2 < 1920 ∧ Z (.im (.str (toString i)))
  | [.im (.str z)] => Z (.im (.str z))
  | _ => False
def rStr1 : List V → Hp → VK → Prop := fun xs H Q => (∃ i, xs = [.int i] ∧ i.natAbs.log2 < 1920 ∧ Q (.str (toString i)) H) ∨ ∃ z, xs = [.str z] ∧ Q (.str z) H
theorem cl_str {X : Cx} : CallR X (.type "str") rStr1 := call_str_int.or SkE.call_str_str
theorem bg_str {K : PySem.W.Frag} : BG K rStr1 gStr := fun np B P fps Γ σ H0 H vs rs gs Q Z A f ra g k => by
  unfold gStr at g
  split at g
  · obtain ⟨v, rfl, h⟩ := ra.one
    rw [Is.inv_int h]
    exact .inl ⟨_, rfl, g.1, k _ (.im _) H (Ex.refl H) (.str _) g.2⟩
  · obtain ⟨v, rfl, h⟩ := ra.one
    rw [Is.inv_str h]
    exact .inr ⟨_, rfl, k _ (.im _) H (Ex.refl H) (.str _) g⟩
  · exact g.elim
end G
set_option maxRecDepth 100000
set_option maxHeartbeats 4000000
/-! L3: tuples told by their object; dict(pairs) with tuple keys. -/
namespace G
open PySem PySem.Spec PyProof.Rows L2

section
variable {X : Cx} {es : List Expr} {t : TA} {pos : Pos}
/-- tuple(xs) of a list, its object told -/
def rTupF (K : PySem.W.Frag) : List V → Hp → VK → Prop := fun xs H Q => ∃ p ys, xs = [.ref p] ∧ SqL K H p ys ∧ ∀ l o, H l = none → FzO o → Q (.ref l) (upd H l (.frz o (.tup ys)))
theorem call_tupF : CallR X (.type "tuple") (rTupF X.K) := by
  intro pins s σ H xs us Q I r h
  obtain ⟨p, ys, rfl, hq, q⟩ := h
  obtain ⟨u, rfl, rx⟩ := vals1 r
  cases rx
  obtain ⟨its, r', pl, hz⟩ := I.list hq
  have hlen := r'.length
  refine call_tuple_list pl.isList (fun h' kp => ?_) (by simp only [List.size_toArray] <;> omega)
  have I1 : Inv X pins σ H { s with heap := h' } := I.kept (t' := s.toks) kp
  have I2 : Inv X pins σ (upd H h'.objs.size (.frz { cls := .type "tuple", data := .seq its.toArray } (.tup ys))) { s with heap := h'.push { cls := .type "tuple", data := .seq its.toArray } } :=
    I1.laid (t' := s.toks) (fun b o e => Heap.get?_push_of_some _ e) (Nat.le_refl _) (show ObjOk X.prog X.w _ _ _ (.frz _ (.tup ys)) from ⟨Heap.get?_push_size _ rfl, hz, its, r', IsTup.new _ _⟩)
  exact ⟨.ref h'.objs.size, _, I2, rfl, q _ _ (I1.hok.fresh (Nat.le_refl _)) ⟨rfl, rfl⟩⟩
def tTupF (t : TA) : TE := fun σ H Q => t σ H fun xs H1 => xs.length ≤ sizeLine ∧ ∀ p o, H1 p = none → FzO o → Q (.ref p) (upd H1 p (.frz o (.tup xs)))
theorem pe_tupF {x1} (h : PA X es t) : PE X (.Tuple es x1 pos) (tTupF t) := by
  refine ⟨fun pins s σ H Q I hq => ?_⟩
  refine wpAny_Tuple_spliced (thn (h.run pos pins s σ H _ I hq) fun us s1 ⟨xs, H1, I1, r, z, q⟩ => ⟨by rw [← r.length]; exact z, ?_⟩)
  have hf : H1 s1.heap.objs.size = none := I1.hok.fresh (Nat.le_refl _)
  refine ⟨.ref s1.heap.objs.size, _, I1.laid (o := .frz { cls := .type "tuple", data := .seq us.toArray } (.tup xs)) (t' := s1.toks) (fun b u e => Heap.get?_push_of_some _ e) (Nat.le_refl _) ?_, rfl, q _ _ hf ⟨rfl, rfl⟩⟩
  exact ⟨Heap.get?_push_size _ rfl, z, us, r, ⟨_, Heap.get?_push_size _ rfl, rfl, _, rfl⟩⟩

/-- a pair: its tuple, its key's tuple, the key, the value -/
structure Q4 where
  T : Addr
  b : Addr
  k : List Key
  v : V
def mergeT (ps : List (List Key × V)) : List (List Key × V) := ps.foldl (fun acc p => putK acc p.1 p.2) []
/-- dict(xs), xs a list of pairs or a tuple told by its object, the keys tuples -/
def rDictT (K : PySem.W.Frag) : List V → Hp → VK → Prop := fun xs H Q => ∃ (a : Addr) (qs : List Q4), xs = [.ref a] ∧ (SqL K H a (qs.map fun q => V.ref q.T) ∨ ∃ o, FzO o ∧ H a = some (.frz o (.tup (qs.map fun q => V.ref q.T)))) ∧
  (∀ q ∈ qs, SqT K H q.T [.ref q.b, q.v] ∧ H q.b = some (.tup (q.k.map kV))) ∧ ∀ p, H p = none → Q (.ref p) (upd H p (.dT (mergeT (qs.map fun q => (q.k, q.v)))))
theorem pairsT_of {pins : List (Addr × Obj)} {σ : L2.St} {H : Hp} {s : Shared} (I : Inv X pins σ H s) : ∀ {qs : List Q4}, (∀ q ∈ qs, SqT X.K H q.T [.ref q.b, q.v] ∧ H q.b = some (.tup (q.k.map kV))) →
    ∃ ps : List (List Key × Addr × Value), KT H (qs.map fun q => (q.k, q.v)) ps ∧ ps.length = qs.length ∧ ∀ (j : Nat) (k : List Key) (b : Addr) (u : Value), ps[j]? = some (k, b, u) → ∃ q, qs[j]? = some q ∧ PairAt s.heap q.T (.ref b) u
  | [], _ => ⟨[], .nil, rfl, fun j k b u e => by simp at e⟩
  | q :: qs, h => by
    obtain ⟨ps, r, hl, hp⟩ := pairsT_of I (qs := qs) fun q' m => h q' (by simp [m])
    obtain ⟨h1, h2⟩ := h q (by simp)
    obtain ⟨its, rv, ht, _⟩ := I.tuple h1
    obtain ⟨u, y, ei, ru, ry⟩ := vals2 rv
    subst ei
    obtain rfl : u = Value.ref q.b := ru
    refine ⟨(q.k, q.b, y) :: ps, .cons ⟨rfl, h2, ry⟩ r, by rw [List.length_cons, List.length_cons, hl], fun j k b u e => ?_⟩
    cases j with
    | zero =>
      simp at e
      obtain ⟨rfl, rfl, rfl⟩ := e
      exact ⟨q, rfl, .inl ht⟩
    | succ j => exact hp j k b u (by simpa using e)
theorem kt_merge {H : Hp} : ∀ {ps : List (List Key × V)} {qs acc' : List (List Key × Addr × Value)} {acc : List (List Key × V)}, KT H ps qs → KT H acc acc' → KT H (ps.foldl (fun acc p => putK acc p.1 p.2) acc) (storedAllH acc' qs)
  | _, _, _, _, .nil, h => h
  | _, _, acc', acc, .cons (a := p) (b := q) h t, ha => by
    obtain ⟨e1, e2, e3⟩ := h
    have := kt_merge t (ha.put p.1 (b := q.2.1) (y := p.2) (u := q.2.2) e2 e3)
    rw [e1] at this
    rw [List.foldl_cons, e1]
    exact this
theorem len_putK (kvs : List (List Key × V)) (k : List Key) (v : V) : (putK kvs k v).length ≤ kvs.length + 1 := by
  unfold putK
  split <;> simp
theorem len_merge : ∀ (ps acc : List (List Key × V)), (ps.foldl (fun acc p => putK acc p.1 p.2) acc).length ≤ acc.length + ps.length
  | [], acc => by simp
  | p :: ps, acc => by
    have h1 := len_merge ps (putK acc p.1 p.2)
    have h2 := len_putK acc p.1 p.2
    rw [List.foldl_cons, List.length_cons]
    omega
theorem refsT : ∀ {qs : List Q4} {us : List Value}, Vals (qs.map fun q => V.ref q.T) us → us = qs.map fun q => Value.ref q.T
  | [], _, r => by cases r; rfl
  | q :: qs, _, r => by
    cases r with
    | cons h t =>
      cases h
      rw [List.map_cons, ← refsT t]
theorem call_dictT (hc : X.calm = true) (hu : X.A.units + 64 < cLine) : CallR X (.type "dict") (rDictT X.K) := by
  intro pins s σ H xs us Q I r h
  obtain ⟨a, qs, rfl, hs, hq, q⟩ := h
  obtain ⟨u, rfl, rx⟩ := vals1 r
  cases rx
  obtain ⟨ps, rel, hl, hp⟩ := pairsT_of I hq
  have big : (s.heap.objs.size == sysModules) = false := beq_eq_false_iff_ne.mpr (Nat.ne_of_gt I.big)
  have pi : ∀ its : List Value, its = (qs.map fun q => Value.ref q.T) → PairItems s.heap its.toArray (fun j => ((qs[j]?).map (·.T)).getD 0) (ps.map fun p => (Value.ref p.2.1, p.2.2)) := fun its e => by
    subst e
    refine ⟨by simp [hl], fun j k v ej => ?_⟩
    rw [List.getElem?_map] at ej
    cases ep : ps[j]? with
    | none => rw [ep] at ej; cases ej
    | some p =>
      rw [ep] at ej
      cases ej
      obtain ⟨q', e1, e2⟩ := hp j p.1 p.2.1 p.2.2 ep
      refine ⟨?_, ?_⟩
      · simp [e1]
      · have e3 : ((qs[j]?).map (·.T)).getD 0 = q'.T := by rw [e1]; rfl
        show PairAt s.heap (((qs[j]?).map (·.T)).getD 0) _ _
        rw [e3]
        exact e2
  have fin : qs.length ≤ sizeLine → ∀ h' tk, h'.DictOfH (tupleKind (mixKind X.prog X.w)) s.heap.objs.size (storedAllH [] ps) → (∀ b o, b ∉ ([] : List Addr) → s.heap.get? b = some o → h'.get? b = some o) → EP X pins σ Q (.ref s.heap.objs.size) { s with heap := h', toks := tk } := fun hz h' tk hd kp => by
    have kt : KT H (mergeT (qs.map fun q => (q.k, q.v))) (storedAllH [] ps) := kt_merge rel .nil
    have hn : H s.heap.objs.size = none := I.hok.fresh (Nat.le_refl _)
    obtain ⟨o, es, ep, d1, d2, d3, d4, d5, d6⟩ := hd
    refine ⟨.ref s.heap.objs.size, upd H s.heap.objs.size (.dT (mergeT (qs.map fun q => (q.k, q.v)))), I.laid (t' := tk) (fun b o e => kp b o (by simp) e) (Nat.le_refl _) (show ObjOk X.prog X.w _ _ _ (.dT _) from ⟨?_, big, _, ?_, o, es, ep, d1, d2, d3, d4, d6⟩), rfl, q _ hn⟩
    · have := len_merge (qs.map fun q => (q.k, q.v)) []
      rw [List.length_map, List.length_nil] at this
      unfold mergeT
      omega
    · exact kt.keeps fun b ys e => by rw [upd_ne (ne_of_none e hn)]; exact e
  have stay : KeysStay (tupleKind (mixKind X.prog X.w)) s.heap s.heap.objs.size [] ps := fun h' kp x hx => by
    have I1 : HOk X.prog X.w H h' := I.hok.kept fun b o e => kp b o (Nat.ne_of_lt (Heap.lt_size e)) (by simp) e
    have : ∀ {l : List (List Key × V)} {m : List (List Key × Addr × Value)}, KT H l m → ∀ x ∈ m, H x.2.1 = some (.tup (x.1.map kV)) := by
      intro l m q
      induction q with
      | nil => intro x hx; exact nomatch hx
      | @cons p q ps qs hq t ih =>
        intro x hx
        rcases List.mem_cons.mp hx with e | hx
        · subst e
          rw [← hq.1]; exact hq.2.1
        · exact ih x hx
    exact key_of I1 (this rel x hx)
  have have' : PairsHaveH (tupleKind (mixKind X.prog X.w)) (ps.map fun p => (Value.ref p.2.1, p.2.2)).length (PairRel (ps.map fun p => (Value.ref p.2.1, p.2.2))) ps := by
    refine ⟨by simp, fun i key v e => ?_⟩
    have e' : (ps.map fun p => (Value.ref p.2.1, p.2.2))[i]? = some (key, v) := e
    rw [List.getElem?_map] at e'
    cases ep : ps[i]? with
    | none => rw [ep] at e'; cases e'
    | some p => rw [ep] at e'; cases e'; exact ⟨p.1, p.2.1, rfl, rfl⟩
  have hroom : (tupleKind (mixKind X.prog X.w)).room X.A.in1.in1 := tupleKind_room_in1 (A := X.A.in1) (by show X.A.units + 1 + 1 < cLine; omega)
  rcases hs with hs | ⟨o, fo, hs⟩
  · obtain ⟨its, rv, pl, hz⟩ := I.list hs
    rw [List.length_map] at hz
    have ei := refsT rv
    obtain ⟨ol, n, ho, hcl, hdc, hdt⟩ := pl
    exact call_dict_pairsH (PairArg.list a its.toArray _ _) (I.ok.hd hc) hroom ⟨⟨ol, n, ho, hcl, hdc, hdt⟩, pi its ei⟩ have' stay (by simp [hl, hz]) (fin hz)
  · obtain ⟨ho, hz, its, rv, o', ho', hcl, n, hdt⟩ := (show ObjOk X.prog X.w H s.heap a (.frz o (.tup (qs.map fun q => V.ref q.T))) from I.hok a _ hs)
    rw [List.length_map] at hz
    have ei := refsT rv
    rw [ho] at ho'; cases ho'
    exact call_dict_pairsH (PairArg.tuple a its.toArray _ _) (I.ok.hd hc) hroom ⟨⟨o, n, ho, fo.1, fo.2, hdt⟩, pi its ei⟩ have' stay (by simp [hl, hz]) (fin hz)
end

/-! the same on data -/
def gTupF : GB := fun Γ rs Z => match rs with
  | [r] => ∃ ds, lsOf Γ r = some ds ∧ Z (.im (.fz ds))
  | _ => False
theorem bg_tupF {K : PySem.W.Frag} : BG K (rTupF K) gTupF := fun np B P fps Γ σ H0 H vs rs gs Q Z A f ra g k => by
  unfold gTupF at g
  split at g
  · obtain ⟨v, rfl, h⟩ := ra.one
    obtain ⟨ds, h1, h2⟩ := g
    obtain ⟨p, xs, rfl, h3, h4⟩ := h.ls A h1
    exact ⟨p, xs, rfl, .of h3, fun l o hl fo => k _ (.im _) _ (Ex.new hl) (.fz upd_same fo (h4.tx (Ex.new hl).tx)) h2⟩
  · exact g.elim
def wTupF (wa : WA) : WE := fun Γ Z => wa Γ fun rs Γ1 => match imsOf rs with
  | some ds => ds.length ≤ 1000 ∧ Z (.im (.fz ds)) Γ1
  | none => False
theorem g_tupF {X : Cx} {np : Nat} {pos : Pos} {es : List Expr} {tl : TA} {wl : WA} {x1 : Nat} (h : GA X np es tl wl) : GE X np (.Tuple es x1 pos) (tTupF tl) (wTupF wl) := ⟨pe_tupF h.pa, fun B P fps Γ σ H Q Z A w k => h.sd B P fps Γ σ H _ _ A w fun vs rs gs Γ1 H1 A1 p1 r1 w1 => by
  split at w1
  · rename_i ds hd
    have is := r1.ims hd
    refine ⟨line1000 (by rw [is.length]; exact w1.1), fun p o hp fo => ?_⟩
    exact k _ (.im _) Γ1 _ (A1.ex (Ex.new hp)) (p1.trans (Pv.of_ex (Ex.new hp))) (.fz upd_same fo (is.tx (Ex.new hp).tx)) w1.2
  · exact w1.elim⟩
/-- the pairs as data -/
def prD (kvs : List (List Key × D)) : List D := kvs.map fun p => .tup [.tup (p.1.map kD), p.2]
def mergeD (kvs : List (List Key × D)) : List (List Key × D) := kvs.foldl (fun acc p => put acc p.1 p.2) []
def gDictT : GB := fun Γ rs Z => match rs with
  | [.im (.fz ds)] => ∃ kvs, ds = prD kvs ∧ Z (.tm (.dt (mergeD kvs)))
  | [r] => ∃ kvs, lsOf Γ r = some (prD kvs) ∧ Z (.tm (.dt (mergeD kvs)))
  | _ => False
theorem q4_of {K : PySem.W.Frag} {H : Hp} : ∀ {kvs : List (List Key × D)} {xs : List V}, IsA K H xs (prD kvs) → ∃ qs : List Q4, xs = (qs.map fun q => V.ref q.T) ∧ (∀ q ∈ qs, SqT K H q.T [.ref q.b, q.v] ∧ H q.b = some (.tup (q.k.map kV))) ∧ IsK K H (qs.map fun q => (q.k, q.v)) kvs
  | [], _, h => by cases h; exact ⟨[], rfl, (fun q m => nomatch m), .nil⟩
  | p :: kvs, _, h => by
    cases h with
    | cons a t =>
      obtain ⟨qs, rfl, h2, h3⟩ := q4_of t
      obtain ⟨T, xs, rfl, h4, h5⟩ := Is.inv_tup a
      cases h5 with
      | cons a1 t1 =>
        cases t1 with
        | cons a2 t2 =>
          cases t2
          obtain ⟨b, ks, rfl, h6, h7⟩ := Is.inv_tup a1
          rw [h7.keys] at h6
          refine ⟨⟨T, b, p.1, _⟩ :: qs, rfl, fun q m => ?_, .cons ⟨rfl, a2⟩ h3⟩
          rcases List.mem_cons.mp m with rfl | m
          · exact ⟨.of h4, h6⟩
          · exact h2 q m
theorem isk_merge {K : PySem.W.Frag} {H : Hp} : ∀ {vs : List (List Key × V)} {ds acc' : List (List Key × D)} {acc : List (List Key × V)}, IsK K H vs ds → IsK K H acc acc' → IsK K H (vs.foldl (fun acc p => putK acc p.1 p.2) acc) (ds.foldl (fun acc p => put acc p.1 p.2) acc')
  | _, _, _, _, .nil, h => h
  | _, _, _, _, .cons (a := p) (b := q) r t, h => by
    rw [List.foldl_cons, List.foldl_cons, r.1]
    exact isk_merge t (h.put r.2)
theorem bg_dictT {K : PySem.W.Frag} : BG K (rDictT K) gDictT := fun np B P fps Γ σ H0 H vs rs gs Q Z A f ra g k => by
  unfold gDictT at g
  split at g
  · obtain ⟨v, rfl, h⟩ := ra.one
    obtain ⟨kvs, rfl, h2⟩ := g
    obtain ⟨a, o, xs, rfl, h3, h4, h5⟩ := Is.inv_fz h
    obtain ⟨qs, rfl, h6, h7⟩ := q4_of h5
    exact ⟨a, qs, rfl, .inr ⟨o, h4, h3⟩, h6, fun p hp => k _ (.tm _) _ (Ex.new hp) (tm_dt hp (f p hp) (isk_merge h7 .nil)) h2⟩
  · obtain ⟨v, rfl, h⟩ := ra.one
    obtain ⟨kvs, h1, h2⟩ := g
    obtain ⟨a, xs, rfl, h3, h5⟩ := h.ls A h1
    obtain ⟨qs, rfl, h6, h7⟩ := q4_of h5
    exact ⟨a, qs, rfl, .inl (.of h3), h6, fun p hp => k _ (.tm _) _ (Ex.new hp) (tm_dt hp (f p hp) (isk_merge h7 .nil)) h2⟩
  · exact g.elim
/-! dict(list of pairs), int and text keys -/
def prK (kvs : List (Key × D)) : List D := kvs.map fun p => .tup [kD p.1, p.2]
def mergeKD (kvs : List (Key × D)) : List (Key × D) := kvs.foldl (fun acc p => put acc p.1 p.2) []
def gDictK : GB := fun Γ rs Z => match rs with
  | [r] => ∃ kvs, lsOf Γ r = some (prK kvs) ∧ Z (.tm (.dk (mergeKD kvs)))
  | _ => False
abbrev rDictK (K : PySem.W.Frag) : List V → Hp → VK → Prop := fun xs H Q => ∃ (a : Addr) (ps : List Addr) (kvs : List (Key × V)), xs = [.ref a] ∧ SqL K H a (ps.map V.ref) ∧ Paired (fun p kv => SqT K H p [kV kv.1, kv.2]) ps kvs ∧
    ∀ p, H p = none → Q (.ref p) (upd H p (.dK (mergeK [] kvs)))
theorem q2_of {K : PySem.W.Frag} {H : Hp} : ∀ {kvs : List (Key × D)} {xs : List V}, IsA K H xs (prK kvs) → ∃ (ps : List Addr) (vs : List (Key × V)), xs = ps.map V.ref ∧ Paired (fun p (kv : Key × V) => SqT K H p [kV kv.1, kv.2]) ps vs ∧ IsK K H vs kvs
  | [], _, h => by cases h; exact ⟨[], [], rfl, .nil, .nil⟩
  | p :: kvs, _, h => by
    cases h with
    | cons a t =>
      obtain ⟨ps, vs, rfl, h2, h3⟩ := q2_of t
      obtain ⟨T, xs, rfl, h4, h5⟩ := Is.inv_tup a
      cases h5 with
      | cons a1 t1 =>
        cases t1 with
        | cons a2 t2 =>
          cases t2
          rw [Is.key a1] at h4
          exact ⟨T :: ps, (p.1, _) :: vs, rfl, .cons (.of h4) h2, .cons ⟨rfl, a2⟩ h3⟩
theorem isk_mergeK {K : PySem.W.Frag} {H : Hp} : ∀ {vs : List (Key × V)} {ds acc' : List (Key × D)} {acc : List (Key × V)}, IsK K H vs ds → IsK K H acc acc' → IsK K H (mergeK acc vs) (ds.foldl (fun acc p => put acc p.1 p.2) acc')
  | _, _, _, _, .nil, h => h
  | _, _, _, _, .cons (a := p) (b := q) r t, h => by
    rw [List.foldl_cons]
    show IsK K H (mergeK (putK _ p.1 p.2) _) _
    rw [r.1]
    exact isk_mergeK t (h.put r.2)
theorem bg_dictK {K : PySem.W.Frag} : BG K (rDictK K) gDictK := fun np B P fps Γ σ H0 H vs rs gs Q Z A f ra g k => by
  unfold gDictK at g
  split at g
  · obtain ⟨v, rfl, h⟩ := ra.one
    obtain ⟨kvs, h1, h2⟩ := g
    obtain ⟨a, xs, rfl, h3, h5⟩ := h.ls A h1
    obtain ⟨ps, vs, rfl, h6, h7⟩ := q2_of h5
    exact ⟨a, ps, vs, rfl, .of h3, h6, fun p hp => k _ (.tm _) _ (Ex.new hp) (tm_dk hp (f p hp) (isk_mergeK h7 .nil)) h2⟩
  · exact g.elim
/-! list(d), tuple keys -/
def gKeysT : GB := fun Γ rs Z => match rs with
  | [r] => ∃ kvs, dtOf Γ r = some kvs ∧ Z (.tm (.ls (kvs.map fun p => .tup (p.1.map kD))))
  | _ => False
abbrev rKeysT : List V → Hp → VK → Prop := fun xs H Q => ∃ d kvs, xs = [V.ref d] ∧ Rd H d (.dT kvs) ∧ ∀ p bs, H p = none → IsKeys H kvs bs → Q (.ref p) (upd H p (.lst (bs.map V.ref)))
theorem is_kV {K : PySem.W.Frag} {H : Hp} : ∀ ks : List Key, IsA K H (ks.map kV) (ks.map kD)
  | [] => .nil
  | .inl i :: ks => .cons (.int i) (is_kV ks)
  | .inr i :: ks => .cons (.str i) (is_kV ks)
theorem isa_keys {K : PySem.W.Frag} {H : Hp} : ∀ {vs : List (List Key × V)} {ds : List (List Key × D)} {bs : List Addr}, IsK K H vs ds → IsKeys H vs bs → IsA K H (bs.map V.ref) (ds.map fun p => .tup (p.1.map kD))
  | _, _, _, .nil, h => by cases h; exact .nil
  | _, _, _, .cons r t, h => by
    cases h with
    | cons h1 h2 =>
      refine .cons (.tup h1 ?_) (isa_keys t h2)
      rw [r.1]
      exact is_kV _
theorem bg_keysT {K : PySem.W.Frag} : BG K rKeysT gKeysT := fun np B P fps Γ σ H0 H vs rs gs Q Z A f ra g k => by
  unfold gKeysT at g
  split at g
  · obtain ⟨v, rfl, h⟩ := ra.one
    obtain ⟨kvs, h1, h2⟩ := g
    obtain ⟨a, xs, rfl, h3, h5⟩ := h.dt A h1
    refine ⟨a, xs, rfl, .inl h3, fun p bs hp hb => ?_⟩
    exact k _ (.tm _) _ (Ex.new hp) (tm_ls hp (f p hp) (isa_keys h5 hb)) h2
  · exact g.elim
end G
set_option maxRecDepth 100000
set_option maxHeartbeats 4000000
/-! L4: tuple * 1, tuple[::-1], displays of dicts. -/
namespace G
open PySem PySem.Spec PyProof.Rows L2

theorem tuple_mul1 (l : Addr) (items : Array Value) (n : Nat) (dd : Option Addr) (sl : Array (Option Value)) (u : Tok) :
    Meets (Builtin.«tuple.__mul__» ⟨[.ref l, .int 1 u], []⟩) (fun _ R s => s.heap.get? l = some { cls := .type "tuple", dict := dd, data := .seq items n, slots := sl } ∧
      R (.ok (.ret (Value.ref l))) s) :=
  .of_wp fun prog w A R s h => by
    obtain ⟨hp, g, d, tk, os⟩ := s
    obtain ⟨hl, h⟩ := h
    have f1 := AutoSeq1.idx_int
    have c0 : (decide ((1 : Int) < -(2 ^ 63)) || decide ((1 : Int) ≥ 2 ^ 63)) = false := by decide
    have c1 : (items.isEmpty || (1 : Int) == 1) = true := by simp
    wp_walk using wpAny_loadPart' hl
    repeat (first
      | (refine wpAny_ite_false (decide_eq_false (by rw [c0]; exact Bool.false_ne_true)) ?_; wp_walk using wpAny_loadPart' hl)
      | (refine wpAny_ite_true (decide_eq_true c1) ?_; wp_walk using wpAny_loadPart' hl))
    exact ⟨_, rfl, h⟩
def rRep1 (K : PySem.W.Frag) : R2 := fun x y H Q => ∃ l xs, x = .ref l ∧ y = .int 1 ∧ SqT K H l xs ∧ Q (.ref l) H
section
variable {X : Cx}
theorem op_rep1 : OpR X (binaryOp .Mult) (rRep1 X.K) := by
  intro pins s σ H x y v u Q I rx ry h
  obtain ⟨l, xs, rfl, rfl, hT, q⟩ := h
  cases rx
  obtain ⟨t, rfl⟩ := ry
  obtain ⟨its, r, ⟨⟨cls, dd, data, sl⟩, ho, hc, n, hd⟩, hs⟩ := I.tuple hT
  simp only at hc hd
  subst hc hd
  exact wpAny_binaryOp_repeat_ref (T := "tuple") (U := "int") (by decide) ⟨_, ho, rfl⟩ (fun s' => typeIs_int s' 1 t) noFill_tuple_mul F.fills_int_mul F.slot_int_rmul repeat_tuple F.slot_int_index.lookup
    (call_meets F.slot_int_rmul (typeIs_int s 1 t) F.entry_int_rmul (F.args_int_rmul_2 _ _) (int_rmul_tuple 1 t l its.toArray n dd sl)
      ⟨ho, rfl, ⟨_, ho, rfl⟩, call_meets F.slot_tuple_mul ⟨_, ho, rfl⟩ F.entry_tuple_mul (F.args_tuple_mul_2 _ _) (tuple_mul1 l its.toArray n dd sl t) ⟨ho, ⟨.ref l, H, I, rfl, q⟩⟩⟩)
def rRepA (K : PySem.W.Frag) : R2 := fun x y H Q => rRep1 K x y H Q ∨ rRepT K x y H Q
end
/-- data: a tuple (not empty) times 1 .. 1000 -/
def gRep : D → D → (D → Prop) → Prop
  | .tup xs, .int k, Z => xs ≠ [] ∧ xs.length ≤ 1000 ∧ 1 ≤ k ∧ k ≤ 1000 ∧ Z (.tup (List.replicate k.toNat xs).flatten)
  | _, _, _ => False
theorem og_rep {K : PySem.W.Frag} : OG K (rRepA K) gRep := fun H x y d e Z Q hx hy g k => by
  unfold gRep at g
  split at g
  · obtain ⟨h1, h2, h3, h4, h5⟩ := g
    obtain ⟨a, xs, rfl, h6, h7⟩ := hx.inv_tup
    rw [hy.inv_int]
    rename_i Z0 ds i
    by_cases h1' : i = 1
    · subst h1'
      refine .inl ⟨a, xs, rfl, rfl, .of h6, ?_⟩
      refine k _ _ H (Ex.refl H) (.tup h6 ?_) h5
      show IsA K H xs (List.replicate 1 ds).flatten
      rw [List.replicate_one, List.flatten_singleton]
      exact h7
    · exact .inr ⟨a, _, xs, rfl, rfl, .of h6, (fun e => h1 (by subst e; cases h7; rfl)), by omega, h4, by rw [h7.length]; exact h2, fun p hp => k _ _ _ (Ex.new hp) (.tup upd_same ((h7.rep _).tx (Ex.new hp).tx)) h5⟩
  · exact g.elim
theorem g_rep {X : Cx} {np : Nat} {pos : Pos} {a b : Expr} {ta tb : TE} {wa wb : WE} (ha : GE X np a ta wa) (hb : GE X np b tb wb) : GE X np (.BinOp a .Mult b pos) (tOp (rRepA X.K) ta tb) (wOp gRep wa wb) := ⟨pe_op (op_rep1.or op_repT) ha.pe hb.pe, sd_op og_rep ha.sd hb.sd⟩

/-! ### t[::-1] -/
section
variable {prog : Program} {w : World} {A : Around} {E : Value → Shared → Prop} {s : Shared}
theorem sliceApplied_back {sl : Addr} {n : Nat} {t : Tok} {Q : Int × Int × Nat → Shared → Prop} (hs : s.heap.IsSliceOf sl .none .none (.int (-1) t))
    (h : Q ((n : Int) - 1, -1, n) s) : wpAny (model prog w) A (Builtin.Slice.sliceApplied (.ref sl) (pure (n : Int))) Q E s := by
  obtain ⟨os, hos, hcs, hds⟩ := id hs
  unfold Builtin.Slice.sliceApplied Builtin.Slice.sliceFields
  refine wpAny_bind (wpAny_bind (wpAny_field hos hds (x := .none) rfl (wpAny_bind (wpAny_field hos hds (x := .none) rfl (wpAny_bind (wpAny_field hos hds (x := .int (-1) t) rfl (wpAny_pure ?_)))))))
  refine wpAny_bind (HT.slicePart_ (.int (-1) t) ?_)
  show wpAny _ _ (if ((-1 : Int) == 0) = true then _ else _) _ _ s
  rw [if_neg (by decide)]
  refine wpAny_bind (HT.slicePart_ .none (wpAny_bind (HT.slicePart_ .none (wpAny_bind (wpAny_pure ?_)))))
  show wpAny _ _ (pure ((n : Int) - 1, (-1 : Int), Builtin.Slice.slicePlaces ((n : Int) - 1) (-1) (-1))) _ _ s
  have e : Builtin.Slice.slicePlaces ((n : Int) - 1) (-1) (-1) = n := by
    unfold Builtin.Slice.slicePlaces
    have h1 : ¬ ((-1 : Int) > 0) := by decide
    simp only [h1, if_false]
    by_cases hn : (n : Int) - 1 > -1
    · rw [if_pos hn]
      have : ((n : Int) - 1 - -1 - 1) / (- -1) = (n : Int) - 1 := by
        rw [show (- -1 : Int) = 1 by decide, Int.ediv_one]; omega
      rw [this]; omega
    · rw [if_neg hn]; omega
  rw [e]
  exact wpAny_pure h
theorem pick_back (xs : Array Value) : ((List.range xs.size).filterMap fun (k : Nat) => xs[((xs.size : Int) - 1 + (k : Int) * -1).toNat]?).toArray = xs.toList.reverse.toArray := by
  have e : ((List.range xs.size).filterMap fun (k : Nat) => xs[((xs.size : Int) - 1 + (k : Int) * -1).toNat]?) = ((List.range xs.size).map fun k => xs.size - 1 - k).filterMap (xs[·]?) := by
    rw [List.filterMap_map]
    have e2 : (fun (k : Nat) => xs[((xs.size : Int) - 1 + (k : Int) * -1).toNat]?) = ((xs[·]?) ∘ fun k => xs.size - 1 - k) := by
      funext k
      have : ((xs.size : Int) - 1 + (k : Int) * -1).toNat = xs.size - 1 - k := by omega
      show xs[((xs.size : Int) - 1 + (k : Int) * -1).toNat]? = xs[xs.size - 1 - k]?
      rw [this]
    rw [e2]
  rw [e, PySem.W.krv_range, List.filterMap_reverse, PySem.W.krv_all]
theorem getItem_tuple_rev {t sl : Addr} {items : Array Value} {tk : Tok} {Q : Value → Shared → Prop} (ht : IsTup s.heap t items) (hs : s.heap.IsSliceOf sl .none .none (.int (-1) tk))
    (h : Q (.ref s.heap.objs.size) { s with heap := s.heap.push { cls := .type "tuple", data := .seq items.toList.reverse.toArray } })
    (hsz : items.size ≤ sizeLine) : wpAny (model prog w) A (getItem (.ref t) (.ref sl)) Q E s := by
  have hdrop : sizeOk (.seq items.toList.reverse.toArray) := by
    show items.toList.reverse.toArray.size ≤ sizeLine
    rw [List.size_toArray, List.length_reverse, Array.length_toList]
    omega
  obtain ⟨os, hos, hcs, hds⟩ := id hs
  have hTs : s.TypeIs (.ref sl) "slice" := ⟨os, hos, hcs⟩
  unfold getItem
  try with_reducible refine wpAny_holding ?_
  first | refine wpAny_bind (wpAny_pure ?_) | skip
  refine wpAny_bind (wpAny_sequenceKey ht.typeIs (by decide) ?_)
  refine wpAny_bind (wpAny_callSpecial?_slot (name := Str.ofString "__getitem__") ht.typeIs PyProof.Rows.slot_tuple_getitem
    (wpAny_call_entry PyProof.Rows.slot_tuple_getitem ht.typeIs entry_tuple_getitem ?_ (args_tuple_getitem _ _)))
  show wpAny _ _ (Builtin.Tuple.tupleItemsOf (.ref t) >>= _) _ _ s
  refine wpAny_bind (tupleItemsOf_ ht ?_)
  refine wpAny_bind (wpAny_typeOf hTs ?_)
  rw [if_pos (by decide)]
  refine wpAny_bind (sliceApplied_back hs ?_)
  show wpAny _ _ (if (((items.size : Int) - 1) == 0 && (-1 : Int) == 1 && items.size == items.size) = true then _ else _) _ _ s
  rw [if_neg (by simp), pick_back]
  first
    | exact wpAny_bind (m := Builtin.Tuple.tupleExact _) (wpAny_newObj_type (wpAny_pure ⟨_, rfl, wpAny_pure h⟩) hdrop)
    | exact wpAny_bind (m := Builtin.Tuple.tupleExact _) (wpAny_newObj_type (wpAny_bind (wpAny_pure (wpAny_pure ⟨_, rfl, wpAny_pure h⟩))) hdrop)
    | exact wpAny_bind (wpAny_bind (m := Builtin.Tuple.tupleExact _) (wpAny_newObj_type (wpAny_pure (wpAny_pure ⟨_, rfl, wpAny_pure h⟩)) hdrop))
    | exact wpAny_bind (wpAny_bind (m := Builtin.Tuple.tupleExact _) (wpAny_newObj_type (wpAny_pure ⟨_, rfl, wpAny_pure h⟩) hdrop))
end
def tRevT (K : PySem.W.Frag) (te : TE) : TE := fun σ H Q => te σ H fun x H1 => ∃ a xs, x = .ref a ∧ SqT K H1 a xs ∧ ∀ p, H1 p = none → Q (.ref p) (upd H1 p (.tup xs.reverse))
theorem pe_revT {X : Cx} {e : Expr} {te : TE} {k : Nat} {p1 p2 p3 pos : Pos} (he : PE X e te) : PE X (.Subscript e (.Slice none none (some (.UnaryOp .USub (.Constant (.int 1) k p1) p2)) p3) pos) (tRevT X.K te) := by
  refine ⟨fun pins s σ H Q I h => ?_⟩
  refine Subscript_ (thn (he.run pins s σ H _ I h) fun v s1 ⟨x, H1, I1, r1, q1⟩ => ?_)
  obtain ⟨a, xs, ex, hx, q⟩ := q1
  subst ex
  cases r1
  have hst : PO X (some (.UnaryOp .USub (.Constant (.int 1) k p1) p2)) (tPart (tUn (rU fun i => .int (-i)) (tC (.int 1)))) := po_some (pe_un un_neg pe_int)
  refine wpAny_Slice (thn (po_none.run pins s1 σ H1 (fun o H2 => o = none ∧ H2 = H1) I1 ⟨rfl, rfl⟩) fun vl s2 ⟨l, H2, I2, pl, el, e2⟩ => ?_)
  subst el e2
  refine thn (po_none.run pins s2 σ H2 (fun o H3 => o = none ∧ H3 = H2) I2 ⟨rfl, rfl⟩) fun vu s3 ⟨u, H3, I3, pu, eu, e3⟩ => ?_
  subst eu e3
  refine thn (hst.run pins s3 σ H3 (fun o H4 => o = some (-1) ∧ H4 = H3) I3 ⟨1, rfl, -1, rfl, rfl, rfl⟩) fun vs s4 ⟨o, H4, I4, ps, eo, e4⟩ => ?_
  subst eo e4
  cases pl
  cases pu
  obtain ⟨tk, rfl⟩ : ∃ tk, vs = .int (-1) tk := by cases ps; exact ⟨_, rfl⟩
  have I5 : Inv X pins σ H4 { s4 with heap := s4.heap.push { cls := .type "slice", data := .fields #[.none, .none, .int (-1) tk] } } := I4.kept (t' := s4.toks) fun b ob q => Heap.get?_push_of_some _ q
  obtain ⟨its, r, ht, hz⟩ := I5.tuple hx
  have hlen := r.length
  show wpAny (model X.prog X.w) X.A (subscriptTail e (.Slice none none (some (.UnaryOp .USub (.Constant (.int 1) k p1) p2)) p3) (.ref a) (.ref s4.heap.objs.size)) (EP X pins σ Q) X.xe { s4 with heap := s4.heap.push { cls := .type "slice", data := .fields #[.none, .none, .int (-1) tk] } }
  refine tail_any (ops := [.ref a, .ref s4.heap.objs.size]) ht.typeIs (PyProof.Rows.slot_tuple_getitem.lookup) ?_ (by with_unfolding_all rfl)
  refine getItem_tuple_rev ht (Heap.IsSliceOf.new _ .none .none (.int (-1) tk)) ?_ (by rw [List.size_toArray]; omega)
  refine ⟨.ref _, _, I5.laid (t' := s4.toks) (o := .tup xs.reverse) (fun b ob q => Heap.get?_push_of_some _ q) (Nat.le_refl _) ?_, rfl, q _ (I5.hok.fresh (Nat.le_refl _))⟩
  exact ⟨by rw [List.length_reverse]; exact hz, _, r.reverse, IsTup.new _ _⟩
def wRevT (we : WE) : WE := fun Γ Z => we Γ fun x Γ1 => match x with
  | .im (.tup ds) => Z (.im (.tup ds.reverse)) Γ1
  | _ => False
theorem g_revT {X : Cx} {np : Nat} {e : Expr} {te : TE} {we : WE} {k : Nat} {p1 p2 p3 pos : Pos} (he : GE X np e te we) : GE X np (.Subscript e (.Slice none none (some (.UnaryOp .USub (.Constant (.int 1) k p1) p2)) p3) pos) (tRevT X.K te) (wRevT we) :=
  ⟨pe_revT he.pe, fun B P fps Γ σ H Q Z A w k => he.sd B P fps Γ σ H _ _ A w fun v r Γ1 H1 A1 p1 r1 w1 => by
    split at w1
    · obtain ⟨a, xs, rfl, h6, h7⟩ := Is.inv_tup r1
      exact ⟨a, xs, rfl, .of h6, fun p hp => k _ (.im _) Γ1 _ (A1.ex (Ex.new hp)) (p1.trans (Pv.of_ex (Ex.new hp))) (.tup upd_same (h7.reverse.tx (Ex.new hp).tx)) w1⟩
    · exact w1.elim⟩
end G
set_option maxRecDepth 100000
set_option maxHeartbeats 4000000
/-! L5: sorted; displays of dicts. -/
namespace G
open PySem PySem.Spec PyProof.Rows L2

/-! ### sorted -/
def encP : V × D → PyData := fun p => toPy p.2
def sortP (ps : List (V × D)) : List (V × D) := ps.mergeSort (PySem.W.dataLe false encP)
def sortD (ds : List D) : List D := ds.mergeSort (PySem.W.dataLe false toPy)
/-- what may be sorted -/
structure SrtOk (ds : List D) : Prop where
  al : ∀ d ∈ ds, ∀ e ∈ ds, PySem.W.alike (toPy d) (toPy e) = true
  tp : ∀ d ∈ ds, ∃ x r, toPy d = .tuple (x :: r)
  dp : ∀ d ∈ ds, (toPy d).depth ≤ 32
  ln : ds.length ≤ 1000
def rSortedD (K : PySem.W.Frag) : List V → Hp → VK → Prop := fun vs H Q => ∃ (a : Addr) (ps : List (V × D)), vs = [.ref a] ∧ SqL K H a (ps.map (·.1)) ∧ (∀ p ∈ ps, Is K H p.1 p.2) ∧ SrtOk (ps.map (·.2)) ∧
  ∀ p, H p = none → Q (.ref p) (upd H p (.lst ((sortP ps).map (·.1))))
theorem each_vals {X : Cx} {pins : List (Addr × Obj)} {σ : L2.St} {H : Hp} {s : Shared} (I : Inv X pins σ H s) : ∀ {ps : List (V × D)} {us : List Value}, Vals (ps.map (·.1)) us → (∀ p ∈ ps, Is X.K H p.1 p.2) →
    PySem.W.EachIs (fun u (p : V × D) => RelV p.1 u) us ps ∧ PySem.W.EachIs (fun u (p : V × D) => ∃ as, Reads s.heap u (encP p) as) us ps
  | [], _, .nil, _ => ⟨.nil, .nil⟩
  | p :: ps, _, .cons r t, h => by
    obtain ⟨h1, h2⟩ := each_vals I t fun q m => h q (by simp [m])
    exact ⟨.cons r h1, .cons (Dp.reads I _ _ _ (h p (by simp)).dp r) h2⟩
theorem each_back : ∀ {us : List Value} {ps : List (V × D)}, PySem.W.EachIs (fun u (p : V × D) => RelV p.1 u) us ps → Vals (ps.map (·.1)) us
  | _, _, .nil => .nil
  | _, _, .cons r t => .cons r (each_back t)
theorem cr_sortedD {X : Cx} (hu : X.A.units + 64 < cLine) : CallR X (.builtin "sorted") (rSortedD X.K) := by
  intro pins s σ H vs us Q I r h
  obtain ⟨a, ps, rfl, hs, hx, ok, q⟩ := h
  obtain ⟨its, rv, hl, hz⟩ := I.list hs
  rw [Vals.ref1 r]
  obtain ⟨e1, e2⟩ := each_vals I rv hx
  refine PySem.W.sorted_data (enc := encP) hl.isList e1 e2 (fun d hd e he => ?_) (.inl fun d hd => ?_) (by rw [List.length_map] at hz; exact hz) (fun p hp => ?_) fun out h1 h2 => ?_
  · obtain ⟨p, hp, rfl⟩ := List.mem_map.mp hd
    obtain ⟨p', hp', rfl⟩ := List.mem_map.mp he
    exact ok.al _ (List.mem_map.mpr ⟨p, hp, rfl⟩) _ (List.mem_map.mpr ⟨p', hp', rfl⟩)
  · obtain ⟨p, hp, rfl⟩ := List.mem_map.mp hd
    exact ok.tp _ (List.mem_map.mpr ⟨p, hp, rfl⟩)
  · have := ok.dp _ (List.mem_map.mpr ⟨p, hp, rfl⟩)
    show X.A.units + 2 + (toPy p.2).depth < cLine
    omega
  · obtain ⟨ep, he'⟩ := PyProof.Rows.sortedAll_at s.heap its out.toArray
    have hlen : ((sortP ps).map (·.1)).length ≤ sizeLine := by
      rw [List.length_map, sortP, List.length_mergeSort, ← List.length_map (f := Prod.fst)]
      exact hz
    exact ⟨.ref _, upd H (s.heap.objs.size + 1) (.lst ((sortP ps).map (·.1))), I.laid (t' := s.toks) (fun _ _ => PyProof.Rows.sortedAll_old) (Nat.le_succ _) ⟨hlen, out, ep, each_back h2, he'⟩, rfl, q _ (I.hok.fresh (Nat.le_succ _))⟩
theorem isa_pairs {K : PySem.W.Frag} {H : Hp} : ∀ {vs : List V} {ds : List D}, IsA K H vs ds → ∃ ps : List (V × D), vs = ps.map (·.1) ∧ ds = ps.map (·.2) ∧ ∀ p ∈ ps, Is K H p.1 p.2
  | _, _, .nil => ⟨[], rfl, rfl, fun p m => nomatch m⟩
  | _, _, .cons a b => by
    obtain ⟨ps, e1, e2, h⟩ := isa_pairs b
    subst e1 e2
    refine ⟨(_, _) :: ps, rfl, rfl, fun p m => ?_⟩
    rcases List.mem_cons.mp m with rfl | m
    · exact a
    · exact h p m
theorem isa_of_pairs {K : PySem.W.Frag} {H : Hp} : ∀ {ps : List (V × D)}, (∀ p ∈ ps, Is K H p.1 p.2) → IsA K H (ps.map (·.1)) (ps.map (·.2))
  | [], _ => .nil
  | p :: ps, h => .cons (h p (by simp)) (isa_of_pairs fun q m => h q (by simp [m]))
def gSorted : GB := fun Γ rs Z => match rs with
  | [r] => ∃ ds, lsOf Γ r = some ds ∧ SrtOk ds ∧ Z (.tm (.ls (sortD ds)))
  | _ => False
theorem bg_sorted {K : PySem.W.Frag} : BG K (rSortedD K) gSorted := fun np B P fps Γ σ H0 H vs rs gs Q Z A f ra g k => by
  unfold gSorted at g
  split at g
  · obtain ⟨v, rfl, h⟩ := ra.one
    obtain ⟨ds, h1, h2, h3⟩ := g
    obtain ⟨a, xs, rfl, h4, h5⟩ := h.ls A h1
    obtain ⟨ps, rfl, rfl, h6⟩ := isa_pairs h5
    refine ⟨a, ps, rfl, .of h4, h6, h2, fun p hp => ?_⟩
    refine k _ (.tm _) _ (Ex.new hp) (tm_ls hp (f p hp) ?_) h3
    have e : sortD (ps.map (·.2)) = (sortP ps).map (·.2) := by
      unfold sortD sortP
      exact (PySem.W.sort_maps (r := PySem.W.dataLe false encP) (s := PySem.W.dataLe false toPy) (fun p : V × D => p.2) fun a _ b _ => rfl).symm
    rw [e]
    exact isa_of_pairs fun p m => h6 p ((List.mergeSort_perm ps _).mem_iff.mp m)
  · exact g.elim
theorem sortD_perm (ds : List D) : (sortD ds).Perm ds := List.mergeSort_perm ds _

/-! ### a cell of no slot is changed -/
theorem At.updFree {K : PySem.W.Frag} {np : Nat} {B : Hp} {P : List (V × List Addr)} {fps : Fps} {Γ : Gm} {σ : L2.St} {H : Hp} {D : Addr} {o o' : HO} (A : At K np B P fps Γ σ H) (h : H D = some o) (nt : ¬ TP o) (n : ¬ In fps D) (b : B D = none) : At K np B P fps Γ σ (upd H D o') := by
  have t : Tx H (upd H D o') := tx_upd h nt
  refine ⟨A.l1, A.l2, fun i o s f h1 h2 h3 => ?_, A.dj, A.fr, fun a o q m => ?_, A.pn⟩
  · have q := A.sl i o s f h1 h2 h3
    cases s with
    | un => exact q
    | im d => obtain ⟨z, v, hv, r⟩ := q; exact ⟨z, v, hv, r.tx t⟩
    | ce c =>
      obtain ⟨p, hp, r⟩ := q
      exact ⟨p, hp, r.stay (fun a ha => upd_ne fun z => by subst z; exact n ⟨i, f, h3, ha⟩) t⟩
  · rw [upd_ne (fun z => by subst z; rw [b] at q; cases q)]
    exact A.ba a o q m

/-! ### {t: v}, the key a tuple -/
def tDispT1 (tk tv : TE) : TE := fun σ H Q => ∀ p, H p = none → tk σ (upd H p (.dT [])) fun x H1 => tv σ H1 fun y H2 => ∃ b kk, x = .ref b ∧ H2 b = some (.tup (kk.map kV)) ∧ H2 p = some (.dT []) ∧ Q (.ref p) (upd H2 p (.dT [(kk, y)]))
theorem pe_dispT1 {X : Cx} {pos : Pos} {k v : Expr} {tk tv : TE} (hu : X.A.units + 64 < cLine) (hk : PE X k tk) (hv : PE X v tv) : PE X (.Dict [some k] [v] pos) (tDispT1 tk tv) := by
  refine ⟨fun pins s σ H Q I q => ?_⟩
  have hn := I.hok.fresh (Nat.le_refl s.heap.objs.size)
  have I1 := I.laid (a := s.heap.objs.size) (o := .dT []) (h' := s.heap.push { cls := .type "dict", data := .dict #[] }) (t' := s.toks) (fun _ _ q => Heap.get?_push_of_some _ q) (Nat.le_refl _) (dt_empty s.heap I.big)
  have hp : (pairTrees [some k] [v] X.env pos).length = 1 := rfl
  rw [arm_eval_Dict, zip_pairTrees [some k] [v] X.env pos rfl rfl, dictDisplay_pairs (pairTrees [some k] [v] X.env pos) (fun e => by rw [e] at hp; cases hp) (by rw [hp]; decide)]
  have hroom : (tupleKind (mixKind X.prog X.w)).room X.A := by show X.A.units < cLine; omega
  refine wpAny_bind (wpAny_standAt (wpAny_bind (wpAny_subDictH (knd := tupleKind (mixKind X.prog X.w)) (Q := fun d s' => wpAny (model X.prog X.w) X.A (pure (Value.ref d)) (EP X pins σ Q) X.xe s') hroom (by rw [hp]; decide) ?_)))
  refine thn ((pps_cons (pos := pos) hk hv pps_nil).run pins _ σ _ (fun ps H2 => match ps with
    | [(x, y)] => ∃ b kk, x = .ref b ∧ H2 b = some (.tup (kk.map kV)) ∧ H2 s.heap.objs.size = some (.dT []) ∧ Q (.ref s.heap.objs.size) (upd H2 s.heap.objs.size (.dT [(kk, y)]))
    | _ => False) I1 (q _ hn)) fun ws s2 ⟨ps, H2, I2, rel, q2⟩ => ?_
  split at q2
  · rename_i x y
    obtain ⟨b, kk, rfl, hb, hD, q2⟩ := q2
    cases rel with
    | @cons _ uw _ _ r1 t1 =>
      cases t1
      obtain ⟨rx, ry⟩ := r1
      obtain ⟨u, w2⟩ := uw
      cases (show u = Value.ref b from rx)
      obtain ⟨z, hd, xs, rel, dd⟩ := dt_of I2.hok hD
      cases rel
      refine ⟨[(kk, b, w2)], ⟨rfl, rfl, key_of I2.hok hb, trivial⟩, dd, fun h' tk hd' hs => wpAny_pure ⟨.ref s.heap.objs.size, _, d_write (ob := .dT [(kk, y)]) I2 (by rw [hD]; exact True.intro) hs ?_ ?_, rfl, q2⟩⟩
      · obtain ⟨o, _, _, ho, _⟩ := hd'
        exact ⟨o, ho⟩
      · obtain ⟨o, es, ep, d1, d2, d3, d4, d5, d6⟩ := hd'
        refine (show ObjOk X.prog X.w _ _ _ (.dT [(kk, y)]) from ⟨by show 1 ≤ sizeLine; decide, hd, [(kk, b, w2)], .cons ⟨rfl, ?_, ry⟩ .nil, o, es, ep, d1, d2, d3, d4, d6⟩)
        rw [upd_ne (fun e => by
          have e' : b = s.heap.objs.size := e
          rw [e', hD] at hb
          cases hb)]
        exact hb
  · exact q2.elim
def wDispT1 (wk wv : WE) : WE := fun Γ Z => wk Γ fun x Γ1 => wv Γ1 fun y Γ2 => match x, y with
  | .im (.tup kd), .im d => ∃ kk : List Key, kd = kk.map kD ∧ Z (.tm (.dt [(kk, d)])) Γ2
  | _, _ => False
theorem g_dispT1 {X : Cx} {np : Nat} {pos : Pos} {k v : Expr} {tk tv : TE} {wk wv : WE} (hu : X.A.units + 64 < cLine) (hk : GE X np k tk wk) (hv : GE X np v tv wv) : GE X np (.Dict [some k] [v] pos) (tDispT1 tk tv) (wDispT1 wk wv) :=
  ⟨pe_dispT1 hu hk.pe hv.pe, fun B P fps Γ σ H Q Z A w kont D hD => by
    have nD : ¬ In fps D := A.free hD
    have bD : B D = none := A.bnone hD
    have A0 := A.ex (Ex.new (o := .dT []) hD)
    refine sd_two hk.sd hv.sd (Z := fun x y Γ2 => match x, y with
      | .im (.tup kd), .im d => ∃ kk : List Key, kd = kk.map kD ∧ Z (.tm (.dt [(kk, d)])) Γ2
      | _, _ => False) (T := fun x y H2 => ∃ b kk, x = .ref b ∧ H2 b = some (.tup (kk.map kV)) ∧ H2 D = some (.dT []) ∧ Q (.ref D) (upd H2 D (.dT [(kk, y)]))) A0 w fun v u x y Γ' H' A' p rx ry w' => ?_
    split at w'
    · obtain ⟨kk, rfl, w'⟩ := w'
      obtain ⟨b, xs, rfl, h1, h2⟩ := Is.inv_tup rx
      rw [h2.keys] at h1
      have hD' : H' D = some (.dT []) := p D _ upd_same nD
      refine ⟨b, kk, rfl, h1, hD', ?_⟩
      have tx : Tx H' (upd H' D (.dT [(kk, u)])) := tx_upd hD' (fun z => z)
      refine kont _ (.tm (.dt [(kk, _)])) Γ' _ (A'.updFree hD' (fun z => z) nD bD) (fun a o q n => ?_) ⟨D, [D], rfl, ⟨rfl, [(kk, u)], upd_same, .cons ⟨rfl, Is.tx tx ry⟩ .nil⟩, fun a ha => by simp at ha; subst ha; exact hD⟩ w'
      rw [upd_ne (fun z => by subst z; rw [hD] at q; cases q)]
      refine p a o ?_ n
      rw [upd_ne (fun z => by subst z; rw [hD] at q; cases q)]
      exact q
    · exact w'.elim⟩
/-! ### {'a': 1, ..} -/
def stP (l : List (Str × Int)) : List (Key × V) := l.map fun p => (.inr p.1, .int p.2)
def stD (l : List (Str × Int)) : List (Key × D) := l.map fun p => (.inr p.1, .int p.2)
def trsC (l : List (Str × Int)) : List (TE × TE) := l.map fun p => (tC (.str p.1), tC (.int p.2))
theorem tPairs_c {σ : L2.St} {H : Hp} : ∀ {l : List (Str × Int)} {Q : List (V × V) → Hp → Prop}, Q (l.map fun p => (V.str p.1, V.int p.2)) H → tPairs (trsC l) σ H Q
  | [], _, q => q
  | p :: l, Q, q => tPairs_c (l := l) (Q := fun ps H => Q ((V.str p.1, V.int p.2) :: ps) H) q
theorem isk_st {K : PySem.W.Frag} {H : Hp} : ∀ l : List (Str × Int), IsK K H (stP l) (stD l)
  | [] => .nil
  | p :: l => .cons ⟨rfl, .int _⟩ (isk_st l)
def wDispS (l : List (Str × Int)) : WE := fun Γ Z => Z (.tm (.dk (mergeKD (stD l)))) Γ
theorem g_dispS {X : Cx} {np : Nat} {pos : Pos} {keys : List (Option Expr)} {values : List Expr} {l : List (Str × Int)} (h : PPs X pos keys values (trsC l)) (hall : keys.all (·.isSome) = true) (hl : keys.length = values.length) (h0 : keys ≠ []) (h15 : keys.length ≤ 15) (hl2 : l.length ≤ 15) : GE X np (.Dict keys values pos) (tDisp (trsC l)) (wDispS l) :=
  ⟨pe_disp h hall hl h0 h15, fun B P fps Γ σ H Q Z A w kont D hD => by
    refine tPairs_c ⟨upd_same, stP l, ?_, by unfold stP; rw [List.length_map]; exact hl2, ?_⟩
    · unfold stP; rw [List.map_map]; rfl
    · rw [upd_upd]
      exact kont _ (.tm _) Γ _ (A.ex (Ex.new hD)) (Pv.of_ex (Ex.new hD)) (tm_dk hD hD (isk_mergeK (isk_st l) .nil)) w⟩
end G
set_option maxRecDepth 100000
set_option maxHeartbeats 4000000
/-! G11: lists, texts, isinstance, the class, stores of many. -/
namespace G
open PySem PySem.Spec PyProof.Rows L2

section
variable {X : Cx} {np : Nat} {pos : Pos} {a b c e o : Expr} {ta tb tc te to : TE} {wa wb wc we wo : WE}
/-! ### lists -/
def wCat (wa wb : WE) : WE := fun Γ Z => wa Γ fun x Γ1 => wb Γ1 fun y Γ2 => ∃ xs ys, lsOf Γ2 x = some xs ∧ lsOf Γ2 y = some ys ∧ xs.length + ys.length ≤ 1000 ∧ Z (.tm (.ls (xs ++ ys))) Γ2
theorem g_cat (ha : GE X np a ta wa) (hb : GE X np b tb wb) : GE X np (.BinOp a .Add b pos) (tOp rCat ta tb) (wCat wa wb) := ⟨pe_op op_cat ha.pe hb.pe, fun B P fps Γ σ H Q Z A w k =>
  sd_two ha.sd hb.sd (Z := fun x y Γ2 => ∃ xs ys, lsOf Γ2 x = some xs ∧ lsOf Γ2 y = some ys ∧ xs.length + ys.length ≤ 1000 ∧ Z (.tm (.ls (xs ++ ys))) Γ2) A w fun v u x y Γ' H' A' p rx ry w' => by
    obtain ⟨ds, es, h1, h2, h3, h4⟩ := w'
    obtain ⟨q, xs, rfl, h5, h6⟩ := rx.ls A' h1
    obtain ⟨q2, ys, rfl, h7, h8⟩ := ry.ls A' h2
    refine ⟨q, q2, xs, ys, rfl, rfl, h5, h7, line1000 (by rw [h6.length, h8.length]; exact h3), fun l hl => ?_⟩
    exact k _ (.tm _) Γ' _ (A'.ex (Ex.new hl)) (p.trans (Pv.of_ex (Ex.new hl))) (tm_ls hl (A.freeBack A' p l hl) (h6.append h8)) h4⟩
def wRepL (wa wb : WE) : WE := fun Γ Z => wa Γ fun x Γ1 => wb Γ1 fun y Γ2 => match y with
  | .im (.int n) => ∃ xs, lsOf Γ2 x = some xs ∧ xs.length ≤ 1000 ∧ 0 ≤ n ∧ n ≤ 1000 ∧ Z (.tm (.ls (List.replicate n.toNat xs).flatten)) Γ2
  | _ => False
theorem g_repL (ha : GE X np a ta wa) (hb : GE X np b tb wb) : GE X np (.BinOp a .Mult b pos) (tOp rRep ta tb) (wRepL wa wb) := ⟨pe_op op_rep ha.pe hb.pe, fun B P fps Γ σ H Q Z A w k =>
  sd_two ha.sd hb.sd (Z := fun x y Γ2 => match y with
    | .im (.int n) => ∃ xs, lsOf Γ2 x = some xs ∧ xs.length ≤ 1000 ∧ 0 ≤ n ∧ n ≤ 1000 ∧ Z (.tm (.ls (List.replicate n.toNat xs).flatten)) Γ2
    | _ => False) A w fun v u x y Γ' H' A' p rx ry w' => by
    split at w'
    · rename_i n
      obtain ⟨ds, h1, h2, h3, h4, h5⟩ := w'
      obtain ⟨q, xs, rfl, h6, h7⟩ := rx.ls A' h1
      rw [Is.inv_int ry]
      refine ⟨q, _, xs, rfl, rfl, h6, by omega, by omega, ?_, fun l hl => ?_⟩
      · rw [h7.length, sizeLine_eq]
        have a1 : ds.length * n.toNat ≤ 1000 * 1000 := Nat.mul_le_mul h2 (by omega)
        exact Nat.le_trans a1 (by decide)
      · exact k _ (.tm _) Γ' _ (A'.ex (Ex.new hl)) (p.trans (Pv.of_ex (Ex.new hl))) (tm_ls hl (A.freeBack A' p l hl) (h7.rep _)) h5
    · exact w'.elim⟩
/-- != of two lists -/
def wNeL (wa wb : WE) : WE := fun Γ Z => wa Γ fun x Γ1 => wb Γ1 fun y Γ2 => ∃ xs ys, lsOf Γ2 x = some xs ∧ lsOf Γ2 y = some ys ∧ okd 8 (.tup xs) = true ∧ okd 8 (.tup ys) = true ∧ Z (.im (.bl (!deq (.tup xs) (.tup ys)))) Γ2
theorem lst_shaped {xs : List D} (h : okd 8 (.tup xs) = true) : SeqAt.shaped (.list (toPyA xs)) = true := by
  obtain ⟨h1, h2⟩ := okd_ok 8 (.tup xs) h
  unfold SeqAt.shaped
  simp only [toPy, PyData.canLay0, PyData.depth] at h1 h2 ⊢
  rw [h1, Bool.true_and]
  exact decide_eq_true (by omega)
theorem deq_lst (xs ys : List D) : PyData.eqv (.list (toPyA xs)) (.list (toPyA ys)) = deq (.tup xs) (.tup ys) := by
  unfold deq
  simp only [toPy, PyData.eqv]
theorem gc_neL (hu : X.A.units + 64 < cLine) (ha : GE X np a ta wa) (hb : GE X np b tb wb) : GC X np .NotEq a b ta tb (rNeD X.K) (wNeL wa wb) := ⟨op_neD hu, ha.pe, hb.pe, fun B P fps Γ σ H Q Z A w k =>
  sd_two ha.sd hb.sd (Z := fun x y Γ2 => ∃ xs ys, lsOf Γ2 x = some xs ∧ lsOf Γ2 y = some ys ∧ okd 8 (.tup xs) = true ∧ okd 8 (.tup ys) = true ∧ Z (.im (.bl (!deq (.tup xs) (.tup ys)))) Γ2) A w fun v u x y Γ' H' A' p rx ry w' => by
    obtain ⟨ds, es, h1, h2, h3, h4, h5⟩ := w'
    obtain ⟨q, xs, rfl, h6, h7⟩ := rx.ls A' h1
    obtain ⟨q2, ys, rfl, h8, h9⟩ := ry.ls A' h2
    refine ⟨_, _, .lst (.of h6) h7.dp, .lst (.of h8) h9.dp, lst_shaped h3, lst_shaped h4, ?_⟩
    rw [deq_lst]
    exact k _ (.im (.bl _)) Γ' H' A' p (.bl _) h5, nomark _⟩

/-! ### texts -/
def wJoin (wa wb : WE) : WE := fun Γ Z => wa Γ fun x Γ1 => wb Γ1 fun y Γ2 => match x with
  | .im (.str z) => ∃ ys : List Str, lsOf Γ2 y = some (ys.map .str) ∧ (ys.map (·.length)).sum + ys.length * z.length ≤ 16777216 ∧ Z (.im (.str (Txt.join z ys))) Γ2
  | _ => False
abbrev rJoin (K : PySem.W.Frag) : V → List V → Hp → VK → Prop := fun x xs H Q => ∃ a p, ∃ ys : List Str, x = .str a ∧ xs = [.ref p] ∧ (SqL K H p (ys.map V.str) ∨ SqT K H p (ys.map V.str)) ∧
    (ys.map (·.length)).sum + ys.length * a.length ≤ 16777216 ∧ Q (.str (Txt.join a ys)) H
/-- x is a text told ahead (a constant) -/
theorem g_join {apos : Pos} {z : Str} {j : Nat} {p : Pos} (hb : GE X np b tb wb) (hs : starEach [b] X.env = [(false, eval b X.env)] := by rfl) (hbase : attributeBase (.Constant (.str z) j p) "join" X.env (eval (.Constant (.str z) j p) X.env) = eval (.Constant (.str z) j p) X.env := by rfl) (hline : (apos.endLine == pos.line) = true := by rfl) :
    GE X np (.Call (.Attribute (.Constant (.str z) j p) "join" apos) [b] [] pos) (tM1 (rJoin X.K) (tC (.str z)) tb) (wJoin (wC (.str z)) wb) := ⟨pe_m1 F.slot_str_join F.type_str_join mt_join pe_str hb.pe hs hbase hline, fun B P fps Γ σ H Q Z A w k => by
  refine ⟨⟨z, rfl⟩, hb.sd B P fps Γ σ H _ _ A w fun v r Γ1 H1 A1 p1 r1 w1 => ?_⟩
  obtain ⟨ys, h1, h2, h3⟩ := w1
  obtain ⟨q, xs, rfl, h4, h5⟩ := r1.ls A1 h1
  rw [h5.strs] at h4
  exact ⟨z, q, ys, rfl, rfl, .inl (.of h4), h2, k _ (.im _) Γ1 H1 A1 p1 (.str _) h3⟩⟩
def wSplit (wa wb : WE) : WE := fun Γ Z => wa Γ fun x Γ1 => (∃ z, x = .im (.str z)) ∧ wb Γ1 fun y Γ2 => match x, y with
  | .im (.str z), .im (.str s) => (s.length == 0) = false ∧ z.length + 2 ≤ sizeLine ∧ Z (.tm (.ls ((Txt.split z s).map .str))) Γ2
  | _, _ => False
abbrev rSplit : V → List V → Hp → VK → Prop := fun x xs H Q => ∃ a b, x = .str a ∧ xs = [.str b] ∧ (b.length == 0) = false ∧ a.length + 2 ≤ sizeLine ∧ rNewStrs (Txt.split a b) H Q
theorem g_split {apos : Pos} (ha : GE X np a ta wa) (hb : GE X np b tb wb) (hs : starEach [b] X.env = [(false, eval b X.env)] := by rfl) (hbase : attributeBase a "split" X.env (eval a X.env) = eval a X.env := by rfl) (hline : (apos.endLine == pos.line) = true := by rfl) :
    GE X np (.Call (.Attribute a "split" apos) [b] [] pos) (tM1 rSplit ta tb) (wSplit wa wb) := ⟨pe_m1 F.slot_str_split F.type_str_split mt_split ha.pe hb.pe hs hbase hline, fun B P fps Γ σ H Q Z A w k =>
  ha.sd B P fps Γ σ H _ _ A w fun v r Γ1 H1 A1 p1 r1 w1 => by
    obtain ⟨⟨z, rfl⟩, w1⟩ := w1
    rw [Is.inv_str r1]
    refine ⟨⟨z, rfl⟩, hb.sd B P fps Γ1 σ H1 _ _ A1 w1 fun u y Γ2 H2 A2 p2 r2 w2 => ?_⟩
    split at w2
    · rename_i z' s e
      cases e
      rw [Is.inv_str r2]
      obtain ⟨h1, h2, h3⟩ := w2
      refine ⟨_, _, rfl, rfl, h1, h2, fun l hl => ?_⟩
      have pp := p1.trans p2
      refine k _ (.tm _) Γ2 _ (A2.ex (Ex.new hl)) (pp.trans (Pv.of_ex (Ex.new hl))) (tm_ls hl (A.freeBack A2 pp l hl) ?_) h3
      exact IsA.of_strs _
    · exact w2.elim⟩
/-- a text in a text -/
def gInS : D → D → (D → Prop) → Prop
  | .str i, .str j, Z => Z (.bl (!(Builtin.Str.occurrences j i 0 j.length 1).isEmpty))
  | _, _, _ => False
abbrev rInS : R2 := fun x y H Q => ∃ i j, x = .str i ∧ y = .str j ∧ Q (.bl (!(Builtin.Str.occurrences j i 0 j.length 1).isEmpty)) H
theorem og_inS {K : PySem.W.Frag} : OG K rInS gInS := fun H x y d e Z Q hx hy g k => by
  unfold gInS at g
  split at g
  · rw [hx.inv_str, hy.inv_str]
    exact ⟨_, _, rfl, rfl, k _ _ H (Ex.refl H) (.bl _) g⟩
  · exact g.elim
theorem gc_inS (ha : GE X np a ta wa) (hb : GE X np b tb wb) (hm : behindInMarks .In b = false := by rfl) : GC X np .In a b ta tb rInS (wOp gInS wa wb) := ⟨op_in_str, ha.pe, hb.pe, sd_op og_inS ha.sd hb.sd, hm⟩
theorem g_globS {x z : Str} (hm : ∃ t, X.mg x = some (.str z t)) (hg : Gl X x := by rfl) (hd : (x == ("__debug__" : Str)) = false := by decide) : GE X np (.Name x pos) (tC (.str z)) (wC (.str z)) := by
  obtain ⟨t, hm⟩ := hm
  exact g_glob hg hm ⟨_, rfl⟩ (fun _ => .str z) hd
/-- in a written tuple of the module -/
def wInG (ds : List D) (wa : WE) : WE := fun Γ Z => wa Γ fun x Γ1 => match x with
  | .im d => flD d = true ∧ Z (.im (.bl (inD d ds))) Γ1
  | _ => False
theorem gc_inG {x : Str} {q : Addr} {ds : List D} (ha : GE X np a ta wa) (hm : X.mg x = some (.ref q)) (hS : ∀ H, SqT X.K H q (ds.map vD)) (hf : ds.all flD = true) (hg : Gl X x := by rfl) (hd : (x == ("__debug__" : Str)) = false := by decide) (hi : behindInMarks .In (.Name x pos) = false := by rfl) :
    GC X np .In a (.Name x pos) ta (tC (.ref q)) (rIn X.K false) (wInG ds wa) := ⟨op_in_seq, ha.pe, pe_glob hg hm rfl hd, fun B P fps Γ σ H Q Z A w k => ha.sd B P fps Γ σ H _ _ A w fun v r Γ1 H1 A1 p1 r1 w1 => by
  split at w1
  · rename_i d
    obtain ⟨h1, h2⟩ := w1
    have e3 := Is.flat r1 h1
    have fl : (ds.map vD).all flatV = true := by
      rw [List.all_map]
      rw [List.all_eq_true] at hf ⊢
      exact fun d hd => vD_flat (hf d hd)
    refine ⟨q, _, rfl, .inr (hS H1), by rw [e3]; exact vD_flat h1, fl, k _ (.im (.bl _)) Γ1 H1 A1 p1 ?_ h2⟩
    rw [e3]
    exact .bl _
  · exact w1.elim, hi⟩

/-! ### isinstance -/
def tyD : D → String
  | .non => "NoneType"
  | .bl _ => "bool"
  | .int _ => "int"
  | .str _ => "str"
  | .tup _ => "tuple"
  | .fz _ => "tuple"
  | .fl _ => "list"
def nfl : D → Prop
  | .fl _ => False
  | _ => True
theorem Is.ty {K : PySem.W.Frag} {H : Hp} {v : V} {d : D} (h : Is K H v d) (nf : nfl d) : TyX K H v (.type (tyD d)) := by
  cases h with
  | non => exact .base .non
  | bl => exact .base (.bl _)
  | int => exact .base (.int _)
  | str => exact .base (.str _)
  | tup h r => exact .base (.tup h)
  | fz h f r => exact .fTuple h
  | fl h => exact nf.elim
def wIsi (T : String) (we : WE) : WE := fun Γ Z => we Γ fun x Γ1 => match x with
  | .im (.fl _) => False
  | .im d => ∃ b, kitB (tyD d) T = some b ∧ Z (.im (.bl b)) Γ1
  | _ => False
theorem g_isi {T : String} {x : Str} {p p2 : Pos} (he : GE X np e te we) (hg : Gl X "isinstance") (hm : X.mg "isinstance" = none) (hgT : Gl X x) (hmT : X.mg x = none) (hvT : bootBuiltins x = some (.type T)) (hn : x ≠ "__name__" := by decide) (hd : (x == ("__debug__" : Str)) = false := by decide)
    (h1 : starEach [e, .Name x p2] X.env = (false, eval e X.env) :: starEach [.Name x p2] X.env := by rfl) (h2 : starEach [.Name x p2] X.env = (false, eval (.Name x p2) X.env) :: starEach [] X.env := by rfl) (hpl : (backTo pos (starEach [.Name x p2] X.env)).any (·.1) = false := by rfl) :
    GE X np (.Call (.Name "isinstance" p) [e, .Name x p2] [] pos) (tCB (rIsi X.K) (tCons te (tCons (tC (.ty T)) tNil))) (wIsi T we) :=
  ⟨pe_callB call_isi hg hm PyProof.Rows.boot_isinstance (pa_cons he.pe (pa_cons (pe_bltn hgT hmT hvT rfl hn hd) pa_nil h2) h1) (by decide) (by decide) h1 hpl, fun B P fps Γ σ H Q Z A w k => he.sd B P fps Γ σ H _ _ A w fun v r Γ1 H1 A1 p1 r1 w1 => by
    split at w1
    · exact w1.elim
    · rename_i d hd
      obtain ⟨b, h1, h2⟩ := w1
      have nf : nfl d := by
        cases d with
        | fl ns => exact (hd ns rfl).elim
        | _ => trivial
      exact ⟨v, .ty T, _, _, b, rfl, .ty T, Is.ty r1 nf, kit_ty h1, k _ (.im (.bl _)) Γ1 H1 A1 p1 (.bl _) h2⟩
    · exact w1.elim⟩
end
end G
set_option maxRecDepth 100000
set_option maxHeartbeats 4000000
/-! G12: the class, stores of many. -/
namespace G
open PySem PySem.Spec PyProof.Rows L2

/-! ### the class -/
structure ClsS (K : PySem.W.Frag) (C : Addr) : Prop where
  cls : Cls K C
  no : NoAttr K C "rows"
structure Mth (P : Program) (w : World) (K : PySem.W.Frag) (mg : Str → Option Value) (base : Heap) (k : Nat) (C : Addr) (m : Str) (ps : List Str) (gs : GSp) : Prop where
  ex : ∃ f fd, Meth K C m f ∧ Binds K fd ps [] ∧ FnOk P w K mg base CX0 k f fd ps (toSp K gs)
/-- where a method of the text stands -/
structure HereM (K : PySem.W.Frag) (C : Addr) (m q : Str) (st : Stmt) (ps : List Str) : Prop where
  ex : ∃ f fd, Meth K C m f ∧ FunD K m q (defArgs st) (defBody st) (defScope st) [] [] f fd ∧ Binds K fd ps []
theorem HereM.fn {P : Program} {w : World} {K : PySem.W.Frag} {mg : Str → Option Value} {base : Heap} {k : Nat} {C : Addr} {m q : Str} {st : Stmt} {N ps : List Str} {gs : GSp} (T : HereM K C m q st ps) (S : FnScope N ps (defScope st)) (ww : WS)
    (hb : ∀ (f : Addr) (cdv : Value) (A : Around) (outer : List Env) (s : Shared) (H : Hp) (E : XK), Room k (A.deeper (envOfC q (defScope st) s.heap.objs.size f cdv)) → ∃ t, GSs (cxOf CX0 P w K mg base N q (defScope st) f cdv A outer s H E).nox ps.length (defBody st) t ww)
    (hw : ∀ args Z, gs args Z → args.length = ps.length ∧ ww (endsOf ps.length Z) (args ++ List.replicate (N.length - ps.length) .un)) : Mth P w K mg base (k + 1) C m ps gs := by
  obtain ⟨f, fd, hm, F, B⟩ := T.ex
  refine ⟨f, fd, hm, B, F.ok S (fun vs H Q E h => ?_) fun cdv A outer s H vs Q E hr h => ?_⟩
  · obtain ⟨args, fs, _, ar, _, g, _⟩ := h
    rw [ar.len.1, (hw args _ g).1]
  · have hl : vs.length = ps.length := by
      obtain ⟨args, fs, _, ar, _, g, _⟩ := h
      rw [ar.len.1, (hw args _ g).1]
    obtain ⟨t, d⟩ := hb f cdv A outer s H E hr
    exact ⟨t, d.ps.nox, body_of (n := N.length) d.sd hw h⟩
/-- the instance ahead of the arguments -/
def tCons1 (C : Addr) (m : Str) (to : TE) (t : TA) : TA := fun σ H Q => to σ H fun x H1 => ∃ a dx fs, x = .ref a ∧ H1 a = some (.ins C dx fs) ∧ fs.lookup m = none ∧ t σ H1 fun vs H2 => Q (x :: vs) H2
def wCons1 (C : Addr) (wo : WE) (wr : WA) : WA := fun Γ Z => wo Γ fun r Γ1 => match r with
  | .sl i => (∃ rows, Γ1[i]? = some (.ce (.steps C rows))) ∧ wr Γ1 fun rs Γ2 => Z (.sl i :: rs) Γ2
  | _ => False
theorem At.steps {K : PySem.W.Frag} {np : Nat} {B : Hp} {P : List (V × List Addr)} {fps : Fps} {Γ : Gm} {σ : L2.St} {H0 H : Hp} {v : V} {i : Nat} {C : Addr} {rows : List D} (A : At K np B P fps Γ σ H) (h : Γ[i]? = some (.ce (.steps C rows))) (r : RAt K Γ σ H0 H v (.sl i)) :
    ∃ p dx l xs, v = .ref p ∧ fps[i]? = some [p, dx, l] ∧ p ≠ dx ∧ p ≠ l ∧ dx ≠ l ∧ H p = some (.ins C dx [(("rows" : Str), .ref l)]) ∧ H dx = some (.own p) ∧ H l = some (.lst xs) ∧ IsA K H xs rows := by
  obtain ⟨p, f, h1, h2, dx, l, xs, e, n1, n2, n3, h3, h4, h5, h6⟩ := A.ce h
  rw [r.1] at h1; cases h1
  subst e
  exact ⟨p, dx, l, xs, rfl, h2, n1, n2, n3, h3, h4, h5, h6⟩
theorem sd_cons1 {K : PySem.W.Frag} {np : Nat} {C : Addr} {m : Str} {to : TE} {t : TA} {wo : WE} {wr : WA} (hm : ((("rows" : Str) == m) = false)) (ho : SndE K np to wo) (hr : SndA K np t wr) : SndA K np (tCons1 C m to t) (wCons1 C wo wr) := fun B P fps Γ σ H Q Z A w k =>
  ho B P fps Γ σ H _ _ A w fun v r Γ1 H1 A1 p1 r1 w1 => by
    split at w1
    · rename_i i
      obtain ⟨⟨rows, h1⟩, w1⟩ := w1
      obtain ⟨p, dx, l, xs, rfl, h2, _, _, _, h3, h4, h5, h6⟩ := A1.steps h1 r1
      refine ⟨p, dx, _, rfl, h3, ?_, hr B P fps Γ1 σ H1 _ _ A1 w1 fun vs rs gs Γ2 H2 A2 p2 r2 w2 => ?_⟩
      · rw [List.lookup_cons]
        have : (m == ("rows" : Str)) = false := by
          rw [Bool.eq_false_iff] at hm ⊢
          intro e
          exact hm (by rw [eq_of_beq e]; exact beq_self_eq_true _)
        rw [this]; rfl
      · obtain ⟨g, q⟩ := RAf.of r1
        refine k _ (.sl i :: rs) (g :: gs) Γ2 H2 A2 (p1.trans p2) (.cons (q.step A.dom' A1 p2 A2) (r2.back (A.freeBack A1 p1)) fun a ha z => ?_) w2
        obtain ⟨o, ho, _⟩ := q.dom a ha
        rw [r2.new a z] at ho
        cases ho
    · exact w1.elim
section
variable {X : Cx} {np k : Nat} {C : Addr} {x m : Str} {ps : List Str} {gs : GSp} {o e : Expr} {es : List Expr} {to te : TE} {wo we : WE} {ta : TA} {wa : WA} {p pos apos : Pos}
theorem g_meth {pl : Sem Bool} (hc : ClsS X.K C) (F : Mth X.prog X.w X.K X.mg X.base k C m ps gs) (hr : Room k X.A) (ho : GE X np o to wo) (ha : GA X np (e :: es) ta wa) (hm : ((("rows" : Str) == m) = false) := by decide)
    (hst : starEach (e :: es) X.env = (false, eval e X.env) :: starEach es X.env := by rfl) (hpl : (backTo pos (starEach es X.env)).any (·.1) = false := by rfl)
    (ht : eval (.Call (.Attribute o m apos) (e :: es) [] pos) X.env = (do
      let ov ← eval o X.env
      standAt apos.atName
      let (f, first) ← holding [ov] (getMethod ov m pl)
      callWith pos f first (backTo pos (starEach (e :: es) X.env)) (backToKw pos (keywordEach [] X.env))) := by rfl) :
    GE X np (.Call (.Attribute o m apos) (e :: es) [] pos) (tMeth C m (toSp X.K gs) [] E0 to ta) (wCall gs (wCons1 C wo wa)) := by
  obtain ⟨f, fd, hm', hb, ok⟩ := F.ex
  exact ⟨pe_meth ho.pe hc.cls hm' ok hr hb .nil pass0 ha.pa hst hpl ht, fun B P fps Γ σ H Q Z A w k' => by
    have := sd_call (gs := gs) (sd_cons1 (C := C) (m := m) hm ho.sd ha.sd) B P fps Γ σ H Q Z A w k'
    exact this⟩
/-! its rows -/
def wLenR (C : Addr) (wo : WE) : WE := fun Γ Z => wo Γ fun r Γ1 => match r with
  | .sl i => ∃ rows, Γ1[i]? = some (.ce (.steps C rows)) ∧ Z (.im (.int rows.length)) Γ1
  | _ => False
def wTupR (C : Addr) (wo : WE) : WE := fun Γ Z => wo Γ fun r Γ1 => match r with
  | .sl i => ∃ rows, Γ1[i]? = some (.ce (.steps C rows)) ∧ Z (.im (.tup rows)) Γ1
  | _ => False
theorem sd_rows {K : PySem.W.Frag} (hc : ClsS K C) (ho : SndE K np to wo) {B : Hp} {P : List (V × List Addr)} {fps : Fps} {Γ : Gm} {σ : L2.St} {H : Hp} {T : VK} {Z : Nat → List D → Gm → Prop} (A : At K np B P fps Γ σ H)
    (w : wo Γ fun r Γ1 => match r with
      | .sl i => ∃ rows, Γ1[i]? = some (.ce (.steps C rows)) ∧ Z i rows Γ1
      | _ => False)
    (k : ∀ i rows p dx l xs Γ' H', At K np B P fps Γ' σ H' → Pv fps H H' → Γ'[i]? = some (.ce (.steps C rows)) → fps[i]? = some [p, dx, l] → σ[i]? = some (some (.ref p)) → p ≠ dx → p ≠ l → dx ≠ l → H' p = some (.ins C dx [(("rows" : Str), .ref l)]) → H' dx = some (.own p) → H' l = some (.lst xs) → IsA K H' xs rows → Z i rows Γ' → T (.ref l) H') : tFld K to "rows" σ H T :=
  ho B P fps Γ σ H _ _ A w fun v r Γ1 H1 A1 p1 r1 w1 => by
    split at w1
    · rename_i i
      obtain ⟨rows, h1, w1⟩ := w1
      obtain ⟨p, dx, l, xs, rfl, h2, n1, n2, n3, h3, h4, h5, h6⟩ := A1.steps h1 r1
      exact ⟨p, C, dx, _, .ref l, rfl, h3, hc.cls, hc.no, rfl, k i rows p dx l xs Γ1 H1 A1 p1 h1 h2 r1.1 n1 n2 n3 h3 h4 h5 h6 w1⟩
    · exact w1.elim
theorem g_lenR {p2 : Pos} (hc : ClsS X.K C) (ho : GE X np o to wo) (hg : Gl X "len") (hm : X.mg "len" = none) (hb : attributeBase o "rows" X.env (eval o X.env) = eval o X.env := by rfl) (hs : starEach [.Attribute o "rows" p2] X.env = (false, eval (.Attribute o "rows" p2) X.env) :: starEach [] X.env := by rfl) :
    GE X np (.Call (.Name "len" p) [.Attribute o "rows" p2] [] pos) (tCB (rLen X.K) (tCons (tFld X.K to "rows") tNil)) (wLenR C wo) :=
  ⟨pe_callB cl_len hg hm boot_len (pa_cons (pe_fld ho.pe hb) pa_nil hs) (by decide) (by decide) hs (by rfl), fun B P fps Γ σ H Q Z A w k => sd_rows (Z := fun i rows Γ1 => Z (.im (.int rows.length)) Γ1) hc ho.sd A w fun i rows p dx l xs Γ1 H1 A1 p1 h1 h2 hs n1 n2 n3 h3 h4 h5 h6 w1 => by
    refine .inl ⟨l, xs, rfl, .inl (.of h5), ?_⟩
    rw [h6.length]
    exact k _ (.im _) Γ1 H1 A1 p1 (.int _) w1⟩
theorem g_tupR {p2 : Pos} (hc : ClsS X.K C) (ho : GE X np o to wo) (hg : Gl X "tuple") (hm : X.mg "tuple" = none) (hb : attributeBase o "rows" X.env (eval o X.env) = eval o X.env := by rfl) (hs : starEach [.Attribute o "rows" p2] X.env = (false, eval (.Attribute o "rows" p2) X.env) :: starEach [] X.env := by rfl) :
    GE X np (.Call (.Name "tuple" p) [.Attribute o "rows" p2] [] pos) (tCB (rTuple X.K) (tCons (tFld X.K to "rows") tNil)) (wTupR C wo) :=
  ⟨pe_callTy call_tuple_of hg hm boot_tuple (pa_cons (pe_fld ho.pe hb) pa_nil hs) (by decide) (by decide) hs (by rfl), fun B P fps Γ σ H Q Z A w k => sd_rows (Z := fun i rows Γ1 => Z (.im (.tup rows)) Γ1) hc ho.sd A w fun i rows p dx l xs Γ1 H1 A1 p1 h1 h2 hs n1 n2 n3 h3 h4 h5 h6 w1 => by
    exact ⟨l, xs, rfl, .inl ⟨.of h5, fun q hq => k _ (.im _) Γ1 _ (A1.ex (Ex.new hq)) (p1.trans (Pv.of_ex (Ex.new hq))) (.tup upd_same (h6.tx (Ex.new hq).tx)) w1⟩⟩⟩
/-- o.rows.append(e), e is data that change nothing -/
def wAppR (C : Addr) (wo we : WE) : WE := fun Γ Z => wo Γ fun r Γ1 => match r with
  | .sl i => ∃ rows, Γ1[i]? = some (.ce (.steps C rows)) ∧ we Γ1 fun y Γ2 => match y with
    | .im d => Γ2 = Γ1 ∧ rows.length < 1000 ∧ Z (.im .non) (Γ2.set i (.ce (.steps C (rows ++ [d]))))
    | _ => False
  | _ => False
theorem g_appR {p2 : Pos} (hc : ClsS X.K C) (ho : GE X np o to wo) (he : GE X np e te we) (hb : PE X (.Call (.Attribute (.Attribute o "rows" p2) "append" apos) [e] [] pos) (tBM X.K "list" rAppend (tFld X.K to "rows") (tCons te tNil))) :
    GE X np (.Call (.Attribute (.Attribute o "rows" p2) "append" apos) [e] [] pos) (tBM X.K "list" rAppend (tFld X.K to "rows") (tCons te tNil)) (wAppR C wo we) :=
  ⟨hb, fun B P fps Γ σ H Q Z A w k => sd_rows (Z := fun i rows Γ1 => we Γ1 fun y Γ2 => match y with
    | .im d => Γ2 = Γ1 ∧ rows.length < 1000 ∧ Z (.im .non) (Γ2.set i (.ce (.steps C (rows ++ [d]))))
    | _ => False) hc ho.sd A w fun i rows p dx l xs Γ1 H1 A1 p1 h1 h2 hs n1 n2 n3 h3 h4 h5 h6 w1 => by
    refine ⟨.inl ⟨rfl, _, .inl (.inl h5)⟩, he.sd B P fps Γ1 σ H1 _ _ A1 w1 fun u y Γ2 H2 A2 p2 r2 w2 => ?_⟩
    split at w2
    · rename_i d
      obtain ⟨e1, e2, e3⟩ := w2
      subst e1
      obtain ⟨p', dx', l', xs', ev, h2', n1', n2', n3', h3', h4', h5', h6'⟩ := A2.steps (H0 := H) h1 ⟨hs, _, h1⟩
      cases ev
      rw [h2] at h2'
      cases h2'
      have tx : Tx H2 (upd H2 l (.lst (xs' ++ [u]))) := tx_upd h5' (fun z => z)
      obtain ⟨A3, p3⟩ := A2.put (H' := upd H2 l (.lst (xs' ++ [u]))) h1 hs h2 (c' := .steps C (rows ++ [d])) ⟨dx, l, xs' ++ [u], rfl, n1, n2, n3, by rw [upd_ne n2]; exact h3', by rw [upd_ne n3]; exact h4', upd_same, (h6'.append (.one r2)).tx tx⟩ fun a o n q => by
        rw [upd_ne (fun z => n (by simp [z]))]; exact q
      exact ⟨l, xs', u, rfl, rfl, h5', by rw [h6'.length]; exact small1000 (Nat.le_of_lt e2), k .non (.im .non) _ _ A3 (p1.trans (p2.trans p3)) .non e3⟩
    · exact w2.elim⟩
/-! a new instance -/
def spInit (C : Addr) : Sp := fun vs H Q _ => ∃ x dx, vs = [.ref x] ∧ H x = some (.ins C dx []) ∧ ∀ l, H l = none → Q .non (upd (upd H l (.lst [])) x (.ins C dx [(("rows" : Str), .ref l)]))
structure Mkr (P : Program) (w : World) (K : PySem.W.Frag) (mg : Str → Option Value) (base : Heap) (k : Nat) (C : Addr) : Prop where
  ex : ∃ f fd, Mk K C f ∧ Binds K fd ["self"] [] ∧ FnOk P w K mg base CX0 k f fd ["self"] (spInit C)
def wMk (C : Addr) : WE := fun Γ Z => Z (.tm (.steps C [])) Γ
theorem g_mk (M : Mkr X.prog X.w X.K X.mg X.base k C) (hr : Room (k + 1) X.A) (hg : Gl X x) (hm : X.mg x = some (.ref C)) (hdb : (x == ("__debug__" : Str)) = false := by decide) : GE X np (.Call (.Name x p) [] [] pos) (tMake C (spInit C) [] E0 tNil) (wMk C) := by
  obtain ⟨f, fd, hk, hb, ok⟩ := M.ex
  refine ⟨pe_make0 hk ok hr hg hm hb .nil pass0 hdb, fun B P fps Γ σ H Q Z A w kk x dx hx hd hne => ?_⟩
  refine ⟨x, dx, rfl, upd_same, fun l hl => ⟨rfl, ?_⟩⟩
  have lx : l ≠ x := fun e => by subst e; rw [upd_same] at hl; cases hl
  have hl1 : upd H dx (.own x) l = none := by rw [upd_ne lx] at hl; exact hl
  have ld : l ≠ dx := fun e => by subst e; rw [upd_same] at hl1; cases hl1
  have hl0 : H l = none := by rw [upd_ne ld] at hl1; exact hl1
  have ex : Ex H (upd (upd (upd (upd H dx (.own x)) x (.ins C dx [])) l (.lst [])) x (.ins C dx [(("rows" : Str), .ref l)])) := fun a o q => by
    rw [upd_ne (fun e => by subst e; rw [hx] at q; cases q), upd_ne (fun e => by subst e; rw [hl0] at q; cases q), upd_ne (fun e => by subst e; rw [hx] at q; cases q), upd_ne (fun e => by subst e; rw [hd] at q; cases q)]
    exact q
  refine kk _ (.tm (.steps C [])) Γ _ (A.ex ex) (Pv.of_ex ex) ⟨x, [x, dx, l], rfl, ⟨dx, l, [], rfl, fun e => hne e.symm, fun e => lx e.symm, fun e => ld e.symm, upd_same, ?_, ?_, .nil⟩, fun a ha => ?_⟩ w
  · rw [upd_ne hne, upd_ne (fun e => ld e.symm), upd_ne hne, upd_same]
  · rw [upd_ne lx, upd_same]
  · simp at ha
    rcases ha with rfl | rfl | rfl
    · exact hx
    · exact hd
    · exact hl0
end

/-! ### stores of many -/
theorem At.store' {K : PySem.W.Frag} {np : Nat} {P : List (V × List Addr)} {B : Hp} {fps : Fps} {Γ : Gm} {σ : L2.St} {H H0 : Hp} {i : Nat} {v : V} {r : R} {g : List Addr} {z : Gm → Prop} (A : At K np B P fps Γ σ H) (hi : np ≤ i) (h : RAf K Γ σ H0 H v g r)
    (hf : ∀ a ∈ g, ¬ In fps a) (hb : ∀ a, H0 a = none → B a = none) (w : stZ i r z Γ) : ∃ s, At K np B P (fps.set i g) (Γ.set i s) (σ.set i (some v)) H ∧ z (Γ.set i s) := by
  cases r with
  | im d =>
    obtain ⟨rfl, is⟩ := h
    exact ⟨.im d, A.set hi ⟨rfl, v, rfl, is⟩ (fun a ha => nomatch ha), w⟩
  | tm c =>
    obtain ⟨p, rfl, e1, e2⟩ := h
    exact ⟨.ce c, A.set hi ⟨p, rfl, e1⟩ (fun a ha => ⟨hf a ha, hb a (e2 a ha)⟩), w⟩
  | sl j => exact w.elim
theorem in_set {fps : Fps} {i : Nat} {g : List Addr} {a : Addr} (h : In (fps.set i g) a) : In fps a ∨ a ∈ g := by
  obtain ⟨m, f, e1, e2⟩ := h
  by_cases hm : i = m
  · subst hm
    have hl : i < fps.length := by
      have := (List.getElem?_eq_some_iff.mp e1).1
      simpa using this
    rw [List.getElem?_set_self hl] at e1; cases e1
    exact .inr e2
  · rw [List.getElem?_set_ne hm] at e1
    exact .inl ⟨m, f, e1, e2⟩
theorem stz_raf {K : PySem.W.Frag} {Γ Γ' : Gm} {σ σ' : L2.St} {H0 H : Hp} {i : Nat} {v : V} {r : R} {g : List Addr} {z : Gm → Prop} {Γ2 : Gm} (h : RAf K Γ σ H0 H v g r) (w : stZ i r z Γ2) : RAf K Γ' σ' H0 H v g r := by
  cases r with
  | im d => exact h
  | tm c => exact h
  | sl m => exact w.elim
theorem sd_three_store {K : PySem.W.Frag} {np : Nat} {i j l : Nat} {B : Hp} {P : List (V × List Addr)} {fps : Fps} {Γ Γ1 : Gm} {σ : L2.St} {H H1 : Hp} {v u t : V} {r q s : R} {gs : Fps} {z : Gm → Prop} (hi : np ≤ i) (hj : np ≤ j) (hl : np ≤ l) (A : At K np B P fps Γ σ H) (A1 : At K np B P fps Γ1 σ H1)
    (h : RA K Γ1 σ H H1 [v, u, t] [r, q, s] gs) (w : stZ i r (stZ j q (stZ l s z)) Γ1) : ∃ fps' Γ', At K np B P fps' Γ' (((σ.set i (some v)).set j (some u)).set l (some t)) H1 ∧ Nw fps fps' H ∧ z Γ' := by
  have new : ∀ a, In fps a → ∀ g : List Addr, (∀ a ∈ g, H a = none) → a ∈ g → False := fun a ha g hg m => by
    obtain ⟨o, ho⟩ := A.dom' a ha
    rw [hg a m] at ho; cases ho
  cases h with
  | @cons _ _ _ _ g1 gs1 a1 t1 n1 =>
    cases t1 with
    | @cons _ _ _ _ g2 gs2 a2 t2 n2 =>
      cases t2 with
      | @cons _ _ _ _ g3 gs3 a3 t3 n3 =>
        cases t3
        obtain ⟨s1, A2, z1⟩ := A1.store' hi a1 (fun a ha z => new a z g1 a1.new ha) (fun a => A.bnone) w
        obtain ⟨s2, A3, z2⟩ := A2.store' hj (stz_raf a2 z1) (fun a ha z => by
          rcases in_set z with z | z
          · exact new a z g2 a2.new ha
          · exact n1 a z ⟨0, g2, rfl, ha⟩) (fun a => A.bnone) z1
        obtain ⟨s3, A4, z3⟩ := A3.store' hl (stz_raf a3 z2) (fun a ha z => by
          rcases in_set z with z | z
          · rcases in_set z with z | z
            · exact new a z g3 a3.new ha
            · exact n1 a z ⟨1, g3, rfl, ha⟩
          · exact n2 a z ⟨0, g3, rfl, ha⟩) (fun a => A.bnone) z2
        refine ⟨_, _, A4, fun a ha => ?_, z3⟩
        rcases in_set ha with ha | ha
        · rcases in_set ha with ha | ha
          · rcases in_set ha with ha | ha
            · exact .inl ha
            · exact .inr (a1.new a ha)
          · exact .inr (a2.new a ha)
        · exact .inr (a3.new a ha)
def wPar3 (i j l : Nat) (wa : WA) : WS := fun Z Γ => wa Γ fun rs Γ1 => match rs with
  | [r, q, s] => stZ i r (stZ j q (stZ l s Z.nx)) Γ1
  | _ => False
section
variable {X : Cx} {np : Nat} {pos : Pos} {a b c e : Expr} {te : TE} {we : WE} {ta : TA} {wa : WA}
theorem gs_par3 {i j l : Nat} {x y z : Str} {px py pz pt : Pos} {kt k2 : Nat} {pt2 : Pos} (hc : X.calm = true) (hN : X.N.Nodup) (hi : X.N[i]? = some x) (hj : X.N[j]? = some y) (hl : X.N[l]? = some z) (hij : i ≠ j) (hil : i ≠ l) (hjl : j ≠ l)
    (hx : X.env.scope.names.lookup x = some .local) (hy : X.env.scope.names.lookup y = some .local) (hz : X.env.scope.names.lookup z = some .local) (ha : GA X np [a, b, c] ta wa)
    (hw : swappedStores [.Tuple [.Name x px, .Name y py, .Name z pz] kt pt] (.Tuple [a, b, c] k2 pt2) X.env = pure (some [x, y, z])) (hpi : np ≤ i := by decide) (hpj : np ≤ j := by decide) (hpl : np ≤ l := by decide)
    (hs : swapsWithSole [.Tuple [.Name x px, .Name y py, .Name z pz] kt pt] (.Tuple [a, b, c] k2 pt2) pos.line X.env = pure false := by rfl) : GS X np (.Assign [.Tuple [.Name x px, .Name y py, .Name z pz] kt pt] (.Tuple [a, b, c] k2 pt2) pos) (tPar3 i j l ta) (wPar3 i j l wa) :=
  ⟨ps_par3 hc hN hi hj hl hij hil hjl hx hy hz ha.pa hw hs, fun B P fps Γ σ H D Z A w L => ha.sd B P fps Γ σ H _ _ A w fun vs rs gs Γ1 H1 A1 p1 r1 w1 => by
    have hl := r1.len
    split at w1
    · rename_i r q s
      match vs, hl with
      | [v, u, t], _ =>
        obtain ⟨f, Γ', A2, n, z⟩ := sd_three_store hpi hpj hpl A A1 r1 w1
        exact ⟨v, u, t, rfl, L.nx _ _ _ _ A2 p1 n z⟩
    · exact w1.elim⟩
/-- the same where a name is captured: by a new tuple -/
theorem gs_par3C {i j l : Nat} {x y z : Str} {px py pz pt : Pos} {kt k2 : Nat} {pt2 : Pos} (hc : X.calm = true) (hN : X.N.Nodup) (hi : X.N[i]? = some x) (hj : X.N[j]? = some y) (hl : X.N[l]? = some z) (hx : Loc X.env.scope x) (hy : Loc X.env.scope y) (hz : Loc X.env.scope z)
    (ha : GA X np [a, b, c] ta wa) (hpi : np ≤ i := by decide) (hpj : np ≤ j := by decide) (hpl : np ≤ l := by decide) (hfx : X.fn x = true ∨ X.env.scope.names.lookup x = some .local := by first | exact .inl rfl | exact .inr rfl) (hfy : X.fn y = true ∨ X.env.scope.names.lookup y = some .local := by first | exact .inl rfl | exact .inr rfl) (hfz : X.fn z = true ∨ X.env.scope.names.lookup z = some .local := by first | exact .inl rfl | exact .inr rfl)
    (h2 : (assignEach [.Name x px, .Name y py, .Name z pz] X.env).length = 3 := by rfl) (h3 : (assignEach [.Name x px, .Name y py, .Name z pz] X.env).findIdx? (·.1) = none := by rfl)
    (h4 : (assignEach [.Name x px, .Name y py, .Name z pz] X.env).map (·.2) = assign (.Name x px) X.env :: (assignEach [.Name y py, .Name z pz] X.env).map (·.2) := by rfl) (h5 : (assignEach [.Name y py, .Name z pz] X.env).map (·.2) = assign (.Name y py) X.env :: (assignEach [.Name z pz] X.env).map (·.2) := by rfl)
    (h6 : (assignEach [.Name z pz] X.env).map (·.2) = assign (.Name z pz) X.env :: (assignEach [] X.env).map (·.2) := by rfl)
    (hs : swapsWithSole [.Tuple [.Name x px, .Name y py, .Name z pz] kt pt] (.Tuple [a, b, c] k2 pt2) pos.line X.env = pure false := by rfl) (hw : swappedStores [.Tuple [.Name x px, .Name y py, .Name z pz] kt pt] (.Tuple [a, b, c] k2 pt2) X.env = pure none := by rfl)
    (h1 : (assignEach [.Tuple [.Name x px, .Name y py, .Name z pz] kt pt] X.env).map (·.2) = [assign (.Tuple [.Name x px, .Name y py, .Name z pz] kt pt) X.env] := by rfl) :
    GS X np (.Assign [.Tuple [.Name x px, .Name y py, .Name z pz] kt pt] (.Tuple [a, b, c] k2 pt2) pos) (tAsg (tTup ta) (gTup X.K 3 (gCons (gName i) (gCons (gName j) (gCons (gName l) gNil))))) (wPar3 i j l wa) :=
  ⟨ps_asg (pe_tup ha.pa) (pg_tup hc (pgs_cons (pg_name hN hi hx hfx) (pgs_cons (pg_name hN hj hy hfy) (pgs_cons (pg_name hN hl hz hfz) pgs_nil h6) h5) h4) h2 h3) hs hw h1, fun B P fps Γ σ H D Z A w L => ha.sd B P fps Γ σ H _ _ A w fun vs rs gs Γ1 H1 A1 p1 r1 w1 => by
    have hl := r1.len
    split at w1
    · rename_i r q s
      match vs, hl with
      | [v, u, t], _ =>
        obtain ⟨f, Γ', A2, n, z⟩ := sd_three_store hpi hpj hpl A A1 r1 w1
        refine ⟨by show 3 ≤ sizeLine; decide, fun p hp => ⟨p, [v, u, t], rfl, .of upd_same, rfl, v, [u, t], rfl, u, [t], rfl, t, [], rfl, rfl, ?_⟩⟩
        exact L.nx _ _ _ _ (A2.ex (Ex.new hp)) (p1.trans (Pv.of_ex (Ex.new hp))) n z
    · exact w1.elim⟩
/-- a, b = a list of two -/
def wUnl2 (i j : Nat) (we : WE) : WS := fun Z Γ => we Γ fun r Γ1 => ∃ d e, lsOf Γ1 r = some [d, e] ∧ Z.nx ((Γ1.set i (.im d)).set j (.im e))
theorem gs_unl2 {i j : Nat} {x y : Str} {px py pt : Pos} {kt : Nat} (hc : X.calm = true) (hN : X.N.Nodup) (hi : X.N[i]? = some x) (hj : X.N[j]? = some y) (hx : Loc X.env.scope x) (hy : Loc X.env.scope y) (he : GE X np e te we) (hpi : np ≤ i := by decide) (hpj : np ≤ j := by decide)
    (hfx : X.fn x = true ∨ X.env.scope.names.lookup x = some .local := by first | exact .inl rfl | exact .inr rfl) (hfy : X.fn y = true ∨ X.env.scope.names.lookup y = some .local := by first | exact .inl rfl | exact .inr rfl)
    (h2 : (assignEach [.Name x px, .Name y py] X.env).length = 2 := by rfl) (h3 : (assignEach [.Name x px, .Name y py] X.env).findIdx? (·.1) = none := by rfl)
    (h4 : (assignEach [.Name x px, .Name y py] X.env).map (·.2) = assign (.Name x px) X.env :: (assignEach [.Name y py] X.env).map (·.2) := by rfl) (h5 : (assignEach [.Name y py] X.env).map (·.2) = assign (.Name y py) X.env :: (assignEach [] X.env).map (·.2) := by rfl)
    (hs : swapsWithSole [.Tuple [.Name x px, .Name y py] kt pt] e pos.line X.env = pure false := by rfl) (hw : swappedStores [.Tuple [.Name x px, .Name y py] kt pt] e X.env = pure none := by rfl)
    (h1 : (assignEach [.Tuple [.Name x px, .Name y py] kt pt] X.env).map (·.2) = [assign (.Tuple [.Name x px, .Name y py] kt pt) X.env] := by rfl) :
    GS X np (.Assign [.Tuple [.Name x px, .Name y py] kt pt] e pos) (tAsg te (gUnl X.K 2 (gCons (gName i) (gCons (gName j) gNil)))) (wUnl2 i j we) :=
  ⟨ps_asg he.pe (pg_unl hc (pgs_cons (pg_name hN hi hx hfx) (pgs_cons (pg_name hN hj hy hfy) pgs_nil h5) h4) h2 h3) hs hw h1, fun B P fps Γ σ H D Z A w L => he.sd B P fps Γ σ H _ _ A w fun v r Γ1 H1 A1 p1 r1 w1 => by
    obtain ⟨d, f, h1, h2⟩ := w1
    obtain ⟨q, xs, rfl, h3, h4⟩ := r1.ls A1 h1
    cases h4 with
    | cons a1 t1 =>
      cases t1 with
      | cons a2 t2 =>
        cases t2
        refine ⟨q, _, rfl, .of h3, rfl, _, _, rfl, _, _, rfl, rfl, ?_⟩
        have A2 := A1.set hpi (s := .im d) (f := []) ⟨rfl, _, rfl, a1⟩ (fun a ha => nomatch ha)
        have A3 := A2.set hpj (s := .im f) (f := []) ⟨rfl, _, rfl, a2⟩ (fun a ha => nomatch ha)
        refine L.nx _ _ _ _ A3 p1 (fun a ha => ?_) h2
        rcases in_set ha with ha | ha
        · rcases in_set ha with ha | ha
          · exact .inl ha
          · cases ha
        · cases ha⟩
end
end G
set_option maxRecDepth 100000
set_option maxHeartbeats 4000000
/-! G13: forms with all they ask filled in. -/
namespace G
open PySem PySem.Spec PyProof.Rows L2
def gNeg : D → (D → Prop) → Prop
  | .int i, Z => Z (.int (-i))
  | _, _ => False
theorem ug_neg {K : PySem.W.Frag} : UG K (rU fun i => .int (-i)) gNeg := fun H x d Z Q hx g k => by
  cases d with
  | int i => rw [hx.inv_int]; exact ⟨i, rfl, k _ _ H (Ex.refl H) (.int _) g⟩
  | _ => exact g.elim
section
variable {X : Cx} {np : Nat} {pos : Pos} {a b c e o : Expr} {ta te to : TE} {wa we wo : WE} {tl : TA} {wl : WA} {p apos p2 : Pos} {C : Addr}
theorem g_neg (ha : GE X np a ta wa) : GE X np (.UnaryOp .USub a pos) (tUn (rU fun i => .int (-i)) ta) (wUn gNeg wa) := ⟨pe_un un_neg ha.pe, sd_un ug_neg ha.sd⟩
theorem g_appL (ho : GE X np o to wo) (he : GE X np e te we)
    (hbase : attributeBase o "append" X.env (eval o X.env) = eval o X.env := by rfl)
    (hfew : ((backTo pos (starEach [e] X.env)).all (fun x => !x.1) && (backToKw pos (keywordEach [] X.env)).all (fun x => x.1.isSome)
      && decide (([e] : List Expr).length + ([] : List Keyword).length + (if ([] : List Keyword).isEmpty then 0 else 1) < 30)) = true := by rfl)
    (hline : (apos.endLine == pos.line) = true := by rfl) (hs : starEach [e] X.env = (false, eval e X.env) :: starEach [] X.env := by rfl) (hplain : (backTo pos (starEach [] X.env)).any (·.1) = false := by rfl) :
    GE X np (.Call (.Attribute o "append" apos) [e] [] pos) (tBM X.K "list" rAppend to (tCons te tNil)) (wApp wo we) :=
  g_app ho he (pe_bm F.plainAttrs_list F.slot_list_append F.type_list_append mt_append ho.pe (pa_cons he.pe pa_nil hs) hbase hfew hline hs hplain)
theorem g_appRL (hc : ClsS X.K C) (ho : GE X np o to wo) (he : GE X np e te we) (hb0 : attributeBase o "rows" X.env (eval o X.env) = eval o X.env := by rfl)
    (hbase : attributeBase (.Attribute o "rows" p2) "append" X.env (eval (.Attribute o "rows" p2) X.env) = eval (.Attribute o "rows" p2) X.env := by rfl)
    (hfew : ((backTo pos (starEach [e] X.env)).all (fun x => !x.1) && (backToKw pos (keywordEach [] X.env)).all (fun x => x.1.isSome)
      && decide (([e] : List Expr).length + ([] : List Keyword).length + (if ([] : List Keyword).isEmpty then 0 else 1) < 30)) = true := by rfl)
    (hline : (apos.endLine == pos.line) = true := by rfl) (hs : starEach [e] X.env = (false, eval e X.env) :: starEach [] X.env := by rfl) (hplain : (backTo pos (starEach [] X.env)).any (·.1) = false := by rfl) :
    GE X np (.Call (.Attribute (.Attribute o "rows" p2) "append" apos) [e] [] pos) (tBM X.K "list" rAppend (tFld X.K to "rows") (tCons te tNil)) (wAppR C wo we) :=
  g_appR hc ho he (pe_bm F.plainAttrs_list F.slot_list_append F.type_list_append mt_append (pe_fld ho.pe hb0) (pa_cons he.pe pa_nil hs) hbase hfew hline hs hplain)
theorem gi_downL {tg : Expr} (hg : Gl X "range") (hm : X.mg "range" = none) (ha : GA X np [a, b, c] tl wl)
    (hs : starEach [a, b, c] X.env = (false, eval a X.env) :: starEach [b, c] X.env := by rfl) (hpl : (backTo pos (starEach [b, c] X.env)).any (·.1) = false := by rfl) : GI X np tg (.Call (.Name "range" p) [a, b, c] [] pos) (iRng3 tl) (wiDown wl) :=
  gi_down hg hm ha (pi_range3 hg hm ha.pa hs hpl)
theorem gt_lele {tb tc : TE} {wb wc : WE} (ha : GE X np a ta wa) (hb : GE X np b tb wb) (hc : GE X np c tc wc) (hm : lastMarks [.LtE, .LtE] [b, c] = false := by with_unfolding_all rfl) : GT X np (.Compare a [.LtE, .LtE] [b, c] pos) (tTest (tChain rLe rLe ta tb tc)) (wTest (wLeLe wa wb wc)) :=
  ⟨pt_chain op_le op_le ha.pe hb.pe hc.pe hm, sd_test (g_lele (pos := pos) ha hb hc hm).sd⟩
end
theorem lookup_relabel {env : Env} {x : Str} : ∀ {names : List (Str × NameKind)}, names.lookup x = some .cell ∨ names.lookup x = some .free →
    (names.map fun (n, k) => if (k == NameKind.free && env.scope.kind == .function && env.kindOf n == some .cell) then (n, NameKind.cell) else (n, k)).lookup x = some .cell ∨ (names.map fun (n, k) => if (k == NameKind.free && env.scope.kind == .function && env.kindOf n == some .cell) then (n, NameKind.cell) else (n, k)).lookup x = some .free
  | [], h => by simp at h
  | (n, k) :: r, h => by
    rw [List.map_cons]
    by_cases e : x = n
    · subst e
      have hk : k = .cell ∨ k = .free := by simpa [List.lookup_cons] using h
      dsimp only
      split
      · left; simp [List.lookup_cons]
      · simpa [List.lookup_cons] using hk
    · have e' : (x == n) = false := beq_eq_false_iff_ne.mpr e
      have h' : r.lookup x = some .cell ∨ r.lookup x = some .free := by simpa [List.lookup_cons, e'] using h
      have ih := lookup_relabel (env := env) h'
      dsimp only
      split
      · simpa [List.lookup_cons, e'] using ih
      · simpa [List.lookup_cons, e'] using ih
theorem BlkOk.nest {N : List Str} {sc scope : Scope} {own : List (Str × Nat)} {env : Env} (h : BlkOk N sc scope own) : BlkOk N (relabel sc env) scope own :=
  ⟨h.kind, h.uniq, h.ix, fun y hy e => lookup_relabel (h.free y hy e), h.own⟩
end G
set_option maxRecDepth 100000
set_option maxHeartbeats 4000000
/-! M0: the text's top. -/
namespace G
open PySem PySem.Spec PyProof.Rows L2
def signD : List D := [.str "+", .str "-", .str "*"]
structure Top (K : PySem.W.Frag) (mg : Str → Option Value) (C : Addr) : Prop where
  len : mg "len" = none
  max : mg "max" = none
  min : mg "min" = none
  sum : mg "sum" = none
  all : mg "all" = none
  tuple : mg "tuple" = none
  list : mg "list" = none
  dict : mg "dict" = none
  sorted : mg "sorted" = none
  int : mg "int" = none
  abs : mg "abs" = none
  str : mg "str" = none
  bool : mg "bool" = none
  isinstance : mg "isinstance" = none
  range : mg "range" = none
  zip : mg "zip" = none
  enumerate : mg "enumerate" = none
  MAX_WIDE : ∃ t, mg "MAX_WIDE" = some (.int 20 t)
  MAX_LONG : ∃ t, mg "MAX_LONG" = some (.int 400 t)
  MAX_SIZE : ∃ t, mg "MAX_SIZE" = some (.int 64 t)
  MAX_TERMS : ∃ t, mg "MAX_TERMS" = some (.int 200 t)
  MAX_NUMBER : ∃ t, mg "MAX_NUMBER" = some (.int 100000000000000000000 t)
  FIGURES : ∃ t, mg "FIGURES" = some (.str "0123456789" t)
  sgn : ∃ q, mg "SIGNS" = some (.ref q) ∧ ∀ H, SqT K H q (signD.map vD)
  Steps : mg "Steps" = some (.ref C)
  cls : ClsS K C
theorem boot_max : bootBuiltins "max" = some (.builtin "max") := by decide +kernel
theorem boot_min : bootBuiltins "min" = some (.builtin "min") := by decide +kernel
theorem boot_sum : bootBuiltins "sum" = some (.builtin "sum") := by decide +kernel
theorem boot_all : bootBuiltins "all" = some (.builtin "all") := by decide +kernel
theorem boot_sorted : bootBuiltins "sorted" = some (.builtin "sorted") := by decide +kernel
theorem boot_abs : bootBuiltins "abs" = some (.builtin "abs") := by decide +kernel
end G
set_option maxRecDepth 100000
set_option maxHeartbeats 4000000
/-! M1: rows as data, runs. -/
namespace G
open PySem PySem.Spec PyProof.Rows L2

inductive Op3 where
  | add | sub | mul
deriving DecidableEq
inductive Stp where
  | inp (i : Nat) | set (c : Int) | neg (a : Nat) | bin (o : Op3) (a b : Nat)
deriving DecidableEq
structure Rw where
  n : Nat
  st : List Stp
  en : List Nat
def opS : Op3 → Str
  | .add => "+"
  | .sub => "-"
  | .mul => "*"
def nD (i : Nat) : D := .int (i : Int)
def sD : Stp → D
  | .inp i => .tup [.str "in", .int (i : Int)]
  | .set c => .tup [.str "set", .int c]
  | .neg a => .tup [.str "neg", .int (a : Int)]
  | .bin o a b => .tup [.str (opS o), .int (a : Int), .int (b : Int)]
def nsD (l : List Nat) : D := .tup (l.map nD)
def isD (l : List Int) : D := .tup (l.map .int)
def rD (r : Rw) : D := .tup [.int (r.n : Int), .tup (r.st.map sD), nsD r.en]

/-! ### runs -/
theorem snocInd {α : Type} {p : List α → Prop} (h0 : p []) (h1 : ∀ l s, p l → p (l ++ [s])) (l : List α) : p l := by
  have : ∀ m : List α, p m.reverse := fun m => by
    induction m with
    | nil => exact h0
    | cons a m ih => rw [List.reverse_cons]; exact h1 _ _ ih
  have e := this l.reverse
  rwa [List.reverse_reverse] at e
structure Alg (α : Type) where
  inp : Nat → α
  set : Int → α
  neg : α → α
  bin : Op3 → α → α → α
section
variable {α β : Type} (A : Alg α) (z : α)
/-- a step over what stands at the places -/
def Alg.stp (v : Nat → α) : Stp → α
  | .inp i => A.inp i
  | .set c => A.set c
  | .neg a => A.neg (v a)
  | .bin o a b => A.bin o (v a) (v b)
def pl (v : List α) (i : Nat) : α := v.getD i z
def Alg.run (l : List Stp) : List α := l.foldl (fun v s => v ++ [A.stp (pl z v) s]) []
def Alg.tr (l : List Stp) : Nat → α := pl z (A.run z l)
/-- refs of a step -/
def refs : Stp → List Nat
  | .inp _ => []
  | .set _ => []
  | .neg a => [a]
  | .bin _ a b => [a, b]
/-- every step leans on steps ahead of it -/
def Wf (l : List Stp) : Prop := ∀ (k : Nat) (s : Stp), l[k]? = some s → ∀ a ∈ refs s, a < k
theorem run_snoc (l : List Stp) (s : Stp) : A.run z (l ++ [s]) = A.run z l ++ [A.stp (pl z (A.run z l)) s] := by
  unfold Alg.run
  rw [List.foldl_append]
  rfl
theorem run_nil : A.run z [] = [] := rfl
theorem run_length (l : List Stp) : (A.run z l).length = l.length := by
  refine snocInd (p := fun l => (A.run z l).length = l.length) rfl (fun l s ih => ?_) l
  rw [run_snoc, List.length_append, List.length_append, ih]; rfl
theorem run_take (l : List Stp) (k : Nat) : A.run z (l.take k) = (A.run z l).take k := by
  refine snocInd (p := fun l => A.run z (l.take k) = (A.run z l).take k) (by simp [run_nil]) (fun l s ih => ?_) l
  by_cases h : k ≤ l.length
  · rw [List.take_append_of_le_length h, run_snoc, List.take_append_of_le_length (by rw [run_length]; exact h), ih]
  · rw [List.take_of_length_le (by simp; omega), List.take_of_length_le (by rw [run_length]; simp; omega)]
theorem run_take_succ (l : List Stp) (k : Nat) (s : Stp) (h : l[k]? = some s) : A.run z (l.take (k + 1)) = A.run z (l.take k) ++ [A.stp (pl z (A.run z (l.take k))) s] := by
  have e : l.take (k + 1) = l.take k ++ [s] := by
    rw [List.take_add_one, h]
    rfl
  rw [e, run_snoc]
theorem run_get (l : List Stp) (k : Nat) (s : Stp) (h : l[k]? = some s) : (A.run z l)[k]? = some (A.stp (pl z (A.run z (l.take k))) s) := by
  have hk : k < l.length := (List.getElem?_eq_some_iff.mp h).1
  have e : (A.run z (l.take (k + 1)))[k]? = (A.run z l)[k]? := by
    rw [run_take, List.getElem?_take_of_lt (Nat.lt_succ_self k)]
  rw [← e, run_take_succ A z l k s h, List.getElem?_append_right (by rw [run_length, List.length_take]; omega), run_length, List.length_take, Nat.min_eq_left (by omega), Nat.sub_self]
  rfl
variable {A z}
theorem stp_congr {v u : Nat → α} {s : Stp} (h : ∀ a ∈ refs s, v a = u a) : A.stp v s = A.stp u s := by
  cases s with
  | inp i => rfl
  | set c => rfl
  | neg a => show A.neg _ = A.neg _; rw [h a (by simp [refs])]
  | bin o a b => show A.bin _ _ _ = A.bin _ _ _; rw [h a (by simp [refs]), h b (by simp [refs])]
theorem pl_take {v : List α} {k a : Nat} (h : a < k) : pl z (v.take k) a = pl z v a := by
  unfold pl
  rw [List.getD_eq_getElem?_getD, List.getD_eq_getElem?_getD, List.getElem?_take_of_lt h]
theorem tr_spec {l : List Stp} (w : Wf l) {k : Nat} {s : Stp} (h : l[k]? = some s) : A.tr z l k = A.stp (A.tr z l) s := by
  unfold Alg.tr
  have e := run_get A z l k s h
  have e2 : pl z (A.run z l) k = A.stp (pl z (A.run z (l.take k))) s := by
    unfold pl
    rw [List.getD_eq_getElem?_getD, e]
    rfl
  rw [e2]
  exact stp_congr fun a ha => by rw [run_take]; exact pl_take (w k s h a ha)
/-- what obeys the steps is the run -/
theorem tr_uniq {l : List Stp} (w : Wf l) {u : Nat → α} (h : ∀ k s, l[k]? = some s → u k = A.stp u s) : ∀ k, k < l.length → u k = A.tr z l k := by
  intro k
  induction k using Nat.strongRecOn with
  | ind k ih =>
    intro hk
    have e : l[k]? = some (l[k]) := List.getElem?_eq_getElem hk
    rw [h k _ e, tr_spec w e]
    exact stp_congr fun a ha => ih a (w k _ e a ha) (by have := w k _ e a ha; omega)
/-- a map that keeps the operations -/
structure Hm (A : Alg α) (B : Alg β) (n : Nat) (f : α → β) : Prop where
  inp : ∀ i, i < n → f (A.inp i) = B.inp i
  set : ∀ c, f (A.set c) = B.set c
  neg : ∀ x, f (A.neg x) = B.neg (f x)
  bin : ∀ o x y, f (A.bin o x y) = B.bin o (f x) (f y)
def Inn (n : Nat) (l : List Stp) : Prop := ∀ (k : Nat) (i : Nat), l[k]? = some (.inp i) → i < n
theorem tr_hom {B : Alg β} {n : Nat} {f : α → β} {y : β} (h : Hm A B n f) {l : List Stp} (w : Wf l) (i : Inn n l) : ∀ k, k < l.length → f (A.tr z l k) = B.tr y l k :=
  tr_uniq (A := B) (z := y) w (u := fun k => f (A.tr z l k)) fun k s e => by
    show f (A.tr z l k) = _
    rw [tr_spec w e]
    cases s with
    | inp j => exact h.inp j (i k j e)
    | set c => exact h.set c
    | neg a => exact h.neg _
    | bin o a b => exact h.bin o _ _
end
end G
set_option maxRecDepth 100000
set_option maxHeartbeats 4000000
/-! W0: words for what is to be shown. -/
namespace G
open PySem PySem.Spec PyProof.Rows L2
theorem itY {b : Bool} {P Q : Prop} (h : b = true) (p : P) : Br b P Q := ⟨fun _ => p, fun e => by rw [h] at e; cases e⟩
theorem itN {b : Bool} {P Q : Prop} (h : b = false) (q : Q) : Br b P Q := ⟨fun e => (by rw [h] at e; cases e), fun _ => q⟩
theorem fxU : Fx .un := trivial
theorem fxI {d : D} : Fx (.im d) := trivial
theorem atI_nat {α : Type} {xs : List α} {i : Nat} {x : α} (h : xs[i]? = some x) : L2.atI xs (i : Int) = some x := by
  have hi : i < xs.length := (List.getElem?_eq_some_iff.mp h).1
  unfold L2.atI
  have e : ixN xs.length (i : Int) = some i := by
    unfold ixN
    simp [hi]
  rw [e]
  exact h
theorem get_map {α β : Type} {f : α → β} {xs : List α} {i : Nat} {x : α} (h : xs[i]? = some x) : (xs.map f)[i]? = some (f x) := by rw [List.getElem?_map, h]; rfl
/-- what is wanted of two products -/
def MulOk (i j : Int) : Prop := CMulW i j
/-! step_value -/
def valA (p : List Int) : Alg Int where
  inp := fun i => p.getD i 0
  set := fun c => c
  neg := fun a => 0 - a
  bin := fun o a b => match o with
    | .add => a + b
    | .sub => a - b
    | .mul => a * b
def StpOk (n m : Nat) : Stp → Prop
  | .inp i => i < n
  | .set _ => True
  | .neg a => a < m
  | .bin _ a b => a < m ∧ b < m
def MulAt (v : Nat → Int) : Stp → Prop
  | .bin .mul a b => CMulW (v a) (v b)
  | _ => True
def sp_step_value : GSp := fun args Z => ∃ (s : Stp) (p v : List Int), args = [.im (sD s), .im (isD p), .ce (.ls (v.map .int))] ∧ StpOk p.length v.length s ∧ MulAt (pl 0 v) s ∧ Z (.im (.int ((valA p).stp (pl 0 v) s))) args
theorem pl_get {α : Type} {z : α} {v : List α} {i : Nat} (h : i < v.length) : v[i]? = some (pl z v i) := by
  unfold pl
  rw [List.getD_eq_getElem?_getD, List.getElem?_eq_getElem h]
  rfl
def N_step_value : List Str := ["step", "point", "found", "one", "other"]
def w_step_value : WS := (wSeq (wIf (wTest (wOp gEq (wIx (wVar 0) (wC (.int 0))) (wC (.str "in")))) (wRet 3 (wIx (wVar 1) (wIx (wVar 0) (wC (.int 1))))) wNext) (wSeq (wIf (wTest (wOp gEq (wIx (wVar 0) (wC (.int 0))) (wC (.str "set")))) (wRet 3 (wIx (wVar 0) (wC (.int 1)))) wNext) (wSeq (wIf (wTest (wOp gEq (wIx (wVar 0) (wC (.int 0))) (wC (.str "neg")))) (wRet 3 (wOp gSub (wC (.int 0)) (wIx (wVar 2) (wIx (wVar 0) (wC (.int 1)))))) wNext) (wSeq (wPar 3 4 (wCons (wIx (wVar 2) (wIx (wVar 0) (wC (.int 1)))) (wCons (wIx (wVar 2) (wIx (wVar 0) (wC (.int 2)))) wNil))) (wSeq (wIf (wTest (wOp gEq (wIx (wVar 0) (wC (.int 0))) (wC (.str "+")))) (wRet 3 (wOp gAdd (wVar 3) (wVar 4))) wNext) (wRet 3 (wIfE (wTest (wOp gEq (wIx (wVar 0) (wC (.int 0))) (wC (.str "-")))) (wOp gSub (wVar 3) (wVar 4)) (wOp gMul (wVar 3) (wVar 4)))))))))
theorem vc_step_value : ∀ args Z, sp_step_value args Z → args.length = 3 ∧ w_step_value (endsOf 3 Z) (args ++ List.replicate (N_step_value.length - 3) .un) := by
  rintro args Z ⟨s, p, v, rfl, h1, h2, z⟩
  refine ⟨rfl, ?_⟩
  cases s with
  | inp i =>
    refine ⟨_, _, rfl, rfl, itY (by decide) ?_⟩
    refine ⟨_, _, rfl, rfl, ?_⟩
    refine ⟨_, _, rfl, atI_nat (get_map (pl_get (z := 0) h1)), ?_⟩
    exact z
  | set c =>
    refine ⟨_, _, rfl, rfl, itN (by decide) ?_⟩
    refine ⟨_, _, rfl, rfl, itY (by decide) ?_⟩
    refine ⟨_, _, rfl, rfl, ?_⟩
    exact z
  | neg a =>
    refine ⟨_, _, rfl, rfl, itN (by decide) ?_⟩
    refine ⟨_, _, rfl, rfl, itN (by decide) ?_⟩
    refine ⟨_, _, rfl, rfl, itY (by decide) ?_⟩
    refine ⟨_, _, rfl, rfl, ?_⟩
    exact ⟨_, _, rfl, atI_nat (get_map (pl_get (z := 0) h1)), z⟩
  | bin o a b =>
    obtain ⟨ha, hb⟩ := h1
    refine ⟨_, _, rfl, rfl, itN (by cases o <;> decide) ?_⟩
    refine ⟨_, _, rfl, rfl, itN (by cases o <;> decide) ?_⟩
    refine ⟨_, _, rfl, rfl, itN (by cases o <;> decide) ?_⟩
    refine ⟨_, _, rfl, rfl, _, _, rfl, atI_nat (get_map (pl_get (z := 0) ha)), _, _, rfl, rfl, _, _, rfl, atI_nat (get_map (pl_get (z := 0) hb)), ?_⟩
    refine ⟨_, _, rfl, rfl, ?_⟩
    cases o with
    | add => exact itY (by decide) z
    | sub => exact itN (by decide) ⟨_, _, rfl, rfl, itY (by decide) z⟩
    | mul => exact itN (by decide) ⟨_, _, rfl, rfl, itN (by decide) ⟨h2, z⟩⟩
end G
set_option maxRecDepth 100000
set_option maxHeartbeats 4000000
/-! WA: values, sizes, told. -/
namespace G
open PySem PySem.Spec PyProof.Rows L2
structure RowOk (r : Rw) : Prop where
  wf : Wf r.st
  inn : Inn r.n r.st
  en : ∀ e ∈ r.en, e < r.st.length
  ln : r.st.length ≤ 900
  le : r.en.length ≤ 900
  ln1 : 0 < r.st.length
  ln2 : r.n ≤ 900
def vals (r : Rw) (p : List Int) : List Int := (valA p).run 0 r.st
def val (r : Rw) (p : List Int) : Nat → Int := (valA p).tr 0 r.st
def MulR (r : Rw) (p : List Int) : Prop := ∀ (k : Nat) (s : Stp), r.st[k]? = some s → MulAt (val r p) s
theorem get_of_map {α β : Type} {f : α → β} {xs : List α} {i : Nat} {y : β} (h : (xs.map f)[i]? = some y) : ∃ x, xs[i]? = some x ∧ y = f x := by
  rw [List.getElem?_map] at h
  cases e : xs[i]? with
  | none => rw [e] at h; cases h
  | some x => rw [e] at h; exact ⟨x, rfl, (Option.some.inj h).symm⟩
theorem mulAt_congr {v u : Nat → Int} {s : Stp} (h : ∀ a ∈ refs s, v a = u a) (m : MulAt v s) : MulAt u s := by
  cases s with
  | bin o a b =>
    cases o with
    | mul =>
      have h1 := h a (by simp [refs])
      have h2 := h b (by simp [refs])
      show CMulW (u a) (u b)
      rw [← h1, ← h2]
      exact m
    | _ => trivial
  | _ => trivial
theorem stpOk_of {n k m : Nat} {s : Stp} (w : ∀ a ∈ refs s, a < k) (i : ∀ j, s = .inp j → j < n) (h : k ≤ m) : StpOk n m s := by
  cases s with
  | inp j => exact i j rfl
  | set c => trivial
  | neg a => exact Nat.lt_of_lt_of_le (w a (by simp [refs])) h
  | bin o a b => exact ⟨Nat.lt_of_lt_of_le (w a (by simp [refs])) h, Nat.lt_of_lt_of_le (w b (by simp [refs])) h⟩
theorem run_take_len {α : Type} (A : Alg α) (z : α) {l : List Stp} {i : Nat} (h : i ≤ l.length) : (A.run z (l.take i)).length = i := by
  rw [run_length, List.length_take]; omega
def sp_values : GSp := fun args Z => ∃ (r : Rw) (p : List Int), args = [.im (rD r), .im (isD p)] ∧ RowOk r ∧ p.length = r.n ∧ MulR r p ∧ Z (.im (isD (vals r p))) args
def N_values : List Str := ["row", "point", "found", "step"]
def w_values : WS := (wSeq (wAsg 2 (wLst wNil)) (wSeq (wFor (wiTup (wIx (wVar 0) (wC (.int 1)))) (wgName 3) (wDrop (wApp (wVar 2) (wCall sp_step_value (wCons (wVar 3) (wCons (wVar 1) (wCons (wVar 2) wNil))))))) (wRet 2 (wB gTuple (wCons (wVar 2) wNil)))))
theorem vc_values : ∀ args Z, sp_values args Z → args.length = 2 ∧ w_values (endsOf 2 Z) (args ++ List.replicate (N_values.length - 2) .un) := by
  rintro args Z ⟨r, p, rfl, ok, hp, hm, z⟩
  refine ⟨rfl, Nat.zero_le _, _, _, rfl, rfl, fun i Γ => ∃ x, Fx x ∧ Γ = [.im (rD r), .im (isD p), .ce (.ls (((valA p).run 0 (r.st.take i)).map .int)), x], ⟨.un, trivial, rfl⟩, ?_, ?_⟩
  · rintro i d Γ hd ⟨x, hx, rfl⟩
    obtain ⟨s, hs, rfl⟩ := get_of_map hd
    have hi : i < r.st.length := (List.getElem?_eq_some_iff.mp hs).1
    have hl := run_take_len (valA p) 0 (Nat.le_of_lt hi)
    refine ⟨_, rfl, hx, ⟨_, rfl⟩, rfl, s, p, _, rfl, ?_, ?_, _, rfl, ?_, .im (sD s), trivial, ?_⟩
    · rw [hl, hp]
      exact stpOk_of (ok.wf i s hs) (fun j e => ok.inn i j (by rw [hs, e])) (Nat.le_refl _)
    · refine mulAt_congr (fun a ha => ?_) (hm i s hs)
      rw [run_take]
      exact (pl_take (ok.wf i s hs a ha)).symm
    · rw [List.length_map, hl]
      have := ok.ln
      omega
    · rw [run_take_succ _ _ _ _ _ hs, List.map_append]
      rfl
  · rintro Γ ⟨x, hx, rfl⟩
    refine ⟨_, rfl, ?_⟩
    rw [List.length_map, List.take_length]
    exact z
def sp_told : GSp := fun args Z => ∃ (r : Rw) (p : List Int), args = [.im (rD r), .im (isD p)] ∧ RowOk r ∧ p.length = r.n ∧ MulR r p ∧ Z (.im (isD (r.en.map (val r p)))) args
def N_told : List Str := ["row", "point", "found", "end"]
def w_told : WS := (wSeq (wAsg 2 (wCall sp_values (wCons (wVar 0) (wCons (wVar 1) wNil)))) (wRet 2 (wB gTuple (wCons (wLc (wiTup (wIx (wVar 0) (wC (.int 2)))) (wgName 3) wYes (wIx (wVar 2) (wVar 3)) [3]) wNil))))
theorem vals_get {r : Rw} {p : List Int} {e : Nat} (h : e < r.st.length) : (vals r p)[e]? = some (val r p e) := by
  have : e < (vals r p).length := by unfold vals; rw [run_length]; exact h
  exact pl_get this
theorem vc_told : ∀ args Z, sp_told args Z → args.length = 2 ∧ w_told (endsOf 2 Z) (args ++ List.replicate (N_told.length - 2) .un) := by
  rintro args Z ⟨r, p, rfl, ok, hp, hm, z⟩
  refine ⟨rfl, rfl, r, p, rfl, ok, hp, hm, _, _, rfl, rfl, rfl, ?_, fun i acc Γ => Γ = [.im (rD r), .im (isD p), .im (isD (vals r p)), .un] ∧ acc = ((r.en.take i).map (val r p)).map .int, ⟨rfl, rfl⟩, fun _ _ _ _ => trivial, ?_, ?_⟩
  · rw [List.length_map]; have := ok.le; omega
  · rintro i d acc Γ hd ⟨rfl, rfl⟩
    obtain ⟨e, he, rfl⟩ := get_of_map hd
    have hlt := ok.en e (List.mem_of_getElem? he)
    refine ⟨_, rfl, fxU, fun _ => ⟨_, _, rfl, atI_nat (get_map (vals_get hlt)), ?_⟩, nofun⟩
    refine ⟨rfl, ?_⟩
    rw [List.take_add_one, he]
    simp
  · rintro acc Γ ⟨rfl, rfl⟩
    refine ⟨_, rfl, ?_⟩
    rw [List.length_map, List.take_length]
    exact z
end G
set_option maxRecDepth 100000
set_option maxHeartbeats 4000000
/-! WB: sizes, whole rows. -/
namespace G
open PySem PySem.Spec PyProof.Rows L2
def szA (least : Int) : Alg Int where
  inp := fun _ => 1
  set := fun _ => least
  neg := fun a => a
  bin := fun o a b => match o with
    | .mul => a + b
    | _ => max a b
def sp_measure : GSp := fun args Z => ∃ (s : Stp) (v : List Int) (least : Int), args = [.im (sD s), .ce (.ls (v.map .int)), .im (.int least)] ∧ (∀ a ∈ refs s, a < v.length) ∧ Z (.im (.int ((szA least).stp (pl 0 v) s))) args
def N_measure : List Str := ["step", "found", "least"]
def w_measure : WS := (wSeq (wIf (wTest (wOp gEq (wIx (wVar 0) (wC (.int 0))) (wC (.str "in")))) (wRet 3 (wC (.int 1))) wNext) (wSeq (wIf (wTest (wOp gEq (wIx (wVar 0) (wC (.int 0))) (wC (.str "set")))) (wRet 3 (wVar 2)) wNext) (wSeq (wIf (wTest (wOp gEq (wIx (wVar 0) (wC (.int 0))) (wC (.str "neg")))) (wRet 3 (wIx (wVar 1) (wIx (wVar 0) (wC (.int 1))))) wNext) (wSeq (wIf (wTest (wOp gEq (wIx (wVar 0) (wC (.int 0))) (wC (.str "*")))) (wRet 3 (wOp gAdd (wIx (wVar 1) (wIx (wVar 0) (wC (.int 1)))) (wIx (wVar 1) (wIx (wVar 0) (wC (.int 2)))))) wNext) (wRet 3 (wB gMax2 (wCons (wIx (wVar 1) (wIx (wVar 0) (wC (.int 1)))) (wCons (wIx (wVar 1) (wIx (wVar 0) (wC (.int 2)))) wNil))))))))
theorem at_int {v : List Int} {a : Nat} (h : a < v.length) : L2.atI (v.map D.int) (a : Int) = some (.int (pl 0 v a)) := atI_nat (get_map (pl_get (z := 0) h))
theorem vc_measure : ∀ args Z, sp_measure args Z → args.length = 3 ∧ w_measure (endsOf 3 Z) (args ++ List.replicate (N_measure.length - 3) .un) := by
  rintro args Z ⟨s, v, least, rfl, h, z⟩
  refine ⟨rfl, ?_⟩
  cases s with
  | inp i => exact ⟨_, _, rfl, rfl, itY (by decide) z⟩
  | set c => exact ⟨_, _, rfl, rfl, itN (by decide) ⟨_, _, rfl, rfl, itY (by decide) z⟩⟩
  | neg a =>
    have ha := h a (by simp [refs])
    exact ⟨_, _, rfl, rfl, itN (by decide) ⟨_, _, rfl, rfl, itN (by decide) ⟨_, _, rfl, rfl, itY (by decide) ⟨_, _, rfl, rfl, _, _, rfl, at_int ha, z⟩⟩⟩⟩
  | bin o a b =>
    have ha := h a (by simp [refs])
    have hb := h b (by simp [refs])
    refine ⟨_, _, rfl, rfl, itN (by cases o <;> decide) ⟨_, _, rfl, rfl, itN (by cases o <;> decide) ⟨_, _, rfl, rfl, itN (by cases o <;> decide) ⟨_, _, rfl, rfl, ?_⟩⟩⟩⟩
    cases o with
    | add => exact itN (by decide) ⟨_, _, rfl, rfl, _, _, rfl, at_int ha, _, _, rfl, rfl, _, _, rfl, at_int hb, z⟩
    | sub => exact itN (by decide) ⟨_, _, rfl, rfl, _, _, rfl, at_int ha, _, _, rfl, rfl, _, _, rfl, at_int hb, z⟩
    | mul => exact itY (by decide) ⟨_, _, rfl, rfl, _, _, rfl, at_int ha, _, _, rfl, rfl, _, _, rfl, at_int hb, z⟩
def siz (r : Rw) : Nat → Int := (szA 1).tr 0 r.st
def deg (r : Rw) : Nat → Int := (szA 0).tr 0 r.st
def sp_degrees : GSp := fun args Z => ∃ (r : Rw), args = [.im (rD r)] ∧ RowOk r ∧ Z (.im (isD ((szA 0).run 0 r.st))) args
def sp_sizes : GSp := fun args Z => ∃ (r : Rw), args = [.im (rD r)] ∧ RowOk r ∧ Z (.im (isD ((szA 1).run 0 r.st))) args
def N_degrees : List Str := ["row", "found", "step"]
def w_degrees : WS := (wSeq (wAsg 1 (wLst wNil)) (wSeq (wFor (wiTup (wIx (wVar 0) (wC (.int 1)))) (wgName 2) (wDrop (wApp (wVar 1) (wCall sp_measure (wCons (wVar 2) (wCons (wVar 1) (wCons (wC (.int 0)) wNil))))))) (wRet 1 (wB gTuple (wCons (wVar 1) wNil)))))
def N_sizes : List Str := ["row", "found", "step"]
def w_sizes : WS := (wSeq (wAsg 1 (wLst wNil)) (wSeq (wFor (wiTup (wIx (wVar 0) (wC (.int 1)))) (wgName 2) (wDrop (wApp (wVar 1) (wCall sp_measure (wCons (wVar 2) (wCons (wVar 1) (wCons (wC (.int 1)) wNil))))))) (wRet 1 (wB gTuple (wCons (wVar 1) wNil)))))
theorem vc_degrees : ∀ args Z, sp_degrees args Z → args.length = 1 ∧ w_degrees (endsOf 1 Z) (args ++ List.replicate (N_degrees.length - 1) .un) := by
  rintro args Z ⟨r, rfl, ok, z⟩
  refine ⟨rfl, Nat.zero_le _, _, _, rfl, rfl, fun i Γ => ∃ x, Fx x ∧ Γ = [.im (rD r), .ce (.ls (((szA 0).run 0 (r.st.take i)).map .int)), x], ⟨.un, trivial, rfl⟩, ?_, ?_⟩
  · rintro i d Γ hd ⟨x, hx, rfl⟩
    obtain ⟨s, hs, rfl⟩ := get_of_map hd
    have hi : i < r.st.length := (List.getElem?_eq_some_iff.mp hs).1
    have hl := run_take_len (szA 0) 0 (Nat.le_of_lt hi)
    refine ⟨_, rfl, hx, ⟨_, rfl⟩, rfl, s, _, 0, rfl, ?_, _, rfl, ?_, .im (sD s), trivial, ?_⟩
    · rw [hl]; exact ok.wf i s hs
    · rw [List.length_map, hl]
      have := ok.ln
      omega
    · rw [run_take_succ _ _ _ _ _ hs, List.map_append]
      rfl
  · rintro Γ ⟨x, hx, rfl⟩
    refine ⟨_, rfl, ?_⟩
    rw [List.length_map, List.take_length]
    exact z
theorem vc_sizes : ∀ args Z, sp_sizes args Z → args.length = 1 ∧ w_sizes (endsOf 1 Z) (args ++ List.replicate (N_sizes.length - 1) .un) := by
  rintro args Z ⟨r, rfl, ok, z⟩
  refine ⟨rfl, Nat.zero_le _, _, _, rfl, rfl, fun i Γ => ∃ x, Fx x ∧ Γ = [.im (rD r), .ce (.ls (((szA 1).run 0 (r.st.take i)).map .int)), x], ⟨.un, trivial, rfl⟩, ?_, ?_⟩
  · rintro i d Γ hd ⟨x, hx, rfl⟩
    obtain ⟨s, hs, rfl⟩ := get_of_map hd
    have hi : i < r.st.length := (List.getElem?_eq_some_iff.mp hs).1
    have hl := run_take_len (szA 1) 0 (Nat.le_of_lt hi)
    refine ⟨_, rfl, hx, ⟨_, rfl⟩, rfl, s, _, 1, rfl, ?_, _, rfl, ?_, .im (sD s), trivial, ?_⟩
    · rw [hl]; exact ok.wf i s hs
    · rw [List.length_map, hl]
      have := ok.ln
      omega
    · rw [run_take_succ _ _ _ _ _ hs, List.map_append]
      rfl
  · rintro Γ ⟨x, hx, rfl⟩
    refine ⟨_, rfl, ?_⟩
    rw [List.length_map, List.take_length]
    exact z
/-! whole rows -/
def sp_is_integer : GSp := fun args Z => ∃ v a b : Int, args = [.im (.int v), .im (.int a), .im (.int b)] ∧ (a ≤ v ∧ v ≤ b) ∧ Z (.im (.bl true)) args
def N_is_integer : List Str := ["value", "least", "most"]
def w_is_integer : WS := (wRet 3 (wAndV (wIsi "int" (wVar 0)) (wAndV (wNotV (wIsi "bool" (wVar 0))) (wLeLe (wVar 1) (wVar 0) (wVar 2)))))
theorem kII : kitB "int" "int" = some true := by decide +kernel
theorem kIB : kitB "int" "bool" = some false := by decide +kernel
theorem kTT : kitB "tuple" "tuple" = some true := by decide +kernel
theorem kSS : kitB "str" "str" = some true := by decide +kernel
theorem vc_is_integer : ∀ args Z, sp_is_integer args Z → args.length = 3 ∧ w_is_integer (endsOf 3 Z) (args ++ List.replicate (N_is_integer.length - 3) .un) := by
  rintro args Z ⟨v, a, b, rfl, ⟨h1, h2⟩, z⟩
  refine ⟨rfl, true, kII, itY rfl ⟨false, kIB, itY rfl (itY (decide_eq_true h1) ?_)⟩⟩
  show Z (.im (.bl (decide (v ≤ b)))) _
  rw [decide_eq_true h2]
  exact z
/-- a step that may stand at place k of a row of n inputs -/
def StpFit (n k : Nat) : Stp → Prop
  | .inp i => i < n
  | .set c => -100000000000000000000 ≤ c ∧ c ≤ 100000000000000000000
  | .neg a => a < k
  | .bin _ a b => a < k ∧ b < k
def sp_is_step : GSp := fun args Z => ∃ (s : Stp) (n k : Nat), args = [.im (sD s), .im (.int (n : Int)), .im (.int (k : Int))] ∧ StpFit n k s ∧ Z (.im (.bl true)) args
def N_is_step : List Str := ["value", "inputs", "number"]
def w_is_step : WS := (wSeq (wIf (wOr (wNot (wTest (wIsi "tuple" (wVar 0)))) (wOr (wTest (wIn true (wB gLen (wCons (wVar 0) wNil)) (wTup (wCons (wC (.int 2)) (wCons (wC (.int 3)) wNil))))) (wNot (wTest (wIsi "str" (wIx (wVar 0) (wC (.int 0)))))))) (wRet 3 (wC (.bl false))) wNext) (wSeq (wIf (wTest (wOp gEq (wB gLen (wCons (wVar 0) wNil)) (wC (.int 3)))) (wRet 3 (wAndV (wInG signD (wIx (wVar 0) (wC (.int 0)))) (wAndV (wCall sp_is_integer (wCons (wIx (wVar 0) (wC (.int 1))) (wCons (wC (.int 0)) (wCons (wOp gSub (wVar 2) (wC (.int 1))) wNil)))) (wCall sp_is_integer (wCons (wIx (wVar 0) (wC (.int 2))) (wCons (wC (.int 0)) (wCons (wOp gSub (wVar 2) (wC (.int 1))) wNil))))))) wNext) (wSeq (wIf (wTest (wOp gEq (wIx (wVar 0) (wC (.int 0))) (wC (.str "in")))) (wRet 3 (wCall sp_is_integer (wCons (wIx (wVar 0) (wC (.int 1))) (wCons (wC (.int 0)) (wCons (wOp gSub (wVar 1) (wC (.int 1))) wNil))))) wNext) (wSeq (wIf (wTest (wOp gEq (wIx (wVar 0) (wC (.int 0))) (wC (.str "set")))) (wRet 3 (wCall sp_is_integer (wCons (wIx (wVar 0) (wC (.int 1))) (wCons (wOp gSub (wC (.int 0)) (wC (.int 100000000000000000000))) (wCons (wC (.int 100000000000000000000)) wNil))))) wNext) (wRet 3 (wAndV (wOp gEq (wIx (wVar 0) (wC (.int 0))) (wC (.str "neg"))) (wCall sp_is_integer (wCons (wIx (wVar 0) (wC (.int 1))) (wCons (wC (.int 0)) (wCons (wOp gSub (wVar 2) (wC (.int 1))) wNil))))))))))
theorem vc_is_step : ∀ args Z, sp_is_step args Z → args.length = 3 ∧ w_is_step (endsOf 3 Z) (args ++ List.replicate (N_is_step.length - 3) .un) := by
  rintro args Z ⟨s, n, k, rfl, h, z⟩
  refine ⟨rfl, ?_⟩
  cases s with
  | inp i =>
    have h' : i < n := h
    refine ⟨true, kTT, itN rfl ⟨_, rfl, Nat.le_of_ble_eq_true rfl, _, rfl, rfl, rfl, itN (by rfl) ⟨_, _, rfl, rfl, true, kSS, itN rfl ⟨_, rfl, itN (by rfl) ⟨_, _, rfl, rfl, itY (by decide) ?_⟩⟩⟩⟩⟩
    exact ⟨_, _, rfl, rfl, rfl, (i : Int), 0, (n : Int) - 1, rfl, by omega, z⟩
  | set c =>
    obtain ⟨h1, h2⟩ := h
    refine ⟨true, kTT, itN rfl ⟨_, rfl, Nat.le_of_ble_eq_true rfl, _, rfl, rfl, rfl, itN (by rfl) ⟨_, _, rfl, rfl, true, kSS, itN rfl ⟨_, rfl, itN (by rfl) ⟨_, _, rfl, rfl, itN (by decide) ⟨_, _, rfl, rfl, itY (by decide) ?_⟩⟩⟩⟩⟩⟩
    exact ⟨_, _, rfl, rfl, rfl, c, _, _, rfl, by omega, z⟩
  | neg a =>
    have h' : a < k := h
    refine ⟨true, kTT, itN rfl ⟨_, rfl, Nat.le_of_ble_eq_true rfl, _, rfl, rfl, rfl, itN (by rfl) ⟨_, _, rfl, rfl, true, kSS, itN rfl ⟨_, rfl, itN (by rfl) ⟨_, _, rfl, rfl, itN (by decide) ⟨_, _, rfl, rfl, itN (by decide) ⟨_, _, rfl, rfl, itY (by decide) ?_⟩⟩⟩⟩⟩⟩⟩
    exact ⟨_, _, rfl, rfl, rfl, (a : Int), 0, (k : Int) - 1, rfl, by omega, z⟩
  | bin o a b =>
    obtain ⟨h1, h2⟩ := h
    refine ⟨true, kTT, itN rfl ⟨_, rfl, Nat.le_of_ble_eq_true rfl, _, rfl, rfl, rfl, itN (by rfl) ⟨_, _, rfl, rfl, true, kSS, itN rfl ⟨_, rfl, itY (by rfl) ⟨_, _, rfl, rfl, rfl, itY (by cases o <;> decide) ?_⟩⟩⟩⟩⟩
    exact ⟨_, _, rfl, rfl, rfl, (a : Int), 0, (k : Int) - 1, rfl, by omega, itY rfl ⟨_, _, rfl, rfl, rfl, (b : Int), 0, (k : Int) - 1, rfl, by omega, z⟩⟩
end G
set_option maxRecDepth 100000
set_option maxHeartbeats 4000000
/-! WC: error_within, checked, needed, step_by. -/
namespace G
open PySem PySem.Spec PyProof.Rows L2
theorem atI_last {xs : List D} {x : D} : L2.atI (xs ++ [x]) (-1) = some x := by
  unfold L2.atI
  have e : ixN (xs ++ [x]).length (-1) = some xs.length := by
    unfold ixN
    rw [List.length_append, List.length_singleton]
    have h1 : ¬ (0 : Int) ≤ -1 := by decide
    simp
    omega
  rw [e]
  show (xs ++ [x])[xs.length]? = some x
  rw [List.getElem?_append_right (Nat.le_refl _), Nat.sub_self]
  rfl
theorem enumD_of {ds : List D} {i : Nat} {d : D} (h : (enumD ds)[i]? = some d) : ∃ e, ds[i]? = some e ∧ d = .tup [.int (i : Int), e] := by
  have hi : i < ds.length := by
    have := (List.getElem?_eq_some_iff.mp h).1
    rwa [enumD_len] at this
  refine ⟨ds[i], List.getElem?_eq_getElem hi, ?_⟩
  have := enumD_get (List.getElem?_eq_getElem hi)
  rw [h] at this
  exact Option.some.inj this
structure Fits (r : Rw) : Prop where
  ok : RowOk r
  n : r.n ≤ 20
  ls : r.st.length ≤ 400
  le : r.en.length ≤ 20
  le1 : 0 < r.en.length
  sz : ∀ k, k < r.st.length → siz r k ≤ 64
  cs : ∀ (k : Nat) (c : Int), r.st[k]? = some (.set c) → -100000000000000000000 ≤ c ∧ c ≤ 100000000000000000000
def sp_error_within : GSp := fun args Z => ∃ (r : Rw), args = [.im (rD r), .im (.int 20), .im (.int 400), .im (.int 20)] ∧ Fits r ∧ Z (.im .non) args
def N_error_within : List Str := ["value", "inputs", "steps", "ends", "found", "number", "step", "end"]
def w_error_within : WS := (wSeq (wIf (wOr (wNot (wTest (wIsi "tuple" (wVar 0)))) (wTest (wOp gNe (wB gLen (wCons (wVar 0) wNil)) (wC (.int 3))))) (wRet 4 (wTup (wCons (wC .non) (wCons (wC (.str "row")) wNil)))) wNext) (wSeq (wIf (wNot (wTest (wCall sp_is_integer (wCons (wIx (wVar 0) (wC (.int 0))) (wCons (wC (.int 0)) (wCons (wVar 1) wNil)))))) (wRet 4 (wTup (wCons (wC .non) (wCons (wC (.str "inputs")) wNil)))) wNext) (wSeq (wIf (wOr (wNot (wTest (wIsi "tuple" (wIx (wVar 0) (wC (.int 1)))))) (wNot (wTest (wLeLe (wC (.int 1)) (wB gLen (wCons (wIx (wVar 0) (wC (.int 1))) wNil)) (wVar 2))))) (wRet 4 (wTup (wCons (wC .non) (wCons (wC (.str "steps")) wNil)))) wNext) (wSeq (wAsg 4 (wLst wNil)) (wSeq (wFor (wiEnum (wCons (wIx (wVar 0) (wC (.int 1))) wNil)) (wgTup 2 (wgCons (wgName 5) (wgCons (wgName 6) wgNil))) (wSeq (wIf (wNot (wTest (wCall sp_is_step (wCons (wVar 6) (wCons (wIx (wVar 0) (wC (.int 0))) (wCons (wVar 5) wNil)))))) (wRet 4 (wTup (wCons (wVar 5) (wCons (wC (.str "step")) wNil)))) wNext) (wSeq (wDrop (wApp (wVar 4) (wCall sp_measure (wCons (wVar 6) (wCons (wVar 4) (wCons (wC (.int 1)) wNil)))))) (wIf (wTest (wOp gGt (wIx (wVar 4) (wUn gNeg (wC (.int 1)))) (wC (.int 64)))) (wRet 4 (wTup (wCons (wVar 5) (wCons (wC (.str "size")) wNil)))) wNext)))) (wSeq (wIf (wOr (wNot (wTest (wIsi "tuple" (wIx (wVar 0) (wC (.int 2)))))) (wNot (wTest (wLeLe (wC (.int 1)) (wB gLen (wCons (wIx (wVar 0) (wC (.int 2))) wNil)) (wVar 3))))) (wRet 4 (wTup (wCons (wC .non) (wCons (wC (.str "ends")) wNil)))) wNext) (wSeq (wIf (wNot (wTest (wB gAll (wCons (wLc (wiTup (wIx (wVar 0) (wC (.int 2)))) (wgName 7) wYes (wCall sp_is_integer (wCons (wVar 7) (wCons (wC (.int 0)) (wCons (wOp gSub (wB gLen (wCons (wIx (wVar 0) (wC (.int 1))) wNil)) (wC (.int 1))) wNil)))) [7]) wNil)))) (wRet 4 (wTup (wCons (wC .non) (wCons (wC (.str "ends")) wNil)))) wNext) (wRet 4 (wC .non)))))))))
theorem fit_of {r : Rw} (f : Fits r) {k : Nat} {s : Stp} (h : r.st[k]? = some s) : StpFit r.n k s := by
  have w := f.ok.wf k s h
  cases s with
  | inp i => exact f.ok.inn k i h
  | set c => exact f.cs k c h
  | neg a => exact w a (by simp [refs])
  | bin o a b => exact ⟨w a (by simp [refs]), w b (by simp [refs])⟩
theorem vc_error_within : ∀ args Z, sp_error_within args Z → args.length = 4 ∧ w_error_within (endsOf 4 Z) (args ++ List.replicate (N_error_within.length - 4) .un) := by
  rintro args Z ⟨r, rfl, f, z⟩
  have l1 := f.ok.ln1
  refine ⟨rfl, true, kTT, itN rfl ⟨_, rfl, itN (by rfl) ?_⟩⟩
  refine ⟨_, _, rfl, rfl, rfl, _, _, _, rfl, by have := f.n; omega, itN rfl ?_⟩
  refine ⟨_, _, rfl, rfl, true, kTT, itN rfl ⟨_, _, rfl, rfl, _, rfl, itY ?_ (itN ?_ ⟨Nat.zero_le _, _, _, rfl, rfl, ?_⟩)⟩⟩
  · rw [List.length_map]
    exact decide_eq_true (by omega)
  · rw [List.length_map]
    have := f.ls
    rw [decide_eq_true (by omega)]
    rfl
  refine ⟨fun i Γ => ∃ x y, Fx x ∧ Fx y ∧ Γ = [.im (rD r), .im (.int 20), .im (.int 400), .im (.int 20), .ce (.ls (((szA 1).run 0 (r.st.take i)).map .int)), x, y, .un], ⟨.un, .un, trivial, trivial, rfl⟩, ?_, ?_⟩
  · rintro i d Γ hd ⟨x, y, hx, hy, rfl⟩
    obtain ⟨e, he, rfl⟩ := enumD_of hd
    obtain ⟨s, hs, rfl⟩ := get_of_map he
    have hi : i < r.st.length := (List.getElem?_eq_some_iff.mp hs).1
    have hl := run_take_len (szA 1) 0 (Nat.le_of_lt hi)
    refine ⟨rfl, _, rfl, hx, _, rfl, hy, rfl, _, _, rfl, rfl, rfl, s, r.n, i, rfl, fit_of f hs, itN rfl ⟨⟨_, rfl⟩, rfl, s, _, 1, rfl, ?_, _, rfl, ?_, ?_⟩⟩
    · rw [hl]; exact f.ok.wf i s hs
    · rw [List.length_map, hl]
      have := f.ls
      omega
    refine ⟨_, _, rfl, atI_last, itN ?_ ⟨.im (.int (i : Int)), .im (sD s), trivial, trivial, ?_⟩⟩
    · have e1 : (szA 1).stp (pl 0 ((szA 1).run 0 (r.st.take i))) s = siz r i := by
        unfold siz
        rw [tr_spec f.ok.wf hs]
        refine stp_congr fun a ha => ?_
        rw [run_take]
        exact pl_take (f.ok.wf i s hs a ha)
      rw [e1]
      have := f.sz i hi
      exact decide_eq_false (by omega)
    · rw [run_take_succ _ _ _ _ _ hs, List.map_append]
      rfl
  · rintro Γ ⟨x, y, hx, hy, rfl⟩
    have e1 := f.le
    have e2 := f.le1
    refine ⟨_, _, rfl, rfl, true, kTT, itN rfl ⟨_, _, rfl, rfl, _, rfl, itY ?_ (itN ?_ ?_)⟩⟩
    · rw [List.length_map]
      exact decide_eq_true (by omega)
    · rw [List.length_map, decide_eq_true (by omega)]
      rfl
    refine ⟨_, _, rfl, rfl, rfl, ?_, fun i acc Γ => Γ = [.im (rD r), .im (.int 20), .im (.int 400), .im (.int 20), .ce (.ls (((szA 1).run 0 (r.st.take (r.st.map sD).length)).map .int)), x, y, .un] ∧ acc = ((r.en.take i).map fun _ => true).map .bl, ⟨?_, rfl⟩, fun _ _ _ _ => trivial, ?_, ?_⟩
    · rw [List.length_map]
      omega
    · rw [show (enumD (r.st.map sD)).length = (r.st.map sD).length from enumD_len _]
      rfl
    · rintro i d acc Γ hd ⟨rfl, rfl⟩
      obtain ⟨e, he, rfl⟩ := get_of_map hd
      have hlt := f.ok.en e (List.mem_of_getElem? he)
      refine ⟨_, rfl, fxU, fun _ => ⟨_, _, rfl, rfl, _, rfl, rfl, (e : Int), 0, _, rfl, ⟨by omega, ?_⟩, rfl, ?_⟩, nofun⟩
      · rw [List.length_map]; omega
      · rw [List.take_add_one, he]
        simp
    · rintro acc Γ ⟨rfl, rfl⟩
      refine ⟨_, rfl, itN ?_ z⟩
      simp
def sp_long_error : GSp := fun args Z => ∃ (r : Rw), args = [.im (rD r)] ∧ Fits r ∧ Z (.im .non) args
def N_long_error : List Str := ["value"]
def w_long_error : WS := (wRet 1 (wCall sp_error_within (wCons (wVar 0) (wCons (wC (.int 20)) (wCons (wC (.int 400)) (wCons (wC (.int 20)) wNil))))))
theorem vc_long_error : ∀ args Z, sp_long_error args Z → args.length = 1 ∧ w_long_error (endsOf 1 Z) (args ++ List.replicate (N_long_error.length - 1) .un) := by
  rintro args Z ⟨r, rfl, f, z⟩
  exact ⟨rfl, rfl, r, rfl, f, z⟩
def sp_checked : GSp := fun args Z => ∃ (r : Rw), args = [.im (rD r)] ∧ Fits r ∧ Z (.im (rD r)) args
def N_checked : List Str := ["row"]
def w_checked : WS := (wSeq (wIf (wOr (wTest (wOp gGt (wIx (wVar 0) (wC (.int 0))) (wC (.int 20)))) (wOr (wTest (wOp gGt (wB gLen (wCons (wIx (wVar 0) (wC (.int 1))) wNil)) (wC (.int 400)))) (wOr (wTest (wOp gGt (wB gLen (wCons (wIx (wVar 0) (wC (.int 2))) wNil)) (wC (.int 20)))) (wTest (wOp gGt (wB gMaxT (wCons (wCall sp_sizes (wCons (wVar 0) wNil)) wNil)) (wC (.int 64))))))) wNever wNext) (wRet 1 (wVar 0)))
theorem vc_checked : ∀ args Z, sp_checked args Z → args.length = 1 ∧ w_checked (endsOf 1 Z) (args ++ List.replicate (N_checked.length - 1) .un) := by
  rintro args Z ⟨r, rfl, f, z⟩
  have l1 := f.ok.ln1
  refine ⟨rfl, _, _, rfl, rfl, itN ?_ ⟨_, _, rfl, rfl, _, rfl, itN ?_ ⟨_, _, rfl, rfl, _, rfl, itN ?_ ⟨rfl, r, rfl, f.ok, _, rfl, ?_, fun m hm => itN ?_ z⟩⟩⟩⟩
  · have := f.n; exact decide_eq_false (by omega)
  · have := f.ls; rw [List.length_map]; exact decide_eq_false (by omega)
  · have := f.le; rw [List.length_map]; exact decide_eq_false (by omega)
  · rw [run_length]; exact l1
  · obtain ⟨k, hk, e⟩ := List.mem_iff_getElem.mp hm
    have hk' : k < r.st.length := by rwa [run_length] at hk
    have h1 := f.sz k hk'
    have h2 : (szA 1).tr 0 r.st k = m := by
      unfold Alg.tr pl
      rw [List.getD_eq_getElem?_getD, List.getElem?_eq_getElem hk, e]
      rfl
    have h3 : siz r k = m := h2
    exact decide_eq_false (by omega)
end G
set_option maxRecDepth 100000
set_option maxHeartbeats 4000000
/-! WD: needed. -/
namespace G
open PySem PySem.Spec PyProof.Rows L2
def sp_steps_used : GSp := fun args Z => ∃ s : Stp, args = [.im (sD s)] ∧ Z (.im (nsD (refs s))) args
def N_steps_used : List Str := ["step"]
def w_steps_used : WS := (wRet 1 (wIfE (wTest (wIn false (wIx (wVar 0) (wC (.int 0))) (wTup (wCons (wC (.str "in")) (wCons (wC (.str "set")) wNil))))) (wTup wNil) (wSl (wVar 0) (wPart (wC (.int 1))) wNo)))
theorem vc_steps_used : ∀ args Z, sp_steps_used args Z → args.length = 1 ∧ w_steps_used (endsOf 1 Z) (args ++ List.replicate (N_steps_used.length - 1) .un) := by
  rintro args Z ⟨s, rfl, z⟩
  refine ⟨rfl, ?_⟩
  cases s with
  | inp i => exact ⟨_, _, rfl, rfl, Nat.le_of_ble_eq_true rfl, _, rfl, rfl, rfl, itY (by rfl) ⟨Nat.zero_le _, z⟩⟩
  | set c => exact ⟨_, _, rfl, rfl, Nat.le_of_ble_eq_true rfl, _, rfl, rfl, rfl, itY (by rfl) ⟨Nat.zero_le _, z⟩⟩
  | neg a => exact ⟨_, _, rfl, rfl, Nat.le_of_ble_eq_true rfl, _, rfl, rfl, rfl, itN (by rfl) z⟩
  | bin o a b => exact ⟨_, _, rfl, rfl, Nat.le_of_ble_eq_true rfl, _, rfl, rfl, rfl, itN (by cases o <;> rfl) z⟩
structure NeedOk (r : Rw) (ns : List Nat) : Prop where
  lt : ∀ j ∈ ns, j < r.st.length
  srt : ns.Pairwise (· < ·)
  en : ∀ e ∈ r.en, e ∈ ns
  cl : ∀ j ∈ ns, ∀ s, r.st[j]? = some s → ∀ a ∈ refs s, a ∈ ns
def sp_needed : GSp := fun args Z => ∃ r : Rw, args = [.im (rD r)] ∧ RowOk r ∧ ∀ ns, NeedOk r ns → Z (.im (nsD ns)) args
def N_needed : List Str := ["row", "found", "number", "one", "is_so"]
def w_needed : WS := (wSeq (wAsg 1 (wLc (wiRng1 (wCons (wB gLen (wCons (wIx (wVar 0) (wC (.int 1))) wNil)) wNil)) (wgName 2) wYes (wIn false (wVar 2) (wIx (wVar 0) (wC (.int 2)))) [2])) (wSeq (wFor (wiDown (wCons (wOp gSub (wB gLen (wCons (wIx (wVar 0) (wC (.int 1))) wNil)) (wC (.int 1))) (wCons (wUn gNeg (wC (.int 1))) (wCons (wUn gNeg (wC (.int 1))) wNil)))) (wgName 2) (wIf (wTest (wIx (wVar 1) (wVar 2))) (wFor (wiTup (wCall sp_steps_used (wCons (wIx (wIx (wVar 0) (wC (.int 1))) (wVar 2)) wNil))) (wgName 3) (wSetL (wC (.bl true)) (wVar 1) (wVar 3))) wNext)) (wRet 1 (wB gTuple (wCons (wLc (wiEnumL (wCons (wVar 1) wNil)) (wgTup 2 (wgCons (wgName 2) (wgCons (wgName 4) wgNil))) (wTest (wVar 4)) (wVar 2) [2, 4]) wNil)))))
theorem rngC_of {lo c : Int} {n i : Nat} {d : D} (h : (rngC lo c n)[i]? = some d) : i < n ∧ d = .int (lo + (i : Int) * c) := by
  have hi : i < n := by
    have := (List.getElem?_eq_some_iff.mp h).1
    rwa [rngC_len] at this
  rw [rngC_get hi] at h
  exact ⟨hi, (Option.some.inj h).symm⟩
theorem rngD_of {lo : Int} {n i : Nat} {d : D} (h : (rngD lo n)[i]? = some d) : i < n ∧ d = .int (lo + (i : Int)) := by
  have hi : i < n := by
    have := (List.getElem?_eq_some_iff.mp h).1
    rwa [rngD_len] at this
  rw [rngD_get hi] at h
  exact ⟨hi, (Option.some.inj h).symm⟩
theorem inD_int {a : Nat} {l : List Nat} : inD (.int (a : Int)) (l.map nD) = decide (a ∈ l) := by
  unfold inD inV
  induction l with
  | nil => rfl
  | cons b l ih =>
    simp only [List.map_cons, List.any_cons, List.mem_cons] at ih ⊢
    rw [ih]
    by_cases h : a = b
    · subst h
      simp [vD, nD, eqV]
    · have h2 : ¬ ((b : Int) = (a : Int)) := by omega
      have h3 : ¬ ((a : Int) = (b : Int)) := by omega
      simp [vD, nD, h, h2, h3, eqV]
theorem flat_ns (l : List Nat) : (l.map nD).all flD = true := by
  rw [List.all_map]
  exact List.all_eq_true.mpr fun _ _ => rfl
theorem vc_needed : ∀ args Z, sp_needed args Z → args.length = 1 ∧ w_needed (endsOf 1 Z) (args ++ List.replicate (N_needed.length - 1) .un) := by
  rintro args Z ⟨r, rfl, ok, z⟩
  have hL := ok.ln
  refine ⟨rfl, _, _, rfl, rfl, _, rfl, ⟨?_, ?_⟩, rfl, ?_, fun i acc Γ => Γ = [.im (rD r), .un, .un, .un, .un] ∧ acc = ((List.range i).map fun k => decide (k ∈ r.en)).map .bl, ⟨rfl, rfl⟩, fun _ _ _ _ => trivial, ?_, ?_⟩
  · rw [List.length_map]; omega
  · rw [List.length_map]; omega
  · rw [rngD_len, List.length_map]; omega
  · rintro i d acc Γ hd ⟨rfl, rfl⟩
    obtain ⟨hi, rfl⟩ := rngD_of hd
    refine ⟨_, rfl, fxU, fun _ => ⟨_, _, rfl, rfl, _, rfl, rfl, flat_ns _, ?_⟩, nofun⟩
    refine ⟨rfl, ?_⟩
    rw [Int.zero_add]
    show _ ++ [D.bl (inD (.int (i : Int)) (r.en.map nD))] = _
    rw [inD_int, List.range_succ]
    simp
  · rintro acc Γ ⟨rfl, rfl⟩
    rw [rngD_len, List.length_map]
    have hn : ((r.st.length : Int)).toNat = r.st.length := by omega
    rw [hn]
    refine ⟨_, _, rfl, rfl, _, rfl, ⟨by rw [List.length_map]; omega, by rw [List.length_map]; omega, by decide, by decide⟩, rfl, ?_⟩
    rw [List.length_map, show (((r.st.length : Int) - 1) - -1).toNat = r.st.length by omega]
    refine ⟨fun i Γ => ∃ (x y : Sl) (fl : List Bool), Fx x ∧ Fx y ∧ fl.length = r.st.length ∧ (∀ e ∈ r.en, fl[e]? = some true) ∧ (∀ j s, r.st.length ≤ j + i → fl[j]? = some true → r.st[j]? = some s → ∀ a ∈ refs s, fl[a]? = some true) ∧
      Γ = [.im (rD r), .ce (.ls (fl.map .bl)), x, y, .un], ⟨.un, .un, _, trivial, trivial, by simp, ?_, ?_, rfl⟩, ?_, ?_⟩
    · intro e he
      have := ok.en e he
      rw [List.getElem?_map, List.getElem?_range this]
      simp [he]
    · intro j s h1 h2 h3
      have := (List.getElem?_eq_some_iff.mp h3).1
      omega
    · rintro i d Γ hd ⟨x, y, fl, hx, hy, hl, he, hc, rfl⟩
      obtain ⟨hi, rfl⟩ := rngC_of hd
      rw [show ((r.st.length : Int) - 1 + (i : Int) * -1) = ((r.st.length - 1 - i : Nat) : Int) by omega]
      have hm : r.st.length - 1 - i < r.st.length := by omega
      generalize hmm : r.st.length - 1 - i = m at *
      have e1 : fl[m]? = some (fl[m]'(by omega)) := List.getElem?_eq_getElem (by omega)
      have e2 : r.st[m]? = some (r.st[m]) := List.getElem?_eq_getElem hm
      refine ⟨_, rfl, hx, _, _, rfl, atI_nat (get_map e1), fun hb => ?_, fun hb => ?_⟩
      · rw [hb] at e1
        refine ⟨_, _, rfl, rfl, _, _, rfl, atI_nat (get_map e2), rfl, _, rfl, ?_⟩
        refine ⟨fun j Γ => ∃ (y : Sl) (f2 : List Bool), Fx y ∧ f2.length = r.st.length ∧ (∀ k : Nat, fl[k]? = some true → f2[k]? = some true) ∧ (∀ k : Nat, m ≤ k → f2[k]? = fl[k]?) ∧ (∀ a ∈ (refs (r.st[m])).take j, f2[a]? = some true) ∧ Γ = [.im (rD r), .ce (.ls (f2.map .bl)), .im (.int (m : Int)), y, .un],
          ⟨y, fl, hy, hl, fun _ h => h, fun _ _ => rfl, by simp, rfl⟩, ?_, ?_⟩
        · rintro j d Γ hd ⟨y, f2, hy, h2, h3, h4, h5, rfl⟩
          obtain ⟨a, ha, rfl⟩ := get_of_map hd
          have ham : a < m := ok.wf m _ e2 a (List.mem_of_getElem? ha)
          refine ⟨_, rfl, hy, _, a, rfl, ?_, .im (nD a), f2.set a true, trivial, by rw [List.length_set]; exact h2, fun k hk => ?_, fun k hk => ?_, fun b hb' => ?_, ?_⟩
          · unfold ixN
            rw [List.length_map]
            simp
            omega
          · by_cases e : a = k
            · subst e; rw [List.getElem?_set_self (by omega)]
            · rw [List.getElem?_set_ne e]; exact h3 k hk
          · rw [List.getElem?_set_ne (by omega)]; exact h4 k hk
          · by_cases e : a = b
            · subst e; rw [List.getElem?_set_self (by omega)]
            · rw [List.getElem?_set_ne e]
              refine h5 b ?_
              rw [List.take_add_one, ha] at hb'
              simp at hb'
              rcases hb' with hb' | hb'
              · exact hb'
              · exact absurd hb'.symm e
          · rw [List.map_set]
            rfl
        · rintro Γ ⟨y, f2, hy, h2, h3, h4, h5, rfl⟩
          rw [List.length_map, List.take_length] at h5
          refine ⟨.im (.int (m : Int)), y, f2, trivial, hy, h2, fun e he' => h3 e (he e he'), fun j s hj hf hs a ha => ?_, rfl⟩
          by_cases hjm : j = m
          · subst hjm
            rw [e2] at hs
            cases hs
            exact h5 a ha
          · have hgt : m < j := by omega
            rw [h4 j (by omega)] at hf
            exact h3 a (hc j s (by omega) hf hs a ha)
      · rw [hb] at e1
        refine ⟨.im (.int (m : Int)), y, fl, trivial, hy, hl, he, fun j s hj hf hs a ha => ?_, rfl⟩
        by_cases hjm : j = m
        · subst hjm
          rw [e1] at hf
          cases hf
        · exact hc j s (by omega) hf hs a ha
    · rintro Γ ⟨x, y, fl, hx, hy, hl, he, hc, rfl⟩
      rw [rngC_len] at hc
      have hce : noCe (some x) = true := by cases x <;> first | rfl | exact hx.elim
      refine ⟨_, rfl, ?_, ?_, fun i acc Γ => Γ = [.im (rD r), .ce (.ls (fl.map .bl)), .un, y, .un] ∧ acc = ((List.range i).filter fun k => fl[k]? == some true).map nD, ⟨rfl, rfl⟩, ?_, ?_, ?_⟩
      · show (noCe (some x) && (noCe (some .un) && true)) = true
        rw [hce]
        rfl
      · rw [enumD_len, List.length_map]; omega
      · rintro i acc Γ ⟨rfl, rfl⟩
        rfl
      · rintro i d acc Γ hd ⟨rfl, rfl⟩
        obtain ⟨e, he', rfl⟩ := enumD_of hd
        obtain ⟨b, hb, rfl⟩ := get_of_map he'
        refine ⟨rfl, _, rfl, fxU, _, rfl, fxU, rfl, fun h => ?_, fun h => ?_⟩
        · subst h
          refine ⟨rfl, ?_⟩
          rw [List.range_succ, List.filter_append]
          simp [hb, nD]
        · subst h
          refine ⟨rfl, ?_⟩
          rw [List.range_succ, List.filter_append]
          simp [hb]
      · rintro acc Γ ⟨rfl, rfl⟩
        rw [enumD_len, List.length_map, hl]
        refine ⟨_, rfl, z _ ⟨fun j hj => ?_, ?_, fun e he' => ?_, fun j hj s hs a ha => ?_⟩⟩
        · have := (List.mem_filter.mp hj).1
          exact List.mem_range.mp this
        · exact List.Pairwise.filter _ (List.pairwise_lt_range)
        · exact List.mem_filter.mpr ⟨List.mem_range.mpr (ok.en e he'), by rw [he e he']; rfl⟩
        · have hj2 : fl[j]? = some true := eq_of_beq (List.mem_filter.mp hj).2
          have := hc j s (by omega) hj2 hs a ha
          refine List.mem_filter.mpr ⟨List.mem_range.mpr ?_, by rw [this]; rfl⟩
          have := (List.getElem?_eq_some_iff.mp this).1
          omega
end G
set_option maxRecDepth 100000
set_option maxHeartbeats 4000000
/-! WE: step_by, slim. -/
namespace G
open PySem PySem.Spec PyProof.Rows L2
def ren (g : Nat → Nat) : Stp → Stp
  | .inp i => .inp i
  | .set c => .set c
  | .neg a => .neg (g a)
  | .bin o a b => .bin o (g a) (g b)
def Names (kvs : List (Key × D)) (g : Nat → Nat) (s : Stp) : Prop := ∀ a ∈ refs s, look kvs (.inl (a : Int)) = some (nD (g a))
def sp_step_by : GSp := fun args Z => ∃ (s : Stp) (kvs : List (Key × D)) (g : Nat → Nat), args = [.im (sD s), .ce (.dk kvs)] ∧ Names kvs g s ∧ Z (.im (sD (ren g s))) args
def N_step_by : List Str := ["step", "names", "number"]
def w_step_by : WS := (wSeq (wIf (wTest (wIn false (wIx (wVar 0) (wC (.int 0))) (wTup (wCons (wC (.str "in")) (wCons (wC (.str "set")) wNil))))) (wRet 2 (wVar 0)) wNext) (wRet 2 (wOp gAdd (wSl (wVar 0) wNo (wPart (wC (.int 1)))) (wB gTuple (wCons (wLc (wiTup (wSl (wVar 0) (wPart (wC (.int 1))) wNo)) (wgName 2) wYes (wDGetK (wVar 1) (wVar 2)) [2]) wNil)))))
theorem refs_len (s : Stp) : (refs s).length ≤ 2 := by cases s <;> simp [refs]
theorem vc_step_by : ∀ args Z, sp_step_by args Z → args.length = 2 ∧ w_step_by (endsOf 2 Z) (args ++ List.replicate (N_step_by.length - 2) .un) := by
  rintro args Z ⟨s, kvs, g, rfl, h, z⟩
  refine ⟨rfl, ?_⟩
  let I : Nat → List D → Gm → Prop := fun i acc Γ => Γ = [.im (sD s), .ce (.dk kvs), .un] ∧ acc = ((refs s).take i).map (fun a => nD (g a))
  have st : ∀ i d acc Γ, ((refs s).map nD)[i]? = some d → I i acc Γ → wgName 2 d Γ fun Γ2 => wYes Γ2 fun b Γ3 => Br b (wDGetK (wVar 1) (wVar 2) Γ3 fun r Γ4 => (match r with
    | .im e => I (i + 1) (acc ++ [e]) (wipeG Γ4 [2])
    | _ => False)) (I (i + 1) acc (wipeG Γ3 [2])) := by
    rintro i d acc Γ hd ⟨rfl, rfl⟩
    obtain ⟨a, ha, rfl⟩ := get_of_map hd
    refine ⟨_, rfl, fxU, fun _ => ⟨kvs, .inl (a : Int), _, rfl, rfl, h a (List.mem_of_getElem? ha), rfl, ?_⟩, nofun⟩
    rw [List.take_add_one, ha]
    simp
  cases s with
  | inp i => exact ⟨_, _, rfl, rfl, Nat.le_of_ble_eq_true rfl, _, rfl, rfl, rfl, itY (by rfl) z⟩
  | set c => exact ⟨_, _, rfl, rfl, Nat.le_of_ble_eq_true rfl, _, rfl, rfl, rfl, itY (by rfl) z⟩
  | neg a => exact ⟨_, _, rfl, rfl, Nat.le_of_ble_eq_true rfl, _, rfl, rfl, rfl, itN (by rfl) ⟨rfl, Nat.le_of_ble_eq_true rfl, I, ⟨rfl, rfl⟩, fun _ _ _ _ => trivial, fun i d acc Γ hd => st i d acc Γ hd, fun acc Γ ⟨e1, e2⟩ => by
      subst e1 e2
      exact ⟨_, rfl, by rw [sizeLine_eq]; exact Nat.le_of_ble_eq_true rfl, z⟩⟩⟩
  | bin o a b => exact ⟨_, _, rfl, rfl, Nat.le_of_ble_eq_true rfl, _, rfl, rfl, rfl, itN (by cases o <;> rfl) ⟨rfl, Nat.le_of_ble_eq_true rfl, I, ⟨rfl, rfl⟩, fun _ _ _ _ => trivial, fun i d acc Γ hd => st i d acc Γ hd, fun acc Γ ⟨e1, e2⟩ => by
      subst e1 e2
      exact ⟨_, rfl, by rw [sizeLine_eq]; exact Nat.le_of_ble_eq_true rfl, z⟩⟩⟩

/-! ### dicts by lists -/
section
variable {κ β α : Type} [DecidableEq κ]
theorem look_app {a b : List (κ × β)} {k : κ} : look (a ++ b) k = (look a k).or (look b k) := by
  unfold look
  rw [List.find?_append]
  cases a.find? (fun kv => decide (kv.1 = k)) <;> rfl
theorem put_new {kvs : List (κ × β)} {k : κ} {v : β} (h : look kvs k = none) : put kvs k v = kvs ++ [(k, v)] := by
  unfold put
  rw [if_neg]
  intro e
  obtain ⟨x, hx, he⟩ := List.any_eq_true.mp e
  unfold look at h
  rw [Option.map_eq_none_iff, List.find?_eq_none] at h
  exact h x hx he
theorem look_mem {ns : List α} {f : α → κ} {h : α → β} (hf : ∀ a b, f a = f b → a = b) {j : α} (hj : j ∈ ns) : look (ns.map fun j => (f j, h j)) (f j) = some (h j) := by
  induction ns with
  | nil => cases hj
  | cons a ns ih =>
    rw [List.map_cons, look_cons]
    dsimp only
    by_cases e : f a = f j
    · rw [if_pos e, hf _ _ e]
    · rw [if_neg e]
      rcases List.mem_cons.mp hj with e' | e'
      · exact absurd (by rw [e']) e
      · exact ih e'
theorem look_not {ns : List α} {f : α → κ} {h : α → β} (hf : ∀ a b, f a = f b → a = b) {j : α} (hj : j ∉ ns) : look (ns.map fun j => (f j, h j)) (f j) = none := by
  induction ns with
  | nil => rfl
  | cons a ns ih =>
    rw [List.map_cons, look_cons]
    dsimp only
    rw [List.mem_cons, not_or] at hj
    rw [if_neg (fun e => hj.1 (hf _ _ e).symm)]
    exact ih hj.2
end
def keyN (j : Nat) : Key := .inl (j : Int)
theorem keyN_inj : ∀ a b, keyN a = keyN b → a = b := fun a b e => by
  have : (a : Int) = (b : Int) := Sum.inl.inj e
  omega
def keyS : Stp → List Key
  | .inp i => [.inr "in", .inl (i : Int)]
  | .set c => [.inr "set", .inl c]
  | .neg a => [.inr "neg", .inl (a : Int)]
  | .bin o a b => [.inr (opS o), .inl (a : Int), .inl (b : Int)]
theorem keyS_D (s : Stp) : sD s = .tup ((keyS s).map kD) := by cases s <;> rfl
theorem opS_inj {a b : Op3} (h : opS a = opS b) : a = b := by
  cases a <;> cases b <;> first | rfl | exact absurd h (by decide)
theorem keyS_inj : ∀ a b, keyS a = keyS b → a = b := fun a b e => by
  cases a with
  | inp i =>
    cases b with
    | inp j => simp [keyS] at e; rw [show i = j by omega]
    | set c => exact absurd (Sum.inr.inj (List.cons.inj e).1) (by decide)
    | neg c => exact absurd (Sum.inr.inj (List.cons.inj e).1) (by decide)
    | bin o c d => simp [keyS] at e
  | set i =>
    cases b with
    | inp j => exact absurd (Sum.inr.inj (List.cons.inj e).1) (by decide)
    | set c => simp [keyS] at e; rw [e]
    | neg c => exact absurd (Sum.inr.inj (List.cons.inj e).1) (by decide)
    | bin o c d => simp [keyS] at e
  | neg i =>
    cases b with
    | inp j => exact absurd (Sum.inr.inj (List.cons.inj e).1) (by decide)
    | set c => exact absurd (Sum.inr.inj (List.cons.inj e).1) (by decide)
    | neg c => simp [keyS] at e; rw [show i = c by omega]
    | bin o c d => simp [keyS] at e
  | bin o i j =>
    cases b with
    | inp j => simp [keyS] at e
    | set c => simp [keyS] at e
    | neg c => simp [keyS] at e
    | bin p c d =>
      simp only [keyS, List.cons.injEq, Sum.inr.injEq, Sum.inl.injEq, and_true] at e
      rw [opS_inj e.1, show i = c by omega, show j = d by omega]
/-- the places of steps -/
def plT (l : List Stp) : List (List Key × D) := l.mapIdx fun i s => (keyS s, nD i)
theorem plT_snoc (l : List Stp) (s : Stp) : plT (l ++ [s]) = plT l ++ [(keyS s, nD l.length)] := by
  unfold plT
  rw [List.mapIdx_concat]
theorem plT_len (l : List Stp) : (plT l).length = l.length := by unfold plT; rw [List.length_mapIdx]
theorem plT_not {l : List Stp} {s : Stp} : s ∉ l → look (plT l) (keyS s) = none := by
  refine snocInd (p := fun l => s ∉ l → look (plT l) (keyS s) = none) (fun _ => rfl) (fun l t ih h => ?_) l
  rw [List.mem_append, not_or] at h
  rw [plT_snoc, look_app, ih h.1, look_cons, if_neg (fun e => h.2 (by rw [keyS_inj _ _ e]; simp))]
  rfl
theorem plT_get {l : List Stp} {s : Stp} : s ∈ l → ∃ i, look (plT l) (keyS s) = some (nD i) ∧ l[i]? = some s := by
  refine snocInd (p := fun l => s ∈ l → ∃ i, look (plT l) (keyS s) = some (nD i) ∧ l[i]? = some s) (fun h => nomatch h) (fun l t ih h => ?_) l
  by_cases hl : s ∈ l
  · obtain ⟨i, h1, h2⟩ := ih hl
    refine ⟨i, by rw [plT_snoc, look_app, h1]; rfl, ?_⟩
    rw [List.getElem?_append_left (List.getElem?_eq_some_iff.mp h2).1, h2]
  · have e : s = t := by
      rcases List.mem_append.mp h with h | h
      · exact absurd h hl
      · simpa using h
    subst e
    refine ⟨l.length, ?_, by simp⟩
    rw [plT_snoc, look_app, plT_not hl, look_cons, if_pos rfl]
    rfl
/-- t is r without what isn't needed, its places by g -/
structure Sim (r t : Rw) (g : Nat → Nat) (S : Nat → Prop) : Prop where
  n : t.n = r.n
  en : t.en = r.en.map g
  enS : ∀ e ∈ r.en, S e
  lt : ∀ j, S j → j < r.st.length
  cl : ∀ j s, S j → r.st[j]? = some s → ∀ a ∈ refs s, S a
  st : ∀ j s, S j → r.st[j]? = some s → t.st[g j]? = some (ren g s)
  on : ∀ k, k < t.st.length → ∃ j, S j ∧ g j = k
  wf : Wf t.st
  ln : t.st.length ≤ r.st.length
def sp_slim : GSp := fun args Z => ∃ r : Rw, args = [.im (rD r)] ∧ RowOk r ∧ ∀ t g S, Sim r t g S → Z (.im (rD t)) args
def N_slim : List Str := ["row", "steps", "names", "places", "number", "step", "end"]
def w_slim : WS := (wSeq (wPar3 1 2 3 (wCons (wLst wNil) (wCons wNewK (wCons wNewT wNil)))) (wSeq (wFor (wiTup (wCall sp_needed (wCons (wVar 0) wNil))) (wgName 4) (wSeq (wAsg 5 (wCall sp_step_by (wCons (wIx (wIx (wVar 0) (wC (.int 1))) (wVar 4)) (wCons (wVar 2) wNil)))) (wSeq (wIf (wTest (wDNotInT (wVar 5) (wVar 3))) (wSeq (wPutT (wB gLen (wCons (wVar 1) wNil)) (wVar 3) (wVar 5)) (wDrop (wApp (wVar 1) (wVar 5)))) wNext) (wPutK (wDGetT (wVar 3) (wVar 5)) (wVar 2) (wVar 4))))) (wRet 1 (wTup (wCons (wIx (wVar 0) (wC (.int 0))) (wCons (wB gTuple (wCons (wVar 1) wNil)) (wCons (wB gTuple (wCons (wLc (wiTup (wIx (wVar 0) (wC (.int 2)))) (wgName 6) wYes (wDGetK (wVar 2) (wVar 6)) [6]) wNil)) wNil)))))))
theorem refs_ren {g : Nat → Nat} {s : Stp} : refs (ren g s) = (refs s).map g := by cases s <;> rfl
theorem ren_congr {g h : Nat → Nat} {s : Stp} (e : ∀ a ∈ refs s, g a = h a) : ren g s = ren h s := by
  cases s with
  | inp i => rfl
  | set c => rfl
  | neg a => show Stp.neg _ = Stp.neg _; rw [e a (by simp [refs])]
  | bin o a b => show Stp.bin _ _ _ = Stp.bin _ _ _; rw [e a (by simp [refs]), e b (by simp [refs])]
theorem take_srt {ns : List Nat} (h : ns.Pairwise (· < ·)) {i j a : Nat} (hi : ns[i]? = some j) (ha : a ∈ ns) (lt : a < j) : a ∈ ns.take i := by
  obtain ⟨k, hk, e⟩ := List.mem_iff_getElem.mp ha
  obtain ⟨hi', e'⟩ := List.getElem?_eq_some_iff.mp hi
  have hlt : k < i := by
    by_cases c : k < i
    · exact c
    · by_cases c2 : k = i
      · subst c2; omega
      · have := List.pairwise_iff_getElem.mp h i k hi' hk (by omega)
        omega
  rw [← e]
  exact List.mem_take_iff_getElem.mpr ⟨k, by omega, rfl⟩
theorem not_take {ns : List Nat} (h : ns.Pairwise (· < ·)) {i j : Nat} (hi : ns[i]? = some j) : j ∉ ns.take i := fun m => by
  obtain ⟨k, hk, e⟩ := List.mem_take_iff_getElem.mp m
  obtain ⟨hi', e'⟩ := List.getElem?_eq_some_iff.mp hi
  have := List.pairwise_iff_getElem.mp h k i (by omega) hi' (by omega)
  omega
theorem vc_slim : ∀ args Z, sp_slim args Z → args.length = 1 ∧ w_slim (endsOf 1 Z) (args ++ List.replicate (N_slim.length - 1) .un) := by
  rintro args Z ⟨r, rfl, ok, z⟩
  refine ⟨rfl, Nat.zero_le _, rfl, r, rfl, ok, fun ns no => ?_⟩
  let I : Nat → Gm → Prop := fun i Γ => ∃ (x y : Sl) (st : List Stp) (g : Nat → Nat), Fx x ∧ Fx y ∧ Γ = [.im (rD r), .ce (.ls (st.map sD)), .ce (.dk ((ns.take i).map fun j => (keyN j, nD (g j)))), .ce (.dt (plT st)), x, y, .un] ∧
    st.length ≤ i ∧ (∀ j s, j ∈ ns.take i → r.st[j]? = some s → st[g j]? = some (ren g s)) ∧ (∀ k, k < st.length → ∃ j, j ∈ ns.take i ∧ g j = k) ∧ Wf st ∧ (∀ j ∈ ns.take i, g j < st.length)
  have hns : ns.length ≤ r.st.length := by
    have : ns.Nodup := no.srt.imp fun h => Nat.ne_of_lt h
    have h2 : ns ⊆ List.range r.st.length := fun j hj => List.mem_range.mpr (no.lt j hj)
    have := List.Nodup.length_le_of_subset this h2
    rwa [List.length_range] at this
  have hL := ok.ln
  refine ⟨I, ⟨.un, .un, [], fun _ => 0, trivial, trivial, rfl, Nat.le_refl _, by simp, by simp, fun k s h => by simp at h, by simp⟩, ?_, ?_⟩
  · rintro i d Γ hd ⟨x, y, st, g, hx, hy, rfl, h1, h2, h3, h4, h5⟩
    obtain ⟨j, hj, rfl⟩ := get_of_map hd
    have hjn : j ∈ ns := List.mem_of_getElem? hj
    have hjl := no.lt j hjn
    have hin : i < ns.length := (List.getElem?_eq_some_iff.mp hj).1
    have e1 : r.st[j]? = some (r.st[j]) := List.getElem?_eq_getElem hjl
    generalize hs : r.st[j] = s at *
    have hw : ∀ a ∈ refs s, a ∈ ns.take i := fun a ha => take_srt no.srt hj (no.cl j hjn s e1 a ha) (ok.wf j s e1 a ha)
    have hnot := not_take no.srt hj
    have et : ns.take (i + 1) = ns.take i ++ [j] := by rw [List.take_add_one, hj]; rfl
    refine ⟨_, rfl, hx, _, _, rfl, rfl, _, _, rfl, atI_nat (get_map e1), rfl, s, _, g, rfl, fun a ha => look_mem keyN_inj (hw a ha), ?_⟩
    -- what follows both ways
    have fin : ∀ (st2 : List Stp) (k : Nat), st2[k]? = some (ren g s) → st2.length ≤ i + 1 → (∀ (m : Nat) (t : Stp), st[m]? = some t → st2[m]? = some t) → (∀ m : Nat, m < st2.length → m < st.length ∨ m = k) → Wf st2 →
        I (i + 1) [.im (rD r), .ce (.ls (st2.map sD)), .ce (.dk ((ns.take i).map (fun j => (keyN j, nD (g j))) ++ [(keyN j, nD k)])), .ce (.dt (plT st2)), .im (nD j), .im (sD (ren g s)), .un] := by
      intro st2 k hk l2 hm hc wf2
      let g2 : Nat → Nat := fun a => if a = j then k else g a
      have g2e : ∀ a, a ∈ ns.take i → g2 a = g a := fun a ha => if_neg fun (e : a = j) => hnot (e ▸ ha)
      have g2j : g2 j = k := if_pos rfl
      refine ⟨.im (nD j), .im (sD (ren g s)), st2, g2, fxI, fxI, ?_, l2, fun a t ha ht => ?_, fun m hm' => ?_, wf2, fun a ha => ?_⟩
      · rw [et, List.map_append, List.map_singleton, g2j]
        have : (ns.take i).map (fun j => (keyN j, nD (g2 j))) = (ns.take i).map (fun j => (keyN j, nD (g j))) := List.map_congr_left fun a ha => by rw [g2e a ha]
        rw [this]
      · rw [et, List.mem_append] at ha
        rcases ha with ha | ha
        · rw [g2e a ha]
          have q := hm _ _ (h2 a t ha ht)
          rw [q, ren_congr fun b hb => ?_]
          refine (g2e b ?_).symm
          have han : a ∈ ns := List.mem_of_mem_take ha
          obtain ⟨ka, hka, ea⟩ := List.mem_take_iff_getElem.mp ha
          have hb2 := take_srt no.srt (i := ka) (j := a) (by rw [List.getElem?_eq_getElem (by omega), ea]) (no.cl a han t ht b hb) (ok.wf a t ht b hb)
          have e3 : ns.take ka = (ns.take i).take ka := by rw [List.take_take, Nat.min_eq_left (by omega)]
          rw [e3] at hb2
          exact List.mem_of_mem_take hb2
        · have ha' : a = j := by simpa using ha
          subst ha'
          rw [e1] at ht
          cases ht
          rw [g2j, hk, ren_congr fun b hb => ?_]
          exact (g2e b (hw b hb)).symm
      · rcases hc m hm' with h | h
        · obtain ⟨a, ha, e⟩ := h3 m h
          exact ⟨a, by rw [et]; simp [ha], by rw [g2e a ha]; exact e⟩
        · exact ⟨j, by rw [et]; simp, by rw [g2j]; exact h.symm⟩
      · rw [et, List.mem_append] at ha
        rcases ha with ha | ha
        · rw [g2e a ha]
          have := h5 a ha
          have q : st[g a]? = some (st[g a]) := List.getElem?_eq_getElem this
          exact (List.getElem?_eq_some_iff.mp (hm _ _ q)).1
        · have ha' : a = j := by simpa using ha
          subst ha'
          rw [g2j]
          exact (List.getElem?_eq_some_iff.mp hk).1
    have nk : look ((ns.take i).map fun j => (keyN j, nD (g j))) (keyN j) = none := look_not keyN_inj hnot
    have ln : ((ns.take i).map fun j => (keyN j, nD (g j))).length < 1000 := by rw [List.length_map, List.length_take]; omega
    refine ⟨_, keyS (ren g s), rfl, keyS_D _, fun hb => ?_, fun hb => ?_⟩
    · have hno : look (plT st) (keyS (ren g s)) = none := by simpa using hb
      refine ⟨_, rfl, _, _, rfl, keyS_D _, by rw [plT_len]; omega, ⟨_, rfl⟩, _, rfl, by rw [List.length_map]; omega, ?_⟩
      have e2 : put (plT st) (keyS (ren g s)) (.int ((st.map sD).length : Int)) = plT (st ++ [ren g s]) := by
        rw [put_new hno, plT_snoc, List.length_map]; rfl
      refine ⟨_, keyS (ren g s), nD st.length, rfl, keyS_D _, ?_, _, keyN j, rfl, rfl, ln, ?_⟩
      · show look (put (plT st) (keyS (ren g s)) (.int ((st.map sD).length : Int))) _ = _
        rw [e2, plT_snoc, look_app, hno, look_cons, if_pos rfl]
        rfl
      · have := fin (st ++ [ren g s]) st.length (by simp) (by simp; omega) (fun m t q => by rw [List.getElem?_append_left (List.getElem?_eq_some_iff.mp q).1, q]) (fun m hm => by simp at hm; omega) (fun k t q a ha => ?_)
        · show I (i + 1) [_, .ce (.ls (st.map sD ++ [sD (ren g s)])), .ce (.dk (put _ (keyN j) (nD st.length))), .ce (.dt (put (plT st) (keyS (ren g s)) (.int ((st.map sD).length : Int)))), _, _, _]
          rw [e2, put_new nk]
          rw [List.map_append] at this
          exact this
        · by_cases hk : k < st.length
          · rw [List.getElem?_append_left hk] at q
            exact h4 k t q a ha
          · have hk2 : k < (st ++ [ren g s]).length := (List.getElem?_eq_some_iff.mp q).1
            have hk3 : k = st.length := by simp at hk2; omega
            subst hk3
            have q2 : t = ren g s := by simpa using q.symm
            subst q2
            rw [refs_ren] at ha
            obtain ⟨b, hb, rfl⟩ := List.mem_map.mp ha
            exact h5 b (hw b hb)
    · have hyes : ren g s ∈ st := by
        by_cases c : ren g s ∈ st
        · exact c
        · rw [plT_not c] at hb; simp at hb
      obtain ⟨k, q1, q2⟩ := plT_get hyes
      refine ⟨_, keyS (ren g s), nD k, rfl, keyS_D _, q1, _, keyN j, rfl, rfl, ln, ?_⟩
      show I (i + 1) [_, _, .ce (.dk (put _ (keyN j) (nD k))), _, _, _, _]
      rw [put_new nk]
      exact fin st k q2 (by omega) (fun _ _ h => h) (fun m hm => .inl hm) h4
  · rintro Γ ⟨x, y, st, g, hx, hy, rfl, h1, h2, h3, h4, h5⟩
    rw [List.length_map] at h1 h2 h3 h5 ⊢
    rw [List.take_length] at h2 h3 h5 ⊢
    refine ⟨_, _, rfl, rfl, _, rfl, _, _, rfl, rfl, rfl, by rw [List.length_map]; have := ok.le; omega, fun i acc Γ => Γ = [.im (rD r), .ce (.ls (st.map sD)), .ce (.dk (ns.map fun j => (keyN j, nD (g j)))), .ce (.dt (plT st)), x, y, .un] ∧ acc = (r.en.take i).map fun e => nD (g e), ⟨rfl, rfl⟩, fun _ _ _ _ => trivial, ?_, ?_⟩
    · rintro i d acc Γ hd ⟨rfl, rfl⟩
      obtain ⟨e, he, rfl⟩ := get_of_map hd
      refine ⟨_, rfl, fxU, fun _ => ⟨_, keyN e, _, rfl, rfl, look_mem keyN_inj (no.en e (List.mem_of_getElem? he)), rfl, ?_⟩, nofun⟩
      rw [List.take_add_one, he]
      simp
    · rintro acc Γ ⟨rfl, rfl⟩
      rw [List.length_map, List.take_length]
      refine ⟨_, rfl, Nat.le_of_ble_eq_true rfl, ?_⟩
      have := z ⟨r.n, st, r.en.map g⟩ g (· ∈ ns) ⟨rfl, rfl, no.en, no.lt, fun j s hj hs => no.cl j hj s hs, fun j s hj hs => h2 j s hj hs, fun k hk => h3 k hk, h4, by show st.length ≤ _; omega⟩
      unfold rD nsD at this
      rw [List.map_map] at this
      exact this
end G
set_option maxRecDepth 100000
set_option maxHeartbeats 4000000
/-! WF: fed, beside, renamed. -/
namespace G
open PySem PySem.Spec PyProof.Rows L2
def isInp : Stp → Bool
  | .inp _ => true
  | _ => false
/-- st: one's steps, then those of the first m of other's that aren't inputs; other's place j stands at g j -/
structure FedTo (one other : Rw) (m : Nat) (st : List Stp) (g : Nat → Nat) : Prop where
  pre : ∀ k : Nat, k < one.st.length → st[k]? = one.st[k]?
  ln1 : one.st.length ≤ st.length
  ln2 : st.length ≤ one.st.length + m
  inp : ∀ (j i : Nat), j < m → other.st[j]? = some (.inp i) → one.en[i]? = some (g j)
  at_ : ∀ (j : Nat) (s : Stp), j < m → other.st[j]? = some s → isInp s = false → st[g j]? = some (ren g s)
  lt : ∀ j, j < m → g j < st.length
  on : ∀ k, one.st.length ≤ k → k < st.length → ∃ j s, j < m ∧ other.st[j]? = some s ∧ isInp s = false ∧ g j = k
  wf : Wf st
def fedOf (one other : Rw) (st : List Stp) (g : Nat → Nat) : Rw := ⟨one.n, st, other.en.map g⟩
def sp_fed : GSp := fun args Z => ∃ one other : Rw, args = [.im (rD one), .im (rD other)] ∧ RowOk one ∧ RowOk other ∧ one.en.length = other.n ∧ one.st.length + other.st.length ≤ 900 ∧
  (∀ st g, FedTo one other other.st.length st g → Fits (fedOf one other st g)) ∧ ∀ st g, FedTo one other other.st.length st g → Z (.im (rD (fedOf one other st g))) args
def N_fed : List Str := ["one", "other", "steps", "names", "number", "step", "end"]
def w_fed : WS := (wSeq (wIf (wTest (wOp gNe (wB gLen (wCons (wIx (wVar 0) (wC (.int 2))) wNil)) (wIx (wVar 1) (wC (.int 0))))) wNever wNext) (wSeq (wPar 2 3 (wCons (wB gList (wCons (wIx (wVar 0) (wC (.int 1))) wNil)) (wCons wNewK wNil))) (wSeq (wFor (wiEnum (wCons (wIx (wVar 1) (wC (.int 1))) wNil)) (wgTup 2 (wgCons (wgName 4) (wgCons (wgName 5) wgNil))) (wIf (wTest (wOp gEq (wIx (wVar 5) (wC (.int 0))) (wC (.str "in")))) (wPutK (wIx (wIx (wVar 0) (wC (.int 2))) (wIx (wVar 5) (wC (.int 1)))) (wVar 3) (wVar 4)) (wSeq (wPutK (wB gLen (wCons (wVar 2) wNil)) (wVar 3) (wVar 4)) (wDrop (wApp (wVar 2) (wCall sp_step_by (wCons (wVar 5) (wCons (wVar 3) wNil)))))))) (wRet 2 (wCall sp_checked (wCons (wTup (wCons (wIx (wVar 0) (wC (.int 0))) (wCons (wB gTuple (wCons (wVar 2) wNil)) (wCons (wB gTuple (wCons (wLc (wiTup (wIx (wVar 1) (wC (.int 2)))) (wgName 6) wYes (wDGetK (wVar 3) (wVar 6)) [6]) wNil)) wNil)))) wNil))))))
theorem inp_first {s : Stp} : ∃ w ds, sD s = .tup (.str w :: ds) ∧ isInp s = decide (w = ("in" : Str)) := by
  cases s with
  | inp i => exact ⟨_, _, rfl, by rfl⟩
  | set i => exact ⟨_, _, rfl, by rfl⟩
  | neg i => exact ⟨_, _, rfl, by rfl⟩
  | bin o a b => exact ⟨_, _, rfl, by cases o <;> rfl⟩
theorem ix0 {s : Stp} {Γ : Gm} {Z : D → Prop} (h : ∀ w : Str, isInp s = decide (w = ("in" : Str)) → Z (.str w)) : IxZ Γ (.im (sD s)) 0 Z := by
  cases s with
  | inp i => exact ⟨_, _, rfl, rfl, h _ (by rfl)⟩
  | set i => exact ⟨_, _, rfl, rfl, h _ (by rfl)⟩
  | neg i => exact ⟨_, _, rfl, rfl, h _ (by rfl)⟩
  | bin o a b => exact ⟨_, _, rfl, rfl, h _ (by cases o <;> rfl)⟩
theorem FedTo.step {one other : Rw} {m : Nat} {st : List Stp} {g : Nat → Nat} (F : FedTo one other m st g) (wo : Wf other.st) {s : Stp} (hs : other.st[m]? = some s) (hn : isInp s = false) :
    FedTo one other (m + 1) (st ++ [ren g s]) (fun a => if a = m then st.length else g a) := by
  have hw := wo m s hs
  have ge : ∀ a, a < m → (if a = m then st.length else g a) = g a := fun a ha => if_neg (by omega)
  have gm : (if m = m then st.length else g m) = st.length := if_pos rfl
  refine ⟨fun k hk => ?_, ?_, ?_, fun j i hj h => ?_, fun j t hj h hi => ?_, fun j hj => ?_, fun k h1 h2 => ?_, fun k t h a ha => ?_⟩
  · rw [List.getElem?_append_left (by have := F.ln1; omega)]; exact F.pre k hk
  · have := F.ln1; simp; omega
  · have := F.ln2; simp; omega
  · by_cases e : j = m
    · subst e
      rw [hs] at h
      cases h
      cases hn
    · show one.en[i]? = some (if j = m then st.length else g j)
      rw [if_neg e]
      exact F.inp j i (by omega) h
  · show (st ++ [ren g s])[if j = m then st.length else g j]? = some (ren _ t)
    by_cases e : j = m
    · subst e
      rw [hs] at h
      cases h
      rw [if_pos rfl, List.getElem?_append_right (Nat.le_refl _), Nat.sub_self]
      show some (ren g s) = _
      rw [ren_congr fun a ha => ?_]
      exact (ge a (hw a ha)).symm
    · have hj' : j < m := by omega
      rw [if_neg e, List.getElem?_append_left (F.lt j hj'), F.at_ j t hj' h hi, ren_congr fun a ha => (ge a (by have := wo j t h a ha; omega)).symm]
  · show (if j = m then st.length else g j) < _
    by_cases e : j = m
    · rw [if_pos e]; simp
    · rw [if_neg e]
      have := F.lt j (by omega)
      simp; omega
  · simp at h2
    by_cases e : k = st.length
    · exact ⟨m, s, by omega, hs, hn, by rw [e]; exact if_pos rfl⟩
    · obtain ⟨j, t, h3, h4, h5, h6⟩ := F.on k h1 (by omega)
      exact ⟨j, t, by omega, h4, h5, by rw [← h6]; exact if_neg (by omega)⟩
  · by_cases hk : k < st.length
    · rw [List.getElem?_append_left hk] at h
      exact F.wf k t h a ha
    · have hk2 : k < (st ++ [ren g s]).length := (List.getElem?_eq_some_iff.mp h).1
      have hk3 : k = st.length := by simp at hk2; omega
      subst hk3
      have q2 : t = ren g s := by simpa using h.symm
      subst q2
      rw [refs_ren] at ha
      obtain ⟨b, hb, rfl⟩ := List.mem_map.mp ha
      exact F.lt b (hw b hb)
theorem FedTo.stepI {one other : Rw} {m : Nat} {st : List Stp} {g : Nat → Nat} (F : FedTo one other m st g) (wo : Wf other.st) {i e : Nat} (hs : other.st[m]? = some (.inp i)) (he : one.en[i]? = some e) (hl : e < one.st.length) :
    FedTo one other (m + 1) st (fun a => if a = m then e else g a) := by
  have ge : ∀ a, a < m → (if a = m then e else g a) = g a := fun a ha => if_neg (by omega)
  refine ⟨F.pre, F.ln1, by have := F.ln2; omega, fun j i' hj h => ?_, fun j t hj h hi => ?_, fun j hj => ?_, fun k h1 h2 => ?_, F.wf⟩
  · show one.en[i']? = some (if j = m then e else g j)
    by_cases c : j = m
    · subst c
      rw [hs] at h
      cases h
      rw [if_pos rfl]; exact he
    · rw [if_neg c]
      exact F.inp j i' (by omega) h
  · show st[if j = m then e else g j]? = some (ren _ t)
    by_cases c : j = m
    · subst c
      rw [hs] at h
      cases h
      cases hi
    · have hj' : j < m := by omega
      rw [if_neg c, F.at_ j t hj' h hi, ren_congr fun a ha => (ge a (by have := wo j t h a ha; omega)).symm]
  · show (if j = m then e else g j) < _
    by_cases c : j = m
    · rw [if_pos c]; have := F.ln1; omega
    · rw [if_neg c]; exact F.lt j (by omega)
  · obtain ⟨j, t, h3, h4, h5, h6⟩ := F.on k h1 h2
    exact ⟨j, t, by omega, h4, h5, by rw [← h6]; exact if_neg (by omega)⟩
theorem range_put {g : Nat → Nat} {i k : Nat} : put ((List.range i).map fun j => (keyN j, nD (g j))) (keyN i) (nD k) = (List.range (i + 1)).map fun j => (keyN j, nD ((fun a => if a = i then k else g a) j)) := by
  rw [put_new (look_not keyN_inj (by simp)), List.range_succ, List.map_append, List.map_singleton]
  congr 1
  · apply List.map_congr_left
    intro a ha
    have : a < i := List.mem_range.mp ha
    show (keyN a, nD (g a)) = (keyN a, nD (if a = i then k else g a))
    rw [if_neg (by omega)]
  · show [(keyN i, nD k)] = [(keyN i, nD (if i = i then k else g i))]
    rw [if_pos rfl]
theorem inp_D {s : Stp} (h : isInp s = true) : ∃ i, s = .inp i := by cases s <;> first | exact ⟨_, rfl⟩ | cases h
theorem vc_fed : ∀ args Z, sp_fed args Z → args.length = 2 ∧ w_fed (endsOf 2 Z) (args ++ List.replicate (N_fed.length - 2) .un) := by
  rintro args Z ⟨one, other, rfl, k1, k2, hn, h900, hf, z⟩
  refine ⟨rfl, _, _, rfl, rfl, _, rfl, _, _, rfl, rfl, itN ?_ ⟨_, _, rfl, rfl, _, rfl, _, _, rfl, rfl, ?_⟩⟩
  · rw [List.length_map, hn, decide_eq_true rfl]; rfl
  let I : Nat → Gm → Prop := fun i Γ => ∃ (x y : Sl) (st : List Stp) (g : Nat → Nat), Fx x ∧ Fx y ∧ FedTo one other i st g ∧ Γ = [.im (rD one), .im (rD other), .ce (.ls (st.map sD)), .ce (.dk ((List.range i).map fun j => (keyN j, nD (g j)))), x, y, .un]
  refine ⟨I, ⟨.un, .un, one.st, fun _ => 0, trivial, trivial, ⟨fun _ _ => rfl, Nat.le_refl _, Nat.le_refl _, fun j i h => by omega, fun j s h => by omega, fun j h => by omega, fun k h1 h2 => by omega, k1.wf⟩, rfl⟩, ?_, ?_⟩
  · rintro i d Γ hd ⟨x, y, st, g, hx, hy, F, rfl⟩
    obtain ⟨e, he, rfl⟩ := enumD_of hd
    obtain ⟨s, hs, rfl⟩ := get_of_map he
    have hi : i < other.st.length := (List.getElem?_eq_some_iff.mp hs).1
    have ln := F.ln2
    refine ⟨rfl, _, rfl, hx, _, rfl, hy, rfl, ix0 (s := s) fun w hw => ⟨fun hb => ?_, fun hb => ?_⟩⟩ <;> rw [← hw] at hb
    · obtain ⟨j, rfl⟩ := inp_D hb
      have hj := k2.inn i j hs
      obtain ⟨e, he⟩ : ∃ e, one.en[j]? = some e := ⟨_, List.getElem?_eq_getElem (by omega)⟩
      refine ⟨_, _, rfl, rfl, _, _, rfl, rfl, _, _, rfl, atI_nat (get_map he), _, keyN i, rfl, rfl, by rw [List.length_map, List.length_range]; omega, ?_⟩
      refine ⟨.im (.int (i : Int)), .im (sD (.inp j)), st, _, trivial, trivial, F.stepI k2.wf hs he (k1.en e (List.mem_of_getElem? he)), ?_⟩
      rw [← range_put]
      rfl
    · refine ⟨_, rfl, _, keyN i, rfl, rfl, by rw [List.length_map, List.length_range]; omega, ⟨_, rfl⟩, rfl, s, _, fun a => if a = i then st.length else g a, rfl, fun a ha => ?_, _, rfl, by rw [List.length_map]; omega, ?_⟩
      · have hai := k2.wf i s hs a ha
        show look (put _ (keyN i) (nD ((st.map sD).length))) (keyN a) = _
        rw [range_put]
        rw [List.length_map]
        exact look_mem (h := fun j => nD ((fun a => if a = i then st.length else g a) j)) keyN_inj (List.mem_range.mpr (by omega))
      · refine ⟨.im (.int (i : Int)), .im (sD s), _, _, trivial, trivial, F.step k2.wf hs hb, ?_⟩
        rw [← range_put, List.map_append, ren_congr (g := fun a => if a = i then st.length else g a) (h := g) fun a ha => if_neg (by have := k2.wf i s hs a ha; omega)]
        rw [← List.length_map (f := sD) (as := st)]
        rfl
  · rintro Γ ⟨x, y, st, g, hx, hy, F, rfl⟩
    rw [enumD_len, List.length_map] at F
    rw [enumD_len, List.length_map]
    refine ⟨_, _, rfl, rfl, _, rfl, _, _, rfl, rfl, rfl, by rw [List.length_map]; have := k2.le; omega, fun i acc Γ => Γ = [.im (rD one), .im (rD other), .ce (.ls (st.map sD)), .ce (.dk ((List.range other.st.length).map fun j => (keyN j, nD (g j)))), x, y, .un] ∧ acc = (other.en.take i).map fun e => nD (g e), ⟨rfl, rfl⟩, fun _ _ _ _ => trivial, ?_, ?_⟩
    · rintro i d acc Γ hd ⟨rfl, rfl⟩
      obtain ⟨e, he, rfl⟩ := get_of_map hd
      refine ⟨_, rfl, fxU, fun _ => ⟨_, keyN e, _, rfl, rfl, look_mem keyN_inj (List.mem_range.mpr (k2.en e (List.mem_of_getElem? he))), rfl, ?_⟩, nofun⟩
      rw [List.take_add_one, he]
      simp
    · rintro acc Γ ⟨rfl, rfl⟩
      rw [List.length_map, List.take_length]
      refine ⟨_, rfl, Nat.le_of_ble_eq_true rfl, rfl, fedOf one other st g, ?_, hf st g F, z st g F⟩
      show [Sl.im (.tup [_, _, .tup (other.en.map fun e => nD (g e))])] = [Sl.im (.tup [_, _, .tup ((other.en.map g).map nD)])]
      rw [List.map_map]
      rfl
/-! renamed -/
def rnS (order : List Nat) : Stp → Stp
  | .inp i => .inp (order.getD i 0)
  | s => s
def rnR (r : Rw) (inputs : Nat) (order : List Nat) : Rw := ⟨inputs, r.st.map (rnS order), r.en⟩
def sp_renamed : GSp := fun args Z => ∃ (r : Rw) (m : Nat) (order : List Nat), args = [.im (rD r), .im (.int (m : Int)), .im (nsD order)] ∧ RowOk r ∧ order.length = r.n ∧ Z (.im (rD (rnR r m order))) args
def N_renamed : List Str := ["row", "inputs", "order", "steps", "step"]
def w_renamed : WS := (wSeq (wAsg 3 (wLc (wiTup (wIx (wVar 0) (wC (.int 1)))) (wgName 4) wYes (wIfE (wTest (wOp gEq (wIx (wVar 4) (wC (.int 0))) (wC (.str "in")))) (wTup (wCons (wC (.str "in")) (wCons (wIx (wVar 2) (wIx (wVar 4) (wC (.int 1)))) wNil))) (wVar 4)) [4])) (wRet 3 (wTup (wCons (wVar 1) (wCons (wB gTuple (wCons (wVar 3) wNil)) (wCons (wIx (wVar 0) (wC (.int 2))) wNil))))))
theorem vc_renamed : ∀ args Z, sp_renamed args Z → args.length = 3 ∧ w_renamed (endsOf 3 Z) (args ++ List.replicate (N_renamed.length - 3) .un) := by
  rintro args Z ⟨r, m, order, rfl, ok, ho, z⟩
  refine ⟨rfl, _, _, rfl, rfl, rfl, by rw [List.length_map]; have := ok.ln; omega, fun i acc Γ => Γ = [.im (rD r), .im (.int (m : Int)), .im (nsD order), .un, .un] ∧ acc = (r.st.take i).map fun s => sD (rnS order s), ⟨rfl, rfl⟩, fun _ _ _ _ => trivial, ?_, ?_⟩
  · rintro i d acc Γ hd ⟨rfl, rfl⟩
    obtain ⟨s, hs, rfl⟩ := get_of_map hd
    have et : (r.st.take (i + 1)).map (fun s => sD (rnS order s)) = (r.st.take i).map (fun s => sD (rnS order s)) ++ [sD (rnS order s)] := by
      rw [List.take_add_one, hs]; simp
    refine ⟨_, rfl, fxU, fun _ => ix0 (s := s) fun w hw => ⟨fun hb => ?_, fun hb => ?_⟩, nofun⟩ <;> rw [← hw] at hb
    · obtain ⟨j, rfl⟩ := inp_D hb
      have hj := ok.inn i j hs
      refine ⟨_, _, rfl, rfl, _, _, rfl, atI_nat (get_map (pl_get (z := 0) (by omega))), Nat.le_of_ble_eq_true rfl, rfl, ?_⟩
      rw [et]
      rfl
    · have e2 : rnS order s = s := by cases s <;> first | rfl | cases hb
      refine ⟨rfl, ?_⟩
      rw [et, e2]
  · rintro acc Γ ⟨rfl, rfl⟩
    rw [List.length_map, List.take_length]
    refine ⟨_, rfl, _, _, rfl, rfl, Nat.le_of_ble_eq_true rfl, ?_⟩
    have : rD (rnR r m order) = .tup [.int (m : Int), .tup (r.st.map fun s => sD (rnS order s)), nsD r.en] := by
      show D.tup [_, .tup ((r.st.map (rnS order)).map sD), _] = _
      rw [List.map_map]
      rfl
    rw [this] at z
    exact z
end G
set_option maxRecDepth 100000
set_option maxHeartbeats 4000000
/-! WG: beside. -/
namespace G
open PySem PySem.Spec PyProof.Rows L2
def besS (n L : Nat) : Stp → Stp
  | .inp i => .inp (n + i)
  | s => ren (fun a => L + a) s
def besR (one other : Rw) : Rw := ⟨one.n + other.n, one.st ++ other.st.map (besS one.n one.st.length), one.en ++ other.en.map (fun a => one.st.length + a)⟩
def sp_beside : GSp := fun args Z => ∃ one other : Rw, args = [.im (rD one), .im (rD other)] ∧ RowOk one ∧ RowOk other ∧ one.st.length + other.st.length ≤ 900 ∧ one.en.length + other.en.length ≤ 900 ∧ Fits (besR one other) ∧ Z (.im (rD (besR one other))) args
def N_beside : List Str := ["one", "other", "names", "steps", "number", "step", "ends", "end"]
def w_beside : WS := (wSeq (wPar 2 3 (wCons wNewK (wCons (wB gList (wCons (wIx (wVar 0) (wC (.int 1))) wNil)) wNil))) (wSeq (wFor (wiEnum (wCons (wIx (wVar 1) (wC (.int 1))) wNil)) (wgTup 2 (wgCons (wgName 4) (wgCons (wgName 5) wgNil))) (wSeq (wPutK (wOp gAdd (wB gLen (wCons (wIx (wVar 0) (wC (.int 1))) wNil)) (wVar 4)) (wVar 2) (wVar 4)) (wDrop (wApp (wVar 3) (wIfE (wTest (wOp gEq (wIx (wVar 5) (wC (.int 0))) (wC (.str "in")))) (wTup (wCons (wC (.str "in")) (wCons (wOp gAdd (wIx (wVar 0) (wC (.int 0))) (wIx (wVar 5) (wC (.int 1)))) wNil))) (wCall sp_step_by (wCons (wVar 5) (wCons (wVar 2) wNil)))))))) (wSeq (wAsg 6 (wOp gAdd (wIx (wVar 0) (wC (.int 2))) (wB gTuple (wCons (wLc (wiTup (wIx (wVar 1) (wC (.int 2)))) (wgName 7) wYes (wDGetK (wVar 2) (wVar 7)) [7]) wNil)))) (wRet 2 (wCall sp_checked (wCons (wTup (wCons (wOp gAdd (wIx (wVar 0) (wC (.int 0))) (wIx (wVar 1) (wC (.int 0)))) (wCons (wB gTuple (wCons (wVar 3) wNil)) (wCons (wVar 6) wNil)))) wNil))))))
theorem vc_beside : ∀ args Z, sp_beside args Z → args.length = 2 ∧ w_beside (endsOf 2 Z) (args ++ List.replicate (N_beside.length - 2) .un) := by
  rintro args Z ⟨one, other, rfl, k1, k2, h900, h901, hf, z⟩
  let L := one.st.length
  let I : Nat → Gm → Prop := fun i Γ => ∃ (x y : Sl), Fx x ∧ Fx y ∧ Γ = [.im (rD one), .im (rD other), .ce (.dk ((List.range i).map fun j => (keyN j, nD (L + j)))), .ce (.ls ((one.st ++ (other.st.take i).map (besS one.n L)).map sD)), x, y, .un, .un]
  refine ⟨rfl, _, _, rfl, rfl, _, rfl, _, _, rfl, rfl, I, ⟨.un, .un, trivial, trivial, by simp; rfl⟩, ?_, ?_⟩
  · rintro i d Γ hd ⟨x, y, hx, hy, rfl⟩
    obtain ⟨e, he, rfl⟩ := enumD_of hd
    obtain ⟨s, hs, rfl⟩ := get_of_map he
    have hi : i < other.st.length := (List.getElem?_eq_some_iff.mp hs).1
    have et : ((one.st ++ (other.st.take (i + 1)).map (besS one.n L)).map sD) = ((one.st ++ (other.st.take i).map (besS one.n L)).map sD) ++ [sD (besS one.n L s)] := by
      rw [List.take_add_one, hs]; simp
    have ed : put ((List.range i).map fun j => (keyN j, nD (L + j))) (keyN i) (.int (((one.st.map sD).length : Int) + (i : Int))) = (List.range (i + 1)).map fun j => (keyN j, nD (L + j)) := by
      rw [put_new (look_not keyN_inj (by simp)), List.range_succ, List.map_append, List.length_map]
      congr 1
    have lm : ((one.st ++ (other.st.take i).map (besS one.n L)).map sD).length < 1000 := by simp; omega
    refine ⟨rfl, _, rfl, hx, _, rfl, hy, rfl, _, _, rfl, rfl, _, rfl, _, keyN i, rfl, rfl, by rw [List.length_map, List.length_range]; omega, ⟨_, rfl⟩, ix0 (s := s) fun w hw => ⟨fun hb => ?_, fun hb => ?_⟩⟩ <;> rw [← hw] at hb
    · obtain ⟨j, rfl⟩ := inp_D hb
      refine ⟨_, _, rfl, rfl, _, _, rfl, rfl, Nat.le_of_ble_eq_true rfl, _, rfl, lm, .im (.int (i : Int)), .im (sD (.inp j)), trivial, trivial, ?_⟩
      rw [et, ← ed]
      rfl
    · have e2 : besS one.n L s = ren (fun a => L + a) s := by cases s <;> first | rfl | cases hb
      refine ⟨rfl, s, _, fun a => L + a, rfl, fun a ha => ?_, _, rfl, lm, .im (.int (i : Int)), .im (sD s), trivial, trivial, ?_⟩
      · show look (put _ (keyN i) _) (keyN a) = _
        rw [ed]
        exact look_mem (h := fun j => nD (L + j)) keyN_inj (List.mem_range.mpr (by have := k2.wf i s hs a ha; omega))
      · rw [et, ← ed, e2]
        rfl
  · rintro Γ ⟨x, y, hx, hy, rfl⟩
    rw [enumD_len, List.length_map, List.take_length]
    refine ⟨_, _, rfl, rfl, _, _, rfl, rfl, rfl, by rw [List.length_map]; have := k2.le; omega, fun i acc Γ => Γ = [.im (rD one), .im (rD other), .ce (.dk ((List.range other.st.length).map fun j => (keyN j, nD (L + j)))), .ce (.ls ((one.st ++ other.st.map (besS one.n L)).map sD)), x, y, .un, .un] ∧ acc = (other.en.take i).map fun e => nD (L + e), ⟨rfl, rfl⟩, fun _ _ _ _ => trivial, ?_, ?_⟩
    · rintro i d acc Γ hd ⟨rfl, rfl⟩
      obtain ⟨e, he, rfl⟩ := get_of_map hd
      refine ⟨_, rfl, fxU, fun _ => ⟨_, keyN e, _, rfl, rfl, look_mem (h := fun j => nD (L + j)) keyN_inj (List.mem_range.mpr (k2.en e (List.mem_of_getElem? he))), rfl, ?_⟩, nofun⟩
      rw [List.take_add_one, he]
      simp
    · rintro acc Γ ⟨rfl, rfl⟩
      rw [List.length_map, List.take_length]
      have e3 : rD (besR one other) = .tup [.int ((one.n : Int) + (other.n : Int)), .tup ((one.st ++ other.st.map (besS one.n L)).map sD), .tup (one.en.map nD ++ other.en.map fun e => nD (L + e))] := by
        show D.tup [.int (((one.n + other.n : Nat)) : Int), _, .tup ((one.en ++ other.en.map fun a => L + a).map nD)] = _
        rw [List.map_append, List.map_map, Int.natCast_add]
        rfl
      refine ⟨_, rfl, line1000 (by simp; omega), _, _, rfl, rfl, _, _, rfl, rfl, _, rfl, Nat.le_of_ble_eq_true rfl, rfl, besR one other, by rw [e3]; rfl, hf, ?_⟩
      exact z
end G
set_option maxRecDepth 100000
set_option maxHeartbeats 4000000
/-! WH: rates. -/
namespace G
open PySem PySem.Spec PyProof.Rows L2
theorem take_map {α β : Type} {l : List α} {i : Nat} {x : α} (h : l[i]? = some x) (f : α → β) : (l.take (i + 1)).map f = (l.take i).map f ++ [f x] := by
  rw [List.take_add_one, h]; simp
theorem zipD_of {xs ys : List D} {i : Nat} {d : D} (h : (zipD xs ys)[i]? = some d) : ∃ x y, xs[i]? = some x ∧ ys[i]? = some y ∧ d = .tup [x, y] := by
  have hi : i < (zipD xs ys).length := (List.getElem?_eq_some_iff.mp h).1
  rw [zipD_len] at hi
  have e1 := List.getElem?_eq_getElem (l := xs) (i := i) (by omega)
  have e2 := List.getElem?_eq_getElem (l := ys) (i := i) (by omega)
  refine ⟨_, _, e1, e2, ?_⟩
  rw [zipD_get e1 e2] at h
  exact (Option.some.inj h).symm
/-- the rates' step -/
def unitV (n i : Nat) : List Int := (List.range n).map fun u => if u = i then 1 else 0
def rvS (n : Nat) (kn : Nat → Int) (R : Nat → List Int) : Stp → List Int
  | .inp i => unitV n i
  | .set _ => List.replicate n 0
  | .neg a => (R a).map fun x => 0 - x
  | .bin .add a b => List.zipWith (fun x y => x + y) (R a) (R b)
  | .bin .sub a b => List.zipWith (fun x y => x - y) (R a) (R b)
  | .bin .mul a b => List.zipWith (fun x y => x * kn b + kn a * y) (R a) (R b)
def rvOk (kn : Nat → Int) (R : Nat → List Int) : Stp → Prop
  | .bin .mul a b => (∀ x ∈ R a, CMulW x (kn b)) ∧ ∀ y ∈ R b, CMulW (kn a) y
  | _ => True
def sp_step_rates : GSp := fun args Z => ∃ (r : Rw) (s : Stp) (kn : List Int) (R : List (List Int)), args = [.im (rD r), .im (sD s), .im (isD kn), .ce (.ls (R.map isD))] ∧ 0 < r.n ∧ r.n ≤ 900 ∧
  (∀ a ∈ refs s, a < kn.length ∧ a < R.length ∧ (pl [] R a).length ≤ 900) ∧ rvOk (pl 0 kn) (pl [] R) s ∧ Z (.im (isD (rvS r.n (pl 0 kn) (pl [] R) s))) args
def N_step_rates : List Str := ["row", "step", "known", "rates", "one", "other", "unknown", "a", "b"]
def w_step_rates : WS := (wSeq (wIf (wTest (wOp gEq (wIx (wVar 1) (wC (.int 0))) (wC (.str "in")))) (wRet 4 (wB gTuple (wCons (wLc (wiRng1 (wCons (wIx (wVar 0) (wC (.int 0))) wNil)) (wgName 6) wYes (wB gInt (wCons (wOp gEq (wVar 6) (wIx (wVar 1) (wC (.int 1)))) wNil)) [6]) wNil))) wNext) (wSeq (wIf (wTest (wOp gEq (wIx (wVar 1) (wC (.int 0))) (wC (.str "set")))) (wRet 4 (wOp gRep (wTup (wCons (wC (.int 0)) wNil)) (wIx (wVar 0) (wC (.int 0))))) wNext) (wSeq (wAsg 4 (wIx (wVar 3) (wIx (wVar 1) (wC (.int 1))))) (wSeq (wIf (wTest (wOp gEq (wIx (wVar 1) (wC (.int 0))) (wC (.str "neg")))) (wRet 4 (wB gTuple (wCons (wLc (wiTup (wVar 4)) (wgName 7) wYes (wOp gSub (wC (.int 0)) (wVar 7)) [7]) wNil))) wNext) (wSeq (wAsg 5 (wIx (wVar 3) (wIx (wVar 1) (wC (.int 2))))) (wSeq (wIf (wTest (wOp gEq (wIx (wVar 1) (wC (.int 0))) (wC (.str "+")))) (wRet 4 (wB gTuple (wCons (wLc (wiZip (wCons (wVar 4) (wCons (wVar 5) wNil))) (wgTup 2 (wgCons (wgName 7) (wgCons (wgName 8) wgNil))) wYes (wOp gAdd (wVar 7) (wVar 8)) [7, 8]) wNil))) wNext) (wSeq (wIf (wTest (wOp gEq (wIx (wVar 1) (wC (.int 0))) (wC (.str "-")))) (wRet 4 (wB gTuple (wCons (wLc (wiZip (wCons (wVar 4) (wCons (wVar 5) wNil))) (wgTup 2 (wgCons (wgName 7) (wgCons (wgName 8) wgNil))) wYes (wOp gSub (wVar 7) (wVar 8)) [7, 8]) wNil))) wNext) (wRet 4 (wB gTuple (wCons (wLc (wiZip (wCons (wVar 4) (wCons (wVar 5) wNil))) (wgTup 2 (wgCons (wgName 7) (wgCons (wgName 8) wgNil))) wYes (wOp gAdd (wOp gMul (wVar 7) (wIx (wVar 2) (wIx (wVar 1) (wC (.int 2))))) (wOp gMul (wIx (wVar 2) (wIx (wVar 1) (wC (.int 1)))) (wVar 8))) [7, 8]) wNil))))))))))
theorem at_row {R : List (List Int)} {a : Nat} (h : a < R.length) : L2.atI (R.map isD) (a : Int) = some (isD (pl [] R a)) := atI_nat (get_map (pl_get (z := []) h))
theorem rep0 {n : Nat} : (List.replicate ((n : Int)).toNat [D.int 0]).flatten = (List.replicate n (0 : Int)).map .int := by
  rw [Int.toNat_natCast]
  induction n with
  | zero => rfl
  | succ n ih => rw [List.replicate_succ, List.flatten_cons, ih, List.replicate_succ]; rfl
theorem zip_ints {f : Int → Int → Int} {x y : List Int} {i : Nat} {a b : Int} (ha : x[i]? = some a) (hb : y[i]? = some b) : (List.zipWith f x y)[i]? = some (f a b) := by
  rw [List.getElem?_zipWith, ha, hb]
theorem vc_step_rates : ∀ args Z, sp_step_rates args Z → args.length = 4 ∧ w_step_rates (endsOf 4 Z) (args ++ List.replicate (N_step_rates.length - 4) .un) := by
  rintro args Z ⟨r, s, kn, R, rfl, h0, h9, hr, hm, z⟩
  refine ⟨rfl, ?_⟩
  cases s with
  | inp i =>
    refine ⟨_, _, rfl, rfl, itY (by decide) ⟨_, _, rfl, rfl, ⟨by omega, by omega⟩, rfl, by rw [rngD_len]; omega, fun k acc Γ => Γ = [.im (rD r), .im (sD (.inp i)), .im (isD kn), .ce (.ls (R.map isD)), .un, .un, .un, .un, .un] ∧ acc = ((unitV r.n i).take k).map .int, ⟨rfl, rfl⟩, fun _ _ _ _ => trivial, ?_, ?_⟩⟩
    · rintro k d acc Γ hd ⟨rfl, rfl⟩
      obtain ⟨hk, rfl⟩ := rngD_of hd
      refine ⟨_, rfl, fxU, fun _ => ⟨_, _, rfl, rfl, rfl, ?_⟩, nofun⟩
      have hk2 : k < r.n := by omega
      have e : (unitV r.n i)[k]? = some (if k = i then 1 else 0) := by
        unfold unitV
        rw [List.getElem?_map, List.getElem?_range hk2]
        rfl
      rw [take_map e]
      have e2 : decide ((0 : Int) + (k : Int) = (i : Int)) = decide (k = i) := by
        by_cases c : k = i
        · subst c; simp
        · rw [decide_eq_false c, decide_eq_false (by omega)]
      show _ ++ [D.int (if decide ((0 : Int) + (k : Int) = (i : Int)) = true then 1 else 0)] = _
      rw [e2]
      by_cases c : k = i <;> simp [c]
    · rintro acc Γ ⟨rfl, rfl⟩
      rw [rngD_len, List.take_of_length_le (by unfold unitV; simp)]
      exact ⟨_, rfl, z⟩
  | set c =>
    refine ⟨_, _, rfl, rfl, itN (by decide) ⟨_, _, rfl, rfl, itY (by decide) ⟨Nat.le_of_ble_eq_true rfl, _, _, rfl, rfl, nofun, Nat.le_of_ble_eq_true rfl, by omega, by omega, ?_⟩⟩⟩
    show Z (.im (.tup (List.replicate ((r.n : Int)).toNat [D.int 0]).flatten)) _
    rw [rep0]
    exact z
  | neg a =>
    obtain ⟨h1, h2, h3⟩ := hr a (by simp [refs])
    refine ⟨_, _, rfl, rfl, itN (by decide) ⟨_, _, rfl, rfl, itN (by decide) ⟨_, _, rfl, rfl, _, _, rfl, at_row h2, _, _, rfl, rfl, itY (by decide) ⟨rfl, by rw [List.length_map]; omega, fun k acc Γ => Γ = [.im (rD r), .im (sD (.neg a)), .im (isD kn), .ce (.ls (R.map isD)), .im (isD (pl [] R a)), .un, .un, .un, .un] ∧ acc = ((pl [] R a).take k).map (fun x => .int (0 - x)), ⟨rfl, rfl⟩, fun _ _ _ _ => trivial, ?_, ?_⟩⟩⟩⟩
    · rintro k d acc Γ hd ⟨rfl, rfl⟩
      obtain ⟨x, hx, rfl⟩ := get_of_map hd
      exact ⟨_, rfl, fxU, fun _ => ⟨rfl, by rw [take_map hx]⟩, nofun⟩
    · rintro acc Γ ⟨rfl, rfl⟩
      rw [List.length_map, List.take_length]
      refine ⟨_, rfl, ?_⟩
      have e : isD (rvS r.n (pl 0 kn) (pl [] R) (.neg a)) = .tup ((pl [] R a).map fun x => .int (0 - x)) := by
        show D.tup (((pl [] R a).map fun x => 0 - x).map .int) = _
        rw [List.map_map]; rfl
      rw [e] at z
      exact z
  | bin o a b =>
    obtain ⟨h1, h2, h3⟩ := hr a (by simp [refs])
    obtain ⟨h4, h5, h6⟩ := hr b (by simp [refs])
    refine ⟨_, _, rfl, rfl, itN (by cases o <;> decide) ⟨_, _, rfl, rfl, itN (by cases o <;> decide) ⟨_, _, rfl, rfl, _, _, rfl, at_row h2, _, _, rfl, rfl, itN (by cases o <;> decide) ⟨_, _, rfl, rfl, _, _, rfl, at_row h5, _, _, rfl, rfl, ?_⟩⟩⟩⟩
    have ln : (zipD ((pl [] R a).map .int) ((pl [] R b).map .int)).length ≤ 1000 := by rw [zipD_len, List.length_map, List.length_map]; omega
    have fin : ∀ f : Int → Int → Int, ((List.zipWith f (pl [] R a) (pl [] R b)).take (zipD ((pl [] R a).map D.int) ((pl [] R b).map D.int)).length) = List.zipWith f (pl [] R a) (pl [] R b) := fun f => by
      rw [List.take_of_length_le (by rw [zipD_len, List.length_map, List.length_map, List.length_zipWith]; exact Nat.le_refl _)]
    cases o with
    | add =>
      refine itY (by decide) ⟨rfl, ln, fun k acc Γ => Γ = [.im (rD r), .im (sD (.bin .add a b)), .im (isD kn), .ce (.ls (R.map isD)), .im (isD (pl [] R a)), .im (isD (pl [] R b)), .un, .un, .un] ∧ acc = ((List.zipWith (fun x y => x + y) (pl [] R a) (pl [] R b)).take k).map .int, ⟨rfl, rfl⟩, fun _ _ _ _ => trivial, ?_, ?_⟩
      · rintro k d acc Γ hd ⟨rfl, rfl⟩
        obtain ⟨x', y', hx0, hy0, rfl⟩ := zipD_of hd
        obtain ⟨x, hx, rfl⟩ := get_of_map hx0
        obtain ⟨y, hy, rfl⟩ := get_of_map hy0
        exact ⟨rfl, _, rfl, fxU, _, rfl, fxU, rfl, fun _ => ⟨rfl, by rw [take_map (zip_ints hx hy)]⟩, nofun⟩
      · rintro acc Γ ⟨rfl, rfl⟩
        rw [fin]
        exact ⟨_, rfl, z⟩
    | sub =>
      refine itN (by decide) ⟨_, _, rfl, rfl, itY (by decide) ⟨rfl, ln, fun k acc Γ => Γ = [.im (rD r), .im (sD (.bin .sub a b)), .im (isD kn), .ce (.ls (R.map isD)), .im (isD (pl [] R a)), .im (isD (pl [] R b)), .un, .un, .un] ∧ acc = ((List.zipWith (fun x y => x - y) (pl [] R a) (pl [] R b)).take k).map .int, ⟨rfl, rfl⟩, fun _ _ _ _ => trivial, ?_, ?_⟩⟩
      · rintro k d acc Γ hd ⟨rfl, rfl⟩
        obtain ⟨x', y', hx0, hy0, rfl⟩ := zipD_of hd
        obtain ⟨x, hx, rfl⟩ := get_of_map hx0
        obtain ⟨y, hy, rfl⟩ := get_of_map hy0
        exact ⟨rfl, _, rfl, fxU, _, rfl, fxU, rfl, fun _ => ⟨rfl, by rw [take_map (zip_ints hx hy)]⟩, nofun⟩
      · rintro acc Γ ⟨rfl, rfl⟩
        rw [fin]
        exact ⟨_, rfl, z⟩
    | mul =>
      obtain ⟨m1, m2⟩ := hm
      refine itN (by decide) ⟨_, _, rfl, rfl, itN (by decide) ⟨rfl, ln, fun k acc Γ => Γ = [.im (rD r), .im (sD (.bin .mul a b)), .im (isD kn), .ce (.ls (R.map isD)), .im (isD (pl [] R a)), .im (isD (pl [] R b)), .un, .un, .un] ∧ acc = ((List.zipWith (fun x y => x * pl 0 kn b + pl 0 kn a * y) (pl [] R a) (pl [] R b)).take k).map .int, ⟨rfl, rfl⟩, fun _ _ _ _ => trivial, ?_, ?_⟩⟩
      · rintro k d acc Γ hd ⟨rfl, rfl⟩
        obtain ⟨x', y', hx0, hy0, rfl⟩ := zipD_of hd
        obtain ⟨x, hx, rfl⟩ := get_of_map hx0
        obtain ⟨y, hy, rfl⟩ := get_of_map hy0
        exact ⟨rfl, _, rfl, fxU, _, rfl, fxU, rfl, fun _ => ⟨_, _, rfl, rfl, _, _, rfl, at_int h4, m1 x (List.mem_of_getElem? hx), _, _, rfl, rfl, _, _, rfl, at_int h1, m2 y (List.mem_of_getElem? hy), rfl, by rw [take_map (zip_ints hx hy)]⟩, nofun⟩
      · rintro acc Γ ⟨rfl, rfl⟩
        rw [fin]
        exact ⟨_, rfl, z⟩
/-! rates_at -/
def duA (n : Nat) (p : List Int) : Alg (Int × List Int) where
  inp := fun i => (p.getD i 0, unitV n i)
  set := fun c => (c, List.replicate n 0)
  neg := fun x => (0 - x.1, x.2.map fun a => 0 - a)
  bin := fun o x y => match o with
    | .add => (x.1 + y.1, List.zipWith (fun a b => a + b) x.2 y.2)
    | .sub => (x.1 - y.1, List.zipWith (fun a b => a - b) x.2 y.2)
    | .mul => (x.1 * y.1, List.zipWith (fun a b => a * y.1 + x.1 * b) x.2 y.2)
def du (r : Rw) (p : List Int) : Nat → Int × List Int := (duA r.n p).tr (0, []) r.st
def rat (r : Rw) (p : List Int) (k : Nat) : List Int := (du r p k).2
theorem du_val {r : Rw} {p : List Int} (ok : RowOk r) {k : Nat} (hk : k < r.st.length) : (du r p k).1 = val r p k :=
  tr_hom (A := duA r.n p) (B := valA p) (n := r.n) (f := Prod.fst) ⟨fun _ _ => rfl, fun _ => rfl, fun _ => rfl, fun o _ _ => by cases o <;> rfl⟩ ok.wf ok.inn k hk
theorem du_stp {n : Nat} {p : List Int} {v : Nat → Int × List Int} {s : Stp} : ((duA n p).stp v s).2 = rvS n (fun k => (v k).1) (fun k => (v k).2) s := by
  cases s with
  | bin o a b => cases o <;> rfl
  | _ => rfl
theorem rat_len {r : Rw} {p : List Int} (ok : RowOk r) : ∀ k, k < r.st.length → (rat r p k).length = r.n := by
  intro k
  induction k using Nat.strongRecOn with
  | ind k ih =>
    intro hk
    have e : r.st[k]? = some (r.st[k]) := List.getElem?_eq_getElem hk
    have w := ok.wf k _ e
    have h : rat r p k = rvS r.n (fun k => (du r p k).1) (fun k => (du r p k).2) (r.st[k]) := by
      show (du r p k).2 = _
      unfold du
      rw [tr_spec ok.wf e, du_stp]
    rw [h]
    generalize r.st[k] = s at *
    cases s with
    | inp i => simp [rvS, unitV]
    | set c => simp [rvS]
    | neg a =>
      have := ih a (w a (by simp [refs])) (by have := w a (by simp [refs]); omega)
      show ((rat r p a).map fun x => 0 - x).length = _
      rw [List.length_map]
      exact this
    | bin o a b =>
      have h1 := ih a (w a (by simp [refs])) (by have := w a (by simp [refs]); omega)
      have h2 := ih b (w b (by simp [refs])) (by have := w b (by simp [refs]); omega)
      have h1' : (du r p a).2.length = r.n := h1
      have h2' : (du r p b).2.length = r.n := h2
      cases o <;> simp [rvS, List.length_zipWith, h1', h2']
def MulV (r : Rw) (p : List Int) : Prop := ∀ (k : Nat) (s : Stp), r.st[k]? = some s → rvOk (val r p) (rat r p) s
theorem rvS_congr {n : Nat} {kn kn' : Nat → Int} {R R' : Nat → List Int} {s : Stp} (h : ∀ a ∈ refs s, kn a = kn' a ∧ R a = R' a) : rvS n kn R s = rvS n kn' R' s := by
  cases s with
  | inp i => rfl
  | set c => rfl
  | neg a => show (R a).map _ = (R' a).map _; rw [(h a (by simp [refs])).2]
  | bin o a b =>
    have h1 := h a (by simp [refs])
    have h2 := h b (by simp [refs])
    cases o <;> simp only [rvS, h1.1, h1.2, h2.1, h2.2]
theorem rvOk_congr {kn kn' : Nat → Int} {R R' : Nat → List Int} {s : Stp} (h : ∀ a ∈ refs s, kn a = kn' a ∧ R a = R' a) (m : rvOk kn R s) : rvOk kn' R' s := by
  cases s with
  | bin o a b =>
    have h1 := h a (by simp [refs])
    have h2 := h b (by simp [refs])
    cases o with
    | mul => simp only [rvOk, h1.1, h1.2, h2.1, h2.2] at m ⊢; exact m
    | _ => trivial
  | _ => trivial
/-- the rates of the first i steps -/
def ratL (r : Rw) (p : List Int) (i : Nat) : List (List Int) := (List.range i).map (rat r p)
theorem ratL_pl {r : Rw} {p : List Int} {i a : Nat} (h : a < i) : pl [] (ratL r p i) a = rat r p a := by
  unfold pl ratL
  rw [List.getD_eq_getElem?_getD, List.getElem?_map, List.getElem?_range h]
  rfl
theorem vals_pl {r : Rw} {p : List Int} {a : Nat} : pl 0 (vals r p) a = val r p a := rfl
theorem rat_stp {r : Rw} {p : List Int} (ok : RowOk r) {k : Nat} {s : Stp} (e : r.st[k]? = some s) : rat r p k = rvS r.n (val r p) (rat r p) s := by
  show (du r p k).2 = _
  unfold du
  rw [tr_spec ok.wf e, du_stp]
  have hk : k < r.st.length := (List.getElem?_eq_some_iff.mp e).1
  exact rvS_congr fun a ha => ⟨du_val ok (by have := ok.wf k s e a ha; omega), rfl⟩
def sp_rates_at : GSp := fun args Z => ∃ (r : Rw) (p : List Int), args = [.im (rD r), .im (isD p)] ∧ RowOk r ∧ 0 < r.n ∧ p.length = r.n ∧ MulR r p ∧ MulV r p ∧ Z (.im (.tup (r.en.map fun e => isD (rat r p e)))) args
def N_rates_at : List Str := ["row", "point", "known", "rates", "step", "number"]
def w_rates_at : WS := (wSeq (wPar 2 3 (wCons (wCall sp_values (wCons (wVar 0) (wCons (wVar 1) wNil))) (wCons (wLst wNil) wNil))) (wSeq (wFor (wiTup (wIx (wVar 0) (wC (.int 1)))) (wgName 4) (wDrop (wApp (wVar 3) (wCall sp_step_rates (wCons (wVar 0) (wCons (wVar 4) (wCons (wVar 2) (wCons (wVar 3) wNil)))))))) (wRet 2 (wB gTuple (wCons (wLc (wiTup (wIx (wVar 0) (wC (.int 2)))) (wgName 5) wYes (wIx (wVar 3) (wVar 5)) [5]) wNil)))))
theorem vc_rates_at : ∀ args Z, sp_rates_at args Z → args.length = 2 ∧ w_rates_at (endsOf 2 Z) (args ++ List.replicate (N_rates_at.length - 2) .un) := by
  rintro args Z ⟨r, p, rfl, ok, h0, hp, hm, hv, z⟩
  have vl : (vals r p).length = r.st.length := by unfold vals; rw [run_length]
  refine ⟨rfl, rfl, r, p, rfl, ok, hp, hm, Nat.zero_le _, _, _, rfl, rfl, fun i Γ => ∃ x, Fx x ∧ Γ = [.im (rD r), .im (isD p), .im (isD (vals r p)), .ce (.ls ((ratL r p i).map isD)), x, .un], ⟨.un, trivial, rfl⟩, ?_, ?_⟩
  · rintro i d Γ hd ⟨x, hx, rfl⟩
    obtain ⟨s, hs, rfl⟩ := get_of_map hd
    have hi : i < r.st.length := (List.getElem?_eq_some_iff.mp hs).1
    have hw := ok.wf i s hs
    have cg : ∀ a ∈ refs s, val r p a = pl 0 (vals r p) a ∧ rat r p a = pl [] (ratL r p i) a := fun a ha => ⟨rfl, (ratL_pl (hw a ha)).symm⟩
    refine ⟨_, rfl, hx, ⟨_, rfl⟩, rfl, r, s, vals r p, ratL r p i, rfl, h0, ok.ln2, fun a ha => ⟨?_, ?_, ?_⟩, rvOk_congr cg (hv i s hs), _, rfl, ?_, .im (sD s), trivial, ?_⟩
    · have := hw a ha; omega
    · unfold ratL; rw [List.length_map, List.length_range]; exact hw a ha
    · rw [ratL_pl (hw a ha), rat_len ok a (by have := hw a ha; omega)]; exact ok.ln2
    · unfold ratL; rw [List.length_map, List.length_map, List.length_range]; have := ok.ln; omega
    · rw [← rvS_congr cg, ← rat_stp ok hs]
      unfold ratL
      rw [List.range_succ, List.map_append, List.map_append]
      rfl
  · rintro Γ ⟨x, hx, rfl⟩
    rw [List.length_map]
    refine ⟨_, _, rfl, rfl, rfl, by rw [List.length_map]; have := ok.le; omega, fun i acc Γ => Γ = [.im (rD r), .im (isD p), .im (isD (vals r p)), .ce (.ls ((ratL r p r.st.length).map isD)), x, .un] ∧ acc = (r.en.take i).map fun e => isD (rat r p e), ⟨rfl, rfl⟩, fun _ _ _ _ => trivial, ?_, ?_⟩
    · rintro i d acc Γ hd ⟨rfl, rfl⟩
      obtain ⟨e, he, rfl⟩ := get_of_map hd
      have hlt := ok.en e (List.mem_of_getElem? he)
      have e1 : (ratL r p r.st.length)[e]? = some (rat r p e) := by
        unfold ratL
        rw [List.getElem?_map, List.getElem?_range hlt]
        rfl
      exact ⟨_, rfl, fxU, fun _ => ⟨_, _, rfl, atI_nat (get_map e1), rfl, by rw [take_map he]⟩, nofun⟩
    · rintro acc Γ ⟨rfl, rfl⟩
      rw [List.length_map, List.take_length]
      exact ⟨_, rfl, z⟩
/-! rates_fed -/
def chainV (r other : Rw) (p : List Int) (e : Nat) : List Int := (List.range r.n).map fun k => (List.zipWith (fun a own => a * own.getD k 0) (rat other (r.en.map (val r p)) e) (r.en.map (rat r p))).sum
def sp_rates_fed : GSp := fun args Z => ∃ (r other : Rw) (p : List Int), args = [.im (rD r), .im (rD other), .im (isD p)] ∧ RowOk r ∧ RowOk other ∧ 0 < r.n ∧ 0 < other.n ∧ p.length = r.n ∧ r.en.length = other.n ∧ MulR r p ∧ MulV r p ∧ MulR other (r.en.map (val r p)) ∧ MulV other (r.en.map (val r p)) ∧
  (∀ e ∈ other.en, ∀ a ∈ rat other (r.en.map (val r p)) e, ∀ c ∈ r.en, ∀ y ∈ rat r p c, CMulW a y) ∧ Z (.im (.tup (other.en.map fun e => isD (chainV r other p e)))) args
def N_rates_fed : List Str := ["row", "other", "point", "inner", "found", "outer", "k", "a", "own"]
def w_rates_fed : WS := (wSeq (wIf (wTest (wOp gNe (wIx (wVar 1) (wC (.int 0))) (wB gLen (wCons (wIx (wVar 0) (wC (.int 2))) wNil)))) wNever wNext) (wSeq (wPar 3 4 (wCons (wCall sp_rates_at (wCons (wVar 0) (wCons (wVar 2) wNil))) (wCons (wLst wNil) wNil))) (wSeq (wFor (wiTup (wCall sp_rates_at (wCons (wVar 1) (wCons (wCall sp_told (wCons (wVar 0) (wCons (wVar 2) wNil))) wNil)))) (wgName 5) (wDrop (wApp (wVar 4) (wB gTuple (wCons (wLc (wiRng1 (wCons (wIx (wVar 0) (wC (.int 0))) wNil)) (wgName 6) wYes (wB gSum (wCons (wLc (wiZip (wCons (wVar 5) (wCons (wVar 3) wNil))) (wgTup 2 (wgCons (wgName 7) (wgCons (wgName 8) wgNil))) wYes (wOp gMul (wVar 7) (wIx (wVar 8) (wVar 6))) [7, 8]) wNil)) [6]) wNil))))) (wRet 3 (wB gTuple (wCons (wVar 4) wNil))))))
theorem vc_rates_fed : ∀ args Z, sp_rates_fed args Z → args.length = 3 ∧ w_rates_fed (endsOf 3 Z) (args ++ List.replicate (N_rates_fed.length - 3) .un) := by
  rintro args Z ⟨r, other, p, rfl, k1, k2, h0, h02, hp, hn, m1, v1, m2, v2, hm, z⟩
  let q := r.en.map (val r p)
  have hq : q.length = other.n := by show (r.en.map (val r p)).length = _; rw [List.length_map, hn]
  refine ⟨rfl, _, _, rfl, rfl, _, _, rfl, rfl, _, rfl, itN ?_ ⟨rfl, r, p, rfl, k1, h0, hp, m1, v1, Nat.zero_le _, rfl, r, p, rfl, k1, hp, m1, rfl, other, q, rfl, k2, h02, hq, m2, v2, ?_⟩⟩
  · rw [List.length_map, hn, decide_eq_true rfl]; rfl
  let inn : D := .tup (r.en.map fun e => isD (rat r p e))
  refine ⟨fun i Γ => ∃ x, Fx x ∧ Γ = [.im (rD r), .im (rD other), .im (isD p), .im inn, .ce (.ls ((other.en.take i).map fun e => isD (chainV r other p e))), x, .un, .un, .un], ⟨.un, trivial, rfl⟩, ?_, ?_⟩
  · rintro i d Γ hd ⟨x, hx, rfl⟩
    obtain ⟨e, he, rfl⟩ := get_of_map hd
    have hlt := k2.en e (List.mem_of_getElem? he)
    have hrl := rat_len (p := q) k2 e hlt
    let o := rat other q e
    refine ⟨_, rfl, hx, ⟨_, rfl⟩, _, _, rfl, rfl, ⟨by omega, by have := k1.ln2; omega⟩, rfl, by rw [rngD_len]; have := k1.ln2; omega,
      fun k acc Γ => Γ = [.im (rD r), .im (rD other), .im (isD p), .im inn, .ce (.ls ((other.en.take i).map fun e => isD (chainV r other p e))), .im (isD o), .un, .un, .un] ∧ acc = ((chainV r other p e).take k).map .int, ⟨rfl, rfl⟩, fun _ _ _ _ => trivial, ?_, ?_⟩
    · rintro k d acc Γ hd ⟨rfl, rfl⟩
      obtain ⟨hk, rfl⟩ := rngD_of hd
      have hk2 : k < r.n := by omega
      have ek : (chainV r other p e)[k]? = some ((List.zipWith (fun a own => a * own.getD k 0) o (r.en.map (rat r p))).sum) := by
        unfold chainV
        rw [List.getElem?_map, List.getElem?_range hk2]
        rfl
      refine ⟨_, rfl, fxU, fun _ => ⟨rfl, by rw [zipD_len, List.length_map, List.length_map]; have := k1.le; omega,
        fun j acc Γ => Γ = [.im (rD r), .im (rD other), .im (isD p), .im inn, .ce (.ls ((other.en.take i).map fun e => isD (chainV r other p e))), .im (isD o), .im (.int (0 + (k : Int))), .un, .un] ∧ acc = ((List.zipWith (fun a own => a * own.getD k 0) o (r.en.map (rat r p))).take j).map .int, ⟨rfl, rfl⟩, fun _ _ _ _ => trivial, ?_, ?_⟩, nofun⟩
      · rintro j d acc Γ hd ⟨rfl, rfl⟩
        obtain ⟨x', y', hx0, hy0, rfl⟩ := zipD_of hd
        obtain ⟨a, ha, rfl⟩ := get_of_map hx0
        obtain ⟨c, hc, rfl⟩ := get_of_map hy0
        have hcm := List.mem_of_getElem? hc
        have hcl := rat_len (p := p) k1 c (k1.en c hcm)
        have hg : (rat r p c)[k]? = some ((rat r p c).getD k 0) := by
          rw [List.getD_eq_getElem?_getD, List.getElem?_eq_getElem (by omega)]; rfl
        have ez : (List.zipWith (fun a own => a * own.getD k 0) o (r.en.map (rat r p)))[j]? = some (a * (rat r p c).getD k 0) := by
          rw [List.getElem?_zipWith, ha, get_map hc]
        refine ⟨rfl, _, rfl, fxU, _, rfl, fxU, rfl, fun _ => ⟨_, .int ((rat r p c).getD k 0), rfl, by rw [Int.zero_add]; exact atI_nat (get_map hg), hm e (List.mem_of_getElem? he) a (List.mem_of_getElem? ha) c hcm _ (List.mem_of_getElem? hg), rfl, by rw [take_map ez]⟩, nofun⟩
      · rintro acc Γ ⟨rfl, rfl⟩
        have ez : (List.zipWith (fun a own => a * own.getD k 0) o (r.en.map (rat r p))).take (zipD (o.map .int) (r.en.map fun e => isD (rat r p e))).length = List.zipWith (fun a own => a * own.getD k 0) o (r.en.map (rat r p)) :=
          List.take_of_length_le (by rw [zipD_len, List.length_map, List.length_map, List.length_zipWith, List.length_map]; exact Nat.le_refl _)
        rw [ez]
        exact ⟨_, rfl, rfl, by rw [take_map ek]⟩
    · rintro acc Γ ⟨rfl, rfl⟩
      have ec : (chainV r other p e).take (rngD 0 ((r.n : Int) - 0).toNat).length = chainV r other p e := List.take_of_length_le (by rw [rngD_len]; unfold chainV; simp)
      have ec2 : (chainV r other p e).take (rngD 0 ((r.n : Int)).toNat).length = chainV r other p e := List.take_of_length_le (by rw [rngD_len]; unfold chainV; simp)
      rw [ec2]
      refine ⟨_, rfl, _, rfl, by rw [List.length_map, List.length_take]; have := k2.le; omega, .im (isD o), trivial, ?_⟩
      rw [take_map he]
      rfl
  · rintro Γ ⟨x, hx, rfl⟩
    rw [List.length_map, List.take_length]
    exact ⟨_, rfl, z⟩
end G
set_option maxRecDepth 100000
set_option maxHeartbeats 4000000
/-! WI: polynomials. -/
namespace G
open PySem PySem.Spec PyProof.Rows L2
abbrev Po := List (List Nat × Int)
def tD (t : List Nat × Int) : D := .tup [nsD t.1, .int t.2]
def pD (p : Po) : D := .fz (p.map tD)
def keyP (k : List Nat) : List Key := k.map keyN
def dtP (p : Po) : List (List Key × D) := p.map fun t => (keyP t.1, .int t.2)
theorem keyP_D (k : List Nat) : nsD k = .tup ((keyP k).map kD) := by
  unfold nsD keyP
  rw [List.map_map]
  rfl
theorem keyP_inj : ∀ a b, keyP a = keyP b → a = b
  | [], [], _ => rfl
  | [], _ :: _, e => by cases e
  | _ :: _, [], e => by cases e
  | x :: a, y :: b, e => by
    have e' : keyN x :: keyP a = keyN y :: keyP b := e
    rw [keyN_inj x y (List.cons.inj e').1, keyP_inj a b (List.cons.inj e').2]
theorem look_dtP (p : Po) (k : List Nat) : look (dtP p) (keyP k) = (look p k).map .int := by
  induction p with
  | nil => rfl
  | cons t p ih =>
    show look ((keyP t.1, D.int t.2) :: dtP p) (keyP k) = _
    rw [look_cons, look_cons]
    dsimp only
    by_cases e : t.1 = k
    · rw [if_pos e, if_pos (by rw [e])]; rfl
    · rw [if_neg e, if_neg (fun h => e (keyP_inj _ _ h))]; exact ih
theorem any_dtP (p : Po) (k : List Nat) : ((dtP p).any fun kv => decide (kv.1 = keyP k)) = (p.any fun kv => decide (kv.1 = k)) := by
  induction p with
  | nil => rfl
  | cons t p ih =>
    show (decide (keyP t.1 = keyP k) || _) = _
    rw [List.any_cons]
    have ih' : ((List.map (fun t => (keyP t.1, D.int t.2)) p).any fun kv => decide (kv.1 = keyP k)) = p.any fun kv => decide (kv.1 = k) := ih
    rw [ih']
    by_cases e : t.1 = k
    · simp [e]
    · have : ¬ keyP t.1 = keyP k := fun h => e (keyP_inj _ _ h)
      simp [e, this]
theorem put_dtP (p : Po) (k : List Nat) (c : Int) : put (dtP p) (keyP k) (.int c) = dtP (put p k c) := by
  unfold put
  rw [any_dtP]
  split
  · unfold dtP
    rw [List.map_map, List.map_map]
    apply List.map_congr_left
    intro t _
    show (if keyP t.1 = keyP k then (keyP t.1, D.int c) else (keyP t.1, D.int t.2)) = _
    by_cases e : t.1 = k
    · simp [e]
    · have : ¬ keyP t.1 = keyP k := fun h => e (keyP_inj _ _ h)
      simp [e, this]
  · unfold dtP
    rw [List.map_append]
    rfl
theorem prD_dtP (p : Po) : p.map tD = prD (dtP p) := by
  unfold prD dtP
  rw [List.map_map]
  apply List.map_congr_left
  intro t _
  show D.tup [nsD t.1, _] = D.tup [.tup ((keyP t.1).map kD), _]
  rw [keyP_D]
def mergeP (p : Po) : Po := p.foldl (fun acc t => put acc t.1 t.2) []
theorem merge_aux : ∀ (p acc : Po), (dtP p).foldl (fun acc t => put acc t.1 t.2) (dtP acc) = dtP (p.foldl (fun acc t => put acc t.1 t.2) acc)
  | [], acc => rfl
  | t :: p, acc => by
    show (dtP p).foldl _ (put (dtP acc) (keyP t.1) (.int t.2)) = _
    rw [put_dtP]
    exact merge_aux p _
theorem mergeD_dtP (p : Po) : mergeD (dtP p) = dtP (mergeP p) := merge_aux p []
theorem look_none_of {p : Po} {k : List Nat} (h : k ∉ p.map (·.1)) : look p k = none := by
  induction p with
  | nil => rfl
  | cons t p ih =>
    rw [List.map_cons, List.mem_cons, not_or] at h
    rw [look_cons, if_neg (fun e => h.1 e.symm)]
    exact ih h.2
theorem merge_nd_aux : ∀ (p acc : Po), ((acc ++ p).map (·.1)).Nodup → p.foldl (fun acc t => put acc t.1 t.2) acc = acc ++ p
  | [], acc, _ => by simp
  | t :: p, acc, h => by
    rw [List.foldl_cons]
    have hn : t.1 ∉ acc.map (·.1) := by
      rw [List.map_append, List.map_cons] at h
      have := (List.nodup_append.mp h).2.2
      exact fun m => this t.1 m t.1 (by simp) rfl
    rw [put_new (look_none_of hn), merge_nd_aux p (acc ++ [(t.1, t.2)]) (by rw [List.append_assoc]; exact h), List.append_assoc]
    rfl
theorem mergeP_nd {p : Po} (h : (p.map (·.1)).Nodup) : mergeP p = p := by
  unfold mergeP
  rw [merge_nd_aux p [] h, List.nil_append]
/-! as_poly -/
def sortN (ks : List (List Nat)) : List (List Nat) := ks.mergeSort (PySem.W.dataLe false fun k => toPy (nsD k))
theorem sortN_perm (ks : List (List Nat)) : (sortN ks).Perm ks := List.mergeSort_perm ks _
theorem sortD_ns (ks : List (List Nat)) : sortD (ks.map nsD) = (sortN ks).map nsD :=
  (PySem.W.sort_maps (r := PySem.W.dataLe false fun k => toPy (nsD k)) (s := PySem.W.dataLe false toPy) nsD fun a _ b _ => rfl).symm
def pick (p : Po) (k : List Nat) : Option (List Nat × Int) := match look p k with
  | some c => if c = 0 then none else some (k, c)
  | none => none
def aspP (p : Po) : Po := (sortN (p.map (·.1))).filterMap (pick p)
theorem toPy_ns (k : List Nat) : toPy (nsD k) = .tuple ((k.map fun (i : Nat) => (i : Int)).map .int) := by
  unfold nsD
  simp only [toPy]
  congr 1
  induction k with
  | nil => rfl
  | cons a k ih =>
    rw [List.map_cons, List.map_cons, List.map_cons]
    show toPy (nD a) :: toPyA _ = _
    rw [ih]
    simp [nD, toPy]
theorem srt_ns {ks : List (List Nat)} (h0 : ∀ k ∈ ks, k ≠ []) (hl : ks.length ≤ 1000) : SrtOk (ks.map nsD) := by
  refine ⟨fun d hd e he => ?_, fun d hd => ?_, fun d hd => ?_, by rw [List.length_map]; exact hl⟩
  · obtain ⟨a, _, rfl⟩ := List.mem_map.mp hd
    obtain ⟨b, _, rfl⟩ := List.mem_map.mp he
    rw [toPy_ns, toPy_ns]
    show PySem.W.alikeAll _ _ = true
    exact PySem.W.alike_ints _ _
  · obtain ⟨a, ha, rfl⟩ := List.mem_map.mp hd
    rw [toPy_ns]
    cases a with
    | nil => exact absurd rfl (h0 _ ha)
    | cons x a => exact ⟨_, _, rfl⟩
  · obtain ⟨a, _, rfl⟩ := List.mem_map.mp hd
    rw [toPy_ns]
    have := depth_ints0 (a.map fun (i : Nat) => (i : Int))
    simp only [PyData.depth, this]
    omega
def sp_as_poly : GSp := fun args Z => ∃ p : Po, args = [.ce (.dt (dtP p))] ∧ (∀ t ∈ p, t.1 ≠ []) ∧ p.length ≤ 1000 ∧ Z (.im (pD (aspP p))) args
def N_as_poly : List Str := ["pairs", "powers"]
def w_as_poly : WS := (wRet 1 (wB gTupF (wCons (wLc (wiLst (wB gSorted (wCons (wB gKeysT (wCons (wVar 0) wNil)) wNil))) (wgName 1) (wTest (wOp gNe (wDGetT (wVar 0) (wVar 1)) (wC (.int 0)))) (wTup (wCons (wVar 1) (wCons (wDGetT (wVar 0) (wVar 1)) wNil))) [1]) wNil)))
theorem look_some_of {p : Po} {k : List Nat} (h : k ∈ p.map (·.1)) : ∃ c, look p k = some c := by
  cases e : look p k with
  | some c => exact ⟨c, rfl⟩
  | none =>
    exfalso
    obtain ⟨t, ht, rfl⟩ := List.mem_map.mp h
    unfold look at e
    rw [Option.map_eq_none_iff, List.find?_eq_none] at e
    exact e t ht (by simp)
theorem filt_take {α β : Type} {f : α → Option β} {l : List α} {i : Nat} {x : α} (h : l[i]? = some x) : (l.take (i + 1)).filterMap f = (l.take i).filterMap f ++ (f x).toList := by
  rw [List.take_add_one, h, List.filterMap_append]
  cases e : f x <;> simp [e]
theorem vc_as_poly : ∀ args Z, sp_as_poly args Z → args.length = 1 ∧ w_as_poly (endsOf 1 Z) (args ++ List.replicate (N_as_poly.length - 1) .un) := by
  rintro args Z ⟨p, rfl, h0, hl, z⟩
  have ek : (dtP p).map (fun q => D.tup (q.1.map kD)) = (p.map (·.1)).map nsD := by
    unfold dtP
    rw [List.map_map, List.map_map]
    apply List.map_congr_left
    intro t _
    exact (keyP_D t.1).symm
  let ks := sortN (p.map (·.1))
  have kl : ks.length = p.length := by
    have := (sortN_perm (p.map (·.1))).length_eq
    rwa [List.length_map] at this
  refine ⟨rfl, _, rfl, _, rfl, by rw [ek]; exact srt_ns (fun k hk => by obtain ⟨t, ht, rfl⟩ := List.mem_map.mp hk; exact h0 t ht) (by rw [List.length_map]; exact hl), rfl, ?_, fun i acc Γ => Γ = [.ce (.dt (dtP p)), .un] ∧ acc = ((ks.take i).filterMap (pick p)).map tD, ⟨rfl, rfl⟩, fun _ _ _ _ => trivial, ?_, ?_⟩
  · rw [ek, sortD_ns, List.length_map]
    show ks.length ≤ _
    omega
  · rintro i d acc Γ hd ⟨rfl, rfl⟩
    rw [ek, sortD_ns] at hd
    obtain ⟨k, hk, rfl⟩ := get_of_map hd
    have hkm : k ∈ p.map (·.1) := (sortN_perm _).mem_iff.mp (List.mem_of_getElem? hk)
    obtain ⟨c, hc⟩ := look_some_of hkm
    have hc2 : look (dtP p) (keyP k) = some (.int c) := by rw [look_dtP, hc]; rfl
    have ef : ((ks.take (i + 1)).filterMap (pick p)) = ((ks.take i).filterMap (pick p)) ++ (pick p k).toList := filt_take hk
    refine ⟨_, rfl, fxU, _, keyP k, _, rfl, keyP_D k, hc2, fun hb => ?_, fun hb => ?_⟩
    · have h1 : c ≠ 0 := by simpa using hb
      refine ⟨_, keyP k, _, rfl, keyP_D k, hc2, Nat.le_of_ble_eq_true rfl, rfl, ?_⟩
      rw [ef, show pick p k = some (k, c) by unfold pick; rw [hc]; simp [h1], List.map_append]
      rfl
    · have h1 : c = 0 := by simpa using hb
      refine ⟨rfl, ?_⟩
      rw [ef, show pick p k = none by unfold pick; rw [hc]; simp [h1]]
      simp
  · rintro acc Γ ⟨rfl, rfl⟩
    rw [ek, sortD_ns, List.length_map, show (sortN (p.map (·.1))).length = ks.length from rfl, List.take_length]
    exact ⟨_, rfl, z⟩
/-! unknown, constant -/
def unitN (n i : Nat) : List Nat := (List.range n).map fun u => if u = i then 1 else 0
def sp_unknown : GSp := fun args Z => ∃ n i : Nat, args = [.im (.int (n : Int)), .im (.int (i : Int))] ∧ n ≤ 900 ∧ Z (.im (pD [(unitN n i, 1)])) args
def sp_constant : GSp := fun args Z => ∃ (n : Nat) (c : Int), args = [.im (.int (n : Int)), .im (.int c)] ∧ 0 < n ∧ n ≤ 900 ∧ Z (.im (pD (aspP [(List.replicate n 0, c)]))) args
def N_unknown : List Str := ["many", "index", "place"]
def w_unknown : WS := (wRet 2 (wTupF (wCons (wTup (wCons (wB gTuple (wCons (wLc (wiRng1 (wCons (wVar 0) wNil)) (wgName 2) wYes (wB gInt (wCons (wOp gEq (wVar 2) (wVar 1)) wNil)) [2]) wNil)) (wCons (wC (.int 1)) wNil))) wNil)))
def N_constant : List Str := ["many", "number"]
def w_constant : WS := (wRet 2 (wCall sp_as_poly (wCons (wDispT1 (wOp gRep (wTup (wCons (wC (.int 0)) wNil)) (wVar 0)) (wVar 1)) wNil)))
theorem vc_unknown : ∀ args Z, sp_unknown args Z → args.length = 2 ∧ w_unknown (endsOf 2 Z) (args ++ List.replicate (N_unknown.length - 2) .un) := by
  rintro args Z ⟨n, i, rfl, hn, z⟩
  refine ⟨rfl, ⟨by omega, by omega⟩, rfl, by rw [rngD_len]; omega, fun k acc Γ => Γ = [.im (.int (n : Int)), .im (.int (i : Int)), .un] ∧ acc = ((unitN n i).take k).map nD, ⟨rfl, rfl⟩, fun _ _ _ _ => trivial, ?_, ?_⟩
  · rintro k d acc Γ hd ⟨rfl, rfl⟩
    obtain ⟨hk, rfl⟩ := rngD_of hd
    refine ⟨_, rfl, fxU, fun _ => ⟨rfl, ?_⟩, nofun⟩
    have hk2 : k < n := by omega
    have e : (unitN n i)[k]? = some (if k = i then 1 else 0) := by
      unfold unitN
      rw [List.getElem?_map, List.getElem?_range hk2]
      rfl
    rw [take_map e]
    have e2 : decide ((0 : Int) + (k : Int) = (i : Int)) = decide (k = i) := by
      by_cases c : k = i
      · subst c; simp
      · rw [decide_eq_false c, decide_eq_false (by omega)]
    show _ ++ [D.int (if decide ((0 : Int) + (k : Int) = (i : Int)) = true then 1 else 0)] = _
    rw [e2]
    by_cases c : k = i <;> simp [c, nD]
  · rintro acc Γ ⟨rfl, rfl⟩
    rw [rngD_len, List.take_of_length_le (by unfold unitN; simp)]
    exact ⟨_, rfl, Nat.le_of_ble_eq_true rfl, Nat.le_of_ble_eq_true rfl, z⟩
theorem rep0N {n : Nat} : (List.replicate ((n : Int)).toNat [D.int 0]).flatten = (keyP (List.replicate n 0)).map kD := by
  rw [Int.toNat_natCast]
  induction n with
  | zero => rfl
  | succ n ih => rw [List.replicate_succ, List.flatten_cons, ih, List.replicate_succ]; rfl
theorem vc_constant : ∀ args Z, sp_constant args Z → args.length = 2 ∧ w_constant (endsOf 2 Z) (args ++ List.replicate (N_constant.length - 2) .un) := by
  rintro args Z ⟨n, c, rfl, h0, hn, z⟩
  refine ⟨rfl, Nat.le_of_ble_eq_true rfl, nofun, Nat.le_of_ble_eq_true rfl, by omega, by omega, keyP (List.replicate n 0), rep0N, rfl, [(List.replicate n 0, c)], rfl, ?_, Nat.le_of_ble_eq_true rfl, z⟩
  intro t ht
  have : t = (List.replicate n 0, c) := by simpa using ht
  rw [this]
  intro e
  have := congrArg List.length e
  simp at this
  omega
end G
set_option maxRecDepth 100000
set_option maxHeartbeats 4000000
/-! WJ: sums and products of polynomials. -/
namespace G
open PySem PySem.Spec PyProof.Rows L2
structure PG (n d : Nat) (p : Po) : Prop where
  nd : (p.map (·.1)).Nodup
  ky : ∀ t ∈ p, t.1.length = n ∧ t.1.sum ≤ d
def allK : List (List Nat) := [] :: ((List.range 10).map fun i => [i]) ++ (List.range 10).flatMap fun i => (List.range 10).map fun j => [i, j]
theorem PG.len {n d : Nat} {p : Po} (h : PG n d p) (hn : n ≤ 2) (hd : d ≤ 9) : p.length ≤ 111 := by
  have sub : p.map (·.1) ⊆ allK := fun k hk => by
    obtain ⟨t, ht, rfl⟩ := List.mem_map.mp hk
    obtain ⟨h1, h2⟩ := h.ky t ht
    generalize t.1 = k at *
    match k, h1, h2 with
    | [], _, _ => unfold allK; simp
    | [i], _, h2 =>
      have : i < 10 := by simp at h2; omega
      unfold allK
      simp
      exact this
    | [i, j], _, h2 =>
      have : i < 10 ∧ j < 10 := by simp at h2; omega
      unfold allK
      simp
      exact this
    | _ :: _ :: _ :: _, h1, _ => simp at h1; omega
  have := List.Nodup.length_le_of_subset h.nd sub
  rw [List.length_map] at this
  have e : allK.length = 111 := by decide +kernel
  omega
theorem PG.ne {n d : Nat} {p : Po} (h : PG n d p) (hn : 0 < n) : ∀ t ∈ p, t.1 ≠ [] := fun t ht e => by
  have := (h.ky t ht).1
  rw [e] at this
  simp at this
  omega
theorem PG.mono {n d e : Nat} {p : Po} (h : PG n d p) (le : d ≤ e) : PG n e p := ⟨h.nd, fun t ht => ⟨(h.ky t ht).1, Nat.le_trans (h.ky t ht).2 le⟩⟩
def addP (p : Po) (k : List Nat) (c : Int) : Po := put p k ((look p k).getD 0 + c)
theorem put_keys {p : Po} {k : List Nat} {c : Int} : (put p k c).map (·.1) = if k ∈ p.map (·.1) then p.map (·.1) else p.map (·.1) ++ [k] := by
  unfold put
  have e : (p.any fun kv => decide (kv.1 = k)) = decide (k ∈ p.map (·.1)) := by
    rw [Bool.eq_iff_iff, List.any_eq_true, decide_eq_true_iff, List.mem_map]
    constructor
    · rintro ⟨x, hx, he⟩; exact ⟨x, hx, of_decide_eq_true he⟩
    · rintro ⟨x, hx, he⟩; exact ⟨x, hx, decide_eq_true he⟩
  rw [e]
  by_cases h : k ∈ p.map (·.1)
  · rw [if_pos h, decide_eq_true h, if_pos rfl, List.map_map]
    apply List.map_congr_left
    intro t _
    show (if t.1 = k then (t.1, c) else t).1 = t.1
    split <;> rfl
  · rw [if_neg h, decide_eq_false h, if_neg (by decide), List.map_append]
    rfl
theorem pg_of {n d : Nat} {p : Po} (nd : (p.map (·.1)).Nodup) (ky : ∀ k ∈ p.map (·.1), k.length = n ∧ k.sum ≤ d) : PG n d p := ⟨nd, fun t ht => ky t.1 (List.mem_map.mpr ⟨t, ht, rfl⟩)⟩
theorem PG.kys {n d : Nat} {p : Po} (h : PG n d p) : ∀ k ∈ p.map (·.1), k.length = n ∧ k.sum ≤ d := fun k hk => by
  obtain ⟨t, ht, rfl⟩ := List.mem_map.mp hk
  exact h.ky t ht
theorem PG.add {n d : Nat} {p : Po} (h : PG n d p) {k : List Nat} (hk : k.length = n ∧ k.sum ≤ d) (c : Int) : PG n d (addP p k c) := by
  unfold addP
  by_cases m : k ∈ p.map (·.1)
  · exact pg_of (by rw [put_keys, if_pos m]; exact h.nd) (by rw [put_keys, if_pos m]; exact h.kys)
  · refine pg_of ?_ ?_
    · rw [put_keys, if_neg m]
      exact List.nodup_append.mpr ⟨h.nd, by simp, fun a ha b hb e => by
        have : b = k := by simpa using hb
        subst this
        exact m (e ▸ ha)⟩
    · rw [put_keys, if_neg m]
      intro a ha
      rcases List.mem_append.mp ha with ha | ha
      · exact h.kys a ha
      · have : a = k := by simpa using ha
        subst this
        exact hk
theorem pick_key {p : Po} {k : List Nat} {t : List Nat × Int} (h : pick p k = some t) : t.1 = k := by
  unfold pick at h
  split at h
  · split at h
    · cases h
    · cases h; rfl
  · cases h
theorem filt_keys {p : Po} : ∀ ks : List (List Nat), ((ks.filterMap (pick p)).map (·.1)).Sublist ks
  | [] => .slnil
  | k :: ks => by
    rw [List.filterMap_cons]
    cases e : pick p k with
    | none => exact (filt_keys ks).cons _
    | some t =>
      dsimp only
      rw [List.map_cons, pick_key e]
      exact (filt_keys ks).cons₂ _
theorem PG.asp {n d : Nat} {p : Po} (h : PG n d p) : PG n d (aspP p) := by
  have s := filt_keys (p := p) (sortN (p.map (·.1)))
  have pm := sortN_perm (p.map (·.1))
  refine pg_of (s.nodup (pm.nodup_iff.mpr h.nd)) fun k hk => h.kys k (pm.mem_iff.mp (s.subset hk))
def plusP (a b : Po) : Po := aspP (b.foldl (fun acc t => addP acc t.1 t.2) a)
def scaledP (a : Po) (c : Int) : Po := aspP (a.map fun t => (t.1, t.2 * c))
def minusP (a b : Po) : Po := plusP a (scaledP b (-1))
def addK (k l : List Nat) : List Nat := List.zipWith (fun x y => x + y) k l
def timesI (t : List Nat × Int) (b : Po) (acc : Po) : Po := b.foldl (fun acc u => addP acc (addK t.1 u.1) (t.2 * u.2)) acc
def timesP (a b : Po) : Po := aspP (a.foldl (fun acc t => timesI t b acc) [])
theorem PG.plusTake {n d : Nat} {a : Po} (h : PG n d a) : ∀ (b : Po), (∀ t ∈ b, t.1.length = n ∧ t.1.sum ≤ d) → PG n d (b.foldl (fun acc t => addP acc t.1 t.2) a) := by
  intro b
  induction b generalizing a with
  | nil => intro _; exact h
  | cons t b ih => intro hb; exact ih (h.add (hb t (by simp)) t.2) fun u hu => hb u (by simp [hu])
theorem foldl_snoc {α β : Type} {f : α → β → α} {a : α} {l : List β} {i : Nat} {x : β} (h : l[i]? = some x) : (l.take (i + 1)).foldl f a = f ((l.take i).foldl f a) x := by
  rw [List.take_add_one, h, List.foldl_append]
  rfl
def sp_plus : GSp := fun args Z => ∃ (n d : Nat) (a b : Po), args = [.im (pD a), .im (pD b)] ∧ 0 < n ∧ n ≤ 2 ∧ d ≤ 9 ∧ PG n d a ∧ PG n d b ∧ Z (.im (pD (plusP a b))) args
def sp_scaled : GSp := fun args Z => ∃ (n d : Nat) (a : Po) (c : Int), args = [.im (pD a), .im (.int c)] ∧ 0 < n ∧ n ≤ 2 ∧ d ≤ 9 ∧ PG n d a ∧ (∀ t ∈ a, CMulW t.2 c) ∧ Z (.im (pD (scaledP a c))) args
def sp_minus : GSp := fun args Z => ∃ (n d : Nat) (a b : Po), args = [.im (pD a), .im (pD b)] ∧ 0 < n ∧ n ≤ 2 ∧ d ≤ 9 ∧ PG n d a ∧ PG n d b ∧ (∀ t ∈ b, CMulW t.2 (-1)) ∧ Z (.im (pD (minusP a b))) args
def sp_times : GSp := fun args Z => ∃ (n d e : Nat) (a b : Po), args = [.im (pD a), .im (pD b)] ∧ 0 < n ∧ n ≤ 2 ∧ d + e ≤ 9 ∧ PG n d a ∧ PG n e b ∧ (∀ t ∈ a, ∀ u ∈ b, CMulW t.2 u.2) ∧ Z (.im (pD (timesP a b))) args
def N_plus : List Str := ["one", "other", "found", "powers", "factor"]
def w_plus : WS := (wSeq (wAsg 2 (wB gDictT (wCons (wVar 0) wNil))) (wSeq (wFor (wiTup (wVar 1)) (wgTup 2 (wgCons (wgName 3) (wgCons (wgName 4) wgNil))) (wPutT (wOp gAdd (wGet2T (wVar 2) (wVar 3) (wC (.int 0))) (wVar 4)) (wVar 2) (wVar 3))) (wRet 2 (wCall sp_as_poly (wCons (wVar 2) wNil)))))
def N_scaled : List Str := ["poly", "number", "powers", "factor"]
def w_scaled : WS := (wRet 2 (wCall sp_as_poly (wCons (wB gDictT (wCons (wLc (wiTup (wVar 0)) (wgTup 2 (wgCons (wgName 2) (wgCons (wgName 3) wgNil))) wYes (wTup (wCons (wVar 2) (wCons (wOp gMul (wVar 3) (wVar 1)) wNil))) [2, 3]) wNil)) wNil)))
def N_minus : List Str := ["one", "other"]
def w_minus : WS := (wRet 2 (wCall sp_plus (wCons (wVar 0) (wCons (wCall sp_scaled (wCons (wVar 1) (wCons (wUn gNeg (wC (.int 1))) wNil))) wNil))))
def N_times : List Str := ["one", "other", "found", "powers", "factor", "more", "second", "both", "left", "right"]
def w_times : WS := (wSeq (wAsg 2 wNewT) (wSeq (wFor (wiTup (wVar 0)) (wgTup 2 (wgCons (wgName 3) (wgCons (wgName 4) wgNil))) (wFor (wiTup (wVar 1)) (wgTup 2 (wgCons (wgName 5) (wgCons (wgName 6) wgNil))) (wSeq (wAsg 7 (wB gTuple (wCons (wLc (wiZip (wCons (wVar 3) (wCons (wVar 5) wNil))) (wgTup 2 (wgCons (wgName 8) (wgCons (wgName 9) wgNil))) wYes (wOp gAdd (wVar 8) (wVar 9)) [8, 9]) wNil))) (wPutT (wOp gAdd (wGet2T (wVar 2) (wVar 7) (wC (.int 0))) (wOp gMul (wVar 4) (wVar 6))) (wVar 2) (wVar 7))))) (wRet 2 (wCall sp_as_poly (wCons (wVar 2) wNil)))))
theorem getD_dtP (p : Po) (k : List Nat) : (look (dtP p) (keyP k)).getD (.int 0) = .int ((look p k).getD 0) := by
  rw [look_dtP]
  cases look p k <;> rfl
theorem vc_plus : ∀ args Z, sp_plus args Z → args.length = 2 ∧ w_plus (endsOf 2 Z) (args ++ List.replicate (N_plus.length - 2) .un) := by
  rintro args Z ⟨n, d, a, b, rfl, h0, h2, h9, ga, gb, z⟩
  refine ⟨rfl, dtP a, prD_dtP a, ?_⟩
  rw [mergeD_dtP, mergeP_nd ga.nd]
  refine ⟨fun i Γ => ∃ x y, Fx x ∧ Fx y ∧ Γ = [.im (pD a), .im (pD b), .ce (.dt (dtP ((b.take i).foldl (fun acc t => addP acc t.1 t.2) a))), x, y], ⟨.un, .un, trivial, trivial, rfl⟩, ?_, ?_⟩
  · rintro i d' Γ hd ⟨x, y, hx, hy, rfl⟩
    obtain ⟨t, ht, rfl⟩ := get_of_map hd
    have g := ga.plusTake (b.take i) fun u hu => gb.ky u (List.mem_of_mem_take hu)
    have ln := g.len h2 h9
    refine ⟨rfl, _, rfl, hx, _, rfl, hy, rfl, ⟨_, rfl⟩, _, keyP t.1, rfl, keyP_D t.1, ?_⟩
    rw [getD_dtP]
    refine ⟨_, keyP t.1, rfl, keyP_D t.1, by unfold dtP; rw [List.length_map]; omega, .im (nsD t.1), .im (.int t.2), trivial, trivial, ?_⟩
    rw [foldl_snoc ht, put_dtP]
    rfl
  · rintro Γ ⟨x, y, hx, hy, rfl⟩
    rw [List.length_map, List.take_length]
    have g := ga.plusTake b gb.ky
    have ln := g.len h2 h9
    exact ⟨rfl, _, rfl, g.ne h0, by omega, z⟩
theorem vc_scaled : ∀ args Z, sp_scaled args Z → args.length = 2 ∧ w_scaled (endsOf 2 Z) (args ++ List.replicate (N_scaled.length - 2) .un) := by
  rintro args Z ⟨n, d, a, c, rfl, h0, h2, h9, ga, hm, z⟩
  have ln := ga.len h2 h9
  let b : Po := a.map fun t => (t.1, t.2 * c)
  have kb : b.map (·.1) = a.map (·.1) := by
    show (a.map fun t => (t.1, t.2 * c)).map (·.1) = _
    rw [List.map_map]; rfl
  have gb : PG n d b := pg_of (by rw [kb]; exact ga.nd) (by rw [kb]; exact ga.kys)
  refine ⟨rfl, rfl, by rw [List.length_map]; omega, fun i acc Γ => Γ = [.im (pD a), .im (.int c), .un, .un] ∧ acc = (b.take i).map tD, ⟨rfl, rfl⟩, fun _ _ _ _ => trivial, ?_, ?_⟩
  · rintro i d' acc Γ hd ⟨rfl, rfl⟩
    obtain ⟨t, ht, rfl⟩ := get_of_map hd
    have hb : b[i]? = some (t.1, t.2 * c) := get_map ht
    refine ⟨rfl, _, rfl, fxU, _, rfl, fxU, rfl, fun _ => ⟨hm t (List.mem_of_getElem? ht), Nat.le_of_ble_eq_true rfl, rfl, by rw [take_map hb]; rfl⟩, nofun⟩
  · rintro acc Γ ⟨rfl, rfl⟩
    have e : b.take (a.map tD).length = b := List.take_of_length_le (by show (a.map _).length ≤ _; rw [List.length_map, List.length_map]; exact Nat.le_refl _)
    rw [e]
    refine ⟨dtP b, by rw [← prD_dtP]; rfl, rfl, b, ?_, gb.ne h0, by show (a.map _).length ≤ _; rw [List.length_map]; omega, z⟩
    show [Sl.ce (.dt (mergeD (dtP b)))] = _
    rw [mergeD_dtP, mergeP_nd gb.nd]
theorem PG.scaled {n d : Nat} {a : Po} (h : PG n d a) (c : Int) : PG n d (scaledP a c) := by
  have kb : (a.map fun t => (t.1, t.2 * c)).map (·.1) = a.map (·.1) := by rw [List.map_map]; rfl
  exact PG.asp (pg_of (by rw [kb]; exact h.nd) (by rw [kb]; exact h.kys))
theorem vc_minus : ∀ args Z, sp_minus args Z → args.length = 2 ∧ w_minus (endsOf 2 Z) (args ++ List.replicate (N_minus.length - 2) .un) := by
  rintro args Z ⟨n, d, a, b, rfl, h0, h2, h9, ga, gb, hm, z⟩
  exact ⟨rfl, rfl, n, d, b, -1, rfl, h0, h2, h9, gb, hm, rfl, n, d, a, scaledP b (-1), rfl, h0, h2, h9, ga, gb.scaled _, z⟩
theorem addK_ok {n d e : Nat} {k l : List Nat} (h1 : k.length = n ∧ k.sum ≤ d) (h2 : l.length = n ∧ l.sum ≤ e) : (addK k l).length = n ∧ (addK k l).sum ≤ d + e := by
  have s : ∀ (k l : List Nat), (addK k l).sum ≤ k.sum + l.sum := fun k => by
    induction k with
    | nil => intro l; simp [addK]
    | cons a k ih =>
      intro l
      cases l with
      | nil => simp [addK]
      | cons b l =>
        have := ih l
        unfold addK at this ⊢
        simp only [List.zipWith_cons_cons, List.sum_cons]
        omega
  refine ⟨?_, ?_⟩
  · unfold addK
    rw [List.length_zipWith]
    omega
  · have := s k l
    omega
theorem PG.timesI {n d e : Nat} {t : List Nat × Int} {acc : Po} (h : PG n (d + e) acc) (ht : t.1.length = n ∧ t.1.sum ≤ d) : ∀ b : Po, (∀ u ∈ b, u.1.length = n ∧ u.1.sum ≤ e) → PG n (d + e) (G.timesI t b acc) := by
  intro b
  induction b generalizing acc with
  | nil => intro _; exact h
  | cons u b ih => intro hb; exact ih (h.add (addK_ok ht (hb u (by simp))) _) fun v hv => hb v (by simp [hv])
theorem PG.timesA {n d e : Nat} {b : Po} (hb : ∀ u ∈ b, u.1.length = n ∧ u.1.sum ≤ e) : ∀ (a acc : Po), PG n (d + e) acc → (∀ t ∈ a, t.1.length = n ∧ t.1.sum ≤ d) → PG n (d + e) (a.foldl (fun acc t => G.timesI t b acc) acc)
  | [], acc, h, _ => h
  | t :: a, acc, h, ha => PG.timesA hb a _ (h.timesI (ha t (by simp)) b hb) fun u hu => ha u (by simp [hu])
theorem pg_nil {n d : Nat} : PG n d [] := ⟨by simp, fun t h => nomatch h⟩
theorem vc_times : ∀ args Z, sp_times args Z → args.length = 2 ∧ w_times (endsOf 2 Z) (args ++ List.replicate (N_times.length - 2) .un) := by
  rintro args Z ⟨n, d, e, a, b, rfl, h0, h2, h9, ga, gb, hm, z⟩
  refine ⟨rfl, fun i Γ => ∃ x y u v w, Fx x ∧ Fx y ∧ Fx u ∧ Fx v ∧ Fx w ∧ Γ = [.im (pD a), .im (pD b), .ce (.dt (dtP ((a.take i).foldl (fun acc t => timesI t b acc) []))), x, y, u, v, w, .un, .un], ⟨.un, .un, .un, .un, .un, trivial, trivial, trivial, trivial, trivial, rfl⟩, ?_, ?_⟩
  · rintro i d' Γ hd ⟨x, y, u, v, w, hx, hy, hu, hv, hw, rfl⟩
    obtain ⟨t, ht, rfl⟩ := get_of_map hd
    have htm := List.mem_of_getElem? ht
    let acc := (a.take i).foldl (fun acc t => timesI t b acc) []
    have gacc : PG n (d + e) acc := PG.timesA gb.ky _ _ pg_nil fun s hs => ga.ky s (List.mem_of_mem_take hs)
    refine ⟨rfl, _, rfl, hx, _, rfl, hy, rfl, fun j Γ => ∃ u v w, Fx u ∧ Fx v ∧ Fx w ∧ Γ = [.im (pD a), .im (pD b), .ce (.dt (dtP (timesI t (b.take j) acc))), .im (nsD t.1), .im (.int t.2), u, v, w, .un, .un], ⟨u, v, w, hu, hv, hw, rfl⟩, ?_, ?_⟩
    · rintro j d' Γ hd ⟨u, v, w, hu, hv, hw, rfl⟩
      obtain ⟨s, hs, rfl⟩ := get_of_map hd
      have hsm := List.mem_of_getElem? hs
      have kt := ga.ky t htm
      have ks := gb.ky s hsm
      have g2 : PG n (d + e) (timesI t (b.take j) acc) := gacc.timesI kt _ fun s hs => gb.ky s (List.mem_of_mem_take hs)
      have ln := g2.len h2 h9
      refine ⟨rfl, _, rfl, hu, _, rfl, hv, rfl, rfl, by rw [zipD_len, List.length_map, List.length_map]; omega, fun k acc' Γ => Γ = [.im (pD a), .im (pD b), .ce (.dt (dtP (timesI t (b.take j) acc))), .im (nsD t.1), .im (.int t.2), .im (nsD s.1), .im (.int s.2), w, .un, .un] ∧ acc' = ((addK t.1 s.1).take k).map nD, ⟨rfl, rfl⟩, fun _ _ _ _ => trivial, ?_, ?_⟩
      · rintro k d' acc' Γ hd ⟨rfl, rfl⟩
        obtain ⟨x', y', hx0, hy0, rfl⟩ := zipD_of hd
        obtain ⟨p, hp, rfl⟩ := get_of_map hx0
        obtain ⟨q, hq, rfl⟩ := get_of_map hy0
        have ez : (addK t.1 s.1)[k]? = some (p + q) := by
          unfold addK
          rw [List.getElem?_zipWith, hp, hq]
        exact ⟨rfl, _, rfl, fxU, _, rfl, fxU, rfl, fun _ => ⟨rfl, by rw [take_map ez]; rfl⟩, nofun⟩
      · rintro acc' Γ ⟨rfl, rfl⟩
        have ec : (addK t.1 s.1).take (zipD (t.1.map nD) (s.1.map nD)).length = addK t.1 s.1 := List.take_of_length_le (by rw [zipD_len, List.length_map, List.length_map]; unfold addK; rw [List.length_zipWith]; exact Nat.le_refl _)
        rw [ec]
        refine ⟨_, rfl, ⟨_, rfl⟩, _, keyP (addK t.1 s.1), rfl, keyP_D _, ?_⟩
        rw [getD_dtP]
        refine ⟨hm t htm s hsm, _, keyP (addK t.1 s.1), rfl, keyP_D _, by unfold dtP; rw [List.length_map]; omega, .im (nsD s.1), .im (.int s.2), .im (nsD (addK t.1 s.1)), trivial, trivial, trivial, ?_⟩
        rw [put_dtP]
        have : timesI t (b.take (j + 1)) acc = addP (timesI t (b.take j) acc) (addK t.1 s.1) (t.2 * s.2) := foldl_snoc hs
        rw [this]
        rfl
    · rintro Γ ⟨u, v, w, hu, hv, hw, rfl⟩
      rw [List.length_map, List.take_length]
      refine ⟨.im (nsD t.1), .im (.int t.2), u, v, w, trivial, trivial, hu, hv, hw, ?_⟩
      rw [foldl_snoc ht]
  · rintro Γ ⟨x, y, u, v, w, hx, hy, hu, hv, hw, rfl⟩
    rw [List.length_map, List.take_length]
    have g : PG n (d + e) (a.foldl (fun acc t => timesI t b acc) []) := PG.timesA gb.ky _ _ pg_nil ga.ky
    have ln := g.len h2 h9
    exact ⟨rfl, _, rfl, g.ne h0, by omega, z⟩
end G
set_option maxRecDepth 100000
set_option maxHeartbeats 4000000
/-! WK: polynomials of rows. -/
namespace G
open PySem PySem.Spec PyProof.Rows L2
/-! values of polynomials -/
def sp_power_of : GSp := fun args Z => ∃ (x : Int) (k : Nat), args = [.im (.int x), .im (.int (k : Int))] ∧ x.natAbs ≤ 4 ∧ k ≤ 9 ∧ Z (.im (.int (x ^ k))) args
def N_power_of : List Str := ["number", "power", "found", "turn"]
def w_power_of : WS := (wSeq (wAsg 2 (wC (.int 1))) (wSeq (wFor (wiRng1 (wCons (wVar 1) wNil)) (wgName 3) (wAsg 2 (wOp gMul (wVar 2) (wVar 0)))) (wRet 2 (wVar 2))))
theorem pow_le4 {x : Int} (h : x.natAbs ≤ 4) {k : Nat} (hk : k ≤ 9) : (x ^ k).natAbs < 2 ^ 19 := by
  rw [Int.natAbs_pow]
  have h1 : x.natAbs ^ k ≤ 4 ^ k := Nat.pow_le_pow_left h k
  have h2 : 4 ^ k ≤ 4 ^ 9 := Nat.pow_le_pow_right (by decide) hk
  have h3 : (4 : Nat) ^ 9 < 2 ^ 19 := by decide
  omega
theorem vc_power_of : ∀ args Z, sp_power_of args Z → args.length = 2 ∧ w_power_of (endsOf 2 Z) (args ++ List.replicate (N_power_of.length - 2) .un) := by
  rintro args Z ⟨x, k, rfl, hx, hk, z⟩
  refine ⟨rfl, ⟨by omega, by omega⟩, fun i Γ => ∃ t, Fx t ∧ Γ = [.im (.int x), .im (.int (k : Int)), .im (.int (x ^ i)), t], ⟨.un, trivial, by rw [Int.pow_zero]; rfl⟩, ?_, ?_⟩
  · rintro i d Γ hd ⟨t, ht, rfl⟩
    obtain ⟨hi, rfl⟩ := rngD_of hd
    refine ⟨_, rfl, ht, wide_mul (a := 19) (b := 19) (pow_le4 hx (by omega)) (by omega) (by decide) (by decide) (by decide), .im (.int (0 + (i : Int))), trivial, ?_⟩
    rw [Int.pow_succ]
    rfl
  · rintro Γ ⟨t, ht, rfl⟩
    rw [rngD_len, Int.toNat_natCast]
    exact z
def monV (c : Int) (l : List (Int × Nat)) : Int := l.foldl (fun acc q => acc * q.1 ^ q.2) c
def evP (p : Po) (xs : List Int) : Int := p.foldl (fun acc t => acc + monV t.2 (xs.zip t.1)) 0
def sp_value_of : GSp := fun args Z => ∃ (p : Po) (xs : List Int), args = [.im (pD p), .im (isD xs)] ∧ (∀ x ∈ xs, x.natAbs ≤ 4) ∧ xs.length ≤ 900 ∧ (∀ t ∈ p, t.2.natAbs < 2 ^ 400000 ∧ ∀ k ∈ t.1, k ≤ 9) ∧ Z (.im (.int (evP p xs))) args
def N_value_of : List Str := ["poly", "numbers", "found", "powers", "factor", "product", "number", "power"]
def w_value_of : WS := (wSeq (wAsg 2 (wC (.int 0))) (wSeq (wFor (wiTup (wVar 0)) (wgTup 2 (wgCons (wgName 3) (wgCons (wgName 4) wgNil))) (wSeq (wAsg 5 (wVar 4)) (wSeq (wFor (wiZip (wCons (wVar 1) (wCons (wVar 3) wNil))) (wgTup 2 (wgCons (wgName 6) (wgCons (wgName 7) wgNil))) (wAsg 5 (wOp gMul (wVar 5) (wCall sp_power_of (wCons (wVar 6) (wCons (wVar 7) wNil)))))) (wAsg 2 (wOp gAdd (wVar 2) (wVar 5)))))) (wRet 2 (wVar 2))))
theorem monV_le {c : Int} : ∀ (l : List (Int × Nat)) (a : Nat), c.natAbs < 2 ^ a → (∀ q ∈ l, q.1.natAbs ≤ 4 ∧ q.2 ≤ 9) → (monV c l).natAbs < 2 ^ (a + 19 * l.length)
  | [], a, h, _ => h
  | q :: l, a, h, hq => by
    obtain ⟨h1, h2⟩ := hq q (by simp)
    have h3 := pow_le4 h1 h2
    have h4 : (c * q.1 ^ q.2).natAbs < 2 ^ (a + 19) := by
      rw [Int.natAbs_mul, Nat.pow_add]
      exact Nat.mul_lt_mul'' h h3
    have := monV_le l (a + 19) h4 fun r hr => hq r (by simp [hr])
    show (monV (c * q.1 ^ q.2) l).natAbs < _
    rw [List.length_cons, show a + 19 * (l.length + 1) = a + 19 + 19 * l.length by omega]
    exact this
theorem vc_value_of : ∀ args Z, sp_value_of args Z → args.length = 2 ∧ w_value_of (endsOf 2 Z) (args ++ List.replicate (N_value_of.length - 2) .un) := by
  rintro args Z ⟨p, xs, rfl, hx, hl, hp, z⟩
  refine ⟨rfl, fun i Γ => ∃ x y u v w, Fx x ∧ Fx y ∧ Fx u ∧ Fx v ∧ Fx w ∧ Γ = [.im (pD p), .im (isD xs), .im (.int (evP (p.take i) xs)), x, y, u, v, w], ⟨.un, .un, .un, .un, .un, trivial, trivial, trivial, trivial, trivial, rfl⟩, ?_, ?_⟩
  · rintro i d' Γ hd ⟨x, y, u, v, w, h1, h2, h3, h4, h5, rfl⟩
    obtain ⟨t, ht, rfl⟩ := get_of_map hd
    obtain ⟨c1, c2⟩ := hp t (List.mem_of_getElem? ht)
    refine ⟨rfl, _, rfl, h1, _, rfl, h2, rfl, fun j Γ => ∃ v w, Fx v ∧ Fx w ∧ Γ = [.im (pD p), .im (isD xs), .im (.int (evP (p.take i) xs)), .im (nsD t.1), .im (.int t.2), .im (.int (monV t.2 ((xs.zip t.1).take j))), v, w], ⟨v, w, h4, h5, rfl⟩, ?_, ?_⟩
    · rintro j d' Γ hd ⟨v, w, h4, h5, rfl⟩
      obtain ⟨x', y', hx0, hy0, rfl⟩ := zipD_of hd
      obtain ⟨a, ha, rfl⟩ := get_of_map hx0
      obtain ⟨k, hk, rfl⟩ := get_of_map hy0
      have ham := hx a (List.mem_of_getElem? ha)
      have hkm := c2 k (List.mem_of_getElem? hk)
      have ez : (xs.zip t.1)[j]? = some (a, k) := by rw [List.getElem?_zip_eq_some]; exact ⟨ha, hk⟩
      have hj : j < xs.length := (List.getElem?_eq_some_iff.mp ha).1
      have hq : ∀ q ∈ (xs.zip t.1).take j, q.1.natAbs ≤ 4 ∧ q.2 ≤ 9 := fun q hq => by
        have := List.of_mem_zip (a := q.1) (b := q.2) (List.mem_of_mem_take hq)
        exact ⟨hx _ this.1, c2 _ this.2⟩
      have hb := monV_le ((xs.zip t.1).take j) 400000 c1 hq
      have hlen : ((xs.zip t.1).take j).length ≤ 900 := by rw [List.length_take, List.length_zip]; omega
      refine ⟨rfl, _, rfl, h4, _, rfl, h5, rfl, rfl, a, k, rfl, ham, hkm, ?_, .im (.int a), .im (nD k), trivial, trivial, ?_⟩
      · exact wide_mul hb (pow_le4 ham hkm) (by omega) (by decide) (by omega)
      · have : monV t.2 ((xs.zip t.1).take (j + 1)) = monV t.2 ((xs.zip t.1).take j) * a ^ k := foldl_snoc ez
        rw [this]
        rfl
    · rintro Γ ⟨v, w, h4, h5, rfl⟩
      have e : (xs.zip t.1).take (zipD (xs.map .int) (t.1.map nD)).length = xs.zip t.1 := List.take_of_length_le (by rw [zipD_len, List.length_map, List.length_map, List.length_zip]; exact Nat.le_refl _)
      rw [e]
      refine ⟨.im (nsD t.1), .im (.int t.2), .im (.int (monV t.2 (xs.zip t.1))), v, w, trivial, trivial, trivial, h4, h5, ?_⟩
      have : evP (p.take (i + 1)) xs = evP (p.take i) xs + monV t.2 (xs.zip t.1) := foldl_snoc ht
      rw [this]
      rfl
  · rintro Γ ⟨x, y, u, v, w, h1, h2, h3, h4, h5, rfl⟩
    rw [List.length_map, List.take_length]
    exact z
/-! polynomials of rows -/
def polyA (n : Nat) : Alg Po where
  inp := fun i => [(unitN n i, 1)]
  set := fun c => aspP [(List.replicate n 0, c)]
  neg := fun a => scaledP a (-1)
  bin := fun o a b => match o with
    | .add => plusP a b
    | .sub => minusP a b
    | .mul => timesP a b
def pol (r : Rw) : Nat → Po := (polyA r.n).tr [] r.st
def Cf (p : Po) : Prop := ∀ t ∈ p, t.2.natAbs < 2 ^ 400000
theorem Cf.neg {p : Po} (h : Cf p) : ∀ t ∈ p, CMulW t.2 (-1) := fun t ht => wide_mul (a := 400000) (b := 1) (h t ht) (by decide) (by decide) (by decide) (by decide)
theorem Cf.mul {p q : Po} (h : Cf p) (g : Cf q) : ∀ t ∈ p, ∀ u ∈ q, CMulW t.2 u.2 := fun t ht u hu => wide_mul (a := 400000) (b := 400000) (h t ht) (g u hu) (by decide) (by decide) (by decide)
def sp_step_poly : GSp := fun args Z => ∃ (s : Stp) (n : Nat) (kvs : List (Key × D)) (v : Nat → Po) (d : Nat → Nat), args = [.im (sD s), .im (.int (n : Int)), .ce (.dk kvs)] ∧ 0 < n ∧ n ≤ 2 ∧
  (∀ a ∈ refs s, look kvs (keyN a) = some (pD (v a)) ∧ PG n (d a) (v a) ∧ d a ≤ 9 ∧ Cf (v a)) ∧ (∀ a b, s = .bin .mul a b → d a + d b ≤ 9) ∧ Z (.im (pD ((polyA n).stp v s))) args
def N_step_poly : List Str := ["step", "many", "found", "one", "other"]
def w_step_poly : WS := (wSeq (wIf (wTest (wOp gEq (wIx (wVar 0) (wC (.int 0))) (wC (.str "in")))) (wRet 3 (wCall sp_unknown (wCons (wVar 1) (wCons (wIx (wVar 0) (wC (.int 1))) wNil)))) wNext) (wSeq (wIf (wTest (wOp gEq (wIx (wVar 0) (wC (.int 0))) (wC (.str "set")))) (wRet 3 (wCall sp_constant (wCons (wVar 1) (wCons (wIx (wVar 0) (wC (.int 1))) wNil)))) wNext) (wSeq (wIf (wTest (wOp gEq (wIx (wVar 0) (wC (.int 0))) (wC (.str "neg")))) (wRet 3 (wCall sp_scaled (wCons (wDGetK (wVar 2) (wIx (wVar 0) (wC (.int 1)))) (wCons (wUn gNeg (wC (.int 1))) wNil)))) wNext) (wSeq (wPar 3 4 (wCons (wDGetK (wVar 2) (wIx (wVar 0) (wC (.int 1)))) (wCons (wDGetK (wVar 2) (wIx (wVar 0) (wC (.int 2)))) wNil))) (wSeq (wIf (wTest (wOp gEq (wIx (wVar 0) (wC (.int 0))) (wC (.str "+")))) (wRet 3 (wCall sp_plus (wCons (wVar 3) (wCons (wVar 4) wNil)))) wNext) (wRet 3 (wIfE (wTest (wOp gEq (wIx (wVar 0) (wC (.int 0))) (wC (.str "-")))) (wCall sp_minus (wCons (wVar 3) (wCons (wVar 4) wNil))) (wCall sp_times (wCons (wVar 3) (wCons (wVar 4) wNil))))))))))
theorem vc_step_poly : ∀ args Z, sp_step_poly args Z → args.length = 3 ∧ w_step_poly (endsOf 3 Z) (args ++ List.replicate (N_step_poly.length - 3) .un) := by
  rintro args Z ⟨s, n, kvs, v, d, rfl, h0, h2, hr, hm, z⟩
  refine ⟨rfl, ?_⟩
  cases s with
  | inp i => exact ⟨_, _, rfl, rfl, itY (by decide) ⟨_, _, rfl, rfl, rfl, n, i, rfl, by omega, z⟩⟩
  | set c => exact ⟨_, _, rfl, rfl, itN (by decide) ⟨_, _, rfl, rfl, itY (by decide) ⟨_, _, rfl, rfl, rfl, n, c, rfl, h0, by omega, z⟩⟩⟩
  | neg a =>
    obtain ⟨k1, g1, l1, c1⟩ := hr a (by simp [refs])
    exact ⟨_, _, rfl, rfl, itN (by decide) ⟨_, _, rfl, rfl, itN (by decide) ⟨_, _, rfl, rfl, itY (by decide) ⟨_, _, rfl, rfl, _, keyN a, _, rfl, rfl, k1, rfl, n, d a, v a, -1, rfl, h0, h2, l1, g1, c1.neg, z⟩⟩⟩⟩
  | bin o a b =>
    obtain ⟨k1, g1, l1, c1⟩ := hr a (by simp [refs])
    obtain ⟨k2, g2, l2, c2⟩ := hr b (by simp [refs])
    have m1 : PG n (max (d a) (d b)) (v a) := g1.mono (by omega)
    have m2 : PG n (max (d a) (d b)) (v b) := g2.mono (by omega)
    refine ⟨_, _, rfl, rfl, itN (by cases o <;> decide) ⟨_, _, rfl, rfl, itN (by cases o <;> decide) ⟨_, _, rfl, rfl, itN (by cases o <;> decide) ⟨_, _, rfl, rfl, _, keyN a, _, rfl, rfl, k1, _, _, rfl, rfl, _, keyN b, _, rfl, rfl, k2, _, _, rfl, rfl, ?_⟩⟩⟩⟩
    cases o with
    | add => exact itY (by decide) ⟨rfl, n, _, v a, v b, rfl, h0, h2, by omega, m1, m2, z⟩
    | sub => exact itN (by decide) ⟨_, _, rfl, rfl, itY (by decide) ⟨rfl, n, _, v a, v b, rfl, h0, h2, by omega, m1, m2, c2.neg, z⟩⟩
    | mul => exact itN (by decide) ⟨_, _, rfl, rfl, itN (by decide) ⟨rfl, n, d a, d b, v a, v b, rfl, h0, h2, hm a b rfl, g1, g2, c1.mul c2, z⟩⟩
structure PolOk (r : Rw) : Prop where
  ok : RowOk r
  n0 : 0 < r.n
  n2 : r.n ≤ 2
  sz : ∀ k, k < r.st.length → siz r k ≤ 9
  cf : ∀ k, k < r.st.length → Cf (pol r k)
theorem siz_pos {r : Rw} (ok : RowOk r) : ∀ k, k < r.st.length → 1 ≤ siz r k := by
  intro k
  induction k using Nat.strongRecOn with
  | ind k ih =>
    intro hk
    have e : r.st[k]? = some (r.st[k]) := List.getElem?_eq_getElem hk
    have w := ok.wf k _ e
    have h : siz r k = (szA 1).stp (siz r) (r.st[k]) := tr_spec ok.wf e
    rw [h]
    generalize r.st[k] = s at *
    cases s with
    | inp i => exact Int.le_refl _
    | set c => exact Int.le_refl _
    | neg a => exact ih a (w a (by simp [refs])) (by have := w a (by simp [refs]); omega)
    | bin o a b =>
      have h1 := ih a (w a (by simp [refs])) (by have := w a (by simp [refs]); omega)
      have h2 := ih b (w b (by simp [refs])) (by have := w b (by simp [refs]); omega)
      cases o with
      | add => show 1 ≤ max (siz r a) (siz r b); omega
      | sub => show 1 ≤ max (siz r a) (siz r b); omega
      | mul => show 1 ≤ siz r a + siz r b; omega
theorem pg_one {n d : Nat} {k : List Nat} {c : Int} (h : k.length = n ∧ k.sum ≤ d) : PG n d [(k, c)] := ⟨by simp, fun t ht => by
  have : t = (k, c) := by simpa using ht
  rw [this]; exact h⟩
theorem unitN_sum (n i : Nat) : (unitN n i).sum ≤ 1 := by
  induction n with
  | zero => simp [unitN]
  | succ n ih =>
    unfold unitN at ih ⊢
    rw [List.range_succ, List.map_append, List.sum_append]
    by_cases h : n = i
    · subst h
      have : ((List.range n).map fun u => if u = n then 1 else 0).sum = 0 := by
        have : ((List.range n).map fun u => if u = n then 1 else 0) = (List.range n).map fun _ => 0 := List.map_congr_left fun a ha => by
          have := List.mem_range.mp ha
          rw [if_neg (by omega)]
        rw [this]
        clear this ih
        induction n with
        | zero => rfl
        | succ n ih => rw [List.range_succ, List.map_append, List.sum_append, ih]; rfl
      rw [this]
      simp
    · simp [h] at ih ⊢
      exact ih
theorem pol_pg {r : Rw} (ok : RowOk r) : ∀ k, k < r.st.length → PG r.n (siz r k).toNat (pol r k) := by
  intro k
  induction k using Nat.strongRecOn with
  | ind k ih =>
    intro hk
    have e : r.st[k]? = some (r.st[k]) := List.getElem?_eq_getElem hk
    have w := ok.wf k _ e
    have h : siz r k = (szA 1).stp (siz r) (r.st[k]) := tr_spec ok.wf e
    have h' : pol r k = (polyA r.n).stp (pol r) (r.st[k]) := tr_spec ok.wf e
    rw [h, h']
    generalize r.st[k] = s at *
    cases s with
    | inp i => exact pg_one ⟨by simp [unitN], unitN_sum _ _⟩
    | set c => exact PG.asp (pg_one ⟨by simp, by simp⟩)
    | neg a => exact (ih a (w a (by simp [refs])) (by have := w a (by simp [refs]); omega)).scaled _
    | bin o a b =>
      have la := w a (by simp [refs])
      have lb := w b (by simp [refs])
      have h1 := ih a la (by omega)
      have h2 := ih b lb (by omega)
      have p1 := siz_pos ok a (by omega)
      have p2 := siz_pos ok b (by omega)
      cases o with
      | add => exact PG.asp ((h1.mono (by show _ ≤ (max (siz r a) (siz r b)).toNat; omega)).plusTake _ (h2.mono (by show _ ≤ (max (siz r a) (siz r b)).toNat; omega)).ky)
      | sub => exact PG.asp ((h1.mono (by show _ ≤ (max (siz r a) (siz r b)).toNat; omega)).plusTake _ ((h2.scaled (-1)).mono (by show _ ≤ (max (siz r a) (siz r b)).toNat; omega)).ky)
      | mul =>
        show PG r.n (siz r a + siz r b).toNat (timesP (pol r a) (pol r b))
        rw [show (siz r a + siz r b).toNat = (siz r a).toNat + (siz r b).toNat by omega]
        exact PG.asp (PG.timesA h2.ky _ _ pg_nil h1.ky)
def sp_polys_by_steps : GSp := fun args Z => ∃ r : Rw, args = [.im (rD r)] ∧ PolOk r ∧ ∀ ns, NeedOk r ns → Z (.tm (.dk (ns.map fun j => (keyN j, pD (pol r j))))) args
def N_polys_by_steps : List Str := ["row", "found", "number"]
def w_polys_by_steps : WS := (wSeq (wAsg 1 wNewK) (wSeq (wFor (wiTup (wCall sp_needed (wCons (wVar 0) wNil))) (wgName 2) (wSeq (wPutK (wCall sp_step_poly (wCons (wIx (wIx (wVar 0) (wC (.int 1))) (wVar 2)) (wCons (wIx (wVar 0) (wC (.int 0))) (wCons (wVar 1) wNil)))) (wVar 1) (wVar 2)) (wIf (wTest (wOp gGt (wB gLen (wCons (wDGetK (wVar 1) (wVar 2)) wNil)) (wC (.int 200)))) wNever wNext))) (wRet 1 (wVar 1))))
theorem vc_polys_by_steps : ∀ args Z, sp_polys_by_steps args Z → args.length = 1 ∧ w_polys_by_steps (endsOf 1 Z) (args ++ List.replicate (N_polys_by_steps.length - 1) .un) := by
  rintro args Z ⟨r, rfl, po, z⟩
  have ok := po.ok
  have hL := ok.ln
  refine ⟨rfl, rfl, r, rfl, ok, fun ns no => ?_⟩
  have hns : ns.length ≤ r.st.length := by
    have : ns.Nodup := no.srt.imp fun h => Nat.ne_of_lt h
    have h2 : ns ⊆ List.range r.st.length := fun j hj => List.mem_range.mpr (no.lt j hj)
    have := List.Nodup.length_le_of_subset this h2
    rwa [List.length_range] at this
  refine ⟨fun i Γ => ∃ x, Fx x ∧ Γ = [.im (rD r), .ce (.dk ((ns.take i).map fun j => (keyN j, pD (pol r j)))), x], ⟨.un, trivial, rfl⟩, ?_, ?_⟩
  · rintro i d Γ hd ⟨x, hx, rfl⟩
    obtain ⟨j, hj, rfl⟩ := get_of_map hd
    have hjn : j ∈ ns := List.mem_of_getElem? hj
    have hjl := no.lt j hjn
    have hin : i < ns.length := (List.getElem?_eq_some_iff.mp hj).1
    have e1 : r.st[j]? = some (r.st[j]) := List.getElem?_eq_getElem hjl
    generalize hs : r.st[j] = s at *
    have hw : ∀ a ∈ refs s, a ∈ ns.take i := fun a ha => take_srt no.srt hj (no.cl j hjn s e1 a ha) (ok.wf j s e1 a ha)
    have hnot := not_take no.srt hj
    have hp : pol r j = (polyA r.n).stp (pol r) s := tr_spec ok.wf e1
    have hz : siz r j = (szA 1).stp (siz r) s := tr_spec ok.wf e1
    have nk : look ((ns.take i).map fun j => (keyN j, pD (pol r j))) (keyN j) = none := look_not keyN_inj hnot
    have et : put ((ns.take i).map fun j => (keyN j, pD (pol r j))) (keyN j) (pD (pol r j)) = (ns.take (i + 1)).map fun j => (keyN j, pD (pol r j)) := by
      rw [put_new nk, take_map hj]
    refine ⟨_, rfl, hx, _, _, rfl, rfl, _, _, rfl, atI_nat (get_map e1), _, _, rfl, rfl, rfl, s, r.n, _, pol r, fun a => (siz r a).toNat, rfl, po.n0, po.n2, fun a ha => ?_, fun a b e => ?_, _, keyN j, rfl, rfl, by rw [List.length_map, List.length_take]; omega, ?_⟩
    · have hal := no.lt a (List.mem_of_mem_take (hw a ha))
      exact ⟨look_mem keyN_inj (hw a ha), pol_pg ok a hal, by show (siz r a).toNat ≤ 9; have := po.sz a hal; omega, po.cf a hal⟩
    · subst e
      have h1 := siz_pos ok a (no.lt a (List.mem_of_mem_take (hw a (by simp [refs]))))
      have h2 := siz_pos ok b (no.lt b (List.mem_of_mem_take (hw b (by simp [refs]))))
      have h3 : siz r j = siz r a + siz r b := hz
      have h4 := po.sz j hjl
      show (siz r a).toNat + (siz r b).toNat ≤ 9
      omega
    · rw [← hp]
      refine ⟨_, keyN j, pD (pol r j), rfl, rfl, ?_, _, rfl, itN ?_ ?_⟩
      · rw [et]
        exact look_mem keyN_inj (by rw [List.take_add_one, hj]; simp)
      · rw [List.length_map]
        have := (pol_pg ok j hjl).len po.n2 (by have := po.sz j hjl; omega)
        exact decide_eq_false (by omega)
      · refine ⟨.im (nD j), trivial, ?_⟩
        rw [← et]
        rfl
  · rintro Γ ⟨x, hx, rfl⟩
    rw [List.length_map, List.take_length]
    exact ⟨_, rfl, Nat.le_refl _, z ns no⟩
def sp_polys : GSp := fun args Z => ∃ r : Rw, args = [.im (rD r)] ∧ PolOk r ∧ Z (.im (.tup (r.en.map fun e => pD (pol r e)))) args
def N_polys : List Str := ["row", "found", "end"]
def w_polys : WS := (wSeq (wAsg 1 (wCall sp_polys_by_steps (wCons (wVar 0) wNil))) (wRet 1 (wB gTuple (wCons (wLc (wiTup (wIx (wVar 0) (wC (.int 2)))) (wgName 2) wYes (wDGetK (wVar 1) (wVar 2)) [2]) wNil))))
theorem vc_polys : ∀ args Z, sp_polys args Z → args.length = 1 ∧ w_polys (endsOf 1 Z) (args ++ List.replicate (N_polys.length - 1) .un) := by
  rintro args Z ⟨r, rfl, po, z⟩
  refine ⟨rfl, rfl, r, rfl, po, fun ns no => ⟨_, _, rfl, rfl, rfl, by rw [List.length_map]; have := po.ok.le; omega, fun i acc Γ => Γ = [.im (rD r), .ce (.dk (ns.map fun j => (keyN j, pD (pol r j)))), .un] ∧ acc = (r.en.take i).map fun e => pD (pol r e), ⟨rfl, rfl⟩, fun _ _ _ _ => trivial, ?_, ?_⟩⟩
  · rintro i d acc Γ hd ⟨rfl, rfl⟩
    obtain ⟨e, he, rfl⟩ := get_of_map hd
    exact ⟨_, rfl, fxU, fun _ => ⟨_, keyN e, _, rfl, rfl, look_mem keyN_inj (no.en e (List.mem_of_getElem? he)), rfl, by rw [take_map he]⟩, nofun⟩
  · rintro acc Γ ⟨rfl, rfl⟩
    rw [List.length_map, List.take_length]
    exact ⟨_, rfl, z⟩
def sp_need_like : GSp := fun args Z => ∃ r t : Rw, args = [.im (rD r), .im (rD t)] ∧ r.n = t.n ∧ r.en.length = t.en.length ∧ Z (.im .non) args
def sp_same : GSp := fun args Z => ∃ r t : Rw, args = [.im (rD r), .im (rD t)] ∧ PolOk r ∧ PolOk t ∧ r.n = t.n ∧ r.en.map (pol r) = t.en.map (pol t) ∧ Z (.im (.bl true)) args
def N_need_like : List Str := ["one", "other"]
def w_need_like : WS := (wIf (wOr (wTest (wOp gNe (wIx (wVar 0) (wC (.int 0))) (wIx (wVar 1) (wC (.int 0))))) (wTest (wOp gNe (wB gLen (wCons (wIx (wVar 0) (wC (.int 2))) wNil)) (wB gLen (wCons (wIx (wVar 1) (wC (.int 2))) wNil))))) wNever wNext)
def N_same : List Str := ["one", "other"]
def w_same : WS := (wSeq (wDrop (wCall sp_need_like (wCons (wVar 0) (wCons (wVar 1) wNil)))) (wRet 2 (wOp gEq (wCall sp_polys (wCons (wVar 0) wNil)) (wCall sp_polys (wCons (wVar 1) wNil)))))
theorem vc_need_like : ∀ args Z, sp_need_like args Z → args.length = 2 ∧ w_need_like (endsOf 2 Z) (args ++ List.replicate (N_need_like.length - 2) .un) := by
  rintro args Z ⟨r, t, rfl, hn, hl, z⟩
  refine ⟨rfl, _, _, rfl, rfl, _, _, rfl, rfl, itN ?_ ⟨_, _, rfl, rfl, _, rfl, _, _, rfl, rfl, _, rfl, itN ?_ z⟩⟩
  · rw [hn, decide_eq_true rfl]; rfl
  · rw [List.length_map, List.length_map, hl, decide_eq_true rfl]; rfl
theorem okd_ns {n : Nat} (k : List Nat) : okd (n + 1) (nsD k) = true := by
  show (k.map nD).all (okd n) = true
  rw [List.all_map]
  exact List.all_eq_true.mpr fun x _ => by show okd n (.int _) = true; cases n <;> rfl
theorem okd_pD {n : Nat} (p : Po) : okd (n + 3) (pD p) = true := by
  show (p.map tD).all (okd (n + 2)) = true
  rw [List.all_map]
  refine List.all_eq_true.mpr fun t _ => ?_
  show ([nsD t.1, .int t.2] : List D).all (okd (n + 1)) = true
  rw [List.all_cons, okd_ns]
  rfl
theorem vc_same : ∀ args Z, sp_same args Z → args.length = 2 ∧ w_same (endsOf 2 Z) (args ++ List.replicate (N_same.length - 2) .un) := by
  rintro args Z ⟨r, t, rfl, p1, p2, hn, hp, z⟩
  have hl : r.en.length = t.en.length := by
    have := congrArg List.length hp
    rwa [List.length_map, List.length_map] at this
  have e : (r.en.map fun e => pD (pol r e)) = t.en.map fun e => pD (pol t e) := by
    have := congrArg (List.map pD) hp
    rwa [List.map_map, List.map_map] at this
  have ok : ∀ (l : List Nat) (f : Nat → Po), okd 4 (.tup (l.map fun e => pD (f e))) = true := fun l f => by
    show (l.map fun e => pD (f e)).all (okd 3) = true
    rw [List.all_map]
    exact List.all_eq_true.mpr fun x _ => okd_pD (n := 0) _
  refine ⟨rfl, rfl, r, t, rfl, hn, hl, rfl, r, rfl, p1, rfl, t, rfl, p2, 4, by decide, ok _ _, ok _ _, ?_⟩
  rw [e, deq_refl]
  exact z
end G
set_option maxRecDepth 100000
set_option maxHeartbeats 4000000
/-! WL: rate, hangs. -/
namespace G
open PySem PySem.Spec PyProof.Rows L2
/-- the powers with one less -/
def ltD (u : Nat) (k : List Nat) : List D := cutD (k.map nD) none (some (u : Int)) ++ [.int ((k.getD u 0 : Int) - 1)] ++ cutD (k.map nD) (some ((u : Int) + 1)) none
def rateT (u : Nat) (t : List Nat × Int) : Option D := if 0 < t.1.getD u 0 then some (.tup [.tup (ltD u t.1), .int (t.2 * (t.1.getD u 0 : Int))]) else none
def rateP (p : Po) (u : Nat) : List D := sortD (p.filterMap (rateT u))
theorem cutD_ints (l : List Int) (lo hi : Option Int) : ∃ m : List Int, cutD (l.map .int) lo hi = m.map .int ∧ m.length ≤ l.length := by
  unfold cutD
  rw [← List.map_drop, ← List.map_take]
  exact ⟨_, rfl, by rw [List.length_take, List.length_drop]; omega⟩
theorem ltD_ints (u : Nat) (k : List Nat) : ∃ m : List Int, ltD u k = m.map .int := by
  have e : k.map nD = (k.map fun (i : Nat) => (i : Int)).map .int := by rw [List.map_map]; rfl
  unfold ltD
  rw [e]
  obtain ⟨m1, e1, _⟩ := cutD_ints (k.map fun (i : Nat) => (i : Int)) none (some (u : Int))
  obtain ⟨m2, e2, _⟩ := cutD_ints (k.map fun (i : Nat) => (i : Int)) (some ((u : Int) + 1)) none
  rw [e1, e2]
  exact ⟨m1 ++ [(k.getD u 0 : Int) - 1] ++ m2, by simp⟩
theorem toPyA_ints : ∀ m : List Int, toPyA (m.map .int) = m.map .int
  | [] => rfl
  | x :: m => by
    show toPy (.int x) :: toPyA (m.map .int) = _
    rw [toPyA_ints m]
    rfl
/-- what the rate's items are -/
def RateI (d : D) : Prop := ∃ (m : List Int) (c : Int), d = .tup [.tup (m.map .int), .int c]
theorem rateT_is {u : Nat} {t : List Nat × Int} {d : D} (h : rateT u t = some d) : RateI d := by
  unfold rateT at h
  split at h
  · cases h
    obtain ⟨m, e⟩ := ltD_ints u t.1
    exact ⟨m, _, by rw [e]⟩
  · cases h
theorem rateF_is {p : Po} {u : Nat} : ∀ d ∈ p.filterMap (rateT u), RateI d := fun d hd => by
  obtain ⟨t, _, h⟩ := List.mem_filterMap.mp hd
  exact rateT_is h
theorem rateI_py {m : List Int} {c : Int} : toPy (.tup [.tup (m.map .int), .int c]) = .tuple [.tuple (m.map .int), .int c] := by
  simp only [toPy, toPyA, toPyA_ints]
theorem srt_rate {l : List D} (h : ∀ d ∈ l, RateI d) (hl : l.length ≤ 1000) : SrtOk l := by
  refine ⟨fun d hd e he => ?_, fun d hd => ?_, fun d hd => ?_, hl⟩
  · obtain ⟨m, c, rfl⟩ := h d hd
    obtain ⟨m2, c2, rfl⟩ := h e he
    rw [rateI_py, rateI_py]
    have := PySem.W.alike_ints m m2
    simp [PySem.W.alike, PySem.W.alikeAll, this]
  · obtain ⟨m, c, rfl⟩ := h d hd
    rw [rateI_py]
    exact ⟨_, _, rfl⟩
  · obtain ⟨m, c, rfl⟩ := h d hd
    rw [rateI_py]
    have := depth_ints0 m
    simp [PyData.depth, PyData.depthAll, this]
def sp_rate : GSp := fun args Z => ∃ (p : Po) (u n d : Nat), args = [.im (pD p), .im (.int (u : Int))] ∧ u < n ∧ n ≤ 2 ∧ d ≤ 9 ∧ PG n d p ∧ Cf p ∧ Z (.im (.tup (rateP p u))) args
def N_rate : List Str := ["poly", "unknown", "found", "powers", "factor", "less"]
def w_rate : WS := (wSeq (wAsg 2 (wLst wNil)) (wSeq (wFor (wiTup (wVar 0)) (wgTup 2 (wgCons (wgName 3) (wgCons (wgName 4) wgNil))) (wIf (wTest (wOp gGt (wIx (wVar 3) (wVar 1)) (wC (.int 0)))) (wSeq (wAsg 5 (wOp gAdd (wOp gAdd (wSl (wVar 3) wNo (wPart (wVar 1))) (wTup (wCons (wOp gSub (wIx (wVar 3) (wVar 1)) (wC (.int 1))) wNil))) (wSl (wVar 3) (wPart (wOp gAdd (wVar 1) (wC (.int 1)))) wNo))) (wDrop (wApp (wVar 2) (wTup (wCons (wVar 5) (wCons (wOp gMul (wVar 4) (wIx (wVar 3) (wVar 1))) wNil)))))) wNext)) (wRet 2 (wB gTuple (wCons (wB gSorted (wCons (wVar 2) wNil)) wNil)))))
theorem cutD_le (l : List D) (lo hi : Option Int) : (cutD l lo hi).length ≤ l.length := by
  unfold cutD
  rw [List.length_take, List.length_drop]
  omega
theorem sum_ge {k : List Nat} {x : Nat} (h : x ∈ k) : x ≤ k.sum := by
  induction k with
  | nil => cases h
  | cons a k ih =>
    rw [List.sum_cons]
    rcases List.mem_cons.mp h with rfl | h
    · omega
    · have := ih h; omega
theorem vc_rate : ∀ args Z, sp_rate args Z → args.length = 2 ∧ w_rate (endsOf 2 Z) (args ++ List.replicate (N_rate.length - 2) .un) := by
  rintro args Z ⟨p, u, n, d, rfl, hu, hn, h9, g, cf, z⟩
  have ln := g.len hn h9
  refine ⟨rfl, Nat.zero_le _, fun i Γ => ∃ x y v, Fx x ∧ Fx y ∧ Fx v ∧ Γ = [.im (pD p), .im (.int (u : Int)), .ce (.ls ((p.take i).filterMap (rateT u))), x, y, v], ⟨.un, .un, .un, trivial, trivial, trivial, rfl⟩, ?_, ?_⟩
  · rintro i d' Γ hd ⟨x, y, v, hx, hy, hv, rfl⟩
    obtain ⟨t, ht, rfl⟩ := get_of_map hd
    have htm := List.mem_of_getElem? ht
    obtain ⟨k1, k2⟩ := g.ky t htm
    have hk : t.1[u]? = some (t.1.getD u 0) := by
      rw [List.getD_eq_getElem?_getD, List.getElem?_eq_getElem (by omega)]; rfl
    have hk9 : t.1.getD u 0 ≤ 9 := by
      have := sum_ge (List.mem_of_getElem? hk)
      omega
    have hat : L2.atI (t.1.map nD) (u : Int) = some (nD (t.1.getD u 0)) := atI_nat (get_map hk)
    have ef := filt_take (f := rateT u) ht
    refine ⟨rfl, _, rfl, hx, _, rfl, hy, rfl, _, _, rfl, hat, fun hb => ?_, fun hb => ?_⟩
    · have h0 : 0 < t.1.getD u 0 := by
        have := of_decide_eq_true hb
        omega
      have c1 := cutD_le (t.1.map nD) none (some (u : Int))
      have c2 := cutD_le (t.1.map nD) (some ((u : Int) + 1)) none
      rw [List.length_map] at c1 c2
      refine ⟨_, _, rfl, hat, Nat.le_of_ble_eq_true rfl, line1000 (by show (cutD _ _ _).length + 1 ≤ _; omega), line1000 (by rw [List.length_append]; show (cutD _ _ _).length + 1 + (cutD _ _ _).length ≤ _; omega), ?_⟩
      refine ⟨⟨_, rfl⟩, _, _, rfl, hat, wide_mul (a := 400000) (b := 4) (cf t htm) (by show ((t.1.getD u 0 : Nat) : Int).natAbs < 16; omega) (by decide) (by decide) (by decide), Nat.le_of_ble_eq_true rfl, _, rfl, ?_, .im (nsD t.1), .im (.int t.2), .im (.tup (ltD u t.1)), trivial, trivial, trivial, ?_⟩
      · have := List.length_filterMap_le (rateT u) (p.take i)
        rw [List.length_take] at this
        omega
      · rw [ef, show rateT u t = some (.tup [.tup (ltD u t.1), .int (t.2 * (t.1.getD u 0 : Int))]) by unfold rateT; rw [if_pos h0]]
        rfl
    · have h0 : ¬ 0 < t.1.getD u 0 := by
        have := of_decide_eq_false hb
        omega
      refine ⟨.im (nsD t.1), .im (.int t.2), v, trivial, trivial, hv, ?_⟩
      rw [ef, show rateT u t = none by unfold rateT; rw [if_neg h0]]
      simp
  · rintro Γ ⟨x, y, v, hx, hy, hv, rfl⟩
    rw [List.length_map, List.take_length]
    have := List.length_filterMap_le (rateT u) p
    exact ⟨_, rfl, srt_rate rateF_is (by omega), _, rfl, z⟩
def hangP (n : Nat) (p : Po) : List Nat := (List.range n).filter fun u => !(rateP p u).isEmpty
def sp_hangs : GSp := fun args Z => ∃ r : Rw, args = [.im (rD r)] ∧ PolOk r ∧ Z (.im (.tup (r.en.map fun e => nsD (hangP r.n (pol r e))))) args
def N_hangs : List Str := ["row", "found", "poly", "unknown"]
def w_hangs : WS := (wSeq (wAsg 1 (wLst wNil)) (wSeq (wFor (wiTup (wCall sp_polys (wCons (wVar 0) wNil))) (wgName 2) (wDrop (wApp (wVar 1) (wB gTuple (wCons (wLc (wiRng1 (wCons (wIx (wVar 0) (wC (.int 0))) wNil)) (wgName 3) (wTest (wOp gNe (wCall sp_rate (wCons (wVar 2) (wCons (wVar 3) wNil))) (wTup wNil))) (wVar 3) [3]) wNil))))) (wRet 1 (wB gTuple (wCons (wVar 1) wNil)))))
theorem okd_rate {p : Po} {u : Nat} : okd 3 (.tup (rateP p u)) = true := by
  show (rateP p u).all (okd 2) = true
  refine List.all_eq_true.mpr fun d hd => ?_
  have := (sortD_perm (p.filterMap (rateT u))).mem_iff.mp hd
  obtain ⟨m, c, rfl⟩ := rateF_is d this
  show ([.tup (m.map .int), .int c] : List D).all (okd 1) = true
  have h : (m.map D.int).all (okd 0) = true := by
    rw [List.all_map]
    exact List.all_eq_true.mpr fun _ _ => rfl
  rw [List.all_cons]
  show ((m.map D.int).all (okd 0) && _) = true
  rw [h]
  rfl
theorem vc_hangs : ∀ args Z, sp_hangs args Z → args.length = 1 ∧ w_hangs (endsOf 1 Z) (args ++ List.replicate (N_hangs.length - 1) .un) := by
  rintro args Z ⟨r, rfl, po, z⟩
  refine ⟨rfl, Nat.zero_le _, rfl, r, rfl, po, fun i Γ => ∃ x, Fx x ∧ Γ = [.im (rD r), .ce (.ls ((r.en.take i).map fun e => nsD (hangP r.n (pol r e)))), x, .un], ⟨.un, trivial, rfl⟩, ?_, ?_⟩
  · rintro i d Γ hd ⟨x, hx, rfl⟩
    obtain ⟨e, he, rfl⟩ := get_of_map hd
    have hlt := po.ok.en e (List.mem_of_getElem? he)
    refine ⟨_, rfl, hx, ⟨_, rfl⟩, _, _, rfl, rfl, ⟨by omega, by have := po.n2; omega⟩, rfl, by rw [rngD_len]; have := po.n2; omega, fun k acc Γ => Γ = [.im (rD r), .ce (.ls ((r.en.take i).map fun e => nsD (hangP r.n (pol r e)))), .im (pD (pol r e)), .un] ∧ acc = ((List.range k).filter fun u => !(rateP (pol r e) u).isEmpty).map nD, ⟨rfl, rfl⟩, fun _ _ _ _ => trivial, ?_, ?_⟩
    · rintro k d acc Γ hd ⟨rfl, rfl⟩
      obtain ⟨hk, rfl⟩ := rngD_of hd
      have hk2 : k < r.n := by omega
      have e0 : (0 : Int) + (k : Int) = (k : Int) := by omega
      rw [e0]
      refine ⟨_, rfl, fxU, rfl, pol r e, k, r.n, _, rfl, hk2, po.n2, ?_, pol_pg po.ok e hlt, po.cf e hlt, Nat.zero_le _, 3, by decide, okd_rate, rfl, ?_⟩
      · have := po.sz e hlt; omega
      · rw [deq_nil]
        refine ⟨fun hb => ⟨rfl, ?_⟩, fun hb => ⟨rfl, ?_⟩⟩ <;> rw [List.range_succ, List.filter_append, List.map_append]
        · simp only [List.filter_cons, hb, if_true, List.filter_nil, List.map_cons, List.map_nil]
          rfl
        · simp [List.filter_cons, hb]
    · rintro acc Γ ⟨rfl, rfl⟩
      rw [rngD_len, Int.toNat_natCast]
      refine ⟨_, rfl, _, rfl, by rw [List.length_map, List.length_take]; have := po.ok.le; omega, .im (pD (pol r e)), trivial, ?_⟩
      rw [take_map he]
      rfl
  · rintro Γ ⟨x, hx, rfl⟩
    rw [List.length_map, List.take_length]
    exact ⟨_, rfl, z⟩
end G
set_option maxRecDepth 100000
set_option maxHeartbeats 4000000
/-! WM: sweep. -/
namespace G
open PySem PySem.Spec PyProof.Rows L2
/-- one place of a step's rates -/
def rvC (u : Nat) (kn c : Nat → Int) : Stp → Int
  | .inp i => if u = i then 1 else 0
  | .set _ => 0
  | .neg a => 0 - c a
  | .bin .add a b => c a + c b
  | .bin .sub a b => c a - c b
  | .bin .mul a b => c a * kn b + kn a * c b
def rc (r : Rw) (p : List Int) (u k : Nat) : Int := (rat r p k).getD u 0
theorem getD_zip {f : Int → Int → Int} {x y : List Int} {u : Nat} (hx : u < x.length) (hy : u < y.length) : (List.zipWith f x y).getD u 0 = f (x.getD u 0) (y.getD u 0) := by
  rw [List.getD_eq_getElem?_getD, List.getD_eq_getElem?_getD, List.getD_eq_getElem?_getD, List.getElem?_zipWith, List.getElem?_eq_getElem hx, List.getElem?_eq_getElem hy]
  rfl
theorem rc_stp {r : Rw} {p : List Int} (ok : RowOk r) {u : Nat} (hu : u < r.n) {k : Nat} {s : Stp} (e : r.st[k]? = some s) : rc r p u k = rvC u (val r p) (rc r p u) s := by
  have w := ok.wf k s e
  have hk : k < r.st.length := (List.getElem?_eq_some_iff.mp e).1
  unfold rc
  rw [rat_stp ok e]
  cases s with
  | inp i => simp [rvS, unitV, rvC, List.getD_eq_getElem?_getD, hu]
  | set c => simp [rvS, rvC, List.getD_eq_getElem?_getD, hu]
  | neg a =>
    have la := rat_len (p := p) ok a (by have := w a (by simp [refs]); omega)
    show ((rat r p a).map fun x => 0 - x).getD u 0 = 0 - (rat r p a).getD u 0
    rw [List.getD_eq_getElem?_getD, List.getD_eq_getElem?_getD, List.getElem?_map, List.getElem?_eq_getElem (by omega)]
    rfl
  | bin o a b =>
    have la := rat_len (p := p) ok a (by have := w a (by simp [refs]); omega)
    have lb := rat_len (p := p) ok b (by have := w b (by simp [refs]); omega)
    cases o with
    | add => exact getD_zip (f := fun x y => x + y) (by omega) (by omega)
    | sub => exact getD_zip (f := fun x y => x - y) (by omega) (by omega)
    | mul => exact getD_zip (f := fun x y => x * val r p b + val r p a * y) (by omega) (by omega)
/-! sums over places -/
def dot (l : List Nat) (P R : Nat → Int) : Int := (l.map fun x => P x * R x).sum
theorem dot_cons {x : Nat} {l : List Nat} {P R : Nat → Int} : dot (x :: l) P R = P x * R x + dot l P R := by simp [dot]
theorem dot_congr {l : List Nat} {P Q R : Nat → Int} (h : ∀ x ∈ l, P x = Q x) : dot l P R = dot l Q R := by
  unfold dot
  rw [List.map_congr_left fun x hx => by rw [h x hx]]
theorem dot_app {l m : List Nat} {P R : Nat → Int} : dot (l ++ m) P R = dot l P R + dot m P R := by simp [dot]
theorem dot_zero {l : List Nat} {P R : Nat → Int} (h : ∀ x ∈ l, P x = 0) : dot l P R = 0 := by
  induction l with
  | nil => rfl
  | cons x l ih => rw [dot_cons, h x (by simp), ih fun y hy => h y (by simp [hy])]; simp
theorem dot_upd {l : List Nat} (nd : l.Nodup) {P Q R : Nat → Int} {j : Nat} (hj : j ∈ l) {v : Int} (h : ∀ x, x ≠ j → Q x = P x) (hv : Q j = P j + v) : dot l Q R = dot l P R + v * R j := by
  induction l with
  | nil => cases hj
  | cons x l ih =>
    rw [dot_cons, dot_cons]
    have nd' := List.nodup_cons.mp nd
    by_cases e : x = j
    · subst e
      rw [hv, dot_congr (P := Q) (Q := P) fun y hy => h y (fun z => nd'.1 (z ▸ hy)), Int.add_mul]
      omega
    · have hj' : j ∈ l := by
        rcases List.mem_cons.mp hj with z | z
        · exact absurd z.symm e
        · exact z
      rw [h x e, ih nd'.2 hj']
      omega
def Bdd (P : List Int) (B : Nat) : Prop := ∀ x ∈ P, x.natAbs < 2 ^ B
theorem pl_set_eq {P : List Int} {j : Nat} {v : Int} (h : j < P.length) : pl 0 (P.set j v) j = v := by
  unfold pl
  rw [List.getD_eq_getElem?_getD, List.getElem?_set_self h]; rfl
theorem pl_set_ne {P : List Int} {j x : Nat} {v : Int} (h : x ≠ j) : pl 0 (P.set j v) x = pl 0 P x := by
  unfold pl
  rw [List.getD_eq_getElem?_getD, List.getD_eq_getElem?_getD, List.getElem?_set_ne (Ne.symm h)]
theorem Bdd.set {P : List Int} {B : Nat} (h : Bdd P B) {j : Nat} {v : Int} (hv : v.natAbs < 2 ^ B) : Bdd (P.set j v) B := fun x hx => by
  rcases List.mem_or_eq_of_mem_set hx with z | z
  · exact h x z
  · rw [z]; exact hv
theorem Bdd.mono {P : List Int} {B C : Nat} (h : Bdd P B) (le : B ≤ C) : Bdd P C := fun x hx => Nat.lt_of_lt_of_le (h x hx) (Nat.pow_le_pow_right (by decide) le)
theorem Bdd.pl {P : List Int} {B : Nat} (h : Bdd P B) (j : Nat) : (pl 0 P j).natAbs < 2 ^ B := by
  unfold G.pl
  rw [List.getD_eq_getElem?_getD]
  cases e : P[j]? with
  | none => exact Nat.pow_pos (by decide)
  | some x => exact h x (List.mem_of_getElem? e)
theorem ixN_nat {n i : Nat} (h : i < n) : ixN n (i : Int) = some i := by
  unfold ixN
  simp [h]
/-- what a step gives on -/
def swS (kn : Nat → Int) (x : Int) (s : Stp) (P : List Int) : List Int := match s with
  | .inp _ => P
  | .set _ => P
  | .neg a => P.set a (pl 0 P a - x)
  | .bin .add a b => (P.set a (pl 0 P a + x)).set b (pl 0 (P.set a (pl 0 P a + x)) b + x)
  | .bin .sub a b => (P.set a (pl 0 P a + x)).set b (pl 0 (P.set a (pl 0 P a + x)) b + (0 - x))
  | .bin .mul a b => (P.set a (pl 0 P a + x * kn b)).set b (pl 0 (P.set a (pl 0 P a + x * kn b)) b + x * kn a)
def swF (x : Int) (s : Stp) (F : List Int) : List Int := match s with
  | .inp i => F.set i (pl 0 F i + x)
  | _ => F
theorem swS_len {kn : Nat → Int} {x : Int} {s : Stp} {P : List Int} : (swS kn x s P).length = P.length := by
  cases s with
  | bin o a b => cases o <;> simp [swS]
  | _ => simp [swS]
theorem swF_len {x : Int} {s : Stp} {F : List Int} : (swF x s F).length = F.length := by cases s <;> simp [swF]
/-- the sum is kept -/
theorem sw_keep {l : List Nat} (nd : l.Nodup) {kn c : Nat → Int} {x : Int} {s : Stp} {P F : List Int} {u : Nat} (hr : ∀ a ∈ refs s, a ∈ l) (hl : ∀ a ∈ l, a < P.length) (hi : ∀ i, s = .inp i → i < F.length) :
    dot l (pl 0 (swS kn x s P)) c + pl 0 (swF x s F) u = dot l (pl 0 P) c + pl 0 F u + x * rvC u kn c s := by
  have one : ∀ (Q : List Int) (a : Nat) (v : Int), a ∈ l → Q.length = P.length → dot l (pl 0 (Q.set a (pl 0 Q a + v))) c = dot l (pl 0 Q) c + v * c a := fun Q a v ha hq =>
    dot_upd nd ha (fun y hy => pl_set_ne hy) (pl_set_eq (by rw [hq]; exact hl a ha))
  cases s with
  | inp i =>
    have hi' := hi i rfl
    show dot l (pl 0 P) c + pl 0 (F.set i (pl 0 F i + x)) u = _
    by_cases e : u = i
    · subst e
      rw [pl_set_eq hi', show rvC u kn c (.inp u) = 1 by simp [rvC]]
      omega
    · rw [pl_set_ne e, show rvC u kn c (.inp i) = 0 by simp [rvC, e]]
      omega
  | set v => show dot l (pl 0 P) c + pl 0 F u = _; rw [show rvC u kn c (.set v) = 0 from rfl]; omega
  | neg a =>
    have h := one P a (0 - x) (hr a (by simp [refs])) rfl
    show dot l (pl 0 (P.set a (pl 0 P a - x))) c + pl 0 F u = _ + x * (0 - c a)
    rw [show pl 0 P a - x = pl 0 P a + (0 - x) by omega, h, Int.mul_sub, Int.mul_zero, Int.sub_mul, Int.zero_mul]
    omega
  | bin o a b =>
    have ha := hr a (by simp [refs])
    have hb := hr b (by simp [refs])
    cases o with
    | add =>
      show dot l (pl 0 ((P.set a (pl 0 P a + x)).set b _)) c + pl 0 F u = _ + x * (c a + c b)
      rw [one _ b x hb (by simp), one P a x ha rfl, Int.mul_add]
      omega
    | sub =>
      show dot l (pl 0 ((P.set a (pl 0 P a + x)).set b _)) c + pl 0 F u = _ + x * (c a - c b)
      rw [one _ b (0 - x) hb (by simp), one P a x ha rfl, Int.mul_sub, Int.sub_mul, Int.zero_mul]
      omega
    | mul =>
      show dot l (pl 0 ((P.set a (pl 0 P a + x * kn b)).set b _)) c + pl 0 F u = _ + x * (c a * kn b + kn a * c b)
      rw [one _ b (x * kn a) hb (by simp), one P a (x * kn b) ha rfl, Int.mul_add, Int.mul_assoc, Int.mul_assoc, Int.mul_comm (kn b) (c a)]
      omega
theorem abs_add {a b : Int} {B : Nat} (ha : a.natAbs < 2 ^ B) (hb : b.natAbs < 2 ^ B) : (a + b).natAbs < 2 ^ (B + 1) := by
  have := Int.natAbs_add_le a b
  rw [Nat.pow_succ]
  omega
theorem abs_up {a : Int} {B C : Nat} (h : a.natAbs < 2 ^ B) (le : B ≤ C) : a.natAbs < 2 ^ C := Nat.lt_of_lt_of_le h (Nat.pow_le_pow_right (by decide) le)
theorem abs_mul {a b : Int} {B C : Nat} (ha : a.natAbs < 2 ^ B) (hb : b.natAbs < 2 ^ C) : (a * b).natAbs < 2 ^ (B + C) := by
  rw [Int.natAbs_mul, Nat.pow_add]
  exact Nat.mul_lt_mul'' ha hb
theorem abs_neg {a : Int} {B : Nat} (h : a.natAbs < 2 ^ B) : (0 - a).natAbs < 2 ^ B := by
  have : (0 - a).natAbs = a.natAbs := by omega
  rw [this]; exact h
theorem swS_bdd {kn : Nat → Int} {x : Int} {s : Stp} {P : List Int} {B V : Nat} (h : Bdd P B) (hx : x.natAbs < 2 ^ B) (hk : ∀ a ∈ refs s, (kn a).natAbs < 2 ^ V) : Bdd (swS kn x s P) (B + V + 2) := by
  cases s with
  | inp i => exact h.mono (by omega)
  | set c => exact h.mono (by omega)
  | neg a =>
    show Bdd (P.set a (pl 0 P a - x)) _
    rw [show pl 0 P a - x = pl 0 P a + (0 - x) by omega]
    exact (h.mono (by omega)).set (abs_up (abs_add (h.pl a) (abs_neg hx)) (by omega))
  | bin o a b =>
    have two : ∀ v w : Int, v.natAbs < 2 ^ (B + V) → w.natAbs < 2 ^ (B + V) → Bdd ((P.set a (pl 0 P a + v)).set b (pl 0 (P.set a (pl 0 P a + v)) b + w)) (B + V + 2) := fun v w hv hw => by
      have h1 : Bdd (P.set a (pl 0 P a + v)) (B + V + 1) := (h.mono (by omega)).set (abs_add (abs_up (h.pl a) (by omega)) hv)
      exact (h1.mono (by omega)).set (abs_add (h1.pl b) (abs_up hw (by omega)))
    have ha := hk a (by simp [refs])
    have hb := hk b (by simp [refs])
    cases o with
    | add => exact two x x (abs_up hx (by omega)) (abs_up hx (by omega))
    | sub => exact two x (0 - x) (abs_up hx (by omega)) (abs_neg (abs_up hx (by omega)))
    | mul => exact two _ _ (abs_mul hx hb) (abs_mul hx ha)
/-- the weighted rates -/
def swV (r : Rw) (p w : List Int) : List Int := (List.range r.n).map fun u => (List.zipWith (fun e x => x * rc r p u e) r.en w).sum
def sp_sweep : GSp := fun args Z => ∃ (r : Rw) (p w : List Int) (V W : Nat), args = [.im (rD r), .ce (.dk ((List.range r.st.length).map fun j => (keyN j, .int (val r p j)))), .im (isD w)] ∧ RowOk r ∧ r.en.length ≤ 20 ∧ w.length = r.en.length ∧
  (∀ k, k < r.st.length → (val r p k).natAbs < 2 ^ V) ∧ Bdd w W ∧ 0 < V ∧ 0 < W ∧ W + 20 + r.st.length * (V + 2) + V ≤ 1000000 ∧ Z (.im (isD (swV r p w))) args
def N_sweep : List Str := ["row", "known", "weights", "pulls", "found", "number", "weight", "step", "pull"]
def w_sweep : WS := (wSeq (wPar 3 4 (wCons (wRepL (wLst (wCons (wC (.int 0)) wNil)) (wB gLen (wCons (wIx (wVar 0) (wC (.int 1))) wNil))) (wCons (wRepL (wLst (wCons (wC (.int 0)) wNil)) (wIx (wVar 0) (wC (.int 0)))) wNil))) (wSeq (wFor (wiZip (wCons (wIx (wVar 0) (wC (.int 2))) (wCons (wVar 2) wNil))) (wgTup 2 (wgCons (wgName 5) (wgCons (wgName 6) wgNil))) (wSetL (wOp gAdd (wIx (wVar 3) (wVar 5)) (wVar 6)) (wVar 3) (wVar 5))) (wSeq (wFor (wiTup (wRevT (wCall sp_needed (wCons (wVar 0) wNil)))) (wgName 5) (wSeq (wPar 7 8 (wCons (wIx (wIx (wVar 0) (wC (.int 1))) (wVar 5)) (wCons (wIx (wVar 3) (wVar 5)) wNil))) (wIf (wTest (wOp gEq (wIx (wVar 7) (wC (.int 0))) (wC (.str "in")))) (wSetL (wOp gAdd (wIx (wVar 4) (wIx (wVar 7) (wC (.int 1)))) (wVar 8)) (wVar 4) (wIx (wVar 7) (wC (.int 1)))) (wIf (wTest (wOp gEq (wIx (wVar 7) (wC (.int 0))) (wC (.str "neg")))) (wSetL (wOp gSub (wIx (wVar 3) (wIx (wVar 7) (wC (.int 1)))) (wVar 8)) (wVar 3) (wIx (wVar 7) (wC (.int 1)))) (wIf (wTest (wOp gEq (wIx (wVar 7) (wC (.int 0))) (wC (.str "*")))) (wSeq (wSetL (wOp gAdd (wIx (wVar 3) (wIx (wVar 7) (wC (.int 1)))) (wOp gMul (wVar 8) (wDGetK (wVar 1) (wIx (wVar 7) (wC (.int 2)))))) (wVar 3) (wIx (wVar 7) (wC (.int 1)))) (wSetL (wOp gAdd (wIx (wVar 3) (wIx (wVar 7) (wC (.int 2)))) (wOp gMul (wVar 8) (wDGetK (wVar 1) (wIx (wVar 7) (wC (.int 1)))))) (wVar 3) (wIx (wVar 7) (wC (.int 2))))) (wIf (wTest (wIn false (wIx (wVar 7) (wC (.int 0))) (wTup (wCons (wC (.str "+")) (wCons (wC (.str "-")) wNil))))) (wSeq (wSetL (wOp gAdd (wIx (wVar 3) (wIx (wVar 7) (wC (.int 1)))) (wVar 8)) (wVar 3) (wIx (wVar 7) (wC (.int 1)))) (wSetL (wOp gAdd (wIx (wVar 3) (wIx (wVar 7) (wC (.int 2)))) (wIfE (wTest (wOp gEq (wIx (wVar 7) (wC (.int 0))) (wC (.str "+")))) (wVar 8) (wOp gSub (wC (.int 0)) (wVar 8)))) (wVar 3) (wIx (wVar 7) (wC (.int 2))))) wNext)))))) (wRet 3 (wB gTuple (wCons (wVar 4) wNil))))))
theorem zip_sum_take {f : Nat → Int → Int} {en : List Nat} {w : List Int} {i e : Nat} {x : Int} (he : en[i]? = some e) (hx : w[i]? = some x) : ((List.zipWith f en w).take (i + 1)).sum = ((List.zipWith f en w).take i).sum + f e x := by
  have : (List.zipWith f en w)[i]? = some (f e x) := by rw [List.getElem?_zipWith, he, hx]
  rw [List.take_add_one, this, List.sum_append]
  simp
theorem rev_get {ns : List Nat} {i j : Nat} (h : ns.reverse[i]? = some j) : i < ns.length ∧ ns[ns.length - 1 - i]? = some j := by
  have hi : i < ns.length := by
    have := (List.getElem?_eq_some_iff.mp h).1
    rwa [List.length_reverse] at this
  rw [List.getElem?_reverse hi] at h
  exact ⟨hi, h⟩
theorem vc_sweep : ∀ args Z, sp_sweep args Z → args.length = 3 ∧ w_sweep (endsOf 3 Z) (args ++ List.replicate (N_sweep.length - 3) .un) := by
  rintro args Z ⟨r, p, w, V, W, rfl, ok, h20, hw, hv, bw, v0, w0, hb, z⟩
  have hL := ok.ln
  have hN := ok.ln2
  let kv : List (Key × D) := (List.range r.st.length).map fun j => (keyN j, .int (val r p j))
  let T : Nat → Int := fun u => (List.zipWith (fun e x => x * rc r p u e) r.en w).sum
  refine ⟨rfl, Nat.le_of_ble_eq_true rfl, _, _, rfl, rfl, _, rfl, [.int 0], rfl, Nat.le_of_ble_eq_true rfl, by omega, by rw [List.length_map]; omega, Nat.le_of_ble_eq_true rfl, _, _, rfl, rfl, [.int 0], rfl, Nat.le_of_ble_eq_true rfl, by omega, by omega, ?_⟩
  refine ⟨_, _, rfl, rfl, ?_⟩
  refine ⟨fun i Γ => ∃ (x y : Sl) (P : List Int), Fx x ∧ Fx y ∧ P.length = r.st.length ∧ Bdd P (W + i) ∧ (∀ l : List Nat, l.Nodup → (∀ e ∈ r.en, e ∈ l) → (∀ a ∈ l, a < r.st.length) → ∀ u, u < r.n → dot l (pl 0 P) (rc r p u) = ((List.zipWith (fun e x => x * rc r p u e) r.en w).take i).sum) ∧
    Γ = [.im (rD r), .ce (.dk kv), .im (isD w), .ce (.ls (P.map .int)), .ce (.ls ((List.replicate r.n 0).map .int)), x, y, .un, .un], ⟨.un, .un, List.replicate r.st.length 0, trivial, trivial, by simp, ?_, ?_, ?_⟩, ?_, ?_⟩
  · intro x hx
    have : x = 0 := (List.mem_replicate.mp hx).2
    subst this
    exact Nat.pow_pos (by decide)
  · intro l _ _ ha u _
    rw [List.take_zero]
    exact dot_zero fun x hx => by
      unfold pl
      rw [List.getD_eq_getElem?_getD, List.getElem?_replicate, if_pos (ha x hx)]
      rfl
  · rw [List.length_map, rep0, rep0]
    rfl
  · rintro i d Γ hd ⟨x, y, P, hx, hy, hP, hB, hS, rfl⟩
    obtain ⟨x', y', hx0, hy0, rfl⟩ := zipD_of hd
    obtain ⟨e, he, rfl⟩ := get_of_map hx0
    obtain ⟨q, hq, rfl⟩ := get_of_map hy0
    have hel := ok.en e (List.mem_of_getElem? he)
    have hqw := bw q (List.mem_of_getElem? hq)
    have hi : i < r.en.length := (List.getElem?_eq_some_iff.mp he).1
    refine ⟨rfl, _, rfl, hx, _, rfl, hy, rfl, _, _, rfl, at_int (by omega), _, e, rfl, ixN_nat (by rw [List.length_map]; omega), .im (nD e), .im (.int q), P.set e (pl 0 P e + q), trivial, trivial, by rw [List.length_set]; exact hP, ?_, ?_, ?_⟩
    · exact (hB.mono (by omega)).set (show _ < 2 ^ (W + i + 1) from abs_add (hB.pl e) (abs_up hqw (by omega)))
    · intro l nd h1 h2 u hu
      rw [dot_upd nd (h1 e (List.mem_of_getElem? he)) (fun y hy => pl_set_ne hy) (pl_set_eq (by omega)), hS l nd h1 h2 u hu, zip_sum_take he hq]
    · rw [List.map_set]
      rfl
  · rintro Γ ⟨x, y, P0, hx, hy, hP0, hB0, hS0, rfl⟩
    have ez : (zipD (r.en.map nD) (w.map .int)).length = r.en.length := by rw [zipD_len, List.length_map, List.length_map]; omega
    rw [ez] at hB0 hS0
    refine ⟨rfl, r, rfl, ok, fun ns no => ?_⟩
    have nd : ns.Nodup := no.srt.imp fun h => Nat.ne_of_lt h
    have hns : ns.length ≤ r.st.length := by
      have h2 : ns ⊆ List.range r.st.length := fun j hj => List.mem_range.mpr (no.lt j hj)
      have := List.Nodup.length_le_of_subset nd h2
      rwa [List.length_range] at this
    let I2 : Nat → Gm → Prop := fun i Γ => ∃ (x y u t : Sl) (P F : List Int), Fx x ∧ Fx y ∧ Fx u ∧ Fx t ∧ P.length = r.st.length ∧ F.length = r.n ∧ Bdd P (W + 20 + i * (V + 2)) ∧ (∀ u, u < r.n → dot (ns.take (ns.length - i)) (pl 0 P) (rc r p u) + pl 0 F u = T u) ∧
      Γ = [.im (rD r), .ce (.dk kv), .im (isD w), .ce (.ls (P.map .int)), .ce (.ls (F.map .int)), x, y, u, t]
    refine ⟨I2, ⟨x, y, .un, .un, P0, List.replicate r.n 0, hx, hy, trivial, trivial, hP0, by simp, hB0.mono (by omega), ?_, rfl⟩, ?_, ?_⟩
    · intro u hu
      have h0 : pl (0 : Int) (List.replicate r.n 0) u = 0 := by
        unfold pl
        rw [List.getD_eq_getElem?_getD, List.getElem?_replicate, if_pos hu]
        rfl
      rw [Nat.sub_zero, List.take_length, h0, hS0 ns nd no.en no.lt u hu, List.take_of_length_le (by rw [List.length_zipWith]; omega)]
      show T u + 0 = T u
      omega
    · rintro i d Γ hd ⟨x, y, u0, t0, P, F, hx, hy, hu0, ht0, hP, hF, hB, hS, rfl⟩
      rw [← List.map_reverse] at hd
      obtain ⟨j, hj, rfl⟩ := get_of_map hd
      obtain ⟨hi, hj⟩ := rev_get hj
      have hjn : j ∈ ns := List.mem_of_getElem? hj
      have hjl := no.lt j hjn
      have e1 : r.st[j]? = some (r.st[j]) := List.getElem?_eq_getElem hjl
      generalize hs : r.st[j] = s at *
      have hw' : ∀ a ∈ refs s, a ∈ ns.take (ns.length - 1 - i) := fun a ha => take_srt no.srt hj (no.cl j hjn s e1 a ha) (ok.wf j s e1 a ha)
      have hlt : ∀ a ∈ refs s, a < r.st.length := fun a ha => no.lt a (List.mem_of_mem_take (hw' a ha))
      have et : ns.take (ns.length - i) = ns.take (ns.length - (i + 1)) ++ [j] := by
        rw [show ns.length - i = (ns.length - 1 - i) + 1 by omega, List.take_add_one, hj, show ns.length - (i + 1) = ns.length - 1 - i by omega]
        rfl
      have hxb : (pl 0 P j).natAbs < 2 ^ (W + 20 + i * (V + 2)) := hB.pl j
      have hiV : i * (V + 2) + (V + 2) ≤ r.st.length * (V + 2) := by
        have : (i + 1) * (V + 2) ≤ r.st.length * (V + 2) := Nat.mul_le_mul_right _ (by omega)
        rw [Nat.add_mul, Nat.one_mul] at this
        exact this
      -- behind the step
      have fin : I2 (i + 1) [.im (rD r), .ce (.dk kv), .im (isD w), .ce (.ls ((swS (val r p) (pl 0 P j) s P).map .int)), .ce (.ls ((swF (pl 0 P j) s F).map .int)), .im (nD j), y, .im (sD s), .im (.int (pl 0 P j))] := by
        refine ⟨_, y, _, _, _, _, fxI, hy, fxI, fxI, by rw [swS_len]; exact hP, by rw [swF_len]; exact hF, ?_, fun u hu => ?_, rfl⟩
        · have := swS_bdd hB hxb (s := s) (kn := val r p) fun a ha => hv a (hlt a ha)
          rw [show W + 20 + (i + 1) * (V + 2) = W + 20 + i * (V + 2) + V + 2 by rw [Nat.add_mul, Nat.one_mul]; omega]
          exact this
        · have nd2 : (ns.take (ns.length - (i + 1))).Nodup := nd.sublist (List.take_sublist _ _)
          have k := sw_keep (l := ns.take (ns.length - (i + 1))) nd2 (kn := val r p) (c := rc r p u) (x := pl 0 P j) (s := s) (P := P) (F := F) (u := u) (fun a ha => by rw [show ns.length - (i + 1) = ns.length - 1 - i by omega]; exact hw' a ha) (fun a ha => by rw [hP]; exact no.lt a (List.mem_of_mem_take ha)) (fun m e => by rw [hF]; exact ok.inn j m (by rw [e1, e]))
          rw [k, ← hS u hu, et, dot_app, rc_stp ok hu e1 |> fun h => show dot [j] (pl 0 P) (rc r p u) = pl 0 P j * rvC u (val r p) (rc r p u) s by rw [← h]; simp [dot]]
          omega
      have aj : L2.atI (P.map D.int) (j : Int) = some (.int (pl 0 P j)) := at_int (by omega)
      refine ⟨_, rfl, hx, _, _, rfl, rfl, _, _, rfl, atI_nat (get_map e1), _, _, rfl, aj, ?_⟩
      clear hd
      cases s with
      | inp m =>
        have hm := ok.inn j m e1
        refine ⟨_, _, rfl, rfl, itY (by decide) ⟨_, _, rfl, rfl, _, _, rfl, at_int (by omega), _, _, rfl, rfl, _, m, rfl, ixN_nat (by rw [List.length_map]; omega), ?_⟩⟩
        have e := fin
        show I2 (i + 1) [_, _, _, _, .ce (.ls ((F.map .int).set m (.int (pl 0 F m + pl 0 P j)))), _, _, _, _]
        rw [← List.map_set]
        exact e
      | set c => exact ⟨_, _, rfl, rfl, itN (by decide) ⟨_, _, rfl, rfl, itN (by decide) ⟨_, _, rfl, rfl, itN (by decide) ⟨_, _, rfl, rfl, Nat.le_of_ble_eq_true rfl, _, rfl, rfl, rfl, itN (by rfl) fin⟩⟩⟩⟩
      | neg a =>
        have ha := hlt a (by simp [refs])
        refine ⟨_, _, rfl, rfl, itN (by decide) ⟨_, _, rfl, rfl, itY (by decide) ⟨_, _, rfl, rfl, _, _, rfl, at_int (by omega), _, _, rfl, rfl, _, a, rfl, ixN_nat (by rw [List.length_map]; omega), ?_⟩⟩⟩
        show I2 (i + 1) [_, _, _, .ce (.ls ((P.map .int).set a (.int (pl 0 P a - pl 0 P j)))), _, _, _, _, _]
        rw [← List.map_set]
        exact fin
      | bin o a b =>
        have ha := hlt a (by simp [refs])
        have hb' := hlt b (by simp [refs])
        refine ⟨_, _, rfl, rfl, itN (by cases o <;> decide) ⟨_, _, rfl, rfl, itN (by cases o <;> decide) ⟨_, _, rfl, rfl, ?_⟩⟩⟩
        cases o with
        | mul =>
          have la : look kv (keyN a) = some (.int (val r p a)) := look_mem keyN_inj (List.mem_range.mpr ha)
          have lb : look kv (keyN b) = some (.int (val r p b)) := look_mem keyN_inj (List.mem_range.mpr hb')
          refine itY (by decide) ⟨_, _, rfl, rfl, _, _, rfl, at_int (by omega), _, _, rfl, rfl, _, keyN b, _, rfl, rfl, lb, wide_mul hxb (hv b hb') (by omega) (by omega) (by omega), _, _, rfl, rfl, _, a, rfl, ixN_nat (by rw [List.length_map]; omega), ?_⟩
          have ab : L2.atI ((P.map D.int).set a (.int (pl 0 P a + pl 0 P j * val r p b))) (b : Int) = some (.int (pl 0 (P.set a (pl 0 P a + pl 0 P j * val r p b)) b)) := by
            rw [← List.map_set]
            exact at_int (by rw [List.length_set]; omega)
          refine ⟨_, _, rfl, rfl, _, _, rfl, ab, _, _, rfl, rfl, _, keyN a, _, rfl, rfl, la, wide_mul hxb (hv a ha) (by omega) (by omega) (by omega), _, _, rfl, rfl, _, b, rfl, ixN_nat (by rw [List.length_set, List.length_map]; omega), ?_⟩
          show I2 (i + 1) [_, _, _, .ce (.ls (((P.map .int).set a (.int (pl 0 P a + pl 0 P j * val r p b))).set b (.int _))), _, _, _, _, _]
          rw [← List.map_set, ← List.map_set]
          exact fin
        | add =>
          have ab : L2.atI ((P.map D.int).set a (.int (pl 0 P a + pl 0 P j))) (b : Int) = some (.int (pl 0 (P.set a (pl 0 P a + pl 0 P j)) b)) := by
            rw [← List.map_set]
            exact at_int (by rw [List.length_set]; omega)
          refine itN (by decide) ⟨_, _, rfl, rfl, Nat.le_of_ble_eq_true rfl, _, rfl, rfl, rfl, itY (by rfl) ⟨_, _, rfl, rfl, _, _, rfl, at_int (by omega), _, _, rfl, rfl, _, a, rfl, ixN_nat (by rw [List.length_map]; omega), _, _, rfl, rfl, _, _, rfl, ab, _, _, rfl, rfl, itY (by decide) ⟨_, _, rfl, rfl, _, b, rfl, ixN_nat (by rw [List.length_set, List.length_map]; omega), ?_⟩⟩⟩
          show I2 (i + 1) [_, _, _, .ce (.ls (((P.map .int).set a (.int (pl 0 P a + pl 0 P j))).set b (.int _))), _, _, _, _, _]
          rw [← List.map_set, ← List.map_set]
          exact fin
        | sub =>
          have ab : L2.atI ((P.map D.int).set a (.int (pl 0 P a + pl 0 P j))) (b : Int) = some (.int (pl 0 (P.set a (pl 0 P a + pl 0 P j)) b)) := by
            rw [← List.map_set]
            exact at_int (by rw [List.length_set]; omega)
          refine itN (by decide) ⟨_, _, rfl, rfl, Nat.le_of_ble_eq_true rfl, _, rfl, rfl, rfl, itY (by rfl) ⟨_, _, rfl, rfl, _, _, rfl, at_int (by omega), _, _, rfl, rfl, _, a, rfl, ixN_nat (by rw [List.length_map]; omega), _, _, rfl, rfl, _, _, rfl, ab, _, _, rfl, rfl, itN (by decide) ⟨_, _, rfl, rfl, _, b, rfl, ixN_nat (by rw [List.length_set, List.length_map]; omega), ?_⟩⟩⟩
          show I2 (i + 1) [_, _, _, .ce (.ls (((P.map .int).set a (.int (pl 0 P a + pl 0 P j))).set b (.int _))), _, _, _, _, _]
          rw [← List.map_set, ← List.map_set]
          exact fin
    · rintro Γ ⟨x, y, u0, t0, P, F, hx, hy, hu0, ht0, hP, hF, hB, hS, rfl⟩
      refine ⟨_, rfl, ?_⟩
      rw [List.length_reverse, List.length_map, Nat.sub_self, List.take_zero] at hS
      have e : F = swV r p w := by
        apply List.ext_getElem?
        intro u
        by_cases hu : u < r.n
        · have h1 := hS u hu
          have h2 : F[u]? = some (pl 0 F u) := pl_get (by omega)
          have h3 : pl 0 F u = T u := by
            have : dot [] (pl 0 P) (rc r p u) = 0 := rfl
            omega
          rw [h2, h3]
          unfold swV
          rw [List.getElem?_map, List.getElem?_range hu]
          rfl
        · rw [List.getElem?_eq_none (by omega), List.getElem?_eq_none (by unfold swV; simp; omega)]
      rw [e]
      exact z
end G
set_option maxRecDepth 100000
set_option maxHeartbeats 4000000
/-! WN: the class, pull_on. -/
namespace G
open PySem PySem.Spec PyProof.Rows L2
def oD : Option Nat → D
  | none => .non
  | some i => nD i
def opM (m : Bool) : Op3 := if m then .sub else .add
def joinF (m : Bool) (one other : Option Nat) (st : List Stp) : List Stp × Option Nat := match one, other with
  | one, none => (st, one)
  | none, some y => if m then (st ++ [.neg y], some st.length) else (st, some y)
  | some x, some y => (st ++ [.bin (opM m) x y], some st.length)
def sp_Steps_put (C : Addr) : GSp := fun args Z => ∃ (rows : List D) (d : D), args = [.ce (.steps C rows), .im d] ∧ rows.length < 1000 ∧ Z (.im (.int (rows.length : Int))) [.ce (.steps C (rows ++ [d])), .im d]
def sp_Steps_joined (C : Addr) : GSp := fun args Z => ∃ (st : List Stp) (m : Bool) (one other : Option Nat), args = [.ce (.steps C (st.map sD)), .im (.str (opS (opM m))), .im (oD one), .im (oD other)] ∧ st.length < 1000 ∧
  Z (.im (oD (joinF m one other st).2)) [.ce (.steps C ((joinF m one other st).1.map sD)), .im (.str (opS (opM m))), .im (oD one), .im (oD other)]
def N_Steps_put : List Str := ["self", "step"]
def w_Steps_put (C : Addr) : WS := (wSeq (wDrop (wAppR C (wVar 0) (wVar 1))) (wRet 2 (wOp gSub (wLenR C (wVar 0)) (wC (.int 1)))))
def N_Steps_joined : List Str := ["self", "word", "one", "other"]
def w_Steps_joined (C : Addr) : WS := (wSeq (wIf (wTest (wOp gIsN (wVar 3) (wC .non))) (wRet 4 (wVar 2)) wNext) (wSeq (wIf (wTest (wOp gIsN (wVar 2) (wC .non))) (wRet 4 (wIfE (wTest (wOp gEq (wVar 1) (wC (.str "+")))) (wVar 3) (wCall (sp_Steps_put C) (wCons1 C (wVar 0) (wCons (wTup (wCons (wC (.str "neg")) (wCons (wVar 3) wNil))) wNil))))) wNext) (wRet 4 (wCall (sp_Steps_put C) (wCons1 C (wVar 0) (wCons (wTup (wCons (wVar 1) (wCons (wVar 2) (wCons (wVar 3) wNil)))) wNil))))))
theorem vc_Steps_put (C : Addr) : ∀ args Z, sp_Steps_put C args Z → args.length = 2 ∧ w_Steps_put C (endsOf 2 Z) (args ++ List.replicate (N_Steps_put.length - 2) .un) := by
  rintro args Z ⟨rows, d, rfl, hl, z⟩
  refine ⟨rfl, rows, rfl, rfl, hl, _, rfl, ?_⟩
  show Z (.im (.int (((rows ++ [d]).length : Int) - 1))) _
  rw [show (((rows ++ [d]).length : Int) - 1) = (rows.length : Int) by simp]
  exact z
theorem vc_Steps_joined (C : Addr) : ∀ args Z, sp_Steps_joined C args Z → args.length = 4 ∧ w_Steps_joined C (endsOf 4 Z) (args ++ List.replicate (N_Steps_joined.length - 4) .un) := by
  rintro args Z ⟨st, m, one, other, rfl, hl, z⟩
  refine ⟨rfl, ?_⟩
  have hl' : (st.map sD).length < 1000 := by rw [List.length_map]; exact hl
  have key : ∀ (s : Stp) (Y : R → List Sl → Prop) (rest : List Sl), Y (.im (nD st.length)) (.ce (.steps C ((st ++ [s]).map sD)) :: rest) → Y (.im (.int ((st.map sD).length : Int))) (.ce (.steps C (st.map sD ++ [sD s])) :: rest) := fun s Y rest h => by
    rw [List.length_map]
    rw [List.map_append] at h
    exact h
  cases other with
  | none => exact itY (by rfl) (by cases one <;> exact z)
  | some y =>
    refine itN (by rfl) ?_
    cases one with
    | none =>
      refine itY (by rfl) ?_
      cases m with
      | false => exact itY (by rfl) z
      | true => exact itN (by rfl) ⟨⟨_, rfl⟩, Nat.le_of_ble_eq_true rfl, rfl, _, _, rfl, hl', key (.neg y) Z _ z⟩
    | some x =>
      refine itN (by rfl) ⟨⟨_, rfl⟩, Nat.le_of_ble_eq_true rfl, rfl, _, _, rfl, hl', ?_⟩
      exact key (.bin (opM m) x y) Z _ z
/-! what a pull is given on to -/
abbrev Bk := List Stp × List (Option Nat)
def po (P : List (Option Nat)) (a : Nat) : Option Nat := P.getD a none
def upd1 (m : Bool) (sz : Nat → Int) (a y : Nat) (q : Bk) : Bk := if 0 < sz a then ((joinF m (po q.2 a) (some y) q.1).1, q.2.set a (joinF m (po q.2 a) (some y) q.1).2) else q
def updM (sz : Nat → Int) (a b x : Nat) (q : Bk) : Bk := if 0 < sz a then upd1 false sz a q.1.length (q.1 ++ [.bin .mul x b], q.2) else q
def pullS (sz : Nat → Int) (x : Nat) (s : Stp) (q : Bk) : Bk := match s with
  | .neg a => upd1 true sz a x q
  | .bin .add a b => upd1 false sz b x (upd1 false sz a x q)
  | .bin .sub a b => upd1 true sz b x (upd1 false sz a x q)
  | .bin .mul a b => updM sz b a x (updM sz a b x q)
  | _ => q
theorem joinF_len {m : Bool} {o p : Option Nat} {st : List Stp} : st.length ≤ (joinF m o p st).1.length ∧ (joinF m o p st).1.length ≤ st.length + 1 := by
  unfold joinF
  split
  · simp
  · split <;> simp
  · simp
def sp_pull_on (C : Addr) : GSp := fun args Z => ∃ (st : List Stp) (s : Stp) (x : Nat) (P : List (Option Nat)) (sz : List Int), args = [.ce (.steps C (st.map sD)), .im (sD s), .im (nD x), .ce (.ls (P.map oD)), .im (isD sz)] ∧ refs s ≠ [] ∧ (∀ a ∈ refs s, a < P.length ∧ a < sz.length) ∧ st.length + 4 < 1000 ∧
  Z (.im .non) [.ce (.steps C ((pullS (pl 0 sz) x s (st, P)).1.map sD)), .im (sD s), .im (nD x), .ce (.ls ((pullS (pl 0 sz) x s (st, P)).2.map oD)), .im (isD sz)]
def N_pull_on : List Str := ["steps", "step", "pull", "pulls", "sizes", "one", "other", "number", "word"]
def w_pull_on (C : Addr) : WS := (wSeq (wIf (wTest (wOp gEq (wIx (wVar 1) (wC (.int 0))) (wC (.str "*")))) (wSeq (wFor (wiTup (wTup (wCons (wTup (wCons (wIx (wVar 1) (wC (.int 1))) (wCons (wIx (wVar 1) (wC (.int 2))) wNil))) (wCons (wTup (wCons (wIx (wVar 1) (wC (.int 2))) (wCons (wIx (wVar 1) (wC (.int 1))) wNil))) wNil)))) (wgTup 2 (wgCons (wgName 5) (wgCons (wgName 6) wgNil))) (wIf (wTest (wOp gGt (wIx (wVar 4) (wVar 5)) (wC (.int 0)))) (wSetL (wCall (sp_Steps_joined C) (wCons1 C (wVar 0) (wCons (wC (.str "+")) (wCons (wIx (wVar 3) (wVar 5)) (wCons (wCall (sp_Steps_put C) (wCons1 C (wVar 0) (wCons (wTup (wCons (wC (.str "*")) (wCons (wVar 2) (wCons (wVar 6) wNil)))) wNil))) wNil))))) (wVar 3) (wVar 5)) wNext)) wRetN) wNext) (wFor (wiZip (wCons (wSl (wVar 1) (wPart (wC (.int 1))) wNo) (wCons (wIfE (wTest (wOp gEq (wIx (wVar 1) (wC (.int 0))) (wC (.str "neg")))) (wTup (wCons (wC (.str "-")) wNil)) (wTup (wCons (wC (.str "+")) (wCons (wIx (wVar 1) (wC (.int 0))) wNil)))) wNil))) (wgTup 2 (wgCons (wgName 7) (wgCons (wgName 8) wgNil))) (wIf (wTest (wOp gGt (wIx (wVar 4) (wVar 7)) (wC (.int 0)))) (wSetL (wCall (sp_Steps_joined C) (wCons1 C (wVar 0) (wCons (wVar 8) (wCons (wIx (wVar 3) (wVar 7)) (wCons (wVar 2) wNil))))) (wVar 3) (wVar 7)) wNext)))
theorem at_oD {P : List (Option Nat)} {a : Nat} (h : a < P.length) : L2.atI (P.map oD) (a : Int) = some (oD (po P a)) := atI_nat (get_map (by unfold po; rw [List.getD_eq_getElem?_getD, List.getElem?_eq_getElem h]; rfl))
theorem vc_pull_on (C : Addr) : ∀ args Z, sp_pull_on C args Z → args.length = 5 ∧ w_pull_on C (endsOf 5 Z) (args ++ List.replicate (N_pull_on.length - 5) .un) := by
  rintro args Z ⟨st, s, x, P, sz, rfl, hne, hr, hl, z⟩
  refine ⟨rfl, ?_⟩
  -- one place of pulls, the slots of the loop's names at the end
  have one : ∀ {s0 : Stp} (m : Bool) (a : Nat) (st : List Stp) (P : List (Option Nat)) (u v w t : Sl) (nx : Gm → Prop), a < P.length → a < sz.length → st.length < 1000 →
      nx [.ce (.steps C ((upd1 m (pl 0 sz) a x (st, P)).1.map sD)), .im (sD s0), .im (nD x), .ce (.ls ((upd1 m (pl 0 sz) a x (st, P)).2.map oD)), .im (isD sz), u, v, .im (nD a), .im (.str (opS (opM m)))] →
      ∀ (rt : R → Gm → Prop) (bk ct : Gm → Prop), (wIf (wTest (wOp gGt (wIx (wVar 4) (wVar 7)) (wC (.int 0)))) (wSetL (wCall (sp_Steps_joined C) (wCons1 C (wVar 0) (wCons (wVar 8) (wCons (wIx (wVar 3) (wVar 7)) (wCons (wVar 2) wNil))))) (wVar 3) (wVar 7)) wNext) ⟨nx, rt, bk, ct⟩
        [.ce (.steps C (st.map sD)), .im (sD s0), .im (nD x), .ce (.ls (P.map oD)), .im (isD sz), u, v, .im (nD a), .im (.str (opS (opM m)))] := by
    intro s0 m a st P u v w t nx ha hz hs h rt bk ct
    refine ⟨_, _, rfl, at_int hz, fun hb => ?_, fun hb => ?_⟩
    · have h0 : 0 < pl 0 sz a := of_decide_eq_true hb
      refine ⟨⟨_, rfl⟩, _, _, rfl, at_oD ha, rfl, st, m, po P a, some x, rfl, hs, _, a, rfl, ixN_nat (by rw [List.length_map]; exact ha), ?_⟩
      have : upd1 m (pl 0 sz) a x (st, P) = ((joinF m (po P a) (some x) st).1, P.set a (joinF m (po P a) (some x) st).2) := by unfold upd1; rw [if_pos h0]
      rw [this] at h
      show nx [_, _, _, .ce (.ls ((P.map oD).set a (oD (joinF m (po P a) (some x) st).2))), _, _, _, _, _]
      rw [← List.map_set]
      exact h
    · have h0 : ¬ 0 < pl 0 sz a := of_decide_eq_false hb
      have : upd1 m (pl 0 sz) a x (st, P) = (st, P) := by unfold upd1; rw [if_neg h0]
      rw [this] at h
      exact h
  have len1 : ∀ (m : Bool) (a y : Nat) (q : Bk), (upd1 m (pl 0 sz) a y q).1.length ≤ q.1.length + 1 ∧ (upd1 m (pl 0 sz) a y q).2.length = q.2.length := fun m a y q => by
    unfold upd1
    split
    · exact ⟨joinF_len.2, by simp⟩
    · exact ⟨by omega, rfl⟩
  cases s with
  | inp i => exact absurd rfl hne
  | set c => exact absurd rfl hne
  | neg a =>
    obtain ⟨ha, hz⟩ := hr a (by simp [refs])
    refine ⟨_, _, rfl, rfl, itN (by decide) ⟨_, _, rfl, rfl, itY (by decide) ⟨Nat.le_of_ble_eq_true rfl, ?_⟩⟩⟩
    refine ⟨fun i Γ => (i = 0 ∧ Γ = [.ce (.steps C (st.map sD)), .im (sD (.neg a)), .im (nD x), .ce (.ls (P.map oD)), .im (isD sz), .un, .un, .un, .un]) ∨
      (i = 1 ∧ ∃ u v w t, Γ = [.ce (.steps C ((upd1 true (pl 0 sz) a x (st, P)).1.map sD)), .im (sD (.neg a)), .im (nD x), .ce (.ls ((upd1 true (pl 0 sz) a x (st, P)).2.map oD)), .im (isD sz), u, v, w, t]), .inl ⟨rfl, rfl⟩, ?_, ?_⟩
    · rintro i d Γ hd (⟨rfl, rfl⟩ | ⟨rfl, _⟩)
      · have e : d = .tup [nD a, .str (opS (opM true))] := (Option.some.inj hd).symm
        subst e
        exact ⟨rfl, _, rfl, fxU, _, rfl, fxU, rfl, one (s0 := .neg a) true a st P .un .un .un .un _ ha hz (by omega) (.inr ⟨rfl, _, _, _, _, rfl⟩) _ _ _⟩
      · exact absurd hd (by show (none : Option D) ≠ _; exact nofun)
    · rintro Γ (⟨h, _⟩ | ⟨_, u, v, w, t, rfl⟩)
      · exact absurd h (by show ¬ (1 = 0); decide)
      · exact z
  | bin o a b =>
    obtain ⟨ha, hza⟩ := hr a (by simp [refs])
    obtain ⟨hb, hzb⟩ := hr b (by simp [refs])
    by_cases hm : o = .mul
    · subst hm
      have lenM : ∀ (a b : Nat) (q : Bk), (updM (pl 0 sz) a b x q).1.length ≤ q.1.length + 2 ∧ (updM (pl 0 sz) a b x q).2.length = q.2.length := fun a b q => by
        unfold updM
        split
        · have := len1 false a q.1.length (q.1 ++ [.bin .mul x b], q.2)
          simp at this ⊢
          omega
        · exact ⟨by omega, rfl⟩
      have oneM : ∀ {s0 : Stp} (a b : Nat) (st : List Stp) (P : List (Option Nat)) (w t : Sl) (nx : Gm → Prop), a < P.length → a < sz.length → st.length + 1 < 1000 →
          nx [.ce (.steps C ((updM (pl 0 sz) a b x (st, P)).1.map sD)), .im (sD s0), .im (nD x), .ce (.ls ((updM (pl 0 sz) a b x (st, P)).2.map oD)), .im (isD sz), .im (nD a), .im (nD b), w, t] →
          ∀ (rt : R → Gm → Prop) (bk ct : Gm → Prop), (wIf (wTest (wOp gGt (wIx (wVar 4) (wVar 5)) (wC (.int 0)))) (wSetL (wCall (sp_Steps_joined C) (wCons1 C (wVar 0) (wCons (wC (.str "+")) (wCons (wIx (wVar 3) (wVar 5)) (wCons (wCall (sp_Steps_put C) (wCons1 C (wVar 0) (wCons (wTup (wCons (wC (.str "*")) (wCons (wVar 2) (wCons (wVar 6) wNil)))) wNil))) wNil))))) (wVar 3) (wVar 5)) wNext) ⟨nx, rt, bk, ct⟩
            [.ce (.steps C (st.map sD)), .im (sD s0), .im (nD x), .ce (.ls (P.map oD)), .im (isD sz), .im (nD a), .im (nD b), w, t] := by
        intro s0 a b st P w t nx ha hz hs h rt bk ct
        refine ⟨_, _, rfl, at_int hz, fun hb => ?_, fun hb => ?_⟩
        · have h0 : 0 < pl 0 sz a := of_decide_eq_true hb
          have e1 : updM (pl 0 sz) a b x (st, P) = ((joinF false (po P a) (some st.length) (st ++ [.bin .mul x b])).1, P.set a (joinF false (po P a) (some st.length) (st ++ [.bin .mul x b])).2) := by
            unfold updM upd1
            rw [if_pos h0, if_pos h0]
          refine ⟨⟨_, rfl⟩, _, _, rfl, at_oD ha, ⟨_, rfl⟩, Nat.le_of_ble_eq_true rfl, rfl, _, _, rfl, by rw [List.length_map]; omega, rfl, st ++ [.bin .mul x b], false, po P a, some st.length, ?_, by simp; omega, _, a, rfl, ixN_nat (by rw [List.length_map]; exact ha), ?_⟩
          · rw [List.map_append, List.length_map]
            rfl
          · rw [e1] at h
            show nx [_, _, _, .ce (.ls ((P.map oD).set a (oD (joinF false (po P a) (some st.length) (st ++ [.bin .mul x b])).2))), _, _, _, _, _]
            rw [← List.map_set]
            exact h
        · have h0 : ¬ 0 < pl 0 sz a := of_decide_eq_false hb
          have : updM (pl 0 sz) a b x (st, P) = (st, P) := by unfold updM; rw [if_neg h0]
          rw [this] at h
          exact h
      let q1 : Bk := updM (pl 0 sz) a b x (st, P)
      have l1 := lenM a b (st, P)
      refine ⟨_, _, rfl, rfl, itY (by decide) ⟨_, _, rfl, rfl, _, _, rfl, rfl, Nat.le_of_ble_eq_true rfl, _, _, rfl, rfl, _, _, rfl, rfl, Nat.le_of_ble_eq_true rfl, Nat.le_of_ble_eq_true rfl, ?_⟩⟩
      refine ⟨fun i Γ => (i = 0 ∧ Γ = [.ce (.steps C (st.map sD)), .im (sD (.bin .mul a b)), .im (nD x), .ce (.ls (P.map oD)), .im (isD sz), .un, .un, .un, .un]) ∨
        (i = 1 ∧ Γ = [.ce (.steps C (q1.1.map sD)), .im (sD (.bin .mul a b)), .im (nD x), .ce (.ls (q1.2.map oD)), .im (isD sz), .im (nD a), .im (nD b), .un, .un]) ∨
        (i = 2 ∧ ∃ u v, Γ = [.ce (.steps C ((updM (pl 0 sz) b a x q1).1.map sD)), .im (sD (.bin .mul a b)), .im (nD x), .ce (.ls ((updM (pl 0 sz) b a x q1).2.map oD)), .im (isD sz), u, v, .un, .un]), .inl ⟨rfl, rfl⟩, ?_, ?_⟩
      · rintro i d Γ hd (⟨rfl, rfl⟩ | ⟨rfl, rfl⟩ | ⟨rfl, _⟩)
        · have e : d = .tup [nD a, nD b] := (Option.some.inj hd).symm
          subst e
          exact ⟨rfl, _, rfl, fxU, _, rfl, fxU, rfl, oneM (s0 := .bin .mul a b) a b st P .un .un _ ha hza (by omega) (.inr (.inl ⟨rfl, rfl⟩)) _ _ _⟩
        · have e : d = .tup [nD b, nD a] := (Option.some.inj hd).symm
          subst e
          exact ⟨rfl, _, rfl, fxI, _, rfl, fxI, rfl, oneM (s0 := .bin .mul a b) b a q1.1 q1.2 .un .un _ (by show b < (updM _ _ _ _ _).2.length; rw [l1.2]; exact hb) hzb (by show (updM _ _ _ _ _).1.length + 1 < 1000; have := l1.1; simp only at this; omega) (.inr (.inr ⟨rfl, _, _, rfl⟩)) _ _ _⟩
        · exact absurd hd (by show (none : Option D) ≠ _; exact nofun)
      · rintro Γ (⟨h, _⟩ | ⟨h, _⟩ | ⟨_, u, v, rfl⟩)
        · exact absurd h (by show ¬ (2 = 0); decide)
        · exact absurd h (by show ¬ (2 = 1); decide)
        · exact z
    · obtain ⟨m, rfl⟩ : ∃ m, o = opM m := by
        cases o with
        | add => exact ⟨false, rfl⟩
        | sub => exact ⟨true, rfl⟩
        | mul => exact absurd rfl hm
      let q1 : Bk := upd1 false (pl 0 sz) a x (st, P)
      have l1 := len1 false a x (st, P)
      have ez : pullS (pl 0 sz) x (.bin (opM m) a b) (st, P) = upd1 m (pl 0 sz) b x q1 := by cases m <;> rfl
      rw [ez] at z
      refine ⟨_, _, rfl, rfl, itN (by cases m <;> decide) ⟨_, _, rfl, rfl, itN (by cases m <;> decide) ⟨_, _, rfl, rfl, Nat.le_of_ble_eq_true rfl, ?_⟩⟩⟩
      refine ⟨fun i Γ => (i = 0 ∧ Γ = [.ce (.steps C (st.map sD)), .im (sD (.bin (opM m) a b)), .im (nD x), .ce (.ls (P.map oD)), .im (isD sz), .un, .un, .un, .un]) ∨
        (i = 1 ∧ Γ = [.ce (.steps C (q1.1.map sD)), .im (sD (.bin (opM m) a b)), .im (nD x), .ce (.ls (q1.2.map oD)), .im (isD sz), .un, .un, .im (nD a), .im (.str (opS (opM false)))]) ∨
        (i = 2 ∧ ∃ u v, Γ = [.ce (.steps C ((upd1 m (pl 0 sz) b x q1).1.map sD)), .im (sD (.bin (opM m) a b)), .im (nD x), .ce (.ls ((upd1 m (pl 0 sz) b x q1).2.map oD)), .im (isD sz), .un, .un, u, v]), .inl ⟨rfl, rfl⟩, ?_, ?_⟩
      · rintro i d Γ hd (⟨rfl, rfl⟩ | ⟨rfl, rfl⟩ | ⟨rfl, _⟩)
        · have e : d = .tup [nD a, .str (opS (opM false))] := (Option.some.inj hd).symm
          subst e
          exact ⟨rfl, _, rfl, fxU, _, rfl, fxU, rfl, one (s0 := .bin (opM m) a b) false a st P .un .un .un .un _ ha hza (by omega) (.inr (.inl ⟨rfl, rfl⟩)) _ _ _⟩
        · have e : d = .tup [nD b, .str (opS (opM m))] := (Option.some.inj hd).symm
          subst e
          exact ⟨rfl, _, rfl, fxI, _, rfl, fxI, rfl, one (s0 := .bin (opM m) a b) m b q1.1 q1.2 .un .un .un .un _ (by show b < (upd1 _ _ _ _ _).2.length; rw [l1.2]; exact hb) hzb (by show (upd1 _ _ _ _ _).1.length < 1000; have := l1.1; simp only at this; omega) (.inr (.inr ⟨rfl, _, _, rfl⟩)) _ _ _⟩
        · exact absurd hd (by show (none : Option D) ≠ _; exact nofun)
      · rintro Γ (⟨h, _⟩ | ⟨h, _⟩ | ⟨_, u, v, rfl⟩)
        · exact absurd h (by show ¬ (2 = 0); decide)
        · exact absurd h (by show ¬ (2 = 1); decide)
        · exact z
end G
set_option maxRecDepth 100000
set_option maxHeartbeats 4000000
/-! WO: what backward's steps come to. -/
namespace G
open PySem PySem.Spec PyProof.Rows L2
def vv (q : List Int) (st : List Stp) : Nat → Int := (valA q).tr 0 st
/-- st' is st and more -/
structure Gr (N : Nat) (st st' : List Stp) : Prop where
  pre : ∀ k : Nat, k < st.length → st'[k]? = st[k]?
  len : st.length ≤ st'.length
  wf : Wf st'
  inn : Inn N st'
theorem Gr.refl {N : Nat} {st : List Stp} (w : Wf st) (i : Inn N st) : Gr N st st := ⟨fun _ _ => rfl, Nat.le_refl _, w, i⟩
theorem Gr.trans {N : Nat} {a b c : List Stp} (h : Gr N a b) (g : Gr N b c) : Gr N a c := ⟨fun k hk => (g.pre k (Nat.lt_of_lt_of_le hk h.len)).trans (h.pre k hk), Nat.le_trans h.len g.len, g.wf, g.inn⟩
theorem Gr.vv {N : Nat} {st st' : List Stp} (h : Gr N st st') (q : List Int) {i : Nat} (hi : i < st.length) : G.vv q st' i = G.vv q st i := by
  have e : st'.take st.length = st := by
    apply List.ext_getElem?
    intro k
    by_cases hk : k < st.length
    · rw [List.getElem?_take_of_lt hk, h.pre k hk]
    · rw [List.getElem?_eq_none (by rw [List.length_take]; omega), List.getElem?_eq_none (by omega)]
  show pl 0 ((valA q).run 0 st') i = pl 0 ((valA q).run 0 st) i
  have e2 : (valA q).run 0 st = ((valA q).run 0 st').take st.length := by rw [← run_take, e]
  rw [e2, pl_take hi]
theorem gr_snoc {N : Nat} {st : List Stp} (w : Wf st) (i : Inn N st) {s : Stp} (hr : ∀ a ∈ refs s, a < st.length) (hi : ∀ m, s = .inp m → m < N) : Gr N st (st ++ [s]) := by
  refine ⟨fun k hk => by rw [List.getElem?_append_left hk], by simp, fun k t h a ha => ?_, fun k m h => ?_⟩
  · by_cases hk : k < st.length
    · rw [List.getElem?_append_left hk] at h; exact w k t h a ha
    · have hk2 : k < (st ++ [s]).length := (List.getElem?_eq_some_iff.mp h).1
      have hk3 : k = st.length := by simp at hk2; omega
      subst hk3
      have q2 : t = s := by simpa using h.symm
      subst q2
      exact hr a ha
  · by_cases hk : k < st.length
    · rw [List.getElem?_append_left hk] at h; exact i k m h
    · have hk2 : k < (st ++ [s]).length := (List.getElem?_eq_some_iff.mp h).1
      have hk3 : k = st.length := by simp at hk2; omega
      subst hk3
      exact hi m (by simpa using h)
theorem vv_snoc {N : Nat} {st : List Stp} {s : Stp} (g : Gr N st (st ++ [s])) (q : List Int) (hr : ∀ a ∈ refs s, a < st.length) : vv q (st ++ [s]) st.length = (valA q).stp (vv q st) s := by
  have e : (st ++ [s])[st.length]? = some s := by simp
  show (valA q).tr 0 (st ++ [s]) st.length = _
  rw [tr_spec g.wf e]
  exact stp_congr fun a ha => g.vv q (hr a ha)
/-- all values are small -/
def Sml (q : List Int) (st : List Stp) (B : Nat) : Prop := ∀ i, i < st.length → (vv q st i).natAbs < 2 ^ B
theorem Sml.mono {q : List Int} {st : List Stp} {B C : Nat} (h : Sml q st B) (le : B ≤ C) : Sml q st C := fun i hi => abs_up (h i hi) le
theorem sml_snoc {N : Nat} {st : List Stp} {s : Stp} (g : Gr N st (st ++ [s])) {q : List Int} {B : Nat} (h : Sml q st B) (hs : (vv q (st ++ [s]) st.length).natAbs < 2 ^ B) : Sml q (st ++ [s]) B := fun i hi => by
  by_cases hk : i < st.length
  · rw [g.vv q hk]; exact h i hk
  · have : i = st.length := by simp at hi; omega
    subst this
    exact hs
def oV (q : List Int) (st : List Stp) : Option Nat → Int
  | none => 0
  | some i => vv q st i
def oOk (st : List Stp) (o : Option Nat) : Prop := ∀ i, o = some i → i < st.length
theorem oV_gr {N : Nat} {st st' : List Stp} (g : Gr N st st') (q : List Int) {o : Option Nat} (h : oOk st o) : oV q st' o = oV q st o := by
  cases o with
  | none => rfl
  | some i => exact g.vv q (h i rfl)
theorem oV_sml {q : List Int} {st : List Stp} {B : Nat} (h : Sml q st B) {o : Option Nat} (ho : oOk st o) : (oV q st o).natAbs < 2 ^ B := by
  cases o with
  | none => exact Nat.pow_pos (by decide)
  | some i => exact h i (ho i rfl)
def sg (m : Bool) (x : Int) : Int := if m then 0 - x else x
structure JoinR (N : Nat) (m : Bool) (o : Option Nat) (y : Nat) (st st' : List Stp) (o' : Option Nat) : Prop where
  gr : Gr N st st'
  ok : oOk st' o'
  some : o' ≠ none
  val : ∀ q, oV q st' o' = oV q st o + sg m (vv q st y)
  sml : ∀ q B, Sml q st B → Sml q st' (B + 1)
theorem join_sem {N : Nat} {m : Bool} {o : Option Nat} {y : Nat} {st : List Stp} (w : Wf st) (i : Inn N st) (ho : oOk st o) (hy : y < st.length) : JoinR N m o y st (joinF m o (some y) st).1 (joinF m o (some y) st).2 := by
  cases o with
  | none =>
    cases m with
    | false => exact ⟨.refl w i, fun j e => by cases e; exact hy, nofun, fun q => by show vv q st y = 0 + vv q st y; omega, fun q B h => h.mono (by omega)⟩
    | true =>
      have g : Gr N st (st ++ [.neg y]) := gr_snoc w i (fun a ha => by simp [refs] at ha; omega) (fun m e => nomatch e)
      have hv := fun q => vv_snoc g q fun a ha => by simp [refs] at ha; omega
      refine ⟨g, fun j e => by cases e; show st.length < (st ++ [_]).length; simp, nofun, fun q => ?_, fun q B h => ?_⟩
      · show vv q (st ++ [.neg y]) st.length = 0 + (0 - vv q st y)
        rw [hv]
        show 0 - vv q st y = _
        omega
      · refine sml_snoc g (h.mono (by omega)) ?_
        rw [hv]
        exact abs_up (abs_neg (h y hy)) (by omega)
  | some x =>
    have hx := ho x rfl
    have g : Gr N st (st ++ [.bin (opM m) x y]) := gr_snoc w i (fun a ha => by simp [refs] at ha; rcases ha with rfl | rfl <;> assumption) (fun m e => nomatch e)
    have hv := fun q => vv_snoc g q fun a ha => by simp [refs] at ha; rcases ha with rfl | rfl <;> assumption
    have e : ∀ q, (valA q).stp (vv q st) (.bin (opM m) x y) = vv q st x + sg m (vv q st y) := fun q => by
      cases m with
      | false => rfl
      | true => show vv q st x - vv q st y = vv q st x + (0 - vv q st y); omega
    refine ⟨g, fun j e => by cases e; show st.length < (st ++ [_]).length; simp, nofun, fun q => ?_, fun q B h => ?_⟩
    · show vv q (st ++ [_]) st.length = _
      rw [hv, e]
      rfl
    · refine sml_snoc g (h.mono (by omega)) ?_
      rw [hv, e]
      refine abs_add (h x hx) ?_
      cases m with
      | false => exact h y hy
      | true => exact abs_neg (h y hy)
def PV (q : List Int) (st : List Stp) (P : List (Option Nat)) (x : Nat) : Int := oV q st (po P x)
def POk (st : List Stp) (P : List (Option Nat)) : Prop := ∀ x, oOk st (po P x)
theorem po_set_eq {P : List (Option Nat)} {a : Nat} {o : Option Nat} (h : a < P.length) : po (P.set a o) a = o := by
  unfold po
  rw [List.getD_eq_getElem?_getD, List.getElem?_set_self h]; rfl
theorem po_set_ne {P : List (Option Nat)} {a x : Nat} {o : Option Nat} (h : x ≠ a) : po (P.set a o) x = po P x := by
  unfold po
  rw [List.getD_eq_getElem?_getD, List.getD_eq_getElem?_getD, List.getElem?_set_ne (Ne.symm h)]
theorem oOk.gr {N : Nat} {st st' : List Stp} (g : Gr N st st') {o : Option Nat} (h : oOk st o) : oOk st' o := fun i e => Nat.lt_of_lt_of_le (h i e) g.len
/-- one place is added to: by d at each point -/
structure UpdR (N : Nat) (sz : Nat → Int) (a : Nat) (d : List Int → Int) (q q' : Bk) : Prop where
  gr : Gr N q.1 q'.1
  ok : POk q'.1 q'.2
  len : q'.2.length = q.2.length
  ne : ∀ x, x ≠ a → ∀ v, PV v q'.1 q'.2 x = PV v q.1 q.2 x
  at_ : 0 < sz a → ∀ v, PV v q'.1 q'.2 a = PV v q.1 q.2 a + d v
  no : ¬ 0 < sz a → ∀ v, PV v q'.1 q'.2 a = PV v q.1 q.2 a
  ps : (∀ x, po q.2 x ≠ none → 0 < sz x) → ∀ x, po q'.2 x ≠ none → 0 < sz x
theorem upd1_sem {N : Nat} {m : Bool} {sz : Nat → Int} {a y : Nat} {q : Bk} (w : Wf q.1) (i : Inn N q.1) (ok : POk q.1 q.2) (ha : a < q.2.length) (hy : y < q.1.length) :
    UpdR N sz a (fun v => sg m (vv v q.1 y)) q (upd1 m sz a y q) ∧ ∀ v B, Sml v q.1 B → Sml v (upd1 m sz a y q).1 (B + 1) := by
  unfold upd1
  by_cases h : 0 < sz a
  · rw [if_pos h]
    have J := join_sem (m := m) w i (ok a) hy
    refine ⟨⟨J.gr, fun x => ?_, by simp, fun x hx v => ?_, fun _ v => ?_, fun n => absurd h n, fun hp x => ?_⟩, fun v B hb => J.sml v B hb⟩
    · by_cases e : x = a
      · subst e; rw [po_set_eq ha]; exact J.ok
      · rw [po_set_ne e]; exact (ok x).gr J.gr
    · show oV v _ (po (q.2.set a _) x) = _
      rw [po_set_ne hx]
      exact oV_gr J.gr v (ok x)
    · show oV v _ (po (q.2.set a _) a) = _
      rw [po_set_eq ha]
      exact J.val v
    · by_cases e : x = a
      · subst e; exact fun _ => h
      · show po (q.2.set a _) x ≠ none → _
        rw [po_set_ne e]; exact hp x
  · rw [if_neg h]
    exact ⟨⟨.refl w i, ok, rfl, fun _ _ _ => rfl, fun c => absurd c h, fun _ _ => rfl, fun hp => hp⟩, fun v B hb => hb.mono (by omega)⟩
theorem updM_sem {N : Nat} {sz : Nat → Int} {a b x : Nat} {q : Bk} (w : Wf q.1) (i : Inn N q.1) (ok : POk q.1 q.2) (ha : a < q.2.length) (hx : x < q.1.length) (hb : b < q.1.length) :
    UpdR N sz a (fun v => vv v q.1 x * vv v q.1 b) q (updM sz a b x q) ∧ ∀ v B V, Sml v q.1 B → (vv v q.1 x).natAbs < 2 ^ B → (vv v q.1 b).natAbs < 2 ^ V → Sml v (updM sz a b x q).1 (B + V + 1) := by
  unfold updM
  by_cases h : 0 < sz a
  · rw [if_pos h]
    have g : Gr N q.1 (q.1 ++ [.bin .mul x b]) := gr_snoc w i (fun c hc => by simp [refs] at hc; rcases hc with rfl | rfl <;> assumption) (fun m e => nomatch e)
    have hv := fun v => vv_snoc g v fun c hc => by simp [refs] at hc; rcases hc with rfl | rfl <;> assumption
    have ok' : POk (q.1 ++ [.bin .mul x b]) q.2 := fun c => (ok c).gr g
    obtain ⟨U, S⟩ := upd1_sem (m := false) (sz := sz) (a := a) (y := q.1.length) (q := (q.1 ++ [.bin .mul x b], q.2)) g.wf g.inn ok' ha (by simp)
    have pv : ∀ v c, PV v (q.1 ++ [.bin .mul x b]) q.2 c = PV v q.1 q.2 c := fun v c => oV_gr g v (ok c)
    refine ⟨⟨g.trans U.gr, U.ok, U.len, fun c hc v => (U.ne c hc v).trans (pv v c), fun _ v => ?_, fun n => absurd h n, U.ps⟩, fun v B V h1 h2 h3 => ?_⟩
    · rw [U.at_ h v]
      show PV v (q.1 ++ [_]) q.2 a + vv v (q.1 ++ [_]) q.1.length = _
      rw [pv, hv]
      rfl
    · refine S v (B + V) (sml_snoc g (h1.mono (by omega)) ?_)
      rw [hv]
      exact abs_mul h2 h3
  · rw [if_neg h]
    exact ⟨⟨.refl w i, ok, rfl, fun _ _ _ => rfl, fun c => absurd c h, fun _ _ => rfl, fun hp => hp⟩, fun v B V hb _ _ => hb.mono (by omega)⟩
/-- the sum with what is zero where the size is -/
theorem UpdR.dot {N : Nat} {sz : Nat → Int} {a : Nat} {d : List Int → Int} {q q' : Bk} (U : UpdR N sz a d q q') (v : List Int) {l : List Nat} (nd : l.Nodup) (ha : a ∈ l) {c : Nat → Int} (hc : ¬ 0 < sz a → c a = 0) :
    G.dot l (PV v q'.1 q'.2) c = G.dot l (PV v q.1 q.2) c + d v * c a := by
  by_cases h : 0 < sz a
  · exact dot_upd nd ha (fun x hx => U.ne x hx v) (U.at_ h v)
  · rw [hc h, Int.mul_zero, Int.add_zero]
    exact dot_congr fun x _ => by
      by_cases e : x = a
      · subst e; exact U.no h v
      · exact U.ne x e v
/-- a whole pull -/
structure PullR (N : Nat) (sz : Nat → Int) (x : Nat) (s : Stp) (q q' : Bk) : Prop where
  gr : Gr N q.1 q'.1
  ok : POk q'.1 q'.2
  len : q'.2.length = q.2.length
  ln : q'.1.length ≤ q.1.length + 4
  dot : ∀ (v : List Int) (l : List Nat) (c : Nat → Int) (u : Nat), l.Nodup → (∀ a ∈ refs s, a ∈ l) → (∀ a ∈ refs s, ¬ 0 < sz a → c a = 0) → G.dot l (PV v q'.1 q'.2) c = G.dot l (PV v q.1 q.2) c + vv v q.1 x * rvC u (vv v q.1) c s
  sml : ∀ (v : List Int) (B V : Nat), Sml v q.1 B → (∀ a ∈ refs s, (vv v q.1 a).natAbs < 2 ^ V) → Sml v q'.1 (B + V + 2)
  ps : (∀ x, po q.2 x ≠ none → 0 < sz x) → ∀ x, po q'.2 x ≠ none → 0 < sz x
theorem upd1_len {m : Bool} {sz : Nat → Int} {a y : Nat} {q : Bk} : (upd1 m sz a y q).1.length ≤ q.1.length + 1 := by
  unfold upd1
  split
  · exact joinF_len.2
  · omega
theorem updM_len {sz : Nat → Int} {a b x : Nat} {q : Bk} : (updM sz a b x q).1.length ≤ q.1.length + 2 := by
  unfold updM
  split
  · have := upd1_len (m := false) (sz := sz) (a := a) (y := q.1.length) (q := (q.1 ++ [.bin .mul x b], q.2))
    simp at this ⊢
    omega
  · omega
theorem pull_sem {N : Nat} {sz : Nat → Int} {x : Nat} {s : Stp} {q : Bk} (w : Wf q.1) (i : Inn N q.1) (ok : POk q.1 q.2) (hs : refs s ≠ []) (hr : ∀ a ∈ refs s, a < q.2.length ∧ a < q.1.length) (hx : x < q.1.length) : PullR N sz x s q (pullS sz x s q) := by
  cases s with
  | inp m => exact absurd rfl hs
  | set c => exact absurd rfl hs
  | neg a =>
    obtain ⟨h1, h2⟩ := hr a (by simp [refs])
    obtain ⟨U, S⟩ := upd1_sem (m := true) (sz := sz) w i ok h1 hx
    refine ⟨U.gr, U.ok, U.len, by have := upd1_len (m := true) (sz := sz) (a := a) (y := x) (q := q); show (upd1 _ _ _ _ _).1.length ≤ _; omega, fun v l c u nd hl hc => ?_, fun v B V hb _ => (S v B hb).mono (by omega), U.ps⟩
    show dot l (PV v (upd1 _ _ _ _ _).1 (upd1 _ _ _ _ _).2) c = _ + vv v q.1 x * (0 - c a)
    rw [U.dot v nd (hl a (by simp [refs])) (hc a (by simp [refs]))]
    show _ + (0 - vv v q.1 x) * c a = _
    rw [Int.mul_sub, Int.mul_zero, Int.sub_mul, Int.zero_mul]
  | bin o a b =>
    obtain ⟨h1, h2⟩ := hr a (by simp [refs])
    obtain ⟨h3, h4⟩ := hr b (by simp [refs])
    by_cases hm : o = .mul
    · subst hm
      obtain ⟨U, S⟩ := updM_sem (sz := sz) w i ok h1 hx h4
      have le := U.gr.len
      obtain ⟨U2, S2⟩ := updM_sem (N := N) (sz := sz) (a := b) (b := a) (x := x) (q := updM sz a b x q) U.gr.wf U.gr.inn U.ok (by rw [U.len]; exact h3) (by omega) (by omega)
      refine ⟨U.gr.trans U2.gr, U2.ok, U2.len.trans U.len, ?_, fun v l c u nd hl hc => ?_, fun v B V hb hk => ?_, fun hp => U2.ps (U.ps hp)⟩
      · have k1 := updM_len (sz := sz) (a := a) (b := b) (x := x) (q := q)
        have k2 := updM_len (sz := sz) (a := b) (b := a) (x := x) (q := updM sz a b x q)
        show (updM _ _ _ _ _).1.length ≤ _
        omega
      · show dot l (PV v (updM _ _ _ _ _).1 (updM _ _ _ _ _).2) c = _ + vv v q.1 x * (c a * vv v q.1 b + vv v q.1 a * c b)
        rw [U2.dot v nd (hl b (by simp [refs])) (hc b (by simp [refs])), U.dot v nd (hl a (by simp [refs])) (hc a (by simp [refs])), U.gr.vv v hx, U.gr.vv v h2, Int.mul_add, Int.mul_assoc, Int.mul_assoc, Int.mul_comm (vv v q.1 b) (c a)]
        omega
      · have ka := hk a (by simp [refs])
        have kb := hk b (by simp [refs])
        -- the first product and sum, then the second
        have f1 := S v B V hb (hb x hx) kb
        -- the second product is small again
        have g1 : Sml v (updM sz b a x (updM sz a b x q)).1 (B + V + 2) := by
          unfold updM
          by_cases c : 0 < sz b
          · rw [if_pos c]
            have gq : Gr N (updM sz a b x q).1 ((updM sz a b x q).1 ++ [.bin .mul x a]) := gr_snoc U.gr.wf U.gr.inn (fun e he => by simp [refs] at he; rcases he with rfl | rfl <;> omega) (fun m e => nomatch e)
            have hv := vv_snoc gq v fun e he => by simp [refs] at he; rcases he with rfl | rfl <;> omega
            have ok' : POk ((updM sz a b x q).1 ++ [.bin .mul x a]) (updM sz a b x q).2 := fun e => (U.ok e).gr gq
            obtain ⟨_, S3⟩ := upd1_sem (m := false) (sz := sz) (a := b) (y := (updM sz a b x q).1.length) (q := ((updM sz a b x q).1 ++ [.bin .mul x a], (updM sz a b x q).2)) gq.wf gq.inn ok' (by show b < (updM sz a b x q).2.length; rw [U.len]; exact h3) (by simp)
            refine S3 v (B + V + 1) (sml_snoc gq f1 ?_)
            rw [hv]
            show (vv v (updM sz a b x q).1 x * vv v (updM sz a b x q).1 a).natAbs < _
            rw [U.gr.vv v hx, U.gr.vv v h2]
            exact abs_up (abs_mul (hb x hx) ka) (by omega)
          · rw [if_neg c]
            exact f1.mono (by omega)
        exact g1
    · obtain ⟨m, rfl⟩ : ∃ m, o = opM m := by
        cases o with
        | add => exact ⟨false, rfl⟩
        | sub => exact ⟨true, rfl⟩
        | mul => exact absurd rfl hm
      have ez : pullS sz x (.bin (opM m) a b) q = upd1 m sz b x (upd1 false sz a x q) := by cases m <;> rfl
      rw [ez]
      obtain ⟨U, S⟩ := upd1_sem (m := false) (sz := sz) w i ok h1 hx
      have le := U.gr.len
      obtain ⟨U2, S2⟩ := upd1_sem (N := N) (m := m) (sz := sz) (a := b) (y := x) (q := upd1 false sz a x q) U.gr.wf U.gr.inn U.ok (by rw [U.len]; exact h3) (by omega)
      refine ⟨U.gr.trans U2.gr, U2.ok, U2.len.trans U.len, ?_, fun v l c u nd hl hc => ?_, fun v B V hb hk => (S2 v _ (S v B hb)).mono (by omega), fun hp => U2.ps (U.ps hp)⟩
      · have k1 := upd1_len (m := false) (sz := sz) (a := a) (y := x) (q := q)
        have k2 := upd1_len (m := m) (sz := sz) (a := b) (y := x) (q := upd1 false sz a x q)
        omega
      · rw [U2.dot v nd (hl b (by simp [refs])) (hc b (by simp [refs])), U.dot v nd (hl a (by simp [refs])) (hc a (by simp [refs])), U.gr.vv v hx]
        cases m with
        | false =>
          show _ + vv v q.1 x * c a + vv v q.1 x * c b = _ + vv v q.1 x * (c a + c b)
          rw [Int.mul_add]; omega
        | true =>
          show _ + vv v q.1 x * c a + (0 - vv v q.1 x) * c b = _ + vv v q.1 x * (c a - c b)
          rw [Int.mul_sub, Int.sub_mul, Int.zero_mul]; omega
/-! degrees -/
theorem deg_stp {r : Rw} (ok : RowOk r) {k : Nat} {s : Stp} (e : r.st[k]? = some s) : deg r k = (szA 0).stp (deg r) s := tr_spec ok.wf e
theorem deg_pos {r : Rw} (ok : RowOk r) : ∀ k, k < r.st.length → 0 ≤ deg r k := by
  intro k
  induction k using Nat.strongRecOn with
  | ind k ih =>
    intro hk
    have e : r.st[k]? = some (r.st[k]) := List.getElem?_eq_getElem hk
    have w := ok.wf k _ e
    rw [deg_stp ok e]
    generalize r.st[k] = s at *
    cases s with
    | inp i => show (0 : Int) ≤ 1; decide
    | set c => exact Int.le_refl _
    | neg a => exact ih a (w a (by simp [refs])) (by have := w a (by simp [refs]); omega)
    | bin o a b =>
      have h1 := ih a (w a (by simp [refs])) (by have := w a (by simp [refs]); omega)
      have h2 := ih b (w b (by simp [refs])) (by have := w b (by simp [refs]); omega)
      cases o with
      | add => show 0 ≤ max (deg r a) (deg r b); omega
      | sub => show 0 ≤ max (deg r a) (deg r b); omega
      | mul => show 0 ≤ deg r a + deg r b; omega
theorem deg_zero {r : Rw} (ok : RowOk r) (p : List Int) {u : Nat} (hu : u < r.n) : ∀ k, k < r.st.length → ¬ 0 < deg r k → rc r p u k = 0 := by
  intro k
  induction k using Nat.strongRecOn with
  | ind k ih =>
    intro hk hd
    have e : r.st[k]? = some (r.st[k]) := List.getElem?_eq_getElem hk
    have w := ok.wf k _ e
    rw [deg_stp ok e] at hd
    rw [rc_stp ok hu e]
    generalize r.st[k] = s at *
    cases s with
    | inp i => exact absurd (show (0 : Int) < 1 by decide) hd
    | set c => rfl
    | neg a =>
      have h1 := ih a (w a (by simp [refs])) (by have := w a (by simp [refs]); omega) hd
      show 0 - rc r p u a = 0
      omega
    | bin o a b =>
      have la := w a (by simp [refs])
      have lb := w b (by simp [refs])
      have p1 := deg_pos ok a (by omega)
      have p2 := deg_pos ok b (by omega)
      have key : ¬ 0 < deg r a → ¬ 0 < deg r b → rvC u (val r p) (rc r p u) (.bin o a b) = 0 := fun q1 q2 => by
        have h1 := ih a la (by omega) q1
        have h2 := ih b lb (by omega) q2
        cases o with
        | add => show rc r p u a + rc r p u b = 0; omega
        | sub => show rc r p u a - rc r p u b = 0; omega
        | mul => show rc r p u a * val r p b + val r p a * rc r p u b = 0; rw [h1, h2]; simp
      cases o with
      | add =>
        have hd' : ¬ 0 < max (deg r a) (deg r b) := hd
        exact key (by omega) (by omega)
      | sub =>
        have hd' : ¬ 0 < max (deg r a) (deg r b) := hd
        exact key (by omega) (by omega)
      | mul =>
        have hd' : ¬ 0 < deg r a + deg r b := hd
        exact key (by omega) (by omega)
end G
set_option maxRecDepth 100000
set_option maxHeartbeats 4000000
/-! WP: backward. -/
namespace G
open PySem PySem.Spec PyProof.Rows L2
theorem pv_gr {N : Nat} {st st' : List Stp} (g : Gr N st st') {P : List (Option Nat)} (h : POk st P) (v : List Int) : ∀ x, PV v st' P x = PV v st P x := fun x => oV_gr g v (h x)
structure Pt (r : Rw) (p w : List Int) (V W : Nat) : Prop where
  lp : p.length = r.n
  lw : w.length = r.en.length
  bv : ∀ k, k < r.st.length → (val r p k).natAbs < 2 ^ V
  bw : Bdd w W
  v0 : 0 < V
  w0 : 0 < W
structure BI (r : Rw) (l : List Nat) (T : List Int → List Int → Nat → Int) (t : Nat) (st : List Stp) (P F : List (Option Nat)) : Prop where
  ext : Gr (r.n + r.en.length) r.st st
  okP : POk st P
  okF : POk st F
  lP : P.length = r.st.length
  lF : F.length = r.n
  ps : ∀ x, po P x ≠ none → 0 < deg r x
  ln : st.length ≤ r.st.length + 4 * t
  sem : ∀ p w V W, Pt r p w V W → Sml (p ++ w) st (V + W + t * (V + 2)) ∧ ∀ u, u < r.n → dot l (PV (p ++ w) st P) (rc r p u) + PV (p ++ w) st F u = T p w u
/-- the row backward gives -/
structure BackOk (r b : Rw) : Prop where
  n : b.n = r.n + r.en.length
  ok : RowOk b
  sem : ∀ p w V W, Pt r p w V W → b.en.map (val b (p ++ w)) = swV r p w ∧ ∀ k, k < b.st.length → (val b (p ++ w) k).natAbs < 2 ^ (V + W + (r.en.length + r.st.length) * (V + 2))
theorem vv_val {r : Rw} (ok : RowOk r) {N : Nat} {st : List Stp} (g : Gr N r.st st) {p w : List Int} (hp : p.length = r.n) {k : Nat} (hk : k < r.st.length) : vv (p ++ w) st k = val r p k := by
  rw [g.vv _ hk]
  exact tr_hom (A := valA (p ++ w)) (B := valA p) (n := r.n) (f := fun x => x) ⟨fun i hi => by
    show (p ++ w).getD i 0 = p.getD i 0
    rw [List.getD_eq_getElem?_getD, List.getD_eq_getElem?_getD, List.getElem?_append_left (by omega)], fun _ => rfl, fun _ => rfl, fun _ _ _ => rfl⟩ ok.wf ok.inn k hk
def sp_backward : GSp := fun args Z => ∃ r : Rw, args = [.im (rD r)] ∧ RowOk r ∧ r.st.length ≤ 60 ∧ r.en.length ≤ 20 ∧ 0 < r.n ∧ r.n ≤ 800 ∧ ∀ b, BackOk r b → Z (.im (rD b)) args
def N_backward : List Str := ["row", "steps", "step", "pulls", "found", "sizes", "end", "number", "nought", "own"]
def w_backward (C : Addr) : WS := (wSeq (wAsg 1 (wMk C)) (wSeq (wFor (wiTup (wIx (wVar 0) (wC (.int 1)))) (wgName 2) (wDrop (wCall (sp_Steps_put C) (wCons1 C (wVar 1) (wCons (wVar 2) wNil))))) (wSeq (wPar3 3 4 5 (wCons (wRepL (wLst (wCons (wC .non) wNil)) (wB gLen (wCons (wIx (wVar 0) (wC (.int 1))) wNil))) (wCons (wRepL (wLst (wCons (wC .non) wNil)) (wIx (wVar 0) (wC (.int 0)))) (wCons (wCall sp_degrees (wCons (wVar 0) wNil)) wNil)))) (wSeq (wFor (wiEnum (wCons (wIx (wVar 0) (wC (.int 2))) wNil)) (wgTup 2 (wgCons (wgName 6) (wgCons (wgName 7) wgNil))) (wIf (wTest (wOp gGt (wIx (wVar 5) (wVar 7)) (wC (.int 0)))) (wSetL (wCall (sp_Steps_joined C) (wCons1 C (wVar 1) (wCons (wC (.str "+")) (wCons (wIx (wVar 3) (wVar 7)) (wCons (wCall (sp_Steps_put C) (wCons1 C (wVar 1) (wCons (wTup (wCons (wC (.str "in")) (wCons (wOp gAdd (wIx (wVar 0) (wC (.int 0))) (wVar 6)) wNil))) wNil))) wNil))))) (wVar 3) (wVar 7)) wNext)) (wSeq (wFor (wiDown (wCons (wOp gSub (wB gLen (wCons (wIx (wVar 0) (wC (.int 1))) wNil)) (wC (.int 1))) (wCons (wUn gNeg (wC (.int 1))) (wCons (wUn gNeg (wC (.int 1))) wNil)))) (wgName 7) (wSeq (wAsg 2 (wIx (wIx (wVar 0) (wC (.int 1))) (wVar 7))) (wIf (wTest (wOp gNotN (wIx (wVar 3) (wVar 7)) (wC .non))) (wIf (wTest (wOp gEq (wIx (wVar 2) (wC (.int 0))) (wC (.str "in")))) (wSetL (wCall (sp_Steps_joined C) (wCons1 C (wVar 1) (wCons (wC (.str "+")) (wCons (wIx (wVar 4) (wIx (wVar 2) (wC (.int 1)))) (wCons (wIx (wVar 3) (wVar 7)) wNil))))) (wVar 4) (wIx (wVar 2) (wC (.int 1)))) (wDrop (wCall (sp_pull_on C) (wCons (wVar 1) (wCons (wVar 2) (wCons (wIx (wVar 3) (wVar 7)) (wCons (wVar 3) (wCons (wVar 5) wNil)))))))) wNext))) (wSeq (wIf (wTest (wIn false (wC .non) (wVar 4))) (wSeq (wAsg 8 (wCall (sp_Steps_put C) (wCons1 C (wVar 1) (wCons (wTup (wCons (wC (.str "set")) (wCons (wC (.int 0)) wNil))) wNil)))) (wAsg 4 (wLc (wiLst (wVar 4)) (wgName 9) wYes (wIfE (wTest (wOp gIsN (wVar 9) (wC .non))) (wVar 8) (wVar 9)) [9]))) wNext) (wRet 1 (wTup (wCons (wOp gAdd (wIx (wVar 0) (wC (.int 0))) (wB gLen (wCons (wIx (wVar 0) (wC (.int 2))) wNil))) (wCons (wTupR C (wVar 1)) (wCons (wB gTuple (wCons (wVar 4) wNil)) wNil)))))))))))
theorem repN {n : Nat} : (List.replicate ((n : Int)).toNat [D.non]).flatten = (List.replicate n (none : Option Nat)).map oD := by
  rw [Int.toNat_natCast]
  induction n with
  | zero => rfl
  | succ n ih => rw [List.replicate_succ, List.flatten_cons, ih, List.replicate_succ]; rfl
theorem po_rep {n x : Nat} : po (List.replicate n none) x = none := by
  unfold po
  rw [List.getD_eq_getElem?_getD, List.getElem?_replicate]
  split <;> rfl
theorem at_oD' {P : List (Option Nat)} {a : Nat} (h : a < P.length) : L2.atI (P.map oD) (a : Int) = some (oD (po P a)) := at_oD h
theorem inD_non (F : List (Option Nat)) : inD .non (F.map oD) = F.any (·.isNone) := by
  unfold inD inV
  induction F with
  | nil => rfl
  | cons o F ih =>
    simp only [List.map_cons, List.any_cons] at ih ⊢
    rw [ih]
    cases o <;> rfl
theorem flat_oD (F : List (Option Nat)) : (F.map oD).all flD = true := by
  rw [List.all_map]
  exact List.all_eq_true.mpr fun o _ => by cases o <;> rfl
theorem BI.start {r : Rw} (ok : RowOk r) : BI r (List.range r.st.length) (fun _ _ _ => 0) 0 r.st (List.replicate r.st.length none) (List.replicate r.n none) := by
  have g : Gr (r.n + r.en.length) r.st r.st := .refl ok.wf fun k i e => by have := ok.inn k i e; omega
  refine ⟨g, fun x => by rw [po_rep]; exact nofun, fun x => by rw [po_rep]; exact nofun, by simp, by simp, fun x h => absurd po_rep h, by omega, fun p w V W pt => ⟨fun i hi => ?_, fun u hu => ?_⟩⟩
  · rw [vv_val ok g pt.lp hi]
    exact abs_up (pt.bv i hi) (by omega)
  · have h0 : ∀ n x, PV (p ++ w) r.st (List.replicate n none) x = 0 := fun n x => by unfold PV; rw [po_rep]; rfl
    rw [dot_zero fun x _ => h0 _ x, h0]
    rfl
/-- an end's weight -/
theorem BI.first {r : Rw} (ok : RowOk r) {i e : Nat} {T : List Int → List Int → Nat → Int} {st : List Stp} {P F : List (Option Nat)} (h : BI r (List.range r.st.length) T i st P F) (he : r.en[i]? = some e) :
    BI r (List.range r.st.length) (fun p w u => T p w u + w.getD i 0 * rc r p u e) (i + 1) (if 0 < deg r e then (upd1 false (deg r) e st.length (st ++ [.inp (r.n + i)], P)).1 else st) (if 0 < deg r e then (upd1 false (deg r) e st.length (st ++ [.inp (r.n + i)], P)).2 else P) F := by
  have hel := ok.en e (List.mem_of_getElem? he)
  have hi : i < r.en.length := (List.getElem?_eq_some_iff.mp he).1
  by_cases hd : 0 < deg r e
  · rw [if_pos hd, if_pos hd]
    have g : Gr (r.n + r.en.length) st (st ++ [.inp (r.n + i)]) := gr_snoc h.ext.wf h.ext.inn (fun a ha => nomatch ha) (fun m e => by cases e; omega)
    have hv := fun q => vv_snoc g q fun a ha => nomatch ha
    have okP' : POk (st ++ [.inp (r.n + i)]) P := fun x => (h.okP x).gr g
    obtain ⟨U, S⟩ := upd1_sem (m := false) (sz := deg r) (a := e) (y := st.length) (q := (st ++ [.inp (r.n + i)], P)) g.wf g.inn okP' (by show e < P.length; rw [h.lP]; exact hel) (by simp)
    refine ⟨h.ext.trans (g.trans U.gr), U.ok, fun x => ((h.okF x).gr g).gr U.gr, U.len.trans h.lP, h.lF, U.ps h.ps, ?_, fun p w V W pt => ?_⟩
    · have := upd1_len (m := false) (sz := deg r) (a := e) (y := st.length) (q := (st ++ [.inp (r.n + i)], P))
      have l := h.ln
      simp at this
      omega
    · obtain ⟨s1, s2⟩ := h.sem p w V W pt
      have wv : vv (p ++ w) (st ++ [.inp (r.n + i)]) st.length = w.getD i 0 := by
        rw [hv]
        show (p ++ w).getD (r.n + i) 0 = _
        rw [List.getD_eq_getElem?_getD, List.getD_eq_getElem?_getD, List.getElem?_append_right (by rw [pt.lp]; omega), pt.lp, Nat.add_sub_cancel_left]
      have wb : (w.getD i 0).natAbs < 2 ^ W := pt.bw.pl i
      refine ⟨?_, fun u hu => ?_⟩
      · refine (S _ _ (sml_snoc g s1 ?_)).mono (by rw [Nat.add_mul]; omega)
        rw [wv]
        exact abs_up wb (by omega)
      · have nd : (List.range r.st.length).Nodup := List.nodup_range
        rw [U.dot (p ++ w) nd (List.mem_range.mpr hel) (deg_zero ok p hu e hel)]
        show dot _ (PV (p ++ w) (st ++ [_]) P) _ + sg false (vv (p ++ w) (st ++ [_]) st.length) * _ + PV (p ++ w) _ F u = _
        have e1 : PV (p ++ w) (upd1 false (deg r) e st.length (st ++ [.inp (r.n + i)], P)).1 F u = PV (p ++ w) st F u := oV_gr (g.trans U.gr) _ (h.okF u)
        rw [e1, wv, dot_congr (P := PV (p ++ w) (st ++ [Stp.inp (r.n + i)]) P) (Q := PV (p ++ w) st P) fun x _ => pv_gr g h.okP _ x]
        have := s2 u hu
        show _ + w.getD i 0 * rc r p u e + _ = _
        omega
  · rw [if_neg hd, if_neg hd]
    refine ⟨h.ext, h.okP, h.okF, h.lP, h.lF, h.ps, by have := h.ln; omega, fun p w V W pt => ?_⟩
    obtain ⟨s1, s2⟩ := h.sem p w V W pt
    refine ⟨s1.mono (by rw [Nat.add_mul]; omega), fun u hu => ?_⟩
    rw [s2 u hu, deg_zero ok p hu e hel hd, Int.mul_zero, Int.add_zero]
theorem range_last {L i : Nat} (h : i < L) : List.range (L - i) = List.range (L - (i + 1)) ++ [L - 1 - i] := by
  rw [show L - i = (L - (i + 1)) + 1 by omega, List.range_succ, show L - (i + 1) = L - 1 - i by omega]
/-- no pull: nothing to give on -/
theorem BI.none {r : Rw} {T : List Int → List Int → Nat → Int} {t L i : Nat} {st : List Stp} {P F : List (Option Nat)} (h : BI r (List.range (L - i)) T t st P F) (hi : i < L) (hp : po P (L - 1 - i) = Option.none) : BI r (List.range (L - (i + 1))) T (t + 1) st P F := by
  refine ⟨h.ext, h.okP, h.okF, h.lP, h.lF, h.ps, by have := h.ln; omega, fun p w V W pt => ?_⟩
  obtain ⟨s1, s2⟩ := h.sem p w V W pt
  refine ⟨s1.mono (by rw [Nat.add_mul]; omega), fun u hu => ?_⟩
  have := s2 u hu
  rw [range_last hi, dot_app] at this
  have z : dot [L - 1 - i] (PV (p ++ w) st P) (rc r p u) = 0 := dot_zero fun x hx => by
    have : x = L - 1 - i := by simpa using hx
    subst this
    unfold PV; rw [hp]; rfl
  omega
/-- an input takes the pull -/
theorem BI.inp {r : Rw} (ok : RowOk r) {T : List Int → List Int → Nat → Int} {t i m x : Nat} {st : List Stp} {P F : List (Option Nat)} (h : BI r (List.range (r.st.length - i)) T t st P F) (hi : i < r.st.length) (hs : r.st[r.st.length - 1 - i]? = some (.inp m)) (hp : po P (r.st.length - 1 - i) = some x) :
    BI r (List.range (r.st.length - (i + 1))) T (t + 1) (joinF false (po F m) (some x) st).1 P (F.set m (joinF false (po F m) (some x) st).2) := by
  have hm := ok.inn _ m hs
  have hx := h.okP _ x hp
  have J := join_sem (N := r.n + r.en.length) (m := false) h.ext.wf h.ext.inn (h.okF m) hx
  refine ⟨h.ext.trans J.gr, fun y => (h.okP y).gr J.gr, fun y => ?_, h.lP, by rw [List.length_set]; exact h.lF, h.ps, ?_, fun p w V W pt => ?_⟩
  · by_cases e : y = m
    · subst e; rw [po_set_eq (by rw [h.lF]; exact hm)]; exact J.ok
    · rw [po_set_ne e]; exact (h.okF y).gr J.gr
  · have := (joinF_len (m := false) (o := po F m) (p := some x) (st := st)).2
    have := h.ln
    omega
  · obtain ⟨s1, s2⟩ := h.sem p w V W pt
    refine ⟨(J.sml _ _ s1).mono (by rw [Nat.add_mul]; omega), fun u hu => ?_⟩
    have b := s2 u hu
    rw [range_last hi, dot_app] at b
    have e1 : dot [r.st.length - 1 - i] (PV (p ++ w) st P) (rc r p u) = vv (p ++ w) st x * (if u = m then 1 else 0) := by
      rw [dot_cons, rc_stp ok hu hs]
      show PV (p ++ w) st P _ * (if u = m then 1 else 0) + 0 = _
      unfold PV
      rw [hp]
      show vv _ _ _ * _ + 0 = _
      omega
    rw [dot_congr (P := PV (p ++ w) (joinF false (po F m) (some x) st).1 P) (Q := PV (p ++ w) st P) fun y _ => pv_gr J.gr h.okP _ y]
    have e2 : PV (p ++ w) (joinF false (po F m) (some x) st).1 (F.set m (joinF false (po F m) (some x) st).2) u = PV (p ++ w) st F u + vv (p ++ w) st x * (if u = m then 1 else 0) := by
      unfold PV
      by_cases e : u = m
      · subst e
        rw [po_set_eq (by rw [h.lF]; exact hm), J.val, if_pos rfl, Int.mul_one]
        rfl
      · rw [po_set_ne e, oV_gr J.gr _ (h.okF u), if_neg e, Int.mul_zero, Int.add_zero]
    rw [e2]
    omega
/-- any other step gives it on -/
theorem BI.pull {r : Rw} (ok : RowOk r) {T : List Int → List Int → Nat → Int} {t i x : Nat} {s : Stp} {st : List Stp} {P F : List (Option Nat)} (h : BI r (List.range (r.st.length - i)) T t st P F) (hi : i < r.st.length) (hs : r.st[r.st.length - 1 - i]? = some s) (hp : po P (r.st.length - 1 - i) = some x) (hr : refs s ≠ []) :
    BI r (List.range (r.st.length - (i + 1))) T (t + 1) (pullS (deg r) x s (st, P)).1 (pullS (deg r) x s (st, P)).2 F := by
  have hx := h.okP _ x hp
  have hw := ok.wf _ s hs
  have hl := h.ext.len
  have R := pull_sem (N := r.n + r.en.length) (sz := deg r) (x := x) (s := s) (q := (st, P)) h.ext.wf h.ext.inn h.okP hr (fun a ha => by have := hw a ha; exact ⟨by show a < P.length; rw [h.lP]; omega, by show a < st.length; omega⟩) hx
  refine ⟨h.ext.trans R.gr, R.ok, fun y => (h.okF y).gr R.gr, R.len.trans h.lP, h.lF, R.ps h.ps, ?_, fun p w V W pt => ?_⟩
  · have a := R.ln
    have b := h.ln
    have a' : (pullS (deg r) x s (st, P)).1.length ≤ st.length + 4 := a
    omega
  · obtain ⟨s1, s2⟩ := h.sem p w V W pt
    have ev : ∀ a ∈ refs s, vv (p ++ w) st a = val r p a := fun a ha => vv_val ok h.ext pt.lp (by have := hw a ha; omega)
    refine ⟨(R.sml (p ++ w) _ V s1 fun a ha => by rw [show vv (p ++ w) (st, P).1 a = val r p a from ev a ha]; exact pt.bv a (by have := hw a ha; omega)).mono (by rw [Nat.add_mul]; omega), fun u hu => ?_⟩
    have b := s2 u hu
    rw [range_last hi, dot_app] at b
    have e1 : dot [r.st.length - 1 - i] (PV (p ++ w) st P) (rc r p u) = vv (p ++ w) st x * rvC u (val r p) (rc r p u) s := by
      rw [dot_cons, rc_stp ok hu hs]
      unfold PV
      rw [hp]
      show vv _ _ _ * _ + 0 = _
      omega
    have e3 : rvC u (vv (p ++ w) st) (rc r p u) s = rvC u (val r p) (rc r p u) s := by
      cases s with
      | bin o a b =>
        cases o with
        | mul => show rc r p u a * vv _ st b + vv _ st a * rc r p u b = _; rw [ev a (by simp [refs]), ev b (by simp [refs])]; rfl
        | _ => rfl
      | _ => rfl
    have nd : (List.range (r.st.length - (i + 1))).Nodup := List.nodup_range
    rw [R.dot (p ++ w) _ (rc r p u) u nd (fun a ha => List.mem_range.mpr (by have := hw a ha; omega)) (fun a ha => deg_zero ok p hu a (by have := hw a ha; omega))]
    show dot _ (PV (p ++ w) st P) _ + vv (p ++ w) st x * rvC u (vv (p ++ w) st) (rc r p u) s + PV (p ++ w) _ F u = _
    have e2 : PV (p ++ w) (pullS (deg r) x s (st, P)).1 F u = PV (p ++ w) st F u := oV_gr R.gr _ (h.okF u)
    rw [e2, e3]
    omega
end G
set_option maxRecDepth 100000
set_option maxHeartbeats 4000000
/-! WQ: backward, walked. -/
namespace G
open PySem PySem.Spec PyProof.Rows L2
def backT (r : Rw) : List Int → List Int → Nat → Int := fun p w u => (List.zipWith (fun e x => x * rc r p u e) r.en w).sum
def backT' (r : Rw) (i : Nat) : List Int → List Int → Nat → Int := fun p w u => ((List.zipWith (fun e x => x * rc r p u e) r.en w).take i).sum
theorem BI.congr {r : Rw} {l : List Nat} {T T' : List Int → List Int → Nat → Int} {t : Nat} {st : List Stp} {P F : List (Option Nat)} (h : BI r l T t st P F) (e : ∀ p w V W u, Pt r p w V W → T p w u = T' p w u) : BI r l T' t st P F :=
  ⟨h.ext, h.okP, h.okF, h.lP, h.lF, h.ps, h.ln, fun p w V W pt => ⟨(h.sem p w V W pt).1, fun u hu => ((h.sem p w V W pt).2 u hu).trans (e p w V W u pt)⟩⟩
theorem backT_step {r : Rw} {i e : Nat} (he : r.en[i]? = some e) {p w : List Int} {V W u : Nat} (pt : Pt r p w V W) : backT' r i p w u + w.getD i 0 * rc r p u e = backT' r (i + 1) p w u := by
  have hi : i < r.en.length := (List.getElem?_eq_some_iff.mp he).1
  have hw : w[i]? = some (w.getD i 0) := by
    rw [List.getD_eq_getElem?_getD, List.getElem?_eq_getElem (by rw [pt.lw]; exact hi)]; rfl
  exact (zip_sum_take (f := fun e x => x * rc r p u e) he hw).symm
theorem BI.fin {r : Rw} (ok : RowOk r) (h60 : r.st.length ≤ 60) (h20 : r.en.length ≤ 20) (n0 : 0 < r.n) (n8 : r.n ≤ 800) {st : List Stp} {P F : List (Option Nat)} (h : BI r [] (backT r) (r.en.length + r.st.length) st P F) {st2 : List Stp} {en : List Nat} (g : Gr (r.n + r.en.length) st st2) (l2 : st2.length ≤ st.length + 1)
    (hl : en.length = r.n) (he : ∀ e ∈ en, e < st2.length) (hv : ∀ q u, u < r.n → vv q st2 (en.getD u 0) = PV q st F u) (hs : ∀ q B, Sml q st B → Sml q st2 B) : BackOk r ⟨r.n + r.en.length, st2, en⟩ := by
  have l := h.ln
  have l1 := h.ext.len
  have l3 := g.len
  have n9 := ok.ln2
  have ln1 := ok.ln1
  have enl : en.length ≤ 900 := by omega
  refine ⟨rfl, ⟨g.wf, g.inn, he, by show st2.length ≤ 900; omega, enl, by show 0 < st2.length; omega, ?_⟩, fun p w V W pt => ⟨?_, fun k hk => ?_⟩⟩
  · show r.n + r.en.length ≤ 900
    omega
  · obtain ⟨_, s2⟩ := h.sem p w V W pt
    apply List.ext_getElem?
    intro u
    by_cases hu : u < r.n
    · have e1 : en[u]? = some (en.getD u 0) := by rw [List.getD_eq_getElem?_getD, List.getElem?_eq_getElem (by omega)]; rfl
      rw [List.getElem?_map, e1]
      unfold swV
      rw [List.getElem?_map, List.getElem?_range hu]
      show some (vv (p ++ w) st2 (en.getD u 0)) = some _
      rw [hv _ u hu]
      have := s2 u hu
      have z : dot [] (PV (p ++ w) st P) (rc r p u) = 0 := rfl
      rw [z, Int.zero_add] at this
      rw [this]
      rfl
    · rw [List.getElem?_eq_none (by rw [List.length_map]; show en.length ≤ u; omega), List.getElem?_eq_none (by unfold swV; simp; omega)]
  · exact hs _ _ (h.sem p w V W pt).1 k hk
theorem vc_backward (C : Addr) : ∀ args Z, sp_backward args Z → args.length = 1 ∧ w_backward C (endsOf 1 Z) (args ++ List.replicate (N_backward.length - 1) .un) := by
  rintro args Z ⟨r, rfl, ok, h60, h20, n0, n8, z⟩
  have hL := ok.ln
  let szs : D := isD ((szA 0).run 0 r.st)
  have szl : ((szA 0).run 0 r.st).length = r.st.length := run_length _ _ _
  refine ⟨rfl, _, _, rfl, rfl, fun i Γ => ∃ x, Fx x ∧ Γ = [.im (rD r), .ce (.steps C ((r.st.take i).map sD)), x, .un, .un, .un, .un, .un, .un, .un], ⟨.un, trivial, rfl⟩, ?_, ?_⟩
  · rintro i d Γ hd ⟨x, hx, rfl⟩
    obtain ⟨s, hs, rfl⟩ := get_of_map hd
    refine ⟨_, rfl, hx, ⟨_, rfl⟩, rfl, _, _, rfl, by rw [List.length_map, List.length_take]; omega, .im (sD s), trivial, ?_⟩
    rw [take_map hs]
    rfl
  rintro Γ ⟨x0, hx0, rfl⟩
  rw [List.length_map, List.take_length]
  refine ⟨Nat.le_of_ble_eq_true rfl, _, _, rfl, rfl, _, rfl, [.non], rfl, Nat.le_of_ble_eq_true rfl, by omega, by rw [List.length_map]; omega, Nat.le_of_ble_eq_true rfl, _, _, rfl, rfl, [.non], rfl, Nat.le_of_ble_eq_true rfl, by omega, by omega, rfl, r, rfl, ok, ?_⟩
  refine ⟨_, _, rfl, rfl, ?_⟩
  let S1 : List Stp → List (Option Nat) → List (Option Nat) → Sl → Sl → Sl → Gm := fun st P F x y v => [.im (rD r), .ce (.steps C (st.map sD)), x, .ce (.ls (P.map oD)), .ce (.ls (F.map oD)), .im szs, y, v, .un, .un]
  refine ⟨fun i Γ => ∃ (y v : Sl) (st : List Stp) (P : List (Option Nat)), Fx y ∧ Fx v ∧ BI r (List.range r.st.length) (backT' r i) i st P (List.replicate r.n none) ∧ Γ = S1 st P (List.replicate r.n none) x0 y v, ⟨.un, .un, r.st, List.replicate r.st.length none, trivial, trivial, (BI.start ok).congr fun p w V W u pt => by unfold backT'; rw [List.take_zero]; rfl, ?_⟩, ?_, ?_⟩
  · rw [List.length_map, repN, repN]
    rfl
  · rintro i d Γ hd ⟨y, v, st, P, hy, hv, B, rfl⟩
    obtain ⟨e', he', rfl⟩ := enumD_of hd
    obtain ⟨e, he, rfl⟩ := get_of_map he'
    have hel := ok.en e (List.mem_of_getElem? he)
    have hi : i < r.en.length := (List.getElem?_eq_some_iff.mp he).1
    have B' := (B.first ok he).congr fun p w V W u pt => backT_step he pt
    have l := B.ln
    have lP := B.lP
    refine ⟨rfl, _, rfl, hy, _, rfl, hv, rfl, _, _, rfl, at_int (by omega), fun hb => ?_, fun hb => ?_⟩
    · have h0 : 0 < deg r e := of_decide_eq_true hb
      rw [if_pos h0, if_pos h0] at B'
      have e1 : upd1 false (deg r) e st.length (st ++ [.inp (r.n + i)], P) = ((joinF false (po P e) (some st.length) (st ++ [.inp (r.n + i)])).1, P.set e (joinF false (po P e) (some st.length) (st ++ [.inp (r.n + i)])).2) := by unfold upd1; rw [if_pos h0]
      rw [e1] at B'
      refine ⟨⟨_, rfl⟩, _, _, rfl, at_oD (by omega), ⟨_, rfl⟩, _, _, rfl, rfl, Nat.le_of_ble_eq_true rfl, rfl, _, _, rfl, by rw [List.length_map]; omega, rfl, st ++ [.inp (r.n + i)], false, po P e, some st.length, ?_, by simp; omega, _, e, rfl, ixN_nat (by rw [List.length_map]; omega), ?_⟩
      · rw [List.map_append, List.length_map]
        rfl
      · refine ⟨.im (.int (i : Int)), .im (nD e), _, _, fxI, fxI, B', ?_⟩
        show [_, _, _, Sl.ce (.ls ((P.map oD).set e (oD (joinF false (po P e) (some st.length) (st ++ [.inp (r.n + i)])).2))), _, _, _, _, _, _] = _
        rw [← List.map_set]
    · have h0 : ¬ 0 < deg r e := of_decide_eq_false hb
      rw [if_neg h0, if_neg h0] at B'
      exact ⟨.im (.int (i : Int)), .im (nD e), _, _, fxI, fxI, B', rfl⟩
  rintro Γ ⟨y, v, st0, P0, hy, hv, B0, rfl⟩
  rw [enumD_len, List.length_map] at B0
  have B0' : BI r (List.range (r.st.length - 0)) (backT r) (r.en.length + 0) st0 P0 (List.replicate r.n none) := B0.congr fun p w V W u pt => by
    unfold backT' backT
    rw [List.take_of_length_le (by rw [List.length_zipWith]; omega)]
  refine ⟨_, _, rfl, rfl, _, rfl, ⟨by rw [List.length_map]; omega, by rw [List.length_map]; omega, by decide, by decide⟩, rfl, ?_⟩
  rw [List.length_map, show (((r.st.length : Int) - 1) - -1).toNat = r.st.length by omega]
  let I2 : Nat → Gm → Prop := fun i Γ => ∃ (x v : Sl) (st : List Stp) (P F : List (Option Nat)), Fx x ∧ Fx v ∧ BI r (List.range (r.st.length - i)) (backT r) (r.en.length + i) st P F ∧ Γ = S1 st P F x y v
  refine ⟨I2, ⟨x0, v, st0, P0, _, hx0, hv, B0', rfl⟩, ?_, ?_⟩
  · rintro i d Γ hd ⟨x, v, st, P, F, hx, hv, B, rfl⟩
    obtain ⟨hi, rfl⟩ := rngC_of hd
    rw [show ((r.st.length : Int) - 1 + (i : Int) * -1) = ((r.st.length - 1 - i : Nat) : Int) by omega]
    generalize hj : r.st.length - 1 - i = j at *
    have hjl : j < r.st.length := by omega
    have e1 : r.st[j]? = some (r.st[j]) := List.getElem?_eq_getElem hjl
    generalize hs : r.st[j] = s at *
    have l := B.ln
    have lP := B.lP
    have lF := B.lF
    have aj : L2.atI (P.map oD) (j : Int) = some (oD (po P j)) := at_oD (by omega)
    refine ⟨_, rfl, hv, _, _, rfl, rfl, _, _, rfl, atI_nat (get_map e1), _, _, rfl, aj, ?_⟩
    cases hp : po P j with
    | none =>
      refine itN (by rfl) ?_
      exact ⟨.im (sD s), .im (nD j), st, P, F, trivial, trivial, B.none hi (by rw [hj]; exact hp), rfl⟩
    | some x1 =>
      refine itY (by rfl) ?_
      have aj' : L2.atI (P.map oD) (j : Int) = some (nD x1) := by rw [aj, hp]; rfl
      have hd0 : 0 < deg r j := B.ps j (by rw [hp]; exact nofun)
      by_cases hin : isInp s = true
      · obtain ⟨m, rfl⟩ := inp_D hin
        have hm := ok.inn j m e1
        have B' := B.inp ok hi (by rw [hj]; exact e1) (by rw [hj]; exact hp)
        refine ⟨_, _, rfl, rfl, itY (by decide) ⟨⟨_, rfl⟩, _, _, rfl, rfl, _, _, rfl, at_oD (by omega), _, _, rfl, aj', rfl, st, false, po F m, some x1, rfl, by omega, _, _, rfl, rfl, _, m, rfl, ixN_nat (by rw [List.length_map]; omega), .im (sD (.inp m)), .im (nD j), _, _, _, trivial, trivial, B', ?_⟩⟩
        show [_, _, _, _, Sl.ce (.ls ((F.map oD).set m (oD (joinF false (po F m) (some x1) st).2))), _, _, _, _, _] = _
        rw [← List.map_set]
        rfl
      · have hr : refs s ≠ [] := by
          cases s with
          | inp m => exact absurd rfl hin
          | set c =>
            rw [deg_stp ok e1] at hd0
            exact absurd hd0 (by show ¬ (0 : Int) < 0; decide)
          | neg a => exact nofun
          | bin o a b => exact nofun
        have B' := B.pull ok hi (by rw [hj]; exact e1) (by rw [hj]; exact hp) hr
        refine ix0 (s := s) fun w0 hw0 => itN ?_ ⟨_, _, rfl, aj', rfl, st, s, x1, P, (szA 0).run 0 r.st, rfl, hr, fun a ha => ?_, by omega, .im (sD s), .im (nD j), _, _, F, trivial, trivial, B', rfl⟩
        · rw [← hw0]
          exact Bool.eq_false_iff.mpr hin
        · have := ok.wf j s e1 a ha
          exact ⟨by omega, by omega⟩
  rintro Γ ⟨x, v, st, P, F, hx, hv, B, rfl⟩
  rw [rngC_len] at B
  rw [Nat.sub_self] at B
  have B2 : BI r [] (backT r) (r.en.length + r.st.length) st P F := B
  have l := B2.ln
  have lF := B2.lF
  have g0 := B2.ext
  -- the end, the ends told
  have last : ∀ (st2 : List Stp) (en : List Nat) (c : Sl) (fd : List D), fd = en.map nD → BackOk r ⟨r.n + r.en.length, st2, en⟩ → en.length ≤ 1000 →
      (wRet 1 (wTup (wCons (wOp gAdd (wIx (wVar 0) (wC (.int 0))) (wB gLen (wCons (wIx (wVar 0) (wC (.int 2))) wNil))) (wCons (wTupR C (wVar 1)) (wCons (wB gTuple (wCons (wVar 4) wNil)) wNil))))) (endsOf 1 Z)
        [.im (rD r), .ce (.steps C (st2.map sD)), x, .ce (.ls (P.map oD)), .ce (.ls fd), .im szs, y, v, c, .un] := by
    rintro st2 en c _ rfl bo hl
    have := z _ bo
    refine ⟨_, _, rfl, rfl, _, _, rfl, rfl, _, rfl, _, rfl, _, rfl, Nat.le_of_ble_eq_true rfl, ?_⟩
    show Z (.im (.tup [.int ((r.n : Int) + ((r.en.map nD).length : Int)), .tup (st2.map sD), .tup (en.map nD)])) _
    rw [List.length_map, ← Int.natCast_add]
    exact this
  refine ⟨_, rfl, rfl, flat_oD F, fun hb => ?_, fun hb => ?_⟩
  · -- a zero is put
    have g : Gr (r.n + r.en.length) st (st ++ [.set 0]) := gr_snoc g0.wf g0.inn (fun a ha => nomatch ha) (fun m e => nomatch e)
    have hv0 := fun q => vv_snoc g q fun a ha => nomatch ha
    refine ⟨⟨_, rfl⟩, Nat.le_of_ble_eq_true rfl, rfl, _, _, rfl, by rw [List.length_map]; omega, _, rfl, rfl, by rw [List.length_map]; have := ok.ln2; omega, fun i acc Γ => Γ = [.im (rD r), .ce (.steps C (st.map sD ++ [sD (.set 0)])), x, .ce (.ls (P.map oD)), .ce (.ls (F.map oD)), .im szs, y, v, .im (nD st.length), .un] ∧ acc = (F.take i).map fun o => nD (o.getD st.length), ⟨?_, rfl⟩, ?_, ?_, ?_⟩
    · rw [List.length_map]
      rfl
    · rintro i acc Γ ⟨rfl, rfl⟩
      rfl
    · rintro i d acc Γ hd ⟨rfl, rfl⟩
      obtain ⟨o, ho, rfl⟩ := get_of_map hd
      refine ⟨_, rfl, fxU, fun _ => ?_, nofun⟩
      cases o with
      | none => exact itY (by rfl) ⟨rfl, by rw [take_map ho]; rfl⟩
      | some k => exact itN (by rfl) ⟨rfl, by rw [take_map ho]; rfl⟩
    · rintro acc Γ ⟨rfl, rfl⟩
      rw [List.length_map, List.take_length]
      have := last (st ++ [.set 0]) (F.map fun o => o.getD st.length) (.im (nD st.length)) (F.map fun o => nD (o.getD st.length)) (by rw [List.map_map]; rfl) (B2.fin ok h60 h20 n0 n8 g (by simp) (by rw [List.length_map]; exact lF) (fun e he => ?_) (fun q u hu => ?_) (fun q B0 hs => ?_)) (by rw [List.length_map]; have := ok.ln2; omega)
      · rw [List.map_append] at this
        exact this
      · obtain ⟨o, ho, rfl⟩ := List.mem_map.mp he
        obtain ⟨k, hk, ek⟩ := List.mem_iff_getElem.mp ho
        cases o with
        | none => show st.length < _; simp
        | some m =>
          have : po F k = some m := by unfold po; rw [List.getD_eq_getElem?_getD, List.getElem?_eq_getElem hk, ek]; rfl
          have := B2.okF k m this
          show m < _
          simp; omega
      · have e1 : (F.map fun o => o.getD st.length).getD u 0 = (po F u).getD st.length := by
          unfold po
          rw [List.getD_eq_getElem?_getD, List.getD_eq_getElem?_getD, List.getElem?_map, List.getElem?_eq_getElem (by omega)]
          rfl
        rw [e1]
        unfold PV
        cases hp : po F u with
        | none =>
          show vv q (st ++ [.set 0]) st.length = 0
          rw [hv0]
          rfl
        | some m => exact g.vv q (B2.okF u m hp)
      · refine sml_snoc g hs ?_
        rw [hv0]
        exact Nat.pow_pos (by decide)
  · have hall : ∀ o ∈ F, o ≠ none := fun o ho e => by
      have h1 : (F.any (·.isNone)) = false := by
        have h2 : inD .non (F.map oD) = false := hb
        rwa [inD_non] at h2
      rw [List.any_eq_false] at h1
      exact h1 o ho (by rw [e]; rfl)
    have ef : F.map oD = (F.map fun o => o.getD 0).map nD := by
      rw [List.map_map]
      apply List.map_congr_left
      intro o ho
      cases o with
      | none => exact absurd rfl (hall _ ho)
      | some k => rfl
    refine last st (F.map fun o => o.getD 0) .un (F.map oD) ef (B2.fin ok h60 h20 n0 n8 (.refl g0.wf g0.inn) (by omega) (by rw [List.length_map]; exact lF) (fun e he => ?_) (fun q u hu => ?_) (fun q B0 hs => hs)) (by rw [List.length_map]; have := ok.ln2; omega)
    · obtain ⟨o, ho, rfl⟩ := List.mem_map.mp he
      obtain ⟨k, hk, ek⟩ := List.mem_iff_getElem.mp ho
      cases o with
      | none => exact absurd rfl (hall _ ho)
      | some m =>
        have : po F k = some m := by unfold po; rw [List.getD_eq_getElem?_getD, List.getElem?_eq_getElem hk, ek]; rfl
        exact B2.okF k m this
    · have e0 : F[u]? = some (F[u]'(by omega)) := List.getElem?_eq_getElem (by omega)
      have e1 : (F.map fun o => o.getD 0).getD u 0 = (po F u).getD 0 := by
        unfold po
        rw [List.getD_eq_getElem?_getD, List.getD_eq_getElem?_getD, List.getElem?_map, e0]
        rfl
      rw [e1]
      unfold PV
      cases hp : po F u with
      | none =>
        exfalso
        refine hall _ (List.mem_of_getElem? e0) ?_
        unfold po at hp
        rw [List.getD_eq_getElem?_getD, e0] at hp
        exact hp
      | some m => rfl
end G
set_option maxRecDepth 100000
set_option maxHeartbeats 4000000
/-! WR: texts. -/
namespace G
open PySem PySem.Spec PyProof.Rows L2
def nT (i : Int) : Str := Str.ofString (toString i)
def FIG : Str := "0123456789"
def inFig (c : Nat) : Bool := !(Builtin.Str.occurrences FIG ⟨#[c]⟩ 0 FIG.length 1).isEmpty
def figOf (w : Str) : Str := if cutS w none (some 1) = "-" then cutS w (some 1) none else w
/-- a text that is read as the number n -/
def numOk (w : Str) (n : Int) : Bool := decide (figOf w ≠ "") && (decide ((figOf w).length ≤ 21) && ((figOf w).cps.toList.all inFig && (!(decide (1 < (figOf w).length) && decide (L2.atI (figOf w).cps.toList 0 = some 48)) && (decide (w ≠ "-0") && (decide (PySem.intText? w = some n) && (decide (w.length ≤ 4) && (w.cps.toList.all fun c => !(c == 32) && !(c == 10))))))))
def smalls : List Int := (List.range 110).map fun (k : Nat) => (k : Int) - 10
theorem smalls_ok : smalls.all (fun i => numOk (nT i) i) = true := by decide +kernel
theorem num_small {i : Int} (h0 : -10 ≤ i) (h1 : i < 100) : numOk (nT i) i = true := by
  have := List.all_eq_true.mp smalls_ok i (by
    unfold smalls
    exact List.mem_map.mpr ⟨(i + 10).toNat, List.mem_range.mpr (by omega), by omega⟩)
  exact this
structure NumF (w : Str) (n : Int) : Prop where
  ne : figOf w ≠ ""
  ln : (figOf w).length ≤ 21
  fig : ∀ c ∈ (figOf w).cps.toList, inFig c = true
  z : ¬ (1 < (figOf w).length ∧ L2.atI (figOf w).cps.toList 0 = some 48)
  m0 : w ≠ "-0"
  rd : PySem.intText? w = some n
  l4 : w.length ≤ 4
  sp : ∀ c ∈ w.cps.toList, c ≠ 32 ∧ c ≠ 10
theorem numF_of {w : Str} {n : Int} (h : numOk w n = true) : NumF w n := by
  unfold numOk at h
  simp only [Bool.and_eq_true, decide_eq_true_eq, List.all_eq_true, Bool.not_eq_true', Bool.and_eq_false_iff, decide_eq_false_iff_not, bne_iff_ne, beq_eq_false_iff_ne] at h
  obtain ⟨h1, h2, h3, h4, h5, h6, h7, h8⟩ := h
  refine ⟨h1, h2, h3, fun ⟨a, b⟩ => ?_, h5, h6, h7, h8⟩
  rcases h4 with h4 | h4
  · exact h4 a
  · exact h4 b
theorem small_line {n : Nat} (h : n ≤ 100000) : n ≤ sizeLine := by rw [sizeLine_eq]; omega
def sp_number_of : GSp := fun args Z => ∃ (w : Str) (n : Int), args = [.im (.str w)] ∧ NumF w n ∧ Z (.im (.int n)) args
def N_number_of : List Str := ["word", "figures", "sign"]
def w_number_of : WS := (wSeq (wAsg 1 (wIfE (wTest (wOp gEq (wSl (wVar 0) wNo (wPart (wC (.int 1)))) (wC (.str "-")))) (wSl (wVar 0) (wPart (wC (.int 1))) wNo) (wVar 0))) (wSeq (wIf (wOr (wTest (wOp gEq (wVar 1) (wC (.str "")))) (wOr (wTest (wOp gGt (wB gLen (wCons (wVar 1) wNil)) (wC (.int 21)))) (wNot (wTest (wB gAll (wCons (wLc (wiStr (wVar 1)) (wgName 2) wYes (wOp gInS (wVar 2) (wC (.str "0123456789"))) [2]) wNil)))))) (wRet 1 (wC .non)) wNext) (wSeq (wIf (wOr (wAnd (wTest (wOp gGt (wB gLen (wCons (wVar 1) wNil)) (wC (.int 1)))) (wTest (wOp gEq (wIx (wVar 1) (wC (.int 0))) (wC (.str "0"))))) (wTest (wOp gEq (wVar 0) (wC (.str "-0"))))) (wRet 1 (wC .non)) wNext) (wRet 1 (wB gInt (wCons (wVar 0) wNil))))))
theorem vc_number_of : ∀ args Z, sp_number_of args Z → args.length = 1 ∧ w_number_of (endsOf 1 Z) (args ++ List.replicate (N_number_of.length - 1) .un) := by
  rintro args Z ⟨w, n, rfl, f, z⟩
  have l4 := f.l4
  have fl := f.ln
  refine ⟨rfl, small_line (by omega), ?_⟩
  -- behind the choice of the figures
  have rest : ∀ fg : Str, fg = figOf w → (wSeq (wIf (wOr (wTest (wOp gEq (wVar 1) (wC (.str "")))) (wOr (wTest (wOp gGt (wB gLen (wCons (wVar 1) wNil)) (wC (.int 21)))) (wNot (wTest (wB gAll (wCons (wLc (wiStr (wVar 1)) (wgName 2) wYes (wOp gInS (wVar 2) (wC (.str "0123456789"))) [2]) wNil)))))) (wRet 1 (wC .non)) wNext) (wSeq (wIf (wOr (wAnd (wTest (wOp gGt (wB gLen (wCons (wVar 1) wNil)) (wC (.int 1)))) (wTest (wOp gEq (wIx (wVar 1) (wC (.int 0))) (wC (.str "0"))))) (wTest (wOp gEq (wVar 0) (wC (.str "-0"))))) (wRet 1 (wC .non)) wNext) (wRet 1 (wB gInt (wCons (wVar 0) wNil)))))
      (endsOf 1 Z) [.im (.str w), .im (.str fg), .un] := by
    rintro _ rfl
    have sz : (figOf w).cps.size = (figOf w).length := rfl
    refine itN (decide_eq_false f.ne) ⟨small_line (by omega), itN (decide_eq_false (by omega)) ⟨rfl, ?_, fun i acc Γ => Γ = [.im (.str w), .im (.str (figOf w)), .un] ∧ acc = ((figOf w).cps.toList.take i).map fun c => D.bl (inFig c), ⟨rfl, rfl⟩, fun _ _ _ _ => trivial, ?_, ?_⟩⟩
    · unfold sgnD
      rw [List.length_map, Array.length_toList, sz]
      omega
    · rintro i d acc Γ hd ⟨rfl, rfl⟩
      obtain ⟨c, hc, rfl⟩ := get_of_map hd
      exact ⟨_, rfl, fxU, fun _ => ⟨rfl, by rw [take_map hc]; rfl⟩, nofun⟩
    · rintro acc Γ ⟨rfl, rfl⟩
      rw [show (sgnD (figOf w)).length = (figOf w).cps.toList.length by unfold sgnD; rw [List.length_map], List.take_length]
      refine ⟨(figOf w).cps.toList.map inFig, by rw [List.map_map]; rfl, itN ?_ ?_⟩
      · have : ((figOf w).cps.toList.map inFig).all id = true := by
          rw [List.all_map]
          exact List.all_eq_true.mpr fun c hc => f.fig c hc
        rw [this]
        rfl
      · refine ⟨small_line (by omega), ?_⟩
        have tail : Br (decide (w = ("-0" : Str))) ((endsOf 1 Z).rt (.im .non) [.im (.str w), .im (.str (figOf w)), .un]) ((wRet 1 (wB gInt (wCons (wVar 0) wNil))) (endsOf 1 Z) [.im (.str w), .im (.str (figOf w)), .un]) :=
          itN (decide_eq_false f.m0) ⟨n, f.rd, by omega, z⟩
        refine ⟨fun h1 => ?_, fun _ => itN rfl tail⟩
        have h1' : 1 < (figOf w).length := by have := of_decide_eq_true h1; omega
        obtain ⟨c, hc⟩ : ∃ c, L2.atI (figOf w).cps.toList 0 = some c := by
          have hl : 0 < (figOf w).cps.toList.length := by rw [Array.length_toList, sz]; omega
          exact ⟨_, atI_nat (i := 0) (List.getElem?_eq_getElem hl)⟩
        refine ⟨c, small_line (by omega), hc, itN (decide_eq_false fun e => f.z ⟨h1', ?_⟩) tail⟩
        rw [hc]
        have : (#[c] : Array Nat) = #[48] := congrArg Str.cps e
        have := congrArg Array.toList this
        simpa using this
  refine ⟨fun h => ?_, fun h => ?_⟩
  · have h' : cutS w none (some 1) = ("-" : Str) := of_decide_eq_true h
    exact ⟨small_line (by omega), rest _ (by unfold figOf; rw [if_pos h'])⟩
  · have h' : ¬ cutS w none (some 1) = ("-" : Str) := of_decide_eq_false h
    exact rest _ (by unfold figOf; rw [if_neg h'])
def NumL (ns : List Int) : Prop := ∀ n ∈ ns, -10 ≤ n ∧ n < 100
def sp_numbers_of : GSp := fun args Z => ∃ ns : List Int, args = [.ce (.ls ((ns.map nT).map .str))] ∧ NumL ns ∧ ns.length ≤ 900 ∧ Z (.im (isD ns)) args
def N_numbers_of : List Str := ["words", "found", "word"]
def w_numbers_of : WS := (wSeq (wAsg 1 (wLc (wiLst (wVar 0)) (wgName 2) wYes (wCall sp_number_of (wCons (wVar 2) wNil)) [2])) (wRet 1 (wIfE (wTest (wIn false (wC .non) (wVar 1))) (wC .non) (wB gTuple (wCons (wVar 1) wNil)))))
theorem inD_nonI (ns : List Int) : inD .non (ns.map .int) = false := by
  unfold inD inV
  induction ns with
  | nil => rfl
  | cons a l ih =>
    simp only [List.map_cons, List.any_cons] at ih ⊢
    rw [ih]
    rfl
theorem flat_is (ns : List Int) : (ns.map D.int).all flD = true := by
  rw [List.all_map]
  exact List.all_eq_true.mpr fun _ _ => rfl
theorem vc_numbers_of : ∀ args Z, sp_numbers_of args Z → args.length = 1 ∧ w_numbers_of (endsOf 1 Z) (args ++ List.replicate (N_numbers_of.length - 1) .un) := by
  rintro args Z ⟨ns, rfl, hs, hl, z⟩
  refine ⟨rfl, _, rfl, rfl, by rw [List.length_map, List.length_map]; omega, fun i acc Γ => Γ = [.ce (.ls ((ns.map nT).map .str)), .un, .un] ∧ acc = (ns.take i).map .int, ⟨rfl, rfl⟩, ?_, ?_, ?_⟩
  · rintro i acc Γ ⟨rfl, rfl⟩
    rfl
  · rintro i d acc Γ hd ⟨rfl, rfl⟩
    obtain ⟨w, hw, rfl⟩ := get_of_map hd
    obtain ⟨n, hn, rfl⟩ := get_of_map hw
    obtain ⟨h0, h1⟩ := hs n (List.mem_of_getElem? hn)
    exact ⟨_, rfl, fxU, fun _ => ⟨rfl, nT n, n, rfl, numF_of (num_small h0 h1), rfl, by rw [take_map hn]⟩, nofun⟩
  · rintro acc Γ ⟨rfl, rfl⟩
    rw [List.length_map, List.length_map, List.take_length]
    exact ⟨_, rfl, rfl, flat_is ns, itN (by rw [inD_nonI]; rfl) ⟨_, rfl, z⟩⟩
end G
set_option maxRecDepth 100000
set_option maxHeartbeats 4000000
/-! WS: the text of a row, and back. -/
namespace G
open PySem PySem.Spec PyProof.Rows L2
def SP : Str := " "
def NL : Str := "\n"
def opW : Stp → Str
  | .inp _ => "in"
  | .set _ => "set"
  | .neg _ => "neg"
  | .bin o _ _ => opS o
def numsS : Stp → List Int
  | .inp i => [(i : Int)]
  | .set c => [c]
  | .neg a => [(a : Int)]
  | .bin _ a b => [(a : Int), (b : Int)]
def wordsS (s : Stp) : List Str := opW s :: (numsS s).map nT
def stepT (s : Stp) : Str := Txt.join SP (wordsS s)
def headT (n : Nat) : Str := ("inputs " : Str) ++ nT n
def endT (e : List Nat) : Str := ("ends " : Str) ++ Txt.join SP (e.map fun i : Nat => nT (i : Int))
def linesR (r : Rw) : List Str := [headT r.n] ++ r.st.map stepT ++ [endT r.en]
def rowT (r : Rw) : Str := Txt.join NL (linesR r)
theorem nT_len {n : Int} (h0 : -10 ≤ n) (h1 : n < 100) : (nT n).length ≤ 4 := (numF_of (num_small h0 h1)).l4
theorem tl_free {w : Str} {c : Nat} (h : ∀ x ∈ w.cps.toList, x ≠ c) : c ∉ TL.tl w := fun hc => h c hc rfl
theorem nT_free {n : Int} (h0 : -10 ≤ n) (h1 : n < 100) : 32 ∉ TL.tl (nT n) ∧ 10 ∉ TL.tl (nT n) :=
  ⟨tl_free fun x hx => ((numF_of (num_small h0 h1)).sp x hx).1, tl_free fun x hx => ((numF_of (num_small h0 h1)).sp x hx).2⟩
theorem tlSP : TL.tl SP = 32 :: [] := by decide +kernel
theorem tlNL : TL.tl NL = 10 :: [] := by decide +kernel
theorem split_sp {parts : List Str} (h : parts ≠ []) (hp : ∀ p ∈ parts, 32 ∉ TL.tl p) : Txt.split (Txt.join SP parts) SP = parts := TL.split_join tlSP (by decide +kernel) h hp
theorem split_nl {parts : List Str} (h : parts ≠ []) (hp : ∀ p ∈ parts, 10 ∉ TL.tl p) : Txt.split (Txt.join NL parts) NL = parts := TL.split_join tlNL (by decide +kernel) h hp
theorem joinL_cons (S p : List Nat) (q : List (List Nat)) (h : q ≠ []) : TL.joinL S (p :: q) = p ++ (S ++ TL.joinL S q) := by
  cases q with
  | nil => exact (h rfl).elim
  | cons a l => rfl
theorem tl_joinT (y : Str) (parts : List Str) : TL.tl (Txt.join y parts) = TL.joinL (TL.tl y) (parts.map TL.tl) := by rw [TL.join_eq, TL.tl_join]
theorem headT_join (n : Nat) : headT n = Txt.join SP [("inputs" : Str), nT n] := by
  apply TL.ext_tl
  rw [tl_joinT]
  unfold headT
  rw [TL.tl_append]
  show _ = TL.tl "inputs" ++ (TL.tl SP ++ TL.tl (nT n))
  rw [← List.append_assoc]
  congr 1
theorem endT_join (e : List Nat) (h : e ≠ []) : endT e = Txt.join SP ((("ends" : Str)) :: e.map fun i : Nat => nT (i : Int)) := by
  apply TL.ext_tl
  rw [tl_joinT]
  unfold endT
  rw [TL.tl_append, tl_joinT, List.map_cons, joinL_cons _ _ _ (by simpa using h), ← List.append_assoc]
  congr 1
/-! lengths, signs -/
theorem joinL_len (S : List Nat) : ∀ q : List (List Nat), (TL.joinL S q).length ≤ (q.map (·.length)).sum + q.length * S.length
  | [] => Nat.zero_le _
  | [p] => by simp [TL.joinL]
  | p :: a :: l => by
    have ih := joinL_len S (a :: l)
    show (p ++ (S ++ TL.joinL S (a :: l))).length ≤ _
    rw [List.length_append, List.length_append, List.map_cons, List.sum_cons, List.length_cons (a := p), Nat.add_mul, Nat.one_mul]
    omega
theorem joinL_free {c : Nat} {S : List Nat} (hS : c ∉ S) : ∀ q : List (List Nat), (∀ p ∈ q, c ∉ p) → c ∉ TL.joinL S q
  | [], _ => by simp [TL.joinL]
  | [p], h => h p (by simp)
  | p :: a :: l, h => by
    have ih := joinL_free hS (a :: l) (fun p hp => h p (List.mem_cons_of_mem _ hp))
    show c ∉ p ++ (S ++ TL.joinL S (a :: l))
    rw [List.mem_append, List.mem_append]
    rintro (k | k | k)
    · exact h p (by simp) k
    · exact hS k
    · exact ih k
theorem sum_le {l : List Nat} {m : Nat} (h : ∀ x ∈ l, x ≤ m) : l.sum ≤ l.length * m := by
  induction l with
  | nil => exact Nat.zero_le _
  | cons a l ih =>
    rw [List.sum_cons, List.length_cons, Nat.add_mul, Nat.one_mul]
    have := h a (by simp)
    have := ih fun x hx => h x (List.mem_cons_of_mem _ hx)
    omega
theorem len_tl (s : Str) : (TL.tl s).length = s.length := Array.length_toList
theorem join_len {y : Str} {parts : List Str} {m k : Nat} (hm : ∀ p ∈ parts, p.length ≤ m) (hk : parts.length ≤ k) (hy : y.length = 1) : (Txt.join y parts).length ≤ k * (m + 1) := by
  rw [← len_tl, tl_joinT]
  refine Nat.le_trans (joinL_len _ _) ?_
  rw [List.length_map, len_tl, hy, List.map_map]
  have h1 : (parts.map ((fun x : List Nat => x.length) ∘ TL.tl)).sum ≤ (parts.map ((fun x : List Nat => x.length) ∘ TL.tl)).length * m := sum_le fun x hx => by
    obtain ⟨p, hp, rfl⟩ := List.mem_map.mp hx
    show (TL.tl p).length ≤ m
    rw [len_tl]; exact hm p hp
  rw [List.length_map] at h1
  have h2 : parts.length * (m + 1) ≤ k * (m + 1) := Nat.mul_le_mul_right _ hk
  have h3 : parts.length * (m + 1) = parts.length * m + parts.length := Nat.mul_succ _ _
  omega
/-- small numbers everywhere -/
structure Smalls (r : Rw) : Prop where
  n : r.n < 100
  st : ∀ s ∈ r.st, NumL (numsS s)
  en : ∀ e ∈ r.en, e < 100
  ls : r.st.length ≤ 100
  le : r.en.length ≤ 100
  ne : r.en ≠ []
def opWs : List Str := ["in", "set", "neg", "+", "-", "*"]
theorem opWs_ok : opWs.all (fun w => decide (32 ∉ TL.tl w ∧ 10 ∉ TL.tl w ∧ w.length ≤ 4)) = true := by decide +kernel
theorem opW_mem (s : Stp) : opW s ∈ opWs := by
  cases s with
  | bin o a b => cases o <;> simp [opW, opWs, opS]
  | _ => simp [opW, opWs]
theorem opW_free (s : Stp) : 32 ∉ TL.tl (opW s) ∧ 10 ∉ TL.tl (opW s) := by
  have := of_decide_eq_true (List.all_eq_true.mp opWs_ok _ (opW_mem s))
  exact ⟨this.1, this.2.1⟩
theorem opW_len (s : Stp) : (opW s).length ≤ 4 := (of_decide_eq_true (List.all_eq_true.mp opWs_ok _ (opW_mem s))).2.2
theorem nums_len (s : Stp) : (numsS s).length ≤ 2 := by cases s <;> simp [numsS]
theorem words_free {s : Stp} (h : NumL (numsS s)) {c : Nat} (hc : c = 32 ∨ c = 10) : ∀ p ∈ wordsS s, c ∉ TL.tl p := by
  intro p hp
  rcases List.mem_cons.mp hp with rfl | hp
  · rcases hc with rfl | rfl
    · exact (opW_free s).1
    · exact (opW_free s).2
  · obtain ⟨n, hn, rfl⟩ := List.mem_map.mp hp
    have := nT_free (h n hn).1 (h n hn).2
    rcases hc with rfl | rfl
    · exact this.1
    · exact this.2
theorem words_len {s : Stp} (h : NumL (numsS s)) : ∀ p ∈ wordsS s, p.length ≤ 4 := by
  intro p hp
  rcases List.mem_cons.mp hp with rfl | hp
  · exact opW_len s
  · obtain ⟨n, hn, rfl⟩ := List.mem_map.mp hp
    exact nT_len (h n hn).1 (h n hn).2
theorem stepT_len {s : Stp} (h : NumL (numsS s)) : (stepT s).length ≤ 15 := join_len (m := 4) (k := 3) (words_len h) (by unfold wordsS; rw [List.length_cons, List.length_map]; have := nums_len s; omega) rfl
theorem stepT_split {s : Stp} (h : NumL (numsS s)) : Txt.split (stepT s) SP = wordsS s := split_sp (by unfold wordsS; simp) (words_free h (.inl rfl))
theorem stepT_free {s : Stp} (h : NumL (numsS s)) : 10 ∉ TL.tl (stepT s) := by
  unfold stepT
  rw [tl_joinT]
  refine joinL_free (by rw [tlSP]; decide) _ fun p hp => ?_
  obtain ⟨w, hw, rfl⟩ := List.mem_map.mp hp
  exact words_free h (.inr rfl) w hw
theorem headT_len {n : Nat} (h : n < 100) : (headT n).length ≤ 14 := by
  rw [headT_join]
  refine join_len (m := 6) (k := 2) ?_ (Nat.le_refl _) rfl
  intro p hp
  rcases List.mem_cons.mp hp with rfl | hp
  · decide +kernel
  · rw [List.mem_singleton] at hp
    subst hp
    have := nT_len (n := (n : Int)) (by omega) (by omega)
    omega
theorem headT_free {n : Nat} (h : n < 100) {c : Nat} : (∀ p ∈ [("inputs" : Str), nT n], 32 ∉ TL.tl p) ∧ 10 ∉ TL.tl (headT n) := by
  have k := nT_free (n := (n : Int)) (by omega) (by omega)
  constructor
  · intro p hp
    rcases List.mem_cons.mp hp with rfl | hp
    · decide +kernel
    · rw [List.mem_singleton] at hp
      subst hp
      exact k.1
  · rw [headT_join, tl_joinT]
    refine joinL_free (by rw [tlSP]; decide) _ fun p hp => ?_
    obtain ⟨w, hw, rfl⟩ := List.mem_map.mp hp
    rcases List.mem_cons.mp hw with rfl | hw
    · decide +kernel
    · rw [List.mem_singleton] at hw
      subst hw
      exact k.2
theorem ends_free {e : List Nat} (h : ∀ x ∈ e, x < 100) {c : Nat} (hc : c = 32 ∨ c = 10) : ∀ p ∈ (("ends" : Str)) :: e.map (fun i : Nat => nT (i : Int)), c ∉ TL.tl p := by
  intro p hp
  rcases List.mem_cons.mp hp with rfl | hp
  · rcases hc with rfl | rfl <;> decide +kernel
  · obtain ⟨n, hn, rfl⟩ := List.mem_map.mp hp
    have := h n hn
    have k := nT_free (n := (n : Int)) (by omega) (by omega)
    rcases hc with rfl | rfl
    · exact k.1
    · exact k.2
theorem ends_len {e : List Nat} (h : ∀ x ∈ e, x < 100) : ∀ p ∈ (("ends" : Str)) :: e.map (fun i : Nat => nT (i : Int)), p.length ≤ 4 := by
  intro p hp
  rcases List.mem_cons.mp hp with rfl | hp
  · decide +kernel
  · obtain ⟨n, hn, rfl⟩ := List.mem_map.mp hp
    have := h n hn
    exact nT_len (by omega) (by omega)
theorem endT_len {e : List Nat} (hl : e.length ≤ 100) (hn : e ≠ []) (h : ∀ x ∈ e, x < 100) : (endT e).length ≤ 505 := by
  rw [endT_join e hn]
  exact join_len (m := 4) (k := 101) (ends_len h) (by rw [List.length_cons, List.length_map]; omega) rfl
theorem lines_free {r : Rw} (k : Smalls r) : ∀ p ∈ linesR r, 10 ∉ TL.tl p := by
  intro p hp
  unfold linesR at hp
  rcases List.mem_append.mp hp with hp | hp
  · rcases List.mem_append.mp hp with hp | hp
    · rw [List.mem_singleton] at hp; subst hp
      exact (headT_free k.n (c := 0)).2
    · obtain ⟨s, hs, rfl⟩ := List.mem_map.mp hp
      exact stepT_free (k.st s hs)
  · rw [List.mem_singleton] at hp; subst hp
    rw [endT_join _ k.ne, tl_joinT]
    refine joinL_free (by rw [tlSP]; decide) _ fun p hp => ?_
    obtain ⟨w, hw, rfl⟩ := List.mem_map.mp hp
    exact ends_free k.en (.inr rfl) w hw
theorem lines_len {r : Rw} (k : Smalls r) : ∀ p ∈ linesR r, p.length ≤ 505 := by
  intro p hp
  unfold linesR at hp
  rcases List.mem_append.mp hp with hp | hp
  · rcases List.mem_append.mp hp with hp | hp
    · rw [List.mem_singleton] at hp; subst hp
      have := headT_len k.n
      omega
    · obtain ⟨s, hs, rfl⟩ := List.mem_map.mp hp
      have := stepT_len (k.st s hs)
      omega
  · rw [List.mem_singleton] at hp; subst hp
    exact endT_len k.le k.ne k.en
theorem lines_cnt (r : Rw) : (linesR r).length = r.st.length + 2 := by unfold linesR; simp
theorem lines_split {r : Rw} (k : Smalls r) : Txt.split (rowT r) NL = linesR r := split_nl (by unfold linesR; simp) (lines_free k)
theorem rowT_len {r : Rw} (k : Smalls r) : (rowT r).length ≤ 60000 := by
  have := join_len (y := NL) (m := 505) (k := 102) (lines_len k) (by rw [lines_cnt]; have := k.ls; omega) rfl
  unfold rowT
  omega
theorem cutD_tail (a : D) (l : List D) : cutD (a :: l) (some 1) none = l := by
  unfold cutD
  have e : HT.sIx (a :: l).length 0 (some 1) = 1 := by
    rw [show (1 : Int) = ((1 : Nat) : Int) from rfl, HT.sIx_nat, List.length_cons]
    omega
  rw [HT.sIx_none, e]
  show List.take _ l = l
  rw [List.take_of_length_le (by simp)]
theorem look_kinds (s : Stp) : look (mergeKD (stD [("in", 1), ("set", 1), ("neg", 1), ("+", 2), ("-", 2), ("*", 2)])) (.inr (opW s)) = some (.int ((numsS s).length : Int)) := by
  cases s with
  | bin o a b => cases o <;> rfl
  | _ => rfl
/-! the defs -/
def sp_step_text : GSp := fun args Z => ∃ s : Stp, args = [.im (sD s)] ∧ NumL (numsS s) ∧ Z (.im (.str (stepT s))) args
def N_step_text : List Str := ["step", "part"]
def w_step_text : WS := (wRet 1 (wJoin (wC (.str " ")) (wLc (wiTup (wVar 0)) (wgName 1) wYes (wB gStr (wCons (wVar 1) wNil)) [1])))
theorem vc_step_text : ∀ args Z, sp_step_text args Z → args.length = 1 ∧ w_step_text (endsOf 1 Z) (args ++ List.replicate (N_step_text.length - 1) .un) := by
  rintro args Z ⟨s, rfl, h, z⟩
  have hl := words_len h
  have h3 : (wordsS s).length ≤ 3 := by unfold wordsS; rw [List.length_cons, List.length_map]; have := nums_len s; omega
  have e : sD s = .tup (.str (opW s) :: (numsS s).map .int) := by cases s <;> rfl
  rw [e] at z ⊢
  refine ⟨rfl, rfl, ?_, fun i acc Γ => Γ = [.im (.tup (.str (opW s) :: (numsS s).map .int)), .un] ∧ acc = ((wordsS s).take i).map .str, ⟨rfl, rfl⟩, fun _ _ _ _ => trivial, ?_, ?_⟩
  · rw [List.length_cons, List.length_map]
    have := nums_len s
    omega
  · rintro i d acc Γ hd ⟨rfl, rfl⟩
    cases i with
    | zero =>
      cases Option.some.inj hd
      exact ⟨_, rfl, fxU, fun _ => ⟨rfl, rfl⟩, nofun⟩
    | succ i =>
      have hd' : ((numsS s).map D.int)[i]? = some d := hd
      obtain ⟨n, hn, rfl⟩ := get_of_map hd'
      have hm := h n (List.mem_of_getElem? hn)
      refine ⟨_, rfl, fxU, fun _ => ⟨?_, rfl, ?_⟩, nofun⟩
      · refine Nat.lt_of_le_of_lt (Nat.log2_le_self _) ?_
        omega
      · rw [take_map (l := wordsS s) (i := i + 1) (x := nT n) (by unfold wordsS; show ((numsS s).map nT)[i]? = _; rw [List.getElem?_map, hn]; rfl)]
        rfl
  · rintro acc Γ ⟨rfl, rfl⟩
    rw [List.take_of_length_le (by unfold wordsS; simp)]
    refine ⟨wordsS s, rfl, ?_, z⟩
    have h1 : ((wordsS s).map (·.length)).sum ≤ ((wordsS s).map (·.length)).length * 4 := sum_le fun x hx => by
      obtain ⟨p, hp, rfl⟩ := List.mem_map.mp hx
      exact hl p hp
    rw [List.length_map] at h1
    have : (Str.ofString " ").length = 1 := rfl
    rw [this]
    omega
def sp_row_text : GSp := fun args Z => ∃ r : Rw, args = [.im (rD r)] ∧ Smalls r ∧ Z (.im (.str (rowT r))) args
def N_row_text : List Str := ["row", "lines", "step", "end"]
def w_row_text : WS := (wSeq (wAsg 1 (wCat (wLst (wCons (wOp gAdd (wC (.str "inputs ")) (wB gStr (wCons (wIx (wVar 0) (wC (.int 0))) wNil))) wNil)) (wLc (wiTup (wIx (wVar 0) (wC (.int 1)))) (wgName 2) wYes (wCall sp_step_text (wCons (wVar 2) wNil)) [2]))) (wRet 1 (wJoin (wC (.str "\n")) (wCat (wVar 1) (wLst (wCons (wOp gAdd (wC (.str "ends ")) (wJoin (wC (.str " ")) (wLc (wiTup (wIx (wVar 0) (wC (.int 2)))) (wgName 3) wYes (wB gStr (wCons (wVar 3) wNil)) [3]))) wNil))))))
theorem vc_row_text : ∀ args Z, sp_row_text args Z → args.length = 1 ∧ w_row_text (endsOf 1 Z) (args ++ List.replicate (N_row_text.length - 1) .un) := by
  rintro args Z ⟨r, rfl, k, z⟩
  have kl := k.ls
  have ke := k.le
  have kn := k.n
  have hh : ∀ i : Int, 0 ≤ i → i < 100 → i.natAbs.log2 < 1920 := fun i h0 h1 => Nat.lt_of_le_of_lt (Nat.log2_le_self _) (by omega)
  have ht : (nT (r.n : Int)).length ≤ 4 := nT_len (by omega) (by omega)
  have l7 : ("inputs " : Str).length = 7 := by decide +kernel
  have l5 : ("ends " : Str).length = 5 := by decide +kernel
  refine ⟨rfl, _, _, rfl, rfl, hh _ (by omega) (by omega), small_line (by have : (Str.ofString (toString (r.n : Int))).length ≤ 4 := ht; omega), Nat.le_of_ble_eq_true rfl, _, _, rfl, rfl, rfl, by rw [List.length_map]; omega, fun i acc Γ => Γ = [.im (rD r), .un, .un, .un] ∧ acc = ((r.st.take i).map stepT).map .str, ⟨rfl, rfl⟩, fun _ _ _ _ => trivial, ?_, ?_⟩
  · rintro i d acc Γ hd ⟨rfl, rfl⟩
    obtain ⟨s, hs, rfl⟩ := get_of_map hd
    refine ⟨_, rfl, fxU, fun _ => ⟨rfl, s, rfl, k.st s (List.mem_of_getElem? hs), rfl, ?_⟩, nofun⟩
    rw [take_map hs, List.map_append]
    rfl
  · rintro acc Γ ⟨rfl, rfl⟩
    rw [List.length_map, List.take_length]
    refine ⟨[.str (headT r.n)], _, rfl, rfl, by rw [List.length_map, List.length_map]; show 1 + _ ≤ _; omega, _, _, rfl, rfl, rfl, by rw [List.length_map]; omega, fun i acc Γ => Γ = [.im (rD r), .ce (.ls ([.str (headT r.n)] ++ (r.st.map stepT).map .str)), .un, .un] ∧ acc = ((r.en.take i).map fun e : Nat => nT (e : Int)).map .str, ⟨rfl, rfl⟩, fun _ _ _ _ => trivial, ?_, ?_⟩
    · rintro i d acc Γ hd ⟨rfl, rfl⟩
      obtain ⟨e, he, rfl⟩ := get_of_map hd
      have hm := k.en e (List.mem_of_getElem? he)
      refine ⟨_, rfl, fxU, fun _ => ⟨hh _ (by omega) (by omega), rfl, ?_⟩, nofun⟩
      rw [take_map he, List.map_append]
      rfl
    · rintro acc Γ ⟨rfl, rfl⟩
      rw [List.length_map, List.take_length]
      refine ⟨r.en.map fun e : Nat => nT (e : Int), rfl, ?_, small_line ?_, Nat.le_of_ble_eq_true rfl, _, _, rfl, rfl, ?_, linesR r, ?_, ?_, z⟩
      · have h1 : ((r.en.map fun e : Nat => nT (e : Int)).map (·.length)).sum ≤ ((r.en.map fun e : Nat => nT (e : Int)).map (·.length)).length * 4 := sum_le fun x hx => by
          obtain ⟨p, hp, rfl⟩ := List.mem_map.mp hx
          obtain ⟨e, he, rfl⟩ := List.mem_map.mp hp
          have := k.en e he
          exact nT_len (by omega) (by omega)
        rw [List.length_map, List.length_map] at h1
        have : (Str.ofString " ").length = 1 := rfl
        rw [this, List.length_map]
        omega
      · have h2 := join_len (y := SP) (parts := r.en.map fun e : Nat => nT (e : Int)) (m := 4) (k := 100) (fun p hp => by
          obtain ⟨e, he, rfl⟩ := List.mem_map.mp hp
          have := k.en e he
          exact nT_len (by omega) (by omega)) (by rw [List.length_map]; omega) rfl
        have : (Str.ofString "ends ").length = 5 := l5
        rw [this]
        have h3 : (Txt.join (Str.ofString " ") (r.en.map fun e : Nat => nT (e : Int))).length ≤ 100 * (4 + 1) := h2
        omega
      · rw [List.length_append, List.length_map, List.length_map]; show 1 + _ + 1 ≤ _; omega
      · show some _ = some _
        unfold linesR
        rw [List.map_append, List.map_append]
        rfl
      · have h1 : ((linesR r).map (·.length)).sum ≤ ((linesR r).map (·.length)).length * 505 := sum_le fun x hx => by
          obtain ⟨p, hp, rfl⟩ := List.mem_map.mp hx
          exact lines_len k p hp
        rw [List.length_map, lines_cnt] at h1
        have : (Str.ofString "\n").length = 1 := rfl
        rw [this, lines_cnt]
        omega
def sp_read_head : GSp := fun args Z => ∃ n : Nat, args = [.im (.str (headT n))] ∧ n < 100 ∧ Z (.im (.int (n : Int))) args
def N_read_head : List Str := ["line", "words", "numbers"]
def w_read_head : WS := (wSeq (wAsg 1 (wSplit (wVar 0) (wC (.str " ")))) (wSeq (wAsg 2 (wCall sp_numbers_of (wCons (wSl (wVar 1) (wPart (wC (.int 1))) wNo) wNil))) (wRet 1 (wIfE (wAnd (wTest (wOp gEq (wIx (wVar 1) (wC (.int 0))) (wC (.str "inputs")))) (wAnd (wTest (wOp gNotN (wVar 2) (wC .non))) (wTest (wOp gEq (wB gLen (wCons (wVar 2) wNil)) (wC (.int 1)))))) (wIx (wVar 2) (wC (.int 0))) (wC .non)))))
theorem vc_read_head : ∀ args Z, sp_read_head args Z → args.length = 1 ∧ w_read_head (endsOf 1 Z) (args ++ List.replicate (N_read_head.length - 1) .un) := by
  rintro args Z ⟨n, rfl, h, z⟩
  have hl := headT_len h
  have e : Txt.split (headT n) (Str.ofString " ") = [("inputs" : Str), nT n] := by
    rw [headT_join]
    exact split_sp (by simp) (headT_free h (c := 0)).1
  refine ⟨rfl, ⟨_, rfl⟩, rfl, small_line (by omega), ?_⟩
  rw [e]
  refine ⟨_, rfl, rfl, [(n : Int)], rfl, ?_, Nat.le_of_ble_eq_true rfl, ?_⟩
  · intro m hm
    rw [List.mem_singleton] at hm
    omega
  · exact ⟨_, _, rfl, rfl, itY (by decide +kernel) (itY rfl ⟨_, rfl, itY rfl ⟨_, _, rfl, rfl, z⟩⟩)⟩
def sp_read_ends : GSp := fun args Z => ∃ e : List Nat, args = [.im (.str (endT e))] ∧ e ≠ [] ∧ e.length ≤ 100 ∧ (∀ x ∈ e, x < 100) ∧ Z (.im (nsD e)) args
def N_read_ends : List Str := ["line", "words"]
def w_read_ends : WS := (wSeq (wAsg 1 (wSplit (wVar 0) (wC (.str " ")))) (wRet 1 (wIfE (wAnd (wTest (wOp gEq (wIx (wVar 1) (wC (.int 0))) (wC (.str "ends")))) (wTest (wOp gGt (wB gLen (wCons (wVar 1) wNil)) (wC (.int 1))))) (wCall sp_numbers_of (wCons (wSl (wVar 1) (wPart (wC (.int 1))) wNo) wNil)) (wC .non))))
theorem vc_read_ends : ∀ args Z, sp_read_ends args Z → args.length = 1 ∧ w_read_ends (endsOf 1 Z) (args ++ List.replicate (N_read_ends.length - 1) .un) := by
  rintro args Z ⟨e, rfl, hn, hl, h, z⟩
  have hl2 := endT_len hl hn h
  have ee : Txt.split (endT e) (Str.ofString " ") = ("ends" : Str) :: e.map fun i : Nat => nT (i : Int) := by
    rw [endT_join e hn]
    exact split_sp (by simp) (ends_free h (.inl rfl))
  refine ⟨rfl, ⟨_, rfl⟩, rfl, small_line (by omega), ?_⟩
  rw [ee]
  have hp : 0 < e.length := List.length_pos_iff.mpr hn
  refine ⟨_, .str "ends", rfl, atI_nat (i := 0) rfl, itY (by decide +kernel) ⟨_, rfl, itY ?_ ?_⟩⟩
  · rw [List.length_map, List.length_cons, List.length_map]
    exact decide_eq_true (by omega)
  · refine ⟨_, rfl, rfl, e.map fun i : Nat => (i : Int), ?_, ?_, by rw [List.length_map]; omega, ?_⟩
    · show [Sl.ce (.ls (cutD ((("ends" : Str) :: e.map fun i : Nat => nT (i : Int)).map .str) (some 1) none))] = _
      rw [List.map_cons, cutD_tail, List.map_map (f := fun i : Nat => (i : Int))]
      rfl
    · intro m hm
      obtain ⟨i, hi, rfl⟩ := List.mem_map.mp hm
      have := h i hi
      omega
    · show Z (.im (isD (e.map fun i : Nat => (i : Int)))) _
      have : isD (e.map fun i : Nat => (i : Int)) = nsD e := by
        unfold isD nsD
        rw [List.map_map]
        rfl
      rw [this]
      exact z
def sp_read_step : GSp := fun args Z => ∃ s : Stp, args = [.im (.str (stepT s))] ∧ NumL (numsS s) ∧ Z (.im (sD s)) args
def N_read_step : List Str := ["line", "words", "wanted", "numbers"]
def w_read_step : WS := (wSeq (wAsg 1 (wSplit (wVar 0) (wC (.str " ")))) (wSeq (wAsg 2 (wDispS [("in", 1), ("set", 1), ("neg", 1), ("+", 2), ("-", 2), ("*", 2)])) (wSeq (wAsg 3 (wCall sp_numbers_of (wCons (wSl (wVar 1) (wPart (wC (.int 1))) wNo) wNil))) (wSeq (wIf (wOr (wTest (wDNotInK (wIx (wVar 1) (wC (.int 0))) (wVar 2))) (wOr (wTest (wOp gIsN (wVar 3) (wC .non))) (wTest (wOp gNe (wB gLen (wCons (wVar 3) wNil)) (wDGetK (wVar 2) (wIx (wVar 1) (wC (.int 0)))))))) (wRet 1 (wC .non)) wNext) (wRet 1 (wOp gAdd (wTup (wCons (wIx (wVar 1) (wC (.int 0))) wNil)) (wVar 3)))))))
theorem vc_read_step : ∀ args Z, sp_read_step args Z → args.length = 1 ∧ w_read_step (endsOf 1 Z) (args ++ List.replicate (N_read_step.length - 1) .un) := by
  rintro args Z ⟨s, rfl, h, z⟩
  have hl := stepT_len h
  have ee : Txt.split (stepT s) (Str.ofString " ") = wordsS s := stepT_split h
  have h2 := nums_len s
  refine ⟨rfl, ⟨_, rfl⟩, rfl, small_line (by omega), ?_⟩
  rw [ee]
  refine ⟨_, rfl, rfl, numsS s, ?_, h, by omega, ?_⟩
  · show [Sl.ce (.ls (cutD ((wordsS s).map .str) (some 1) none))] = _
    unfold wordsS
    rw [List.map_cons, cutD_tail]
  · have e0 : ∀ m : List D, L2.atI (D.str (opW s) :: m) (0 : Int) = some (.str (opW s)) := fun m => atI_nat (i := 0) rfl
    have lk := look_kinds s
    have e3 : sD s = .tup ([.str (opW s)] ++ (numsS s).map .int) := by cases s <;> rfl
    rw [e3] at z
    refine ⟨_, .str (opW s), rfl, e0 _, _, .inr (opW s), rfl, rfl, itN (by rw [lk]; rfl) (itN rfl ⟨_, rfl, _, .str (opW s), rfl, e0 _, _, .inr (opW s), _, rfl, rfl, lk, itN ?_ ⟨_, .str (opW s), rfl, e0 _, Nat.le_of_ble_eq_true rfl, small_line ?_, z⟩⟩)⟩
    · simp
    · rw [List.length_map]
      show 1 + _ ≤ _
      omega
end G
set_option maxRecDepth 100000
set_option maxHeartbeats 4000000
/-! WT: the row of a text. -/
namespace G
open PySem PySem.Spec PyProof.Rows L2
def sp_read_row : GSp := fun args Z => ∃ r : Rw, args = [.im (.str (rowT r))] ∧ Smalls r ∧ Fits r ∧ Z (.im (rD r)) args
theorem linesD (r : Rw) : (linesR r).map D.str = .str (headT r.n) :: ((r.st.map stepT).map .str ++ [.str (endT r.en)]) := by
  unfold linesR
  rw [List.map_append, List.map_append]
  rfl
theorem linesD_len (r : Rw) : (.str (headT r.n) :: ((r.st.map stepT).map D.str ++ [.str (endT r.en)])).length = r.st.length + 2 := by simp
def N_read_row : List Str := ["value", "lines", "inputs", "steps", "number", "step", "ends", "row", "error"]
def w_read_row : WS := (wSeq (wIf (wNot (wTest (wIsi "str" (wVar 0)))) wNever wNext) (wSeq (wAsg 1 (wSplit (wVar 0) (wC (.str "\n")))) (wSeq (wPar 2 3 (wCons (wCall sp_read_head (wCons (wIx (wVar 1) (wC (.int 0))) wNil)) (wCons (wLst wNil) wNil))) (wSeq (wIf (wTest (wOp gIsN (wVar 2) (wC .non))) wNever wNext) (wSeq (wFor (wiRng2 (wCons (wC (.int 1)) (wCons (wOp gSub (wB gLen (wCons (wVar 1) wNil)) (wC (.int 1))) wNil))) (wgName 4) (wSeq (wAsg 5 (wCall sp_read_step (wCons (wIx (wVar 1) (wVar 4)) wNil))) (wSeq (wIf (wTest (wOp gIsN (wVar 5) (wC .non))) wNever wNext) (wDrop (wApp (wVar 3) (wVar 5)))))) (wSeq (wAsg 6 (wIfE (wTest (wOp gGt (wB gLen (wCons (wVar 1) wNil)) (wC (.int 1)))) (wCall sp_read_ends (wCons (wIx (wVar 1) (wUn gNeg (wC (.int 1)))) wNil)) (wC .non))) (wSeq (wIf (wTest (wOp gIsN (wVar 6) (wC .non))) wNever wNext) (wSeq (wAsg 7 (wTup (wCons (wVar 2) (wCons (wB gTuple (wCons (wVar 3) wNil)) (wCons (wVar 6) wNil))))) (wSeq (wAsg 8 (wCall sp_long_error (wCons (wVar 7) wNil))) (wSeq (wIf (wTest (wOp gNotN (wVar 8) (wC .non))) wNever wNext) (wRet 1 (wVar 7))))))))))))
theorem vc_read_row : ∀ args Z, sp_read_row args Z → args.length = 1 ∧ w_read_row (endsOf 1 Z) (args ++ List.replicate (N_read_row.length - 1) .un) := by
  rintro args Z ⟨r, rfl, k, f, z⟩
  have kl := k.ls
  have ht := rowT_len k
  have ee : Txt.split (rowT r) (Str.ofString "\n") = linesR r := lines_split k
  let LS : List D := .str (headT r.n) :: ((r.st.map stepT).map .str ++ [.str (endT r.en)])
  have hL : LS.length = r.st.length + 2 := linesD_len r
  have hL' : (((LS.length : Int) - 1) - 1).toNat = r.st.length := by rw [hL]; omega
  refine ⟨rfl, true, kSS, itN rfl ⟨⟨_, rfl⟩, rfl, small_line (by omega), ?_⟩⟩
  rw [ee, linesD]
  refine ⟨_, .str (headT r.n), rfl, atI_nat (i := 0) rfl, rfl, r.n, rfl, k.n, Nat.le_of_ble_eq_true rfl, itN rfl ⟨_, rfl, ⟨by omega, by omega, by rw [linesD_len]; omega, by rw [linesD_len]; omega⟩, fun i Γ => ∃ x y, Fx x ∧ Fx y ∧ Γ = [.im (.str (rowT r)), .ce (.ls LS), .im (.int (r.n : Int)), .ce (.ls ((r.st.take i).map sD)), x, y, .un, .un, .un], ⟨.un, .un, trivial, trivial, rfl⟩, ?_, ?_⟩⟩
  · rintro i d Γ hd ⟨x, y, hx, hy, rfl⟩
    obtain ⟨hi, rfl⟩ := rngD_of hd
    rw [hL'] at hi
    have hi' : i < r.st.length := hi
    obtain ⟨s, hs⟩ : ∃ s, r.st[i]? = some s := ⟨_, List.getElem?_eq_getElem hi'⟩
    have hm := k.st s (List.mem_of_getElem? hs)
    have e1 : (1 : Int) + (i : Int) = ((i + 1 : Nat) : Int) := by omega
    have ea : L2.atI LS ((1 : Int) + (i : Int)) = some (.str (stepT s)) := by
      rw [e1]
      refine atI_nat ?_
      show ((r.st.map stepT).map D.str ++ [.str (endT r.en)])[i]? = _
      rw [List.getElem?_append_left (by rw [List.length_map, List.length_map]; exact hi'), List.getElem?_map, List.getElem?_map, hs]
      rfl
    refine ⟨_, rfl, hx, _, _, rfl, ea, rfl, s, rfl, hm, itN (by cases s <;> rfl) ⟨⟨_, rfl⟩, _, rfl, ?_, .im (.int ((1 : Int) + (i : Int))), .im (sD s), trivial, trivial, ?_⟩⟩
    · rw [List.length_map, List.length_take]; omega
    · rw [take_map hs]
      rfl
  · rintro Γ ⟨x, y, hx, hy, rfl⟩
    rw [rngD_len, hL', List.take_length]
    have el : L2.atI LS (-1 : Int) = some (.str (endT r.en)) := by
      have : LS = (.str (headT r.n) :: (r.st.map stepT).map D.str) ++ [.str (endT r.en)] := rfl
      rw [this]
      exact atI_last
    refine ⟨_, rfl, itY ?_ ⟨_, _, rfl, el, rfl, r.en, rfl, k.ne, k.le, k.en, itN rfl ⟨_, rfl, Nat.le_of_ble_eq_true rfl, rfl, r, rfl, f, itN rfl z⟩⟩⟩
    rw [hL]
    exact decide_eq_true (by omega)
end G
set_option maxRecDepth 100000
set_option maxHeartbeats 4000000
/-! L6: list(enumerate(a tuple)). -/
namespace G
open PySem PySem.Spec PyProof.Rows L2 PySem.Calls PyProof.V PySem.W
section
variable {prog : Program} {w : World} {A : Around} {E : Value → Shared → Prop} {s : Shared}
theorem le_next_held {e it l T : Addr} {i : Nat} {items : Array Value} {x old : Value} {f : Bool} {oT : Obj} {Q : Value → Shared → Prop}
    (he : IsEnumHeld s.heap e it i old T f) (hT : s.heap.get? T = some oT) (hTe : T ≠ e) (hTi : T ≠ it) (hit : s.heap.IsTupleIter it l i) (hl : s.heap.IsTuple l items) (hx : items[i]? = some x) (hne : e ≠ it)
    (hQ : ∀ h', IsEnumHeld h' e it ((i : Int) + 1) old T true → h'.IsTupleIter it l (i + 1) →
      h'.get? s.heap.objs.size = some { cls := .type "tuple", data := .seq #[.int i s.toks, x] } → h'.objs.size = s.heap.objs.size + 1 →
      (∀ b o, b ≠ e → b ≠ it → s.heap.get? b = some o → h'.get? b = some o) → Q (.ref s.heap.objs.size) { s with heap := h', toks := s.toks + 1 }) :
    wpAny (model prog w) A (Builtin.«enumerate.__next__» ⟨[.ref e], []⟩) (fun fin s' => ∃ v, fin = .done (.ret v) ∧ Q v s') E s := by
  obtain ⟨hp, g, d, tk, os⟩ := s
  show wpAny _ _ (field (.ref e) 2 >>= _) _ _ _
  refine wpAny_bind (wpAny_field he rfl (x := .ref it) rfl ?_)
  refine wpAny_bind (wpAny_nextOf_tuple_item hit hl hx fun h₁ hit₁ hs₁ => ?_)
  replace hs₁ : Heap.SameBut it hp h₁ := hs₁
  have he₁ : IsEnumHeld h₁ e it i old T f := (hs₁.2 e hne).trans he
  show wpAny _ _ (field (.ref e) 3 >>= _) _ _ ⟨h₁, g, d, tk, os⟩
  refine wpAny_bind (wpAny_field he₁ rfl (x := rawInt i) rfl ?_)
  show wpAny _ _ (field (.ref e) 4 >>= _) _ _ ⟨h₁, g, d, tk, os⟩
  refine wpAny_bind (wpAny_field he₁ rfl (x := .none) rfl ?_)
  show wpAny _ _ (mkInt i >>= _) _ _ ⟨h₁, g, d, tk, os⟩
  refine wpAny_bind (wpAny_mkInt ?_)
  show wpAny _ _ (setField (.ref e) 3 (rawInt ((i : Int) + 1)) >>= _) _ _ ⟨h₁, g, d, tk + 1, os⟩
  refine wpAny_bind (wpAny_setField_rec he₁ (by simp) fun h₂ he₂ hs₂ => ?_)
  replace hs₂ : Heap.SameBut e h₁ h₂ := hs₂
  replace he₂ : IsEnumHeld h₂ e it ((i : Int) + 1) old T f := he₂
  show wpAny _ _ (setField (.ref e) 4 .none >>= _) _ _ ⟨h₂, g, d, tk + 1, os⟩
  refine wpAny_bind (wpAny_setField_rec he₂ (by simp) fun h₃ he₃ hs₃ => ?_)
  replace hs₃ : Heap.SameBut e h₂ h₃ := hs₃
  replace he₃ : IsEnumHeld h₃ e it ((i : Int) + 1) old T f := he₃
  show wpAny _ _ (newTuple [.int i tk, x] >>= _) _ _ ⟨h₃, g, d, tk + 1, os⟩
  refine wpAny_bind (wpAny_newTuple ?_)
  have he₄ : IsEnumHeld (h₃.push { cls := .type "tuple", data := .seq #[.int i tk, x] }) e it ((i : Int) + 1) old T f := Heap.get?_push_of_some _ he₃
  generalize hh₄ : h₃.push { cls := .type "tuple", data := .seq #[.int i tk, x] } = h₄ at he₄
  have hsz : h₃.objs.size = hp.objs.size := by rw [hs₃.1, hs₂.1, hs₁.1]
  have hel : e < hp.objs.size := Heap.lt_size he
  have ht₄ : h₄.get? hp.objs.size = some { cls := .type "tuple", data := .seq #[.int i tk, x] } := by rw [← hh₄, ← hsz]; exact Heap.get?_push_size _ rfl
  have hz₄ : h₄.objs.size = hp.objs.size + 1 := by rw [← hh₄, Heap.size_push, hsz]
  have hk₄ : ∀ b o, b ≠ e → b ≠ it → hp.get? b = some o → h₄.get? b = some o := fun b o hbe hbi hb => by
    rw [← hh₄]; exact Heap.get?_push_of_some _ (hs₃.extBut b o hbe (hs₂.extBut b o hbe (hs₁.extBut b o hbi hb)))
  have hit₄ : h₄.IsTupleIter it l (i + 1) := by
    rw [← hh₄]
    exact (hit₁.at fun o q => hs₃.extBut it o (Ne.symm hne) (hs₂.extBut it o (Ne.symm hne) q)).at fun o q => Heap.get?_push_of_some _ q
  show wpAny _ _ (Builtin.SmallTypes.ownedTupleIsFree (.ref e) >>= _) _ _ ⟨h₄, g, d, tk + 1, os⟩
  rw [hsz]
  clear hh₄ he₃ hs₃ he₂ hs₂ he₁ hs₁ hit₁ hsz h₃ h₂ h₁
  refine wpAny_bind (wpAny_tupleHeld_enum (s := ⟨h₄, g, d, tk + 1, os⟩) he₄ (hk₄ T oT hTe hTi hT) fun h₅ he₅ hs₅ => ?_)
  replace hs₅ : Heap.SameBut e h₄ h₅ := hs₅
  simp only [Bool.false_eq_true, if_false]
  refine wpAny_pure ⟨_, rfl, hQ h₅ he₅ (hit₄.at fun o q => hs₅.extBut it o (Ne.symm hne) q) (hs₅.extBut _ _ (Nat.ne_of_gt hel) ht₄) ?_ fun b o hbe hbi hb => hs₅.extBut b o hbe (hk₄ b o hbe hbi hb)⟩
  show h₅.objs.size = hp.objs.size + 1
  rw [hs₅.1, hz₄]
theorem le_pyNext_held {e it l T : Addr} {i : Nat} {items : Array Value} {x old : Value} {f : Bool} {oT : Obj} {Q : Option Value → Shared → Prop}
    (he : IsEnumHeld s.heap e it i old T f) (hT : s.heap.get? T = some oT) (hTe : T ≠ e) (hTi : T ≠ it) (hit : s.heap.IsTupleIter it l i) (hl : s.heap.IsTuple l items) (hx : items[i]? = some x) (hne : e ≠ it)
    (hQ : ∀ h', IsEnumHeld h' e it ((i : Int) + 1) old T true → h'.IsTupleIter it l (i + 1) →
      h'.get? s.heap.objs.size = some { cls := .type "tuple", data := .seq #[.int i s.toks, x] } → h'.objs.size = s.heap.objs.size + 1 →
      (∀ b o, b ≠ e → b ≠ it → s.heap.get? b = some o → h'.get? b = some o) → Q (some (.ref s.heap.objs.size)) { s with heap := h', toks := s.toks + 1 }) :
    wpAny (model prog w) A (pyNext (.ref e)) Q E s := by
  have hTy : s.TypeIs (.ref e) "enumerate" := ⟨_, he, rfl⟩
  unfold pyNext
  exact wpAny_bind (wpAny_attempt (wpAny_callSpecial?_slot (name := Str.ofString "__next__") hTy F.slot_enumerate_next
    (wpAny_call_entry F.slot_enumerate_next hTy F.entry_enumerate_next
      (le_next_held he hT hTe hTi hit hl hx hne fun h' a1 a2 a3 a4 a5 => wpAny_pure (hQ h' a1 a2 a3 a4 a5)) (F.args_enumerate_next_1 _))))
theorem le_end_held {e it l T : Addr} {i : Nat} {items : Array Value} {old : Value} {f : Bool} {Q : Option Value → Shared → Prop} (hh : A.handled = none)
    (he : IsEnumHeld s.heap e it i old T f) (hit : s.heap.IsTupleIter it l i) (hl : s.heap.IsTuple l items) (hx : items[i]? = none)
    (hQ : ∀ h', Heap.ExtBut it s.heap h' → Q none { s with heap := h' }) : wpAny (model prog w) A (pyNext (.ref e)) Q E s := by
  have hTy : s.TypeIs (.ref e) "enumerate" := ⟨_, he, rfl⟩
  unfold pyNext
  refine wpAny_bind (wpAny_attempt (wpAny_callSpecial?_slot (name := Str.ofString "__next__") hTy F.slot_enumerate_next
    (wpAny_call_entry F.slot_enumerate_next hTy F.entry_enumerate_next ?_ (F.args_enumerate_next_1 _))))
  show wpAny _ _ (field (.ref e) 2 >>= _) _ _ _
  refine wpAny_bind (wpAny_field he rfl (x := .ref it) rfl ?_)
  refine wpAny_bind (wpAny_nextOf_tuple_end (A := A.in1) (show A.in1.handled = none from hh) hit hl hx fun h' x he' hx' => ?_)
  obtain ⟨o, ho, hc⟩ := hx'
  refine wpAny_bind (wpAny_isInstance (T := "StopIteration") (b := true) ⟨o, ho, hc⟩ isSubtype_stop ?_)
  exact wpAny_pure (hQ _ he')
end
/-- the enumerate at e, i items drawn, the list being made at S -/
def LeSt (h : Heap) (e it t S : Addr) (i : Nat) : Prop :=
  h.IsTupleIter it t i ∧ ((∃ old, IsEnum h e it (i : Int) old) ∨ ∃ old T f oT, IsEnumHeld h e it (i : Int) old T f ∧ h.get? T = some oT ∧ T ≠ e ∧ T ≠ it ∧ T ≠ S)
theorem LeSt.keep {h h' : Heap} {e it t S : Addr} {i : Nat} (x : LeSt h e it t S i) (hk : ∀ b o, b ≠ S → h.get? b = some o → h'.get? b = some o) (he : e ≠ S) (hi : it ≠ S) : LeSt h' e it t S i := by
  obtain ⟨a, ⟨old, b⟩ | ⟨old, T, f, oT, b, c, d1, d2, d3⟩⟩ := x
  · exact ⟨a.at fun o q => hk it o hi q, .inl ⟨old, hk e _ he b⟩⟩
  · exact ⟨a.at fun o q => hk it o hi q, .inr ⟨old, T, f, oT, hk e _ he b, hk T _ d3 c, d1, d2, d3⟩⟩
section
variable {prog : Program} {w : World} {A : Around} {E : Value → Shared → Prop} {s : Shared}
theorem le_item {e it t S : Addr} {i : Nat} {items : Array Value} {x : Value} {Q : Option Value → Shared → Prop} (hh : A.handled = none) (st : LeSt s.heap e it t S i) (hS : S < s.heap.objs.size) (hl : s.heap.IsTuple t items) (hx : items[i]? = some x) (hne : e ≠ it) (hte : t ≠ e) (hti : t ≠ it)
    (hQ : ∀ h' tk key, keyIs (.inl (i : Int)) key = true → LeSt h' e it t S (i + 1) → h'.get? s.heap.objs.size = some { cls := .type "tuple", data := .seq #[key, x] } → h'.objs.size = s.heap.objs.size + 1 →
      (∀ b o, b ≠ e → b ≠ it → s.heap.get? b = some o → h'.get? b = some o) → Q (some (.ref s.heap.objs.size)) { s with heap := h', toks := tk }) :
    wpAny (model prog w) A (pyNext (.ref e)) Q E s := by
  obtain ⟨hit, ⟨old, he⟩ | ⟨old, T, f, oT, he, hT, hTe, hTi, hTS⟩⟩ := st
  · have hlt : i < items.size := (Array.getElem?_eq_some_iff.mp hx).1
    have hel : e < s.heap.objs.size := Heap.lt_size he
    have hil : it < s.heap.objs.size := by obtain ⟨_, q, _⟩ := hit; exact Heap.lt_size q
    refine wpAny_pyNext_enum_itemC (Draws.tuple (A := A.in1) (show A.in1.handled = none from hh) it t hti items) (c := ((i : Nat) : Int)) he ⟨hit, hl⟩ hlt hne (by simp; exact ⟨hne, Ne.symm hte⟩) fun u' h' tk hu' ho hst' hT hsz hk => ?_
    have eu : u' = x := by rw [hx] at hu'; cases hu'; rfl
    subst eu
    have e1 : ((i + 1 : Nat) : Int) = (i : Int) + 1 := by omega
    refine hQ h' _ (.int i tk) ?_ ⟨hst'.1, .inr ⟨u', s.heap.objs.size, false, _, by rw [e1]; exact ho, hT, Nat.ne_of_gt hel, Nat.ne_of_gt hil, Nat.ne_of_gt hS⟩⟩ hT hsz hk
    simp [keyIs, Value.isInt]
  · refine le_pyNext_held he hT hTe hTi hit hl hx hne fun h' he' hit' hT' hsz hk => ?_
    have e1 : ((i + 1 : Nat) : Int) = (i : Int) + 1 := by omega
    refine hQ h' _ (.int i s.toks) ?_ ⟨hit', .inr ⟨old, T, true, oT, by rw [e1]; exact he', hk T oT hTe hTi hT, hTe, hTi, hTS⟩⟩ hT' hsz hk
    simp [keyIs, Value.isInt]
theorem le_done {e it t S : Addr} {i : Nat} {items : Array Value} {Q : Option Value → Shared → Prop} (hh : A.handled = none) (st : LeSt s.heap e it t S i) (hl : s.heap.IsTuple t items) (hx : items[i]? = none)
    (hQ : ∀ h', Heap.ExtBut it s.heap h' → Q none { s with heap := h' }) : wpAny (model prog w) A (pyNext (.ref e)) Q E s := by
  obtain ⟨hit, ⟨old, he⟩ | ⟨old, T, f, oT, he, hT, hTe, hTi, hTS⟩⟩ := st
  · exact wpAny_pyNext_enum_end_tup hh he hit hl hx hQ
  · exact le_end_held hh he hit hl hx hQ
end
def numP {α : Type} : Nat → List α → List (Key × α)
  | _, [] => []
  | n, x :: l => (.inl (n : Int), x) :: numP (n + 1) l
theorem numP_len {α : Type} : ∀ (l : List α) (n : Nat), (numP n l).length = l.length
  | [], _ => rfl
  | _ :: l, n => congrArg (· + 1) (numP_len l (n + 1))
theorem numP_get {α : Type} : ∀ (l : List α) (n i : Nat), (numP n l)[i]? = l[i]?.map fun x => ((.inl ((n + i : Nat) : Int) : Key), x)
  | [], _, i => by simp [numP]
  | x :: l, n, 0 => rfl
  | x :: l, n, i + 1 => by
    show (numP (n + 1) l)[i]? = _
    rw [numP_get l (n + 1) i]
    have : n + 1 + i = n + (i + 1) := by omega
    rw [this]
    rfl
theorem nolen_en : typeLookup (.type "enumerate") "__len__" = pure none := by rw [typeLookup_type, builtinLookup_eq_fast]; kernel_rfl
theorem nohint_en : typeLookup (.type "enumerate") "__length_hint__" = pure none := by rw [typeLookup_type, builtinLookup_eq_fast]; kernel_rfl
section
variable {prog : Program} {w : World} {A : Around} {s : Shared} {R : Result → Shared → Prop} {items : Array Value}
theorem le_loop {S e it t : Addr} (hh : A.handled = none) (hSe : S ≠ e) (hSi : S ≠ it) (hSt : t ≠ S) (hne : e ≠ it) (hte : t ≠ e) (hti : t ≠ it) (hn : items.size ≤ sizeLine) (res : Value) {h₁ : Heap} (lo : Addr) (hSl : S ≤ lo) (hel : e ≤ lo) (hil : it ≤ lo)
    (hR : ∀ h' tk acc c as, (∀ b o, b ≠ S → b ≠ e → b ≠ it → h₁.get? b = some o → h'.get? b = some o) → h'.get? S = some { cls := .type "list", dict := none, data := .seq acc c, slots := #[] } → as.length = items.size → KdxG (mixKind prog w) (numP 0 items.toList) lo h' as →
      acc.toList = as.map Value.ref → R (.ok (.ret res)) { s with heap := h', toks := tk }) :
    ∀ (k i : Nat) (h : Heap) (tk c : Nat) (acc : Array Value) (as : List Addr), items.size - i = k → i ≤ items.size → LeSt h e it t S i → h.IsTuple t items → (∀ b o, b ≠ S → b ≠ e → b ≠ it → h₁.get? b = some o → h.get? b = some o) →
      h.get? S = some { cls := .type "list", dict := none, data := .seq acc c, slots := #[] } → acc.toList = as.map Value.ref → as.length = i → KdxG (mixKind prog w) (numP 0 items.toList) lo h as → lo < h.objs.size →
      codeAny (model prog w) A (.builtin "list.extend.loop" ⟨[.ref S, .ref e, res], []⟩) R { s with heap := h, toks := tk } := by
  intro k
  induction k with
  | zero =>
    intro i h tk c acc as hk hi hst hD hkeep hS hacc hal hG hIs
    refine codeAny_builtin PySem.F.entry_extend_loop ?_
    rw [Around.under_plainId PySem.F.plain_extend_loop _]
    show wpAny _ A.in1 (pyNext (.ref e) >>= _) _ _ _
    refine wpAny_bind (le_done (s := { s with heap := h, toks := tk }) (A := A.in1) hh hst hD (by rw [Array.getElem?_eq_none]; omega) fun h' he => ?_)
    refine wpAny_pure (hR h' tk acc c as (fun b o h1 h2 h3 q => he b o h3 (hkeep b o h1 h2 h3 q)) (he S _ hSi hS) (by omega) ⟨hG.rise, hG.above, fun j a hj => ?_⟩ hacc)
    obtain ⟨key, kk, x, e1, e2, e3⟩ := hG.pairs j a hj
    exact ⟨key, kk, x, e1, e2, he a _ (Nat.ne_of_gt (Nat.lt_of_le_of_lt hil (hG.above a (List.mem_of_getElem? hj)))) e3⟩
  | succ k ih =>
    intro i h tk c acc as hk hi hst hD hkeep hS hacc hal hG hIs
    have hlt : i < items.size := by omega
    obtain ⟨x, hx⟩ : ∃ p, items[i]? = some p := ⟨items[i], Array.getElem?_eq_getElem hlt⟩
    have hsz : acc.size = i := by rw [← Array.length_toList, hacc, List.length_map, hal]
    refine codeAny_builtin PySem.F.entry_extend_loop ?_
    rw [Around.under_plainId PySem.F.plain_extend_loop _]
    show wpAny _ A.in1 (pyNext (.ref e) >>= _) _ _ _
    refine wpAny_bind (le_item (s := { s with heap := h, toks := tk }) (A := A.in1) (S := S) hh hst (Heap.lt_size hS) hD hx hne hte hti fun h' tk' key hkey hst' ht hz hkp => ?_)
    dsimp only at ht hz hkp ⊢
    have hS' := hkp S _ hSe hSi hS
    have up : ∀ b o, b ≠ S → h'.get? b = some o → (h'.update S (Obj.mapSeq (·.push (Value.ref h.objs.size)))).get? b = some o := fun b o hb q => (Heap.get?_update_other _ _ (Ne.symm hb)).trans q
    have hSz : S < h.objs.size := Heap.lt_size hS
    show wpAny _ A.in1 (updateSeq S (·.push (Value.ref h.objs.size)) >>= _) _ _ _
    refine wpAny_bind ?_
    refine wpAny_updateSeq hS' rfl (wpAny_pure ⟨plainId_quiet PySem.F.plain_extend_loop _, ih (i + 1) _ tk' _ (acc.push (Value.ref h.objs.size)) (as ++ [h.objs.size]) (by omega) hlt (hst'.keep up (Ne.symm hSe) (Ne.symm hSi)) (hD.at fun o q => up t o hSt (hkp t o hte hti q))
      (fun b o h1 h2 h3 q => up b o h1 (hkp b o h2 h3 (hkeep b o h1 h2 h3 q))) (Heap.get?_update_self _ hS' rfl) (by rw [Array.toList_push, hacc, List.map_append]; rfl) (by rw [List.length_append, hal]; rfl) ⟨?_, ?_, ?_⟩ ?_⟩) (by rw [hsz]; omega) (by show (acc.push (Value.ref h.objs.size)).size ≤ sizeLine + 1; rw [Array.size_push, hsz]; omega)
    · refine List.pairwise_append.mpr ⟨hG.rise, List.pairwise_singleton _ _, fun a ha b hb => ?_⟩
      rw [List.mem_singleton.mp hb]
      exact hG.there ha
    · intro a ha
      rcases List.mem_append.mp ha with ha | ha
      · exact hG.above a ha
      · rw [List.mem_singleton.mp ha]; exact hIs
    · intro j b hj
      rcases Nat.lt_trichotomy j as.length with h1 | h1 | h1
      · rw [List.getElem?_append_left h1] at hj
        obtain ⟨key', k', x', e1, e2, e3⟩ := hG.pairs j b hj
        have hb := hG.above b (List.mem_of_getElem? hj)
        exact ⟨key', k', x', e1, e2, up b _ (Nat.ne_of_gt (Nat.lt_of_le_of_lt hSl hb)) (hkp b _ (Nat.ne_of_gt (Nat.lt_of_le_of_lt hel hb)) (Nat.ne_of_gt (Nat.lt_of_le_of_lt hil hb)) e3)⟩
      · subst h1
        have hb : h.objs.size = b := by simpa using hj
        subst hb
        refine ⟨key, .inl (i : Int), x, ?_, hkey, up _ _ (Nat.ne_of_gt hSz) ht⟩
        rw [numP_get, hal, Array.getElem?_toList, hx, Nat.zero_add]
        rfl
      · have hnone : (as ++ [h.objs.size])[j]? = none := List.getElem?_eq_none (by rw [List.length_append, List.length_singleton]; omega)
        rw [hnone] at hj; cases hj
    · have q : (h'.update S (Obj.mapSeq (·.push (Value.ref h.objs.size)))).get? h.objs.size = _ := up _ _ (Nat.ne_of_gt hSz) ht
      exact Nat.lt_trans hIs (Heap.lt_size q)
theorem le_extend {S e it t : Addr} (hh : A.handled = none) (hSe : S ≠ e) (hSi : S ≠ it) (hSt : t ≠ S) (hne : e ≠ it) (hte : t ≠ e) (hti : t ≠ it) (hn : items.size ≤ sizeLine) (res : Value) (c₀ : Nat) (lo : Addr) (hSl : S ≤ lo) (hel : e ≤ lo) (hil : it ≤ lo) (hlo : lo < s.heap.objs.size)
    (he : IsEnum s.heap e it 0 .none) (hit : s.heap.IsTupleIter it t 0) (ht : s.heap.IsTuple t items) (hS : s.heap.get? S = some { cls := .type "list", data := .seq #[] c₀ })
    (hR : ∀ h' tk acc c as, (∀ b o, b ≠ S → b ≠ e → b ≠ it → s.heap.get? b = some o → h'.get? b = some o) → h'.get? S = some { cls := .type "list", dict := none, data := .seq acc c, slots := #[] } → as.length = items.size → KdxG (mixKind prog w) (numP 0 items.toList) lo h' as →
      acc.toList = as.map Value.ref → R (.ok (.ret res)) { s with heap := h', toks := tk }) :
    wpAny (model prog w) A.in1 (Builtin.List.listExtendWith (.ref S) (.ref e) res)
      (fun fin s' => match fin with | .done f => R (.ok f) s' | .again c' => c'.quiet = true ∧ codeAny (model prog w) A c' R s') (fun e s' => R (.error e) s') s := by
  have hT : s.TypeIs (.ref e) "enumerate" := ⟨_, he, rfl⟩
  unfold Builtin.List.listExtendWith
  refine wpAny_bind (wpAny_typeOf hT ?_)
  have h1 : Builtin.List.listSameRef (.ref S) (.ref e) = false := by simp [Builtin.List.listSameRef, hSe]
  have h2 : (Value.type "enumerate" == Value.type "list") = false := by decide
  have h3 : (Value.type "enumerate" == Value.type "tuple") = false := by decide
  simp only [h1, h2, h3, Bool.or_false, Bool.false_eq_true, if_false]
  refine wpAny_bind (wpAny_pyIter_enum he ?_)
  refine wpAny_bind (wpAny_holding ?_)
  unfold Builtin.List.listLengthHint
  refine wpAny_bind (wpAny_specialOf hT nolen_en ?_)
  show wpAny _ A.in1 (specialOf (Value.ref e) (Str.ofString "__length_hint__") >>= _) _ _ _
  refine wpAny_bind (wpAny_specialOf hT nohint_en ?_)
  refine wpAny_pure ?_
  show wpAny _ A.in1 (rule "list.extend.makes-room" >>= fun _ => Builtin.List.listTouch (.ref S) >>= fun _ =>
    again (.builtin "list.extend.loop" ⟨[.ref S, .ref e, res], []⟩)) _ _ _
  refine wpAny_bind (wpAny_rule ?_)
  refine wpAny_bind ?_
  show wpAny _ A.in1 (updateSeq S (·.push .none) >>= fun _ => updateSeq S (·.pop)) _ _ _
  refine wpAny_bind (wpAny_updateSeq hS rfl ?_)
  have hS₂ := Heap.get?_update_self (Obj.mapSeq (·.push Value.none)) hS rfl
  refine wpAny_updateSeq (hz := by seq_fits) hS₂ rfl ?_
  have hS₃ := Heap.get?_update_self (Obj.mapSeq (·.pop)) hS₂ rfl
  have oth : ∀ b o, b ≠ S → s.heap.get? b = some o → ((s.heap.update S (Obj.mapSeq (·.push Value.none))).update S (Obj.mapSeq (·.pop))).get? b = some o :=
    fun b o hb q => (Heap.get?_update_other _ _ (Ne.symm hb)).trans ((Heap.get?_update_other _ _ (Ne.symm hb)).trans q)
  refine wpAny_pure ⟨plainId_quiet PySem.F.plain_extend_loop _, le_loop (h₁ := s.heap) hh hSe hSi hSt hne hte hti hn res lo hSl hel hil hR items.size 0 _ _ _ #[] [] (Nat.sub_zero _) (Nat.zero_le _)
    ⟨hit.at fun o q => oth it o (Ne.symm hSi) q, .inl ⟨.none, oth e _ (Ne.symm hSe) he⟩⟩ (ht.at fun o q => oth t o hSt q) (fun b o hb _ _ q => oth b o hb q) hS₃ rfl rfl ⟨List.Pairwise.nil, (fun _ ha => nomatch ha), (fun j a hj => by simp at hj)⟩ ?_⟩
  have : lo < s.heap.objs.size := hlo
  simpa [Heap.size_update] using this
end
section
variable {prog : Program} {w : World} {A : Around} {E : Value → Shared → Prop} {s : Shared} {items : Array Value}
theorem le_call {e it t : Addr} {Q : Value → Shared → Prop} (hh : A.handled = none) (hne : e ≠ it) (hte : t ≠ e) (hti : t ≠ it) (hn : items.size ≤ sizeLine)
    (he : IsEnum s.heap e it 0 .none) (hit : s.heap.IsTupleIter it t 0) (ht : s.heap.IsTuple t items)
    (hQ : ∀ h' tk acc c as, (∀ b o, b ≠ e → b ≠ it → s.heap.get? b = some o → h'.get? b = some o) → h'.get? s.heap.objs.size = some { cls := .type "list", dict := none, data := .seq acc c, slots := #[] } → as.length = items.size → KdxG (mixKind prog w) (numP 0 items.toList) s.heap.objs.size h' as →
      acc.toList = as.map Value.ref → Q (.ref s.heap.objs.size) { s with heap := h', toks := tk }) :
    wpAny (model prog w) A (call (.type "list") [.ref e]) Q E s := by
  refine callType_codes (Q₁ := fun obj s₁ => obj = .ref s.heap.objs.size ∧ s₁ = { s with heap := s.heap.push { cls := .type "list", data := .seq #[] } }) PySem.F.called_list (PySem.F.typeCall_list_1 _) PySem.F.entry_list_init
    (code_list_new _ ⟨rfl, rfl⟩) fun obj s₁ h₁ => ?_
  obtain ⟨rfl, rfl⟩ := h₁
  have hS : (s.heap.push { cls := .type "list", data := .seq #[] }).get? s.heap.objs.size = some { cls := .type "list", data := .seq #[] } := Heap.get?_push_size _ rfl
  have hel : e < s.heap.objs.size := Heap.lt_size he
  have hil : it < s.heap.objs.size := let ⟨_, ho, _⟩ := hit; Heap.lt_size ho
  have htl : t < s.heap.objs.size := let ⟨_, ho, _⟩ := ht; Heap.lt_size ho
  refine ⟨⟨_, hS, rfl⟩, PySem.F.args_list_init_2 _ _, ?_⟩
  show wpAny _ _ (do let old ← Builtin.List.listItems (.ref s.heap.objs.size); Builtin.List.listUpdate (.ref s.heap.objs.size) (fun _ => #[]); letGo old.toList.reverse; Builtin.List.listExtendWith (.ref s.heap.objs.size) (.ref e) .none) _ _ _
  refine wpAny_bind ?_
  unfold Builtin.List.listItems
  refine wpAny_bind (wpAny_seqItems hS rfl (wpAny_pure ?_))
  show wpAny _ _ (updateSeq s.heap.objs.size (fun _ => #[]) >>= fun _ => letGo (#[] : Array Value).toList.reverse >>= fun _ => Builtin.List.listExtendWith (.ref s.heap.objs.size) (.ref e) .none) _ _ _
  refine wpAny_bind (wpAny_updateSeq hS rfl ?_)
  have hS₂ := Heap.get?_update_self (Obj.mapSeq (fun _ => (#[] : Array Value))) hS rfl
  have oth : ∀ b o, b ≠ s.heap.objs.size → s.heap.get? b = some o → ((s.heap.push { cls := .type "list", data := .seq #[] }).update s.heap.objs.size (Obj.mapSeq (fun _ => (#[] : Array Value)))).get? b = some o :=
    fun b o hb q => (Heap.get?_update_other _ _ (Ne.symm hb)).trans (Heap.get?_push_of_some _ q)
  refine wpAny_bind (wpAny_letGo ?_)
  refine le_extend (A := A.in1) hh (Nat.ne_of_gt hel) (Nat.ne_of_gt hil) (Nat.ne_of_lt htl) hne hte hti hn .none _ s.heap.objs.size (Nat.le_refl _) (Nat.le_of_lt hel) (Nat.le_of_lt hil) ?_ (oth e _ (Nat.ne_of_lt hel) he) (hit.at fun o q => oth it o (Nat.ne_of_lt hil) q) (ht.at fun o q => oth t o (Nat.ne_of_lt htl) q) hS₂ (fun h' tk acc c as hk hS' hl hG hacc => ?_)
  · simp [Heap.size_update, Heap.size_push]
  · exact ⟨rfl, hQ h' tk acc c as (fun b o h1 h2 q => hk b o (Nat.ne_of_lt (Heap.lt_size q)) h1 h2 (oth b o (Nat.ne_of_lt (Heap.lt_size q)) q)) hS' hl hG hacc⟩
end
/-- the new list at L and its pairs, laid -/
theorem le_laid {X : Cx} {pins : List (Addr × Obj)} {σ : L2.St} {H : Hp} {s : Shared} {h' : Heap} {tk : Nat} {kvs : List (Key × V)} {vs : List (Key × Value)} {acc : Array Value} {c : Nat} {as : List Addr} {L : Addr} (I : Inv X pins σ H s) (hL : s.heap.objs.size ≤ L) (hz : kvs.length ≤ sizeLine) (kv : KV kvs vs)
    (hk : ∀ b o, s.heap.get? b = some o → h'.get? b = some o) (hS : h'.get? L = some { cls := .type "list", dict := none, data := .seq acc c, slots := #[] }) (hl : as.length = vs.length) (hG : PySem.W.KdxG (mixKind X.prog X.w) vs L h' as) (hacc : acc.toList = as.map Value.ref) :
    ∃ H' : Hp, Ex H H' ∧ H L = none ∧ H' L = some (.lst (as.map V.ref)) ∧ Paired (fun (t : Addr) (q : Key × V) => H' t = some (.tup [kV q.1, q.2])) as kvs ∧ Inv X pins σ H' { s with heap := h', toks := tk } := by
  have lk : kvs.length = vs.length := Paired.length kv
  have hup : ∀ b ∈ as, s.heap.objs.size ≤ b := fun b hb => Nat.le_trans hL (Nat.le_of_lt (hG.above b hb))
  have fresh : ∀ b, s.heap.objs.size ≤ b → H b = none := fun b hb => I.hok.fresh hb
  have out : L ∉ as := fun z => Nat.lt_irrefl _ (hG.above _ z)
  let H0 := upd H L (.lst (as.map V.ref))
  let H' := LiI.putT H0 as kvs
  have h1 : H' L = some (.lst (as.map V.ref)) := by
    show LiI.putT H0 as kvs L = _
    rw [LiI.putT_off as kvs _ out]
    exact upd_same
  have h2 := LiI.putT_at as kvs H0 (by omega) (List.Pairwise.imp (fun {a b} (h : a < b) => Nat.ne_of_lt h) hG.rise)
  have h3 : ∀ b, b ∉ as → b ≠ L → H' b = H b := fun b x y => (LiI.putT_off as kvs H0 x).trans (upd_ne y)
  have h4 : ∀ b, b < s.heap.objs.size → b ∉ as ∧ b ≠ L := fun b hb => ⟨fun z => Nat.lt_irrefl _ (Nat.lt_of_lt_of_le hb (hup b z)), fun z => Nat.lt_irrefl _ (Nat.lt_of_lt_of_le hb (z ▸ hL))⟩
  have ex : Ex H H' := fun b u e => by
    rw [h3 b (fun z => by rw [fresh b (hup b z)] at e; cases e) (fun z => by rw [z, fresh L hL] at e; cases e)]
    exact e
  refine ⟨H', ex, fresh L hL, h1, h2, I.call' (ch := []) rfl ⟨fun b o q _ _ _ => hk b o q, fun b o q _ _ _ => ⟨o.slots, hk b o q⟩, fun b o q n _ => ?_, fun b o q _ => ⟨o, hk b o q⟩, fun b xs q => ex b _ q, fun b o u q => ex b _ q, fun b ps q => ⟨#[], by rw [ex b _ q]; simp⟩⟩ (fun b u q => ?_) I.bare fun b z => by simp at z⟩
  · have := h4 b (Heap.lt_size q)
    rw [h3 b this.1 this.2]
    exact n
  · by_cases c1 : b ∈ as
    · obtain ⟨j, pk, e1, e2, e3⟩ := LiI.paired_ix h2 c1
      have e3' : H' b = _ := e3
      rw [e3'] at q
      cases q
      obtain ⟨key, k, x, f1, f2, f3⟩ := hG.pairs j b e1
      obtain ⟨qv, g1, g2, g3⟩ := LiI.paired_get kv e2
      rw [f1] at g1
      cases g1
      have rk : RelV (kV pk.1) key := by rw [g2]; exact relV_key (show keyIs k key = true from f2)
      exact ⟨by show 2 ≤ sizeLine; decide, [key, x], .cons rk (.cons g3 .nil), ⟨_, f3, rfl, _, rfl⟩⟩
    · by_cases c2 : b = L
      · subst c2
        rw [h1] at q
        cases q
        refine ⟨by rw [List.length_map]; omega, acc.toList, c, by rw [hacc]; exact LiI.vals_refs as, ?_⟩
        rw [Array.toArray_toList]
        exact hS
      · rw [h3 b c1 c2] at q
        exact (I.hok b u q).stay (fun d v _ y => hk d v y) (fun d y => ex d _ y) fun d xs y => ex d _ y
theorem kv_num {xs : List V} {us : List Value} (r : Vals xs us) : ∀ n, KV (numP n xs) (numP n us) := by
  induction r with
  | nil => exact fun n => .nil
  | cons a b ih => exact fun n => .cons ⟨rfl, a⟩ (ih (n + 1))
def tListEnum (K : PySem.W.Frag) (ta : TA) : TE := fun σ H Q => ta σ H fun vs H1 => ∃ a xs, vs = [.ref a] ∧ SqT K H1 a xs ∧
  ∀ (H' : Hp) (p : Addr) (ts : List Addr), Ex H1 H' → H1 p = none → H' p = some (.lst (ts.map V.ref)) → Paired (fun (t : Addr) (q : Key × V) => H' t = some (.tup [kV q.1, q.2])) ts (numP 0 xs) → Q (.ref p) H'
theorem pe_listEnum {X : Cx} {e : Expr} {ta : TA} {p p2 pos pos2 : Pos} (hc : X.calm = true) (hg : Gl X "list") (hm : X.mg "list" = none) (hv : bootBuiltins "list" = some (.type "list")) (hg2 : Gl X "enumerate") (hm2 : X.mg "enumerate" = none) (ha : PA X [e] ta) (hs2 : starEach [e] X.env = [(false, eval e X.env)] := by rfl)
    (hs : starEach [.Call (.Name "enumerate" p2) [e] [] pos2] X.env = (false, eval (.Call (.Name "enumerate" p2) [e] [] pos2) X.env) :: starEach [] X.env := by rfl) :
    PE X (.Call (.Name "list" p) [.Call (.Name "enumerate" p2) [e] [] pos2] [] pos) (tListEnum X.K ta) := by
  refine ⟨fun pins s σ H Q I hq => ?_⟩
  refine wpAny_Call_Name_kw (ld_blt I hg hm hv ?_)
  refine PyProof.Rows.callWith_type1 ?_ hs rfl
  rw [hs]
  show wpAny _ _ (spliced ((false, eval (.Call (.Name "enumerate" p2) [e] [] pos2) X.env) :: backTo pos (starEach [] X.env))) _ _ s
  refine Calls.spliced_cons ?_
  refine Call_ (ld_blt I hg2 hm2 boot_enumerate (PyProof.Rows.callWith_type1 (thn (ha.run pos2 pins s σ H _ I hq) fun us s1 ⟨vs, H1, I1, r1, q1⟩ => ?_) hs2 rfl))
  obtain ⟨a, xs, ex, hq', q⟩ := q1
  subst ex
  cases r1 with
  | cons r rr =>
    cases rr
    cases r
    obtain ⟨its, rv, p', hz⟩ := I1.tuple hq'
    have hlt : a < s1.heap.objs.size := by
      obtain ⟨o, ho, _⟩ := p'
      exact Heap.lt_size ho
    have hle := rv.length
    refine call_enumT (show s1.heap.IsTuple a its.toArray from p') fun h' he hit hsz hk => ?_
    refine Calls.spliced_nil ?_
    have pT : s1.heap.IsTuple a its.toArray := p'
    refine le_call (I1.ok.hd hc) (Nat.succ_ne_self _) (Nat.ne_of_lt (Nat.lt_succ_of_lt hlt)) (Nat.ne_of_lt hlt) (items := its.toArray) (by simp; omega) he hit (pT.at fun o q => hk a o q) fun h'' tk acc c as hk2 hS hl hG hacc => ?_
    obtain ⟨H', k1, k2, k3, k4, J⟩ := le_laid (tk := tk) (L := h'.objs.size) (kvs := numP 0 xs) (vs := numP 0 its) I1 (by rw [hsz]; omega) (by rw [numP_len]; omega) (kv_num rv 0) (fun b o q => hk2 b o (Nat.ne_of_lt (Nat.lt_succ_of_lt (Heap.lt_size q))) (Nat.ne_of_lt (Heap.lt_size q)) (hk b o q)) hS (by rw [numP_len, hl]; simp) hG hacc
    exact ⟨.ref _, H', J, rfl, q H' _ as k1 k2 k3 k4⟩
section
variable {X : Cx} {np : Nat} {p p2 pos pos2 : Pos} {e : Expr} {ta : TA} {wa : WA}
def wListEnum (wa : WA) : WE := fun Γ Z => wa Γ fun rs Γ1 => match rs with
  | [.im (.tup ds)] => Z (.tm (.ls (enumD ds))) Γ1
  | _ => False
theorem rngD_succ (n k : Nat) : rngD (n : Int) (k + 1) = .int (n : Int) :: rngD ((n + 1 : Nat) : Int) k := by
  unfold rngD
  rw [List.range_succ_eq_map, List.map_cons, List.map_map]
  have e0 : (n : Int) + ((0 : Nat) : Int) = (n : Int) := by omega
  rw [e0]
  congr 1
  refine List.map_congr_left fun i _ => ?_
  show D.int ((n : Int) + ((i + 1 : Nat) : Int)) = D.int (((n + 1 : Nat) : Int) + (i : Int))
  have : (n : Int) + ((i + 1 : Nat) : Int) = ((n + 1 : Nat) : Int) + (i : Int) := by omega
  rw [this]
theorem isa_num {K : PySem.W.Frag} {H H' : Hp} (t : Tx H H') : ∀ {xs : List V} {ds : List D} {ts : List Addr} (n : Nat), IsA K H xs ds → Paired (fun (t : Addr) (q : Key × V) => H' t = some (.tup [kV q.1, q.2])) ts (numP n xs) → IsA K H' (ts.map V.ref) (zipD (rngD (n : Int) ds.length) ds)
  | [], _, _, n, h, q => by cases h; cases q; exact .nil
  | x :: xs, _, _, n, h, q => by
    cases h with
    | @cons _ _ d ds a b =>
      have q' : Paired (fun (t : Addr) (q : Key × V) => H' t = some (.tup [kV q.1, q.2])) _ (((.inl (n : Int) : Key), x) :: numP (n + 1) xs) := q
      cases q' with
      | cons c r =>
        rw [List.length_cons, rngD_succ]
        exact .cons (.tup c (.cons (.int _) (.cons (Is.tx t a) .nil))) (isa_num t (n + 1) b r)
theorem g_listEnum (hc : X.calm = true) (hg : Gl X "list") (hm : X.mg "list" = none) (hv : bootBuiltins "list" = some (.type "list")) (hg2 : Gl X "enumerate") (hm2 : X.mg "enumerate" = none) (ha : GA X np [e] ta wa) (hs2 : starEach [e] X.env = [(false, eval e X.env)] := by rfl)
    (hs : starEach [.Call (.Name "enumerate" p2) [e] [] pos2] X.env = (false, eval (.Call (.Name "enumerate" p2) [e] [] pos2) X.env) :: starEach [] X.env := by rfl) : GE X np (.Call (.Name "list" p) [.Call (.Name "enumerate" p2) [e] [] pos2] [] pos) (tListEnum X.K ta) (wListEnum wa) :=
  ⟨pe_listEnum hc hg hm hv hg2 hm2 ha.pa hs2 hs, fun B P fps Γ σ H Q Z A w k => ha.sd B P fps Γ σ H _ _ A w fun vs rs gs Γ1 H1 A1 p1 r1 w1 => by
    split at w1
    · rename_i ds
      obtain ⟨v, rfl, r2⟩ := r1.one
      obtain ⟨a, xs, rfl, h1, h2⟩ := Is.inv_tup r2
      refine ⟨a, xs, rfl, .of h1, fun H' l ts ex hl hL hP => ?_⟩
      refine k _ (.tm (.ls (enumD ds))) Γ1 H' (A1.ex ex) (p1.trans (Pv.of_ex ex)) ⟨l, [l], rfl, ⟨rfl, _, hL, isa_num ex.tx 0 h2 hP⟩, fun b hb => ?_⟩ w1
      simp at hb
      subst hb
      exact A.freeBack A1 p1 _ hl
    · exact w1.elim⟩
end
end G
set_option maxRecDepth 100000
set_option maxHeartbeats 4000000
/-! L7: the deck: a list of two lists and a number. -/
namespace G
open PySem PySem.Spec PyProof.Rows L2
section
variable {K : PySem.W.Frag} {np : Nat} {B : Hp} {P : List (V × List Addr)} {fps : Fps} {Γ : Gm} {σ : L2.St} {H : Hp} {i : Nat} {as bs : List Int} {n : Int}
theorem At.dk (A : At K np B P fps Γ σ H) (h : Γ[i]? = some (.ce (.deck as bs n))) : ∃ p b c, σ[i]? = some (some (.ref p)) ∧ fps[i]? = some [p, b, c] ∧ p ≠ b ∧ p ≠ c ∧ b ≠ c ∧ H p = some (.lst [.ref b, .ref c, .int n]) ∧ H b = some (.lst (as.map .int)) ∧ H c = some (.lst (bs.map .int)) := by
  obtain ⟨p, f, h1, h2, b, c, e, n1, n2, n3, h3, h4, h5⟩ := A.ce h
  subst e
  exact ⟨p, b, c, h1, h2, n1, n2, n3, h3, h4, h5⟩
theorem dk_ix {p b c : Addr} {T : VK} {j : Int} {v : V} (h1 : σ[i]? = some (some (.ref p))) (h3 : H p = some (.lst [.ref b, .ref c, .int n])) (hj : L2.atI [V.ref b, .ref c, .int n] j = some v) (t : T v H) : tOp (rIx K) (tVar i) (tC (.int j)) σ H T :=
  ⟨.ref p, h1, .inl ⟨p, _, j, v, rfl, rfl, .inl (.inl h3), hj, t⟩⟩
/-- the first list is changed -/
theorem At.dkSet0 {p b c : Addr} {es : List Int} (A : At K np B P fps Γ σ H) (h : Γ[i]? = some (.ce (.deck as bs n))) (h1 : σ[i]? = some (some (.ref p))) (h2 : fps[i]? = some [p, b, c]) (n1 : p ≠ b) (n2 : p ≠ c) (n3 : b ≠ c) (h3 : H p = some (.lst [.ref b, .ref c, .int n])) (h5 : H c = some (.lst (bs.map .int))) :
    At K np B P fps (Γ.set i (.ce (.deck es bs n))) σ (upd H b (.lst (es.map .int))) ∧ Pv fps H (upd H b (.lst (es.map .int))) :=
  A.put h h1 h2 ⟨b, c, rfl, n1, n2, n3, by rw [upd_ne n1]; exact h3, upd_same, by rw [upd_ne n3.symm]; exact h5⟩ fun a o q e => by
    rw [upd_ne (fun z => q (by simp [z]))]; exact e
theorem At.dkSet2 {p b c : Addr} {m : Int} (A : At K np B P fps Γ σ H) (h : Γ[i]? = some (.ce (.deck as bs n))) (h1 : σ[i]? = some (some (.ref p))) (h2 : fps[i]? = some [p, b, c]) (n1 : p ≠ b) (n2 : p ≠ c) (n3 : b ≠ c) (h4 : H b = some (.lst (as.map .int))) (h5 : H c = some (.lst (bs.map .int))) :
    At K np B P fps (Γ.set i (.ce (.deck as bs m))) σ (upd H p (.lst [.ref b, .ref c, .int m])) ∧ Pv fps H (upd H p (.lst [.ref b, .ref c, .int m])) :=
  A.put h h1 h2 ⟨b, c, rfl, n1, n2, n3, upd_same, by rw [upd_ne n1.symm]; exact h4, by rw [upd_ne n2.symm]; exact h5⟩ fun a o q e => by
    rw [upd_ne (fun z => q (by simp [z]))]; exact e
end
theorem shp_ints (ns : List Int) : SeqAt.shaped (.list (ns.map .int)) = true := by
  have h : ∀ ns : List Int, PyData.canLayAll0 (ns.map .int) = true ∧ PyData.depthAll (ns.map .int) = 0 := fun ns => by
    induction ns with
    | nil => exact ⟨by simp [PyData.canLayAll0], by simp [PyData.depthAll]⟩
    | cons a l ih => exact ⟨by simp [PyData.canLayAll0, PyData.canLay0, ih.1], by simp [PyData.depthAll, PyData.depth, ih.2]⟩
  unfold SeqAt.shaped
  simp [PyData.canLay0, PyData.depth, h ns]
theorem eqv_nil (ns : List Int) : PyData.eqv (.list (ns.map .int)) (.list []) = ns.isEmpty := by
  cases ns <;> simp [PyData.eqv, PyData.eqvAll]
theorem ixN_cons0 {α : Type} {a : α} {l : List α} : ixN (a :: l).length 0 = some 0 := by
  unfold ixN
  rw [if_pos (by decide), if_pos (by rw [List.length_cons]; omega)]
  rfl
theorem atI_cons0 {a : Int} {l : List Int} : L2.atI ((a :: l).map V.int) 0 = some (.int a) := by
  unfold L2.atI
  rw [List.map_cons, ixN_cons0]
  rfl
section
variable {X : Cx} {np i : Nat} {pos p1 p2 p3 : Pos} {o e : Expr} {te : TE} {we : WE} {j0 j1 j2 : Nat} {q0 q1 q2 : Pos}
def dkRef (np i : Nat) (X : Cx) (o : Expr) : Prop := PE X o (tVar i)
def wDkNe (i : Nat) : WE := fun Γ Z => ∃ as bs n, Γ[i]? = some (.ce (.deck as bs n)) ∧ Z (.im (.bl (!as.isEmpty))) Γ
theorem pe_dk {j : Int} (ho : PE X o (tVar i)) : PE X (.Subscript o (.Constant (.int j) j0 q0) p1) (tOp (rIx X.K) (tVar i) (tC (.int j))) := pe_ix ix_seq ho pe_int fun _ _ => rfl
theorem gc_dkNe (hu : X.A.units + 64 < cLine) (ho : PE X o (tVar i)) : GC X np .NotEq (.Subscript o (.Constant (.int 0) j0 q0) p1) (.List [] p2) (tOp (rIx X.K) (tVar i) (tC (.int 0))) (tLst tNil) (rNeD X.K) (wDkNe i) :=
  ⟨op_neD hu, pe_dk ho, pe_lst pa_nil, fun B P fps Γ σ H Q Z A w k => by
    obtain ⟨as, bs, n, h, w⟩ := w
    obtain ⟨p, b, c, h1, h2, n1, n2, n3, h3, h4, h5⟩ := A.dk h
    refine ⟨.ref p, h1, .inl ⟨p, _, 0, .ref b, rfl, rfl, .inl (.inl h3), rfl, ?_⟩⟩
    refine ⟨Nat.zero_le _, fun q hq => ?_⟩
    have ex : Ex H (upd H q (.lst [])) := Ex.new hq
    refine ⟨.list (as.map .int), .list [], .lst (.inl (.inl (ex _ _ h4))) (dp_ints as), .lst (.inl (.inl upd_same)) .nil, shp_ints as, shp_ints [], ?_⟩
    rw [eqv_nil]
    exact k _ (.im (.bl _)) Γ _ (A.ex ex) (Pv.of_ex ex) (.bl _) w, nomark _⟩
def wDk00 (i : Nat) : WE := fun Γ Z => ∃ a as bs n, Γ[i]? = some (.ce (.deck (a :: as) bs n)) ∧ Z (.im (.int a)) Γ
theorem g_dk00 (ho : PE X o (tVar i)) : GE X np (.Subscript (.Subscript o (.Constant (.int 0) j0 q0) p1) (.Constant (.int 0) j1 q1) p2) (tOp (rIx X.K) (tOp (rIx X.K) (tVar i) (tC (.int 0))) (tC (.int 0))) (wDk00 i) :=
  ⟨pe_ix ix_seq (pe_dk ho) pe_int fun _ _ => rfl, fun B P fps Γ σ H Q Z A w k => by
    obtain ⟨a, as, bs, n, h, w⟩ := w
    obtain ⟨p, b, c, h1, h2, n1, n2, n3, h3, h4, h5⟩ := A.dk h
    refine ⟨.ref p, h1, .inl ⟨p, _, 0, .ref b, rfl, rfl, .inl (.inl h3), rfl, ?_⟩⟩
    refine .inl ⟨b, _, 0, .int a, rfl, rfl, .inl (.inl h4), atI_cons0, ?_⟩
    exact k _ (.im (.int a)) Γ H A Pv.refl (.int a) w⟩
def wDkPut (i : Nat) (we : WE) : WS := fun Z Γ => we Γ fun y Γ1 => ∃ x a as bs n, y = .im (.int x) ∧ Γ1[i]? = some (.ce (.deck (a :: as) bs n)) ∧ Z.nx (Γ1.set i (.ce (.deck (x :: as) bs n)))
theorem gs_dkPut {pos' : Pos} (ho : PE X o (tVar i)) (he : GE X np e te we)
    (ha : ∀ v, assign (.Subscript (.Subscript o (.Constant (.int 0) j0 q0) p1) (.Constant (.int 0) j1 q1) pos') X.env v = (do
      let ov ← holding [v] (eval (.Subscript o (.Constant (.int 0) j0 q0) p1) X.env)
      let iv ← holding [v, ov] (eval (.Constant (.int 0) j1 q1) X.env)
      standAt pos'
      holding [v, ov, iv] (setItem ov iv v)
      release [v, ov, iv] []) := by intro _; rfl)
    (hs : swapsWithSole [.Subscript (.Subscript o (.Constant (.int 0) j0 q0) p1) (.Constant (.int 0) j1 q1) pos'] e pos.line X.env = pure false := by rfl) (hw : swappedStores [.Subscript (.Subscript o (.Constant (.int 0) j0 q0) p1) (.Constant (.int 0) j1 q1) pos'] e X.env = pure none := by rfl)
    (h1 : (assignEach [.Subscript (.Subscript o (.Constant (.int 0) j0 q0) p1) (.Constant (.int 0) j1 q1) pos'] X.env).map (·.2) = [assign (.Subscript (.Subscript o (.Constant (.int 0) j0 q0) p1) (.Constant (.int 0) j1 q1) pos') X.env] := by rfl) :
    GS X np (.Assign [.Subscript (.Subscript o (.Constant (.int 0) j0 q0) p1) (.Constant (.int 0) j1 q1) pos'] e pos) (tAsg te (L2.gSub (tOp (rIx X.K) (tVar i) (tC (.int 0))) (tC (.int 0)) rSetL)) (wDkPut i we) :=
  ⟨ps_asg he.pe (pg_sub (pe_dk ho) pe_int set_list ha) hs hw h1, fun B P fps Γ σ H D Z A w L => he.sd B P fps Γ σ H _ _ A w fun v y Γ1 H1 A1 p1 r1 w1 => by
    obtain ⟨x, a, as, bs, n, rfl, h, w1⟩ := w1
    obtain ⟨p, b, c, h1, h2, n1, n2, n3, h3, h4, h5⟩ := A1.dk h
    rw [Is.inv_int r1]
    refine ⟨.ref p, h1, .inl ⟨p, _, 0, .ref b, rfl, rfl, .inl (.inl h3), rfl, ?_⟩⟩
    obtain ⟨A2, p2⟩ := A1.dkSet0 (es := x :: as) h h1 h2 n1 n2 n3 h3 h5
    refine ⟨b, _, 0, 0, rfl, rfl, h4, by rw [List.map_cons]; exact ixN_cons0, ?_⟩
    exact L.nx _ _ _ _ A2 (p1.trans p2) Nw.refl w1⟩
def wDkPop (i : Nat) : WE := fun Γ Z => ∃ a as bs n, Γ[i]? = some (.ce (.deck (a :: as) bs n)) ∧ Z (.im (.int a)) (Γ.set i (.ce (.deck as bs n)))
theorem g_dkPop {apos cpos : Pos} (ho : PE X o (tVar i))
    (hbase : attributeBase (.Subscript o (.Constant (.int 0) j0 q0) p1) "pop" X.env (eval (.Subscript o (.Constant (.int 0) j0 q0) p1) X.env) = eval (.Subscript o (.Constant (.int 0) j0 q0) p1) X.env := by rfl)
    (hfew : ((backTo cpos (starEach [.Constant (.int 0) j1 q1] X.env)).all (fun x => !x.1) && (backToKw cpos (keywordEach [] X.env)).all (fun x => x.1.isSome)
      && decide (([.Constant (.int 0) j1 q1] : List Expr).length + ([] : List Keyword).length + (if ([] : List Keyword).isEmpty then 0 else 1) < 30)) = true := by rfl)
    (hline : (apos.endLine == cpos.line) = true := by rfl) (hs : starEach [.Constant (.int 0) j1 q1] X.env = (false, eval (.Constant (.int 0) j1 q1) X.env) :: starEach [] X.env := by rfl) (hplain : (backTo cpos (starEach [] X.env)).any (·.1) = false := by rfl) :
    GE X np (.Call (.Attribute (.Subscript o (.Constant (.int 0) j0 q0) p1) "pop" apos) [.Constant (.int 0) j1 q1] [] cpos) (tBM X.K "list" rPopAt (tOp (rIx X.K) (tVar i) (tC (.int 0))) (tCons (tC (.int 0)) tNil)) (wDkPop i) :=
  ⟨pe_bm F.plainAttrs_list F.slot_list_pop F.type_list_pop mt_popAt (pe_dk ho) (pa_cons pe_int pa_nil hs) hbase hfew hline hs hplain, fun B P fps Γ σ H Q Z A w k => by
    obtain ⟨a, as, bs, n, h, w⟩ := w
    obtain ⟨p, b, c, h1, h2, n1, n2, n3, h3, h4, h5⟩ := A.dk h
    refine ⟨.ref p, h1, .inl ⟨p, _, 0, .ref b, rfl, rfl, .inl (.inl h3), rfl, ?_⟩⟩
    obtain ⟨A2, p2⟩ := A.dkSet0 (es := as) h h1 h2 n1 n2 n3 h3 h5
    refine ⟨.inl ⟨rfl, _, .inl (.inl h4)⟩, ?_⟩
    refine ⟨b, (a :: as).map .int, 0, 0, .int a, rfl, rfl, h4, by decide, by decide, (ixN_seq (by rw [List.map_cons]; exact ixN_cons0)).1, rfl, ?_⟩
    exact k _ (.im (.int a)) _ _ A2 p2 (.int a) w⟩
def wDk2 (i : Nat) : WE := fun Γ Z => ∃ as bs n, Γ[i]? = some (.ce (.deck as bs n)) ∧ Z (.im (.int n)) Γ
theorem g_dk2 (ho : PE X o (tVar i)) : GE X np (.Subscript o (.Constant (.int 2) j0 q0) p1) (tOp (rIx X.K) (tVar i) (tC (.int 2))) (wDk2 i) :=
  ⟨pe_dk ho, fun B P fps Γ σ H Q Z A w k => by
    obtain ⟨as, bs, n, h, w⟩ := w
    obtain ⟨p, b, c, h1, h2, n1, n2, n3, h3, h4, h5⟩ := A.dk h
    exact dk_ix h1 h3 rfl (k _ (.im (.int n)) Γ H A Pv.refl (.int n) w)⟩
def wDkSet (i : Nat) (we : WE) : WS := fun Z Γ => we Γ fun y Γ1 => ∃ x as bs n, y = .im (.int x) ∧ Γ1[i]? = some (.ce (.deck as bs n)) ∧ Z.nx (Γ1.set i (.ce (.deck as bs x)))
theorem gs_dkSet {pos' : Pos} (ho : PE X o (tVar i)) (he : GE X np e te we)
    (ha : ∀ v, assign (.Subscript o (.Constant (.int 2) j1 q1) pos') X.env v = (do
      let ov ← holding [v] (eval o X.env)
      let iv ← holding [v, ov] (eval (.Constant (.int 2) j1 q1) X.env)
      standAt pos'
      holding [v, ov, iv] (setItem ov iv v)
      release [v, ov, iv] []) := by intro _; rfl)
    (hs : swapsWithSole [.Subscript o (.Constant (.int 2) j1 q1) pos'] e pos.line X.env = pure false := by rfl) (hw : swappedStores [.Subscript o (.Constant (.int 2) j1 q1) pos'] e X.env = pure none := by rfl)
    (h1 : (assignEach [.Subscript o (.Constant (.int 2) j1 q1) pos'] X.env).map (·.2) = [assign (.Subscript o (.Constant (.int 2) j1 q1) pos') X.env] := by rfl) :
    GS X np (.Assign [.Subscript o (.Constant (.int 2) j1 q1) pos'] e pos) (tAsg te (L2.gSub (tVar i) (tC (.int 2)) rSetL)) (wDkSet i we) :=
  ⟨ps_asg he.pe (pg_sub ho pe_int set_list ha) hs hw h1, fun B P fps Γ σ H D Z A w L => he.sd B P fps Γ σ H _ _ A w fun v y Γ1 H1 A1 p1 r1 w1 => by
    obtain ⟨x, as, bs, n, rfl, h, w1⟩ := w1
    obtain ⟨p, b, c, h1, h2, n1, n2, n3, h3, h4, h5⟩ := A1.dk h
    rw [Is.inv_int r1]
    obtain ⟨A2, p2⟩ := A1.dkSet2 (m := x) h h1 h2 n1 n2 n3 h4 h5
    exact ⟨.ref p, h1, p, _, 2, 2, rfl, rfl, h3, rfl, L.nx _ _ _ _ A2 (p1.trans p2) Nw.refl w1⟩⟩
def wDk1 (i : Nat) (we : WE) : WE := fun Γ Z => (∃ as bs n, Γ[i]? = some (.ce (.deck as bs n))) ∧ we Γ fun y Γ1 => ∃ j as bs n v, y = .im (.int j) ∧ Γ1[i]? = some (.ce (.deck as bs n)) ∧ L2.atI bs j = some v ∧ Z (.im (.int v)) Γ1
theorem atI_mapI {bs : List Int} {j v : Int} (h : L2.atI bs j = some v) : L2.atI (bs.map V.int) j = some (.int v) := by
  unfold L2.atI at h ⊢
  rw [List.length_map]
  cases q : ixN bs.length j with
  | none => rw [q] at h; cases h
  | some m =>
    rw [q] at h
    show (bs.map V.int)[m]? = _
    have h' : bs[m]? = some v := h
    rw [List.getElem?_map, h']
    rfl
theorem g_dk1 (ho : PE X o (tVar i)) (he : GE X np e te we) (hs : PlainIx e := by exact fun _ _ => rfl) : GE X np (.Subscript (.Subscript o (.Constant (.int 1) j0 q0) p1) e p2) (tOp (rIx X.K) (tOp (rIx X.K) (tVar i) (tC (.int 1))) te) (wDk1 i we) :=
  ⟨pe_ix ix_seq (pe_dk ho) he.pe hs, fun B P fps Γ σ H Q Z A w k => by
    obtain ⟨⟨as, bs, n, h⟩, w⟩ := w
    obtain ⟨p, b, c, h1, h2, n1, n2, n3, h3, h4, h5⟩ := A.dk h
    refine ⟨.ref p, h1, .inl ⟨p, _, 1, .ref c, rfl, rfl, .inl (.inl h3), rfl, ?_⟩⟩
    refine he.sd B P fps Γ σ H _ _ A w fun u y Γ1 H1 A1 p1 r1 w1 => ?_
    obtain ⟨j, as', bs', n', v, rfl, h', hj, w1⟩ := w1
    obtain ⟨p', b', c', h1', h2', _, _, _, h3', h4', h5'⟩ := A1.dk h'
    rw [h2] at h2'
    have e : c = c' := by injection h2' with e; injection e with e1 e; injection e with e2 e; injection e
    subst e
    rw [Is.inv_int r1]
    exact .inl ⟨c, _, j, .int v, rfl, rfl, .inl (.inl h5'), atI_mapI hj, k _ (.im (.int v)) Γ1 H1 A1 p1 (.int v) w1⟩⟩
def wDkLen (i : Nat) : WE := fun Γ Z => ∃ as bs n, Γ[i]? = some (.ce (.deck as bs n)) ∧ Z (.im (.int bs.length)) Γ
theorem g_dkLen (ho : PE X o (tVar i)) (hg : Gl X "len") (hm : X.mg "len" = none) (hs : starEach [.Subscript o (.Constant (.int 1) j0 q0) p1] X.env = (false, eval (.Subscript o (.Constant (.int 1) j0 q0) p1) X.env) :: starEach [] X.env := by rfl) :
    GE X np (.Call (.Name "len" p2) [.Subscript o (.Constant (.int 1) j0 q0) p1] [] pos) (tCB (rLen X.K) (tCons (tOp (rIx X.K) (tVar i) (tC (.int 1))) tNil)) (wDkLen i) :=
  ⟨pe_callB cl_len hg hm boot_len (pa_cons (pe_dk ho) pa_nil hs) (by decide) (by decide) hs (by rfl), fun B P fps Γ σ H Q Z A w k => by
    obtain ⟨as, bs, n, h, w⟩ := w
    obtain ⟨p, b, c, h1, h2, n1, n2, n3, h3, h4, h5⟩ := A.dk h
    refine dk_ix h1 h3 rfl ?_
    refine .inl ⟨c, _, rfl, .inl (.inl (.inl h5)), ?_⟩
    rw [List.length_map]
    exact k _ (.im (.int _)) Γ H A Pv.refl (.int _) w⟩
/-- a new deck -/
def wDkMk (wa : WA) : WE := fun Γ Z => wa Γ fun rs Γ1 => ∃ as bs n, rs = [.tm (.ls (as.map .int)), .tm (.ls (bs.map .int)), .im (.int n)] ∧ Z (.tm (.deck as bs n)) Γ1
theorem g_dkMk {es : List Expr} {tl : TA} {wl : WA} (h : GA X np es tl wl) : GE X np (.List es pos) (tLst tl) (wDkMk wl) := ⟨pe_lst h.pa, fun B P fps Γ σ H Q Z A w k => h.sd B P fps Γ σ H _ _ A w fun vs rs gs Γ1 H1 A1 p1 r1 w1 => by
  obtain ⟨as, bs, n, rfl, w1⟩ := w1
  cases r1 with
  | cons f1 t1 d1 =>
    cases t1 with
    | cons f2 t2 d2 =>
      cases t2 with
      | cons f3 t3 d3 =>
        cases t3
        obtain ⟨b, rfl, ⟨rfl, xs, hb, hxs⟩, nb⟩ := f1
        obtain ⟨c, rfl, ⟨rfl, ys, hc, hys⟩, nc⟩ := f2
        obtain ⟨rfl, r3⟩ := f3
        rw [Is.inv_int r3]
        rw [hxs.ints] at hb
        rw [hys.ints] at hc
        refine ⟨by show 3 ≤ sizeLine; decide, fun p hp => ?_⟩
        have pb : p ≠ b := fun e => by subst e; rw [hb] at hp; cases hp
        have pc : p ≠ c := fun e => by subst e; rw [hc] at hp; cases hp
        have bc : b ≠ c := fun e => d1 b (by simp) ⟨0, [c], rfl, by simp [e]⟩
        have ex : Ex H1 (upd H1 p (.lst [.ref b, .ref c, .int n])) := Ex.new hp
        refine k _ (.tm (.deck as bs n)) Γ1 _ (A1.ex ex) (p1.trans (Pv.of_ex ex)) ⟨p, [p, b, c], rfl, ⟨b, c, rfl, pb, pc, bc, upd_same, ex _ _ hb, ex _ _ hc⟩, fun a ha => ?_⟩ w1
        simp at ha
        rcases ha with rfl | rfl | rfl
        · exact A.freeBack A1 p1 _ hp
        · exact nb _ (by simp)
        · exact nc _ (by simp)⟩
end
end G
set_option maxRecDepth 100000
set_option maxHeartbeats 4000000
/-! WU: swept. -/
namespace G
open PySem PySem.Spec PyProof.Rows L2
def sp_swept : GSp := fun args Z => ∃ (r : Rw) (p w : List Int) (V W : Nat), args = [.im (rD r), .im (isD p), .im (isD w)] ∧ RowOk r ∧ p.length = r.n ∧ MulR r p ∧ r.en.length ≤ 20 ∧ w.length = r.en.length ∧
  (∀ k, k < r.st.length → (val r p k).natAbs < 2 ^ V) ∧ Bdd w W ∧ 0 < V ∧ 0 < W ∧ W + 20 + r.st.length * (V + 2) + V ≤ 1000000 ∧ Z (.im (isD (swV r p w))) args
theorem merge_new (f : Nat → D) : ∀ n, mergeKD ((List.range n).map fun j => (keyN j, f j)) = (List.range n).map fun j => (keyN j, f j)
  | 0 => rfl
  | n + 1 => by
    have ih := merge_new f n
    unfold mergeKD at ih ⊢
    rw [List.range_succ, List.map_append, List.foldl_append, ih]
    show put _ (keyN n) (f n) = _
    rw [put_new (look_not keyN_inj (by simp))]
    rfl
theorem vals_range (r : Rw) (p : List Int) : vals r p = (List.range r.st.length).map fun j => val r p j := by
  have hl : (vals r p).length = r.st.length := run_length _ _ _
  refine List.ext_getElem? fun i => ?_
  by_cases h : i < r.st.length
  · rw [List.getElem?_map, List.getElem?_range h]
    show _ = some (val r p i)
    exact pl_get (z := 0) (by rw [hl]; exact h)
  · rw [List.getElem?_eq_none (by omega), List.getElem?_eq_none (by simp; omega)]
theorem enum_vals (f : Nat → Int) (n : Nat) : enumD (((List.range n).map f).map D.int) = prK ((List.range n).map fun j => (keyN j, .int (f j))) := by
  refine List.ext_getElem? fun i => ?_
  by_cases h : i < n
  · have h1 : (((List.range n).map f).map D.int)[i]? = some (.int (f i)) := by
      rw [List.getElem?_map, List.getElem?_map, List.getElem?_range h]; rfl
    rw [enumD_get h1]
    unfold prK
    rw [List.getElem?_map, List.getElem?_map, List.getElem?_range h]
    rfl
  · rw [List.getElem?_eq_none (by rw [enumD_len]; simp; omega), List.getElem?_eq_none (by unfold prK; simp; omega)]
def N_swept : List Str := ["row", "point", "weights"]
def w_swept : WS := (wRet 3 (wCall sp_sweep (wCons (wVar 0) (wCons (wB gDictK (wCons (wListEnum (wCons (wCall sp_values (wCons (wVar 0) (wCons (wVar 1) wNil))) wNil)) wNil)) (wCons (wVar 2) wNil)))))
theorem vc_swept : ∀ args Z, sp_swept args Z → args.length = 3 ∧ w_swept (endsOf 3 Z) (args ++ List.replicate (N_swept.length - 3) .un) := by
  rintro args Z ⟨r, p, w, V, W, rfl, ok, hp, hm, h20, hw, hv, bw, v0, w0, hb, z⟩
  refine ⟨rfl, rfl, r, p, rfl, ok, hp, hm, (List.range r.st.length).map fun j => (keyN j, .int (val r p j)), ?_, rfl, r, p, w, V, W, ?_, ok, h20, hw, hv, bw, v0, w0, hb, z⟩
  · rw [vals_range]
    exact congrArg some (enum_vals _ _)
  · rw [merge_new]
    rfl
end G
set_option maxRecDepth 100000
set_option maxHeartbeats 4000000
/-! WV: draws. -/
namespace G
open PySem PySem.Spec PyProof.Rows L2
structure DkOk (m : Nat) (as bs : List Int) (n : Int) : Prop where
  a0 : ∀ a ∈ as, 0 < a
  la : as.length ≤ 64
  b0 : ∀ a ∈ bs, 0 ≤ a
  lb : 0 < bs.length ∧ bs.length ≤ 64
  n0 : 0 ≤ n
  n1 : n ≤ (m : Int)
theorem DkOk.mono {m m' : Nat} {as bs : List Int} {n : Int} (h : DkOk m as bs n) (k : m ≤ m') : DkOk m' as bs n := ⟨h.a0, h.la, h.b0, h.lb, h.n0, by have := h.n1; omega⟩
def sp__law_draw : GSp := fun args Z => ∃ (as bs : List Int) (n many : Int) (m : Nat), args = [.ce (.deck as bs n), .im (.int many)] ∧ DkOk m as bs n ∧ m ≤ 100000 ∧ 0 < many ∧ many ≤ 1000 ∧
  ∀ (r : Int) (as' bs' : List Int) (n' : Int), 0 ≤ r → r < many → DkOk (m + 1) as' bs' n' → Z (.im (.int r)) [.ce (.deck as' bs' n'), .im (.int many)]
def sp__law_one : GSp := fun args Z => ∃ (as bs : List Int) (n : Int) (items : List D) (m : Nat), args = [.ce (.deck as bs n), .ce (.ls items)] ∧ DkOk m as bs n ∧ m ≤ 100000 ∧ 0 < items.length ∧ items.length ≤ 1000 ∧
  ∀ (d : D) (as' bs' : List Int) (n' : Int), d ∈ items → DkOk (m + 1) as' bs' n' → Z (.im d) [.ce (.deck as' bs' n'), .ce (.ls items)]
def N__law_one : List Str := ["_law_deck_here", "_law_items"]
def w__law_one : WS := (wRet 2 (wIx (wVar 1) (wCall sp__law_draw (wCons (wVar 0) (wCons (wB gLen (wCons (wVar 1) wNil)) wNil)))))
theorem vc__law_one : ∀ args Z, sp__law_one args Z → args.length = 2 ∧ w__law_one (endsOf 2 Z) (args ++ List.replicate (N__law_one.length - 2) .un) := by
  rintro args Z ⟨as, bs, n, items, m, rfl, k, hm, h0, h1, z⟩
  refine ⟨rfl, _, rfl, rfl, as, bs, n, (items.length : Int), m, rfl, k, hm, by omega, by omega, fun r as' bs' n' r0 r1 k' => ?_⟩
  obtain ⟨j, rfl⟩ : ∃ j : Nat, r = (j : Int) := ⟨r.toNat, by omega⟩
  have hj : j < items.length := by omega
  exact ⟨items, items[j], rfl, atI_nat (List.getElem?_eq_getElem hj), z _ as' bs' n' (List.getElem_mem hj) k'⟩
def sp__law_far : GSp := fun args Z => ∃ (as bs : List Int) (n many : Int) (m : Nat), args = [.ce (.deck as bs n), .im (.int many)] ∧ DkOk m as bs n ∧ m ≤ 99000 ∧ 0 < many ∧ many ≤ 1000000000000000000000 ∧
  ∀ (r : Int) (as' bs' : List Int) (n' : Int), 0 ≤ r → r < many → DkOk (m + 12) as' bs' n' → Z (.im (.int r)) [.ce (.deck as' bs' n'), .im (.int many)]
def N__law_far : List Str := ["_law_deck_here", "_law_many", "_law_found", "_law_turn"]
def w__law_far : WS := (wSeq (wAsg 2 (wC (.int 0))) (wSeq (wFor (wiRng1 (wCons (wC (.int 12)) wNil)) (wgName 3) (wAsg 2 (wOp gAdd (wOp gMul (wVar 2) (wC (.int 1000))) (wCall sp__law_draw (wCons (wVar 0) (wCons (wC (.int 1000)) wNil)))))) (wRet 2 (wOp gMod (wB gInt (wCons (wVar 2) wNil)) (wVar 1)))))
theorem vc__law_far : ∀ args Z, sp__law_far args Z → args.length = 2 ∧ w__law_far (endsOf 2 Z) (args ++ List.replicate (N__law_far.length - 2) .un) := by
  rintro args Z ⟨as, bs, n, many, m, rfl, k, hm, h0, h1, z⟩
  refine ⟨rfl, ⟨by decide, by decide⟩, fun i Γ => ∃ as bs n f x, Fx x ∧ DkOk (m + i) as bs n ∧ 0 ≤ f ∧ f < ((2 ^ (10 * i) : Nat) : Int) ∧ Γ = [.ce (.deck as bs n), .im (.int many), .im (.int f), x], ⟨as, bs, n, 0, .un, trivial, k, by decide, by decide, rfl⟩, ?_, ?_⟩
  · rintro i d Γ hd ⟨as, bs, n, f, x, hx, k, f0, f1, rfl⟩
    obtain ⟨hi, rfl⟩ := rngD_of hd
    have hi' : i < 12 := hi
    have hp : 2 ^ (10 * i) ≤ 2 ^ 120 := Nat.pow_le_pow_right (by decide) (by omega)
    refine ⟨_, rfl, hx, wide_mul (a := 120) (b := 10) (by omega) (by decide) (by decide) (by decide) (by decide), rfl, as, bs, n, 1000, m + i, rfl, k, by omega, by decide, by decide, fun r as' bs' n' r0 r1 k' => ⟨as', bs', n', f * 1000 + r, .im (.int (0 + (i : Int))), trivial, k', by omega, ?_, rfl⟩⟩
    have e : 2 ^ (10 * (i + 1)) = 2 ^ (10 * i) * 1024 := by rw [Nat.mul_add, Nat.pow_add]
    rw [e]
    omega
  · rintro Γ ⟨as, bs, n, f, x, hx, k, f0, f1, rfl⟩
    refine ⟨h0, z _ as bs n (Int.emod_nonneg _ (by omega)) (Int.emod_lt_of_pos _ h0) k⟩
def sp__law_number : GSp := fun args Z => ∃ (as bs : List Int) (n : Int) (m : Nat), args = [.ce (.deck as bs n)] ∧ DkOk m as bs n ∧ m ≤ 98000 ∧
  ∀ (r : Int) (as' bs' : List Int) (n' : Int), r.natAbs ≤ 100000000000000000000 → DkOk (m + 14) as' bs' n' → Z (.im (.int r)) [.ce (.deck as' bs' n')]
def N__law_number : List Str := ["_law_deck_here", "_law_most"]
def w__law_number : WS := (wSeq (wAsg 1 (wCall sp__law_one (wCons (wVar 0) (wCons (wLst (wCons (wC (.int 3)) (wCons (wC (.int 10)) (wCons (wC (.int 1000)) (wCons (wOp gPow (wC (.int 10)) (wC (.int 9))) (wCons (wOp gPow (wC (.int 10)) (wC (.int 20))) wNil)))))) wNil)))) (wRet 1 (wOp gMul (wCall sp__law_one (wCons (wVar 0) (wCons (wLst (wCons (wC (.int 1)) (wCons (wUn gNeg (wC (.int 1))) wNil))) wNil))) (wCall sp__law_far (wCons (wVar 0) (wCons (wOp gAdd (wVar 1) (wC (.int 1))) wNil))))))
theorem vc__law_number : ∀ args Z, sp__law_number args Z → args.length = 1 ∧ w__law_number (endsOf 1 Z) (args ++ List.replicate (N__law_number.length - 1) .un) := by
  rintro args Z ⟨as, bs, n, m, rfl, k, hm, z⟩
  refine ⟨rfl, ⟨by decide, by decide, by decide⟩, ⟨by decide, by decide, by decide⟩, Nat.le_of_ble_eq_true rfl, rfl, as, bs, n, _, m, rfl, k, by omega, by decide, by decide, fun d as' bs' n' hd k' => ?_⟩
  obtain ⟨a, rfl, a0, a1⟩ : ∃ a : Int, d = .int a ∧ 0 < a ∧ a ≤ 100000000000000000000 := by
    simp only [List.mem_cons, List.not_mem_nil, or_false] at hd
    rcases hd with rfl | rfl | rfl | rfl | rfl
    · exact ⟨_, rfl, by decide, by decide⟩
    · exact ⟨_, rfl, by decide, by decide⟩
    · exact ⟨_, rfl, by decide, by decide⟩
    · exact ⟨_, rfl, by decide, by decide⟩
    · exact ⟨_, rfl, by decide, by decide⟩
  refine ⟨Nat.le_of_ble_eq_true rfl, rfl, as', bs', n', _, m + 1, rfl, k', by omega, by decide, by decide, fun d2 as2 bs2 n2 hd2 k2 => ?_⟩
  obtain ⟨e, rfl, he⟩ : ∃ e : Int, d2 = .int e ∧ (e = 1 ∨ e = -1) := by
    simp only [List.mem_cons, List.not_mem_nil, or_false] at hd2
    rcases hd2 with rfl | rfl
    · exact ⟨1, rfl, .inl rfl⟩
    · exact ⟨-1, rfl, .inr rfl⟩
  refine ⟨rfl, as2, bs2, n2, a + 1, m + 2, rfl, k2, by omega, by omega, by omega, fun r as3 bs3 n3 r0 r1 k3 => ?_⟩
  refine ⟨wide_mul (a := 2) (b := 70) (by rcases he with rfl | rfl <;> decide) (by have : (2 : Nat) ^ 70 = 1180591620717411303424 := by decide
                                                                                   omega) (by decide) (by decide) (by decide), z _ as3 bs3 n3 ?_ k3⟩
  rcases he with rfl | rfl
  · omega
  · omega
def sp__law_point : GSp := fun args Z => ∃ (as bs : List Int) (n : Int) (k m : Nat), args = [.ce (.deck as bs n), .im (.int (k : Int))] ∧ DkOk m as bs n ∧ k ≤ 20 ∧ m ≤ 90000 ∧
  ∀ (p : List Int) (as' bs' : List Int) (n' : Int), p.length = k → (∀ x ∈ p, x.natAbs ≤ 100000000000000000000) → DkOk (m + 1 + 14 * k) as' bs' n' → Z (.im (isD p)) [.ce (.deck as' bs' n'), .im (.int (k : Int))]
def N__law_point : List Str := ["_law_deck_here", "_law_inputs", "_law_k"]
def w__law_point : WS := (wSeq (wIf (wTest (wOp gEq (wCall sp__law_draw (wCons (wVar 0) (wCons (wC (.int 2)) wNil))) (wC (.int 0)))) (wRet 2 (wB gTuple (wCons (wLc (wiRng1 (wCons (wVar 1) wNil)) (wgName 2) wYes (wOp gSub (wCall sp__law_draw (wCons (wVar 0) (wCons (wC (.int 9)) wNil))) (wC (.int 4))) [2]) wNil))) wNext) (wRet 2 (wB gTuple (wCons (wLc (wiRng1 (wCons (wVar 1) wNil)) (wgName 2) wYes (wCall sp__law_number (wCons (wVar 0) wNil)) [2]) wNil))))
theorem vc__law_point : ∀ args Z, sp__law_point args Z → args.length = 2 ∧ w__law_point (endsOf 2 Z) (args ++ List.replicate (N__law_point.length - 2) .un) := by
  rintro args Z ⟨as, bs, n, c, m, rfl, k, hc, hm, z⟩
  refine ⟨rfl, rfl, as, bs, n, 2, m, rfl, k, by omega, by decide, by decide, fun r as' bs' n' r0 r1 k' => ⟨fun _ => ?_, fun _ => ?_⟩⟩
  · refine ⟨⟨by omega, by omega⟩, rfl, by rw [rngD_len]; omega, fun i acc Γ => ∃ (as bs : List Int) (n : Int) (p : List Int), DkOk (m + 1 + 14 * i) as bs n ∧ p.length = i ∧ (∀ x ∈ p, x.natAbs ≤ 100000000000000000000) ∧ Γ = [.ce (.deck as bs n), .im (.int (c : Int)), .un] ∧ acc = p.map .int, ⟨as', bs', n', [], k', rfl, fun _ h => (nomatch h), rfl, rfl⟩, fun _ _ _ _ => trivial, ?_, ?_⟩
    · rintro i d acc Γ hd ⟨as, bs, n, p, k, hp, hx, rfl, rfl⟩
      obtain ⟨hi, rfl⟩ := rngD_of hd
      refine ⟨_, rfl, fxU, fun _ => ⟨rfl, as, bs, n, 9, m + 1 + 14 * i, rfl, k, by omega, by decide, by decide, fun r as' bs' n' r0 r1 k' => ⟨as', bs', n', p ++ [r - 4], k'.mono (by omega), by rw [List.length_append, hp]; rfl, fun x h => ?_, rfl, by rw [List.map_append]; rfl⟩⟩, nofun⟩
      rcases List.mem_append.mp h with h | h
      · exact hx x h
      · rw [List.mem_singleton] at h; omega
    · rintro acc Γ ⟨as, bs, n, p, k, hp, hx, rfl, rfl⟩
      rw [rngD_len] at hp k
      exact ⟨_, rfl, z p as bs n (by omega) hx (k.mono (by omega))⟩
  · refine ⟨⟨by omega, by omega⟩, rfl, by rw [rngD_len]; omega, fun i acc Γ => ∃ (as bs : List Int) (n : Int) (p : List Int), DkOk (m + 1 + 14 * i) as bs n ∧ p.length = i ∧ (∀ x ∈ p, x.natAbs ≤ 100000000000000000000) ∧ Γ = [.ce (.deck as bs n), .im (.int (c : Int)), .un] ∧ acc = p.map .int, ⟨as', bs', n', [], k', rfl, fun _ h => (nomatch h), rfl, rfl⟩, fun _ _ _ _ => trivial, ?_, ?_⟩
    · rintro i d acc Γ hd ⟨as, bs, n, p, k, hp, hx, rfl, rfl⟩
      obtain ⟨hi, rfl⟩ := rngD_of hd
      refine ⟨_, rfl, fxU, fun _ => ⟨rfl, as, bs, n, m + 1 + 14 * i, rfl, k, by omega, fun r as' bs' n' hr k' => ⟨as', bs', n', p ++ [r], k'.mono (by omega), by rw [List.length_append, hp]; rfl, fun x h => ?_, rfl, by rw [List.map_append]; rfl⟩⟩, nofun⟩
      rcases List.mem_append.mp h with h | h
      · exact hx x h
      · rw [List.mem_singleton] at h; omega
    · rintro acc Γ ⟨as, bs, n, p, k, hp, hx, rfl, rfl⟩
      rw [rngD_len] at hp k
      exact ⟨_, rfl, z p as bs n (by omega) hx (k.mono (by omega))⟩
def sp__law_size : GSp := fun args Z => ∃ (s : Stp) (v : List Int), args = [.im (sD s), .ce (.ls (v.map .int))] ∧ (∀ a ∈ refs s, a < v.length) ∧ Z (.im (.int ((szA 1).stp (pl 0 v) s))) args
def N__law_size : List Str := ["_law_step", "_law_found"]
def w__law_size : WS := (wSeq (wIf (wTest (wIn false (wIx (wVar 0) (wC (.int 0))) (wTup (wCons (wC (.str "in")) (wCons (wC (.str "set")) wNil))))) (wRet 2 (wC (.int 1))) wNext) (wSeq (wIf (wTest (wOp gEq (wIx (wVar 0) (wC (.int 0))) (wC (.str "neg")))) (wRet 2 (wIx (wVar 1) (wIx (wVar 0) (wC (.int 1))))) wNext) (wRet 2 (wIfE (wTest (wOp gEq (wIx (wVar 0) (wC (.int 0))) (wC (.str "*")))) (wOp gAdd (wIx (wVar 1) (wIx (wVar 0) (wC (.int 1)))) (wIx (wVar 1) (wIx (wVar 0) (wC (.int 2))))) (wB gMax2 (wCons (wB gInt (wCons (wIx (wVar 1) (wIx (wVar 0) (wC (.int 1)))) wNil)) (wCons (wB gInt (wCons (wIx (wVar 1) (wIx (wVar 0) (wC (.int 2)))) wNil)) wNil)))))))
theorem vc__law_size : ∀ args Z, sp__law_size args Z → args.length = 2 ∧ w__law_size (endsOf 2 Z) (args ++ List.replicate (N__law_size.length - 2) .un) := by
  rintro args Z ⟨s, v, rfl, h, z⟩
  refine ⟨rfl, ?_⟩
  cases s with
  | inp i => exact ⟨_, _, rfl, rfl, Nat.le_of_ble_eq_true rfl, _, rfl, rfl, rfl, itY (by rfl) z⟩
  | set c => exact ⟨_, _, rfl, rfl, Nat.le_of_ble_eq_true rfl, _, rfl, rfl, rfl, itY (by rfl) z⟩
  | neg a =>
    have ha := h a (by simp [refs])
    exact ⟨_, _, rfl, rfl, Nat.le_of_ble_eq_true rfl, _, rfl, rfl, rfl, itN (by rfl) ⟨_, _, rfl, rfl, itY (by decide) ⟨_, _, rfl, rfl, _, _, rfl, at_int ha, z⟩⟩⟩
  | bin o a b =>
    have ha := h a (by simp [refs])
    have hb := h b (by simp [refs])
    refine ⟨_, _, rfl, rfl, Nat.le_of_ble_eq_true rfl, _, rfl, rfl, rfl, itN (by cases o <;> rfl) ⟨_, _, rfl, rfl, itN (by cases o <;> decide) ⟨_, _, rfl, rfl, ?_⟩⟩⟩
    cases o with
    | add => exact itN (by decide) ⟨_, _, rfl, rfl, _, _, rfl, at_int ha, _, _, rfl, rfl, _, _, rfl, at_int hb, z⟩
    | sub => exact itN (by decide) ⟨_, _, rfl, rfl, _, _, rfl, at_int ha, _, _, rfl, rfl, _, _, rfl, at_int hb, z⟩
    | mul => exact itY (by decide) ⟨_, _, rfl, rfl, _, _, rfl, at_int ha, _, _, rfl, rfl, _, _, rfl, at_int hb, z⟩
end G
set_option maxRecDepth 100000
set_option maxHeartbeats 4000000
/-! WW: drawn rows. -/
namespace G
open PySem PySem.Spec PyProof.Rows L2
structure LSt (n : Nat) (st : List Stp) : Prop where
  wf : Wf st
  inn : Inn n st
  cs : ∀ c, Stp.set c ∈ st → -4 ≤ c ∧ c ≤ 4
  sz : ∀ x ∈ (szA 1).run 0 st, 1 ≤ x ∧ x ≤ 3
structure StAt (n k : Nat) (s : Stp) : Prop where
  rf : ∀ a ∈ refs s, a < k
  i : ∀ j, s = .inp j → j < n
  c : ∀ c, s = .set c → -4 ≤ c ∧ c ≤ 4
theorem LSt.nil (n : Nat) : LSt n [] := ⟨fun k s h => by simp at h, fun k s h => by simp at h, fun c h => by simp at h, fun x h => by simp [run_nil] at h⟩
theorem LSt.snoc {n : Nat} {st : List Stp} {s : Stp} (h : LSt n st) (k : StAt n st.length s) (z : 1 ≤ (szA 1).stp (pl 0 ((szA 1).run 0 st)) s ∧ (szA 1).stp (pl 0 ((szA 1).run 0 st)) s ≤ 3) : LSt n (st ++ [s]) where
  wf := fun i t e a ha => by
    rcases Nat.lt_or_ge i st.length with hi | hi
    · rw [List.getElem?_append_left hi] at e
      exact h.wf i t e a ha
    · rw [List.getElem?_append_right hi] at e
      have : i - st.length = 0 := by
        have := (List.getElem?_eq_some_iff.mp e).1
        simp at this
        omega
      rw [this] at e
      cases e
      have := k.rf a ha
      omega
  inn := fun i j e => by
    rcases Nat.lt_or_ge i st.length with hi | hi
    · rw [List.getElem?_append_left hi] at e
      exact h.inn i j e
    · rw [List.getElem?_append_right hi] at e
      have := List.mem_of_getElem? e
      rw [List.mem_singleton] at this
      exact k.i j this.symm
  cs := fun c hc => by
    rcases List.mem_append.mp hc with hc | hc
    · exact h.cs c hc
    · rw [List.mem_singleton] at hc
      exact k.c c hc.symm
  sz := fun x hx => by
    rw [run_snoc] at hx
    rcases List.mem_append.mp hx with hx | hx
    · exact h.sz x hx
    · rw [List.mem_singleton] at hx
      rw [hx]
      exact z
theorem LSt.at {n : Nat} {st : List Stp} (h : LSt n st) {a : Nat} (ha : a < st.length) : 1 ≤ pl 0 ((szA 1).run 0 st) a ∧ pl 0 ((szA 1).run 0 st) a ≤ 3 :=
  h.sz _ (List.mem_of_getElem? (pl_get (z := 0) (by rw [run_length]; exact ha)))
def wRowT : WS := (wSeq (wIf (wTest (wOp gGt (wCall sp__law_size (wCons (wVar 8) (wCons (wVar 5) wNil))) (wVar 3))) (wAsg 8 (wOp gAdd (wTup (wCons (wC (.str "+")) wNil)) (wSl (wVar 8) (wPart (wC (.int 1))) wNo))) wNext) (wSeq (wDrop (wApp (wVar 4) (wVar 8))) (wDrop (wApp (wVar 5) (wCall sp__law_size (wCons (wVar 8) (wCons (wVar 5) wNil)))))))
theorem row_tail {E : Zs} {n many : Nat} {st : List Stp} {s : Stp} {as bs : List Int} {q : Int} {x6 x7 : Sl} (h : LSt n st) (k : StAt n st.length s) (hl : st.length < 100)
    (hE : ∀ s', LSt n (st ++ [s']) → E.nx [.ce (.deck as bs q), .im (.int (n : Int)), .im (.int (many : Int)), .im (.int 3), .ce (.ls ((st ++ [s']).map sD)), .ce (.ls (((szA 1).run 0 (st ++ [s'])).map .int)), x6, x7, .im (sD s'), .un, .un]) :
    wRowT E [.ce (.deck as bs q), .im (.int (n : Int)), .im (.int (many : Int)), .im (.int 3), .ce (.ls (st.map sD)), .ce (.ls (((szA 1).run 0 st).map .int)), x6, x7, .im (sD s), .un, .un] := by
  have lr : ((szA 1).run 0 st).length = st.length := run_length _ _ _
  have fin : ∀ s', StAt n st.length s' → (1 ≤ (szA 1).stp (pl 0 ((szA 1).run 0 st)) s' ∧ (szA 1).stp (pl 0 ((szA 1).run 0 st)) s' ≤ 3) → (wSeq (wDrop (wApp (wVar 4) (wVar 8))) (wDrop (wApp (wVar 5) (wCall sp__law_size (wCons (wVar 8) (wCons (wVar 5) wNil)))))) E [.ce (.deck as bs q), .im (.int (n : Int)), .im (.int (many : Int)), .im (.int 3), .ce (.ls (st.map sD)), .ce (.ls (((szA 1).run 0 st).map .int)), x6, x7, .im (sD s'), .un, .un] := fun s' k' z => by
    refine ⟨⟨_, rfl⟩, _, rfl, by rw [List.length_map]; omega, ⟨_, rfl⟩, rfl, s', (szA 1).run 0 st, rfl, fun a ha => by rw [lr]; exact k'.rf a ha, _, rfl, by rw [List.length_map, lr]; omega, ?_⟩
    have := hE s' (h.snoc k' z)
    rw [run_snoc, List.map_append, List.map_append] at this
    exact this
  have low : 1 ≤ (szA 1).stp (pl 0 ((szA 1).run 0 st)) s := by
    cases s with
    | inp i => exact Int.le_refl _
    | set c => exact Int.le_refl _
    | neg a => exact (h.at (k.rf a (by simp [refs]))).1
    | bin o a b =>
      have := (h.at (k.rf a (by simp [refs]))).1
      have := (h.at (k.rf b (by simp [refs]))).1
      cases o with
      | add => show 1 ≤ max _ _; omega
      | sub => show 1 ≤ max _ _; omega
      | mul => show 1 ≤ _ + _; omega
  refine ⟨rfl, s, (szA 1).run 0 st, rfl, fun a ha => by rw [lr]; exact k.rf a ha, fun hb => ?_, fun hb => fin s k ⟨low, by have := of_decide_eq_false hb; omega⟩⟩
  have hb' := of_decide_eq_true hb
  cases s with
  | inp i => exact absurd hb' (by show ¬ (3 : Int) < 1; decide)
  | set c => exact absurd hb' (by show ¬ (3 : Int) < 1; decide)
  | neg a =>
    have := (h.at (k.rf a (by simp [refs]))).2
    exact absurd hb' (by show ¬ (3 : Int) < pl 0 _ a; omega)
  | bin o a b =>
    have ka := h.at (k.rf a (by simp [refs]))
    have kb := h.at (k.rf b (by simp [refs]))
    refine ⟨Nat.le_of_ble_eq_true rfl, Nat.le_of_ble_eq_true rfl, ?_⟩
    refine fin (.bin .add a b) ⟨k.rf, fun j e => (nomatch e), fun c e => (nomatch e)⟩ ?_
    show 1 ≤ max _ _ ∧ max _ _ ≤ 3
    omega
def wRowB3 : WS := (wSeq (wIf (wAnd (wTest (wIn false (wVar 7) (wTup (wCons (wC (.str "+")) (wCons (wC (.str "-")) (wCons (wC (.str "*")) wNil)))))) (wTest (wOp gGt (wVar 6) (wC (.int 0))))) (wAsg 8 (wTup (wCons (wVar 7) (wCons (wCall sp__law_draw (wCons (wVar 0) (wCons (wVar 6) wNil))) (wCons (wOp gSub (wOp gSub (wVar 6) (wC (.int 1))) (wCall sp__law_draw (wCons (wVar 0) (wCons (wB gMin2 (wCons (wVar 6) (wCons (wC (.int 3)) wNil))) wNil)))) wNil))))) wNext) wRowT)
def wRowB2 : WS := (wSeq (wIf (wAnd (wTest (wOp gEq (wVar 7) (wC (.str "neg")))) (wTest (wOp gGt (wVar 6) (wC (.int 0))))) (wAsg 8 (wTup (wCons (wC (.str "neg")) (wCons (wCall sp__law_draw (wCons (wVar 0) (wCons (wVar 6) wNil))) wNil)))) wNext) wRowB3)
def wRowB1 : WS := (wSeq (wIf (wAnd (wTest (wOp gEq (wVar 7) (wC (.str "in")))) (wTest (wOp gGt (wVar 1) (wC (.int 0))))) (wAsg 8 (wTup (wCons (wC (.str "in")) (wCons (wIfE (wTest (wOp gLt (wVar 6) (wVar 1))) (wVar 6) (wCall sp__law_draw (wCons (wVar 0) (wCons (wVar 1) wNil)))) wNil)))) wNext) wRowB2)
abbrev rowG (n many : Nat) (st : List Stp) (as bs : List Int) (q : Int) (i : Nat) (w : Str) (s : Stp) : Gm := [.ce (.deck as bs q), .im (.int (n : Int)), .im (.int (many : Int)), .im (.int 3), .ce (.ls (st.map sD)), .ce (.ls (((szA 1).run 0 st).map .int)), .im (.int (i : Int)), .im (.str w), .im (sD s), .un, .un]
/-- what stands behind a drawn step -/
def RowNx (E : Zs) (n many : Nat) (st : List Stp) (i m : Nat) (w : Str) : Prop := ∀ (as bs : List Int) (q : Int) (s' : Stp), DkOk m as bs q → LSt n (st ++ [s']) →
  E.nx [.ce (.deck as bs q), .im (.int (n : Int)), .im (.int (many : Int)), .im (.int 3), .ce (.ls ((st ++ [s']).map sD)), .ce (.ls (((szA 1).run 0 (st ++ [s'])).map .int)), .im (.int (i : Int)), .im (.str w), .im (sD s'), .un, .un]
theorem RowNx.mono {E : Zs} {n many : Nat} {st : List Stp} {i m m' : Nat} {w : Str} (h : RowNx E n many st i m' w) (k : m ≤ m') : RowNx E n many st i m w := fun as bs q s' a b => h as bs q s' (a.mono k) b
theorem bin_word {w : Str} (hw : w ∈ opWs) (h : inD (.str w) [.str "+", .str "-", .str "*"] = true) : ∃ o, w = opS o := by
  simp only [opWs, List.mem_cons, List.not_mem_nil, or_false] at hw
  rcases hw with rfl | rfl | rfl | rfl | rfl | rfl
  · cases h
  · cases h
  · cases h
  · exact ⟨.add, rfl⟩
  · exact ⟨.sub, rfl⟩
  · exact ⟨.mul, rfl⟩
theorem row_b3 {E : Zs} {n many : Nat} {st : List Stp} {s : Stp} {as bs : List Int} {q : Int} {w : Str} {m : Nat} (h : LSt n st) (k : StAt n st.length s) (hl : st.length < 100) (hw : w ∈ opWs) (kd : DkOk m as bs q) (hm : m ≤ 90000) (hE : RowNx E n many st st.length (m + 2) w) :
    wRowB3 E (rowG n many st as bs q st.length w s) := by
  have go : ∀ as bs q s, StAt n st.length s → DkOk (m + 2) as bs q → wRowT E (rowG n many st as bs q st.length w s) := fun as bs q s k kd => row_tail h k hl fun s' hs => hE as bs q s' kd hs
  refine ⟨Nat.le_of_ble_eq_true rfl, _, rfl, rfl, rfl, fun hb => ⟨fun hb2 => ?_, fun _ => go as bs q s k (kd.mono (by omega))⟩, fun _ => itN rfl (go as bs q s k (kd.mono (by omega)))⟩
  obtain ⟨o, rfl⟩ := bin_word hw hb
  have i0 : 0 < st.length := by have := of_decide_eq_true hb2; omega
  refine ⟨rfl, as, bs, q, (st.length : Int), m, rfl, kd, by omega, by omega, by omega, fun r as1 bs1 q1 r0 r1 k1 => ⟨rfl, as1, bs1, q1, _, m + 1, rfl, k1, by omega, ?_, ?_, fun r2 as2 bs2 q2 t0 t1 k2 => ⟨Nat.le_of_ble_eq_true rfl, ?_⟩⟩⟩
  · show 0 < min ((st.length : Nat) : Int) 3; omega
  · show min ((st.length : Nat) : Int) 3 ≤ 1000; omega
  · have t1' : r2 < min ((st.length : Nat) : Int) 3 := t1
    obtain ⟨a, rfl⟩ : ∃ a : Nat, r = (a : Int) := ⟨r.toNat, by omega⟩
    obtain ⟨b, hb⟩ : ∃ b : Nat, ((st.length : Nat) : Int) - 1 - r2 = (b : Int) := ⟨(((st.length : Nat) : Int) - 1 - r2).toNat, by omega⟩
    have t : wRowT E (rowG n many st as2 bs2 q2 st.length (opS o) (.bin o a b)) := go as2 bs2 q2 (.bin o a b) ⟨fun c hc => by simp [refs] at hc; omega, fun j e => (nomatch e), fun c e => (nomatch e)⟩ k2
    have e : sD (.bin o a b) = .tup [.str (opS o), .int (a : Int), .int (((st.length : Nat) : Int) - 1 - r2)] := by rw [hb]; rfl
    unfold rowG at t
    rw [e] at t
    exact t
theorem row_b2 {E : Zs} {n many : Nat} {st : List Stp} {s : Stp} {as bs : List Int} {q : Int} {w : Str} {m : Nat} (h : LSt n st) (k : StAt n st.length s) (hl : st.length < 100) (hw : w ∈ opWs) (kd : DkOk m as bs q) (hm : m ≤ 80000) (hE : RowNx E n many st st.length (m + 3) w) :
    wRowB2 E (rowG n many st as bs q st.length w s) := by
  have go : ∀ as bs q s, StAt n st.length s → DkOk (m + 1) as bs q → wRowB3 E (rowG n many st as bs q st.length w s) := fun as bs q s k kd => row_b3 h k hl hw kd (by omega) hE
  refine ⟨fun hb => ⟨fun hb2 => ?_, fun _ => go as bs q s k (kd.mono (by omega))⟩, fun _ => itN rfl (go as bs q s k (kd.mono (by omega)))⟩
  have i0 : 0 < st.length := by have := of_decide_eq_true hb2; omega
  refine ⟨rfl, as, bs, q, (st.length : Int), m, rfl, kd, by omega, by omega, by omega, fun r as1 bs1 q1 r0 r1 k1 => ⟨Nat.le_of_ble_eq_true rfl, ?_⟩⟩
  obtain ⟨a, rfl⟩ : ∃ a : Nat, r = (a : Int) := ⟨r.toNat, by omega⟩
  exact go as1 bs1 q1 (.neg a) ⟨fun c hc => by simp [refs] at hc; omega, fun j e => (nomatch e), fun c e => (nomatch e)⟩ k1
theorem row_b1 {E : Zs} {n many : Nat} {st : List Stp} {s : Stp} {as bs : List Int} {q : Int} {w : Str} {m : Nat} (hn : n ≤ 20) (h : LSt n st) (k : StAt n st.length s) (hl : st.length < 100) (hw : w ∈ opWs) (kd : DkOk m as bs q) (hm : m ≤ 70000) (hE : RowNx E n many st st.length (m + 4) w) :
    wRowB1 E (rowG n many st as bs q st.length w s) := by
  have go : ∀ as bs q s, StAt n st.length s → DkOk (m + 1) as bs q → wRowB2 E (rowG n many st as bs q st.length w s) := fun as bs q s k kd => row_b2 h k hl hw kd (by omega) hE
  refine ⟨fun hb => ⟨fun hb2 => ?_, fun _ => go as bs q s k (kd.mono (by omega))⟩, fun _ => itN rfl (go as bs q s k (kd.mono (by omega)))⟩
  have i0 : 0 < n := by have := of_decide_eq_true hb2; omega
  refine ⟨fun hb3 => ⟨Nat.le_of_ble_eq_true rfl, ?_⟩, fun _ => ⟨rfl, as, bs, q, (n : Int), m, rfl, kd, by omega, by omega, by omega, fun r as1 bs1 q1 r0 r1 k1 => ⟨Nat.le_of_ble_eq_true rfl, ?_⟩⟩⟩
  · have : st.length < n := by have := of_decide_eq_true hb3; omega
    exact go as bs q (.inp st.length) ⟨fun c hc => by simp [refs] at hc, fun j e => by cases e; omega, fun c e => (nomatch e)⟩ (kd.mono (by omega))
  · obtain ⟨a, rfl⟩ : ∃ a : Nat, r = (a : Int) := ⟨r.toNat, by omega⟩
    exact go as1 bs1 q1 (.inp a) ⟨fun c hc => by simp [refs] at hc, fun j e => by cases e; omega, fun c e => (nomatch e)⟩ k1
end G
set_option maxRecDepth 100000
set_option maxHeartbeats 4000000
/-! WX: a drawn row. -/
namespace G
open PySem PySem.Spec PyProof.Rows L2
structure LRow (n L : Nat) (r : Rw) : Prop where
  nn : r.n = n
  ls : LSt n r.st
  l0 : 0 < r.st.length
  l1 : r.st.length ≤ L
  en : ∀ e ∈ r.en, e < r.st.length
  e0 : 0 < r.en.length
  e1 : r.en.length ≤ 3
abbrev RowI (n many m i : Nat) (Γ : Gm) : Prop := ∃ as bs q st x6 x7 x8, Fx x6 ∧ Fx x7 ∧ Fx x8 ∧ DkOk (m + 1 + 8 * i) as bs q ∧ LSt n st ∧ st.length = i ∧ Γ = [.ce (.deck as bs q), .im (.int (n : Int)), .im (.int (many : Int)), .im (.int 3), .ce (.ls (st.map sD)), .ce (.ls (((szA 1).run 0 st).map .int)), x6, x7, x8, .un, .un]
def wRowB0 : WS := (wSeq (wAsg 8 (wTup (wCons (wC (.str "set")) (wCons (wOp gSub (wCall sp__law_draw (wCons (wVar 0) (wCons (wC (.int 9)) wNil))) (wC (.int 4))) wNil)))) wRowB1)
theorem row_b0 {E : Zs} {n many m m2 : Nat} {st : List Stp} {as bs : List Int} {q : Int} {w : Str} {x8 : Sl} (hn : n ≤ 20) (h : LSt n st) (h8 : Fx x8) (hl : st.length < 100) (hw : w ∈ opWs) (kd : DkOk m2 as bs q) (hm : m2 ≤ 60000) (h2 : m2 + 5 ≤ m + 1 + 8 * (st.length + 1)) (hE : ∀ Γ, RowI n many m (st.length + 1) Γ → E.nx Γ) :
    wRowB0 E [.ce (.deck as bs q), .im (.int (n : Int)), .im (.int (many : Int)), .im (.int 3), .ce (.ls (st.map sD)), .ce (.ls (((szA 1).run 0 st).map .int)), .im (.int (st.length : Int)), .im (.str w), x8, .un, .un] := by
  refine ⟨rfl, as, bs, q, 9, m2, rfl, kd, by omega, by decide, by decide, fun r as1 bs1 q1 r0 r1 k1 => ⟨Nat.le_of_ble_eq_true rfl, ?_⟩⟩
  refine row_b1 (s := .set (r - 4)) hn h ⟨fun c hc => by simp [refs] at hc, fun j e => (nomatch e), fun c e => by cases e; omega⟩ hl hw k1 (by omega) fun as2 bs2 q2 s' k2 hs => ?_
  exact hE _ ⟨as2, bs2, q2, st ++ [s'], .im (.int (st.length : Int)), .im (.str w), .im (sD s'), trivial, trivial, trivial, k2.mono (by omega), hs, by simp, rfl⟩
def wRowA : WS := (wSeq (wIf (wAnd (wTest (wOp gLt (wVar 6) (wVar 1))) (wTest (wOp gGt (wCall sp__law_draw (wCons (wVar 0) (wCons (wC (.int 4)) wNil))) (wC (.int 0))))) (wAsg 7 (wC (.str "in"))) wNext) wRowB0)
theorem row_a {E : Zs} {n many m : Nat} {st : List Stp} {as bs : List Int} {q : Int} {w : Str} {x8 : Sl} (hm : m ≤ 50000) (hn : n ≤ 20) (h : LSt n st) (h8 : Fx x8) (hl : st.length < 100) (hw : w ∈ opWs) (kd : DkOk (m + 1 + 8 * st.length + 1) as bs q) (hE : ∀ Γ, RowI n many m (st.length + 1) Γ → E.nx Γ) :
    wRowA E [.ce (.deck as bs q), .im (.int (n : Int)), .im (.int (many : Int)), .im (.int 3), .ce (.ls (st.map sD)), .ce (.ls (((szA 1).run 0 st).map .int)), .im (.int (st.length : Int)), .im (.str w), x8, .un, .un] := by
  have go : ∀ as bs q w m2, w ∈ opWs → DkOk m2 as bs q → m2 ≤ 60000 → m2 + 5 ≤ m + 1 + 8 * (st.length + 1) → wRowB0 E [.ce (.deck as bs q), .im (.int (n : Int)), .im (.int (many : Int)), .im (.int 3), .ce (.ls (st.map sD)), .ce (.ls (((szA 1).run 0 st).map .int)), .im (.int (st.length : Int)), .im (.str w), x8, .un, .un] :=
    fun as bs q w m2 hw kd h1 h2 => row_b0 hn h h8 hl hw kd h1 h2 hE
  exact ⟨fun hb => ⟨rfl, as, bs, q, 4, m + 1 + 8 * st.length + 1, rfl, kd, by omega, by decide, by decide, fun r as3 bs3 q3 r0 r1 k3 => ⟨fun _ => go as3 bs3 q3 "in" _ (by simp [opWs]) k3 (by omega) (by omega), fun _ => go as3 bs3 q3 w _ hw k3 (by omega) (by omega)⟩⟩, fun _ => itN rfl (go as bs q w _ hw kd (by omega) (by omega))⟩
def sp__law_row : GSp := fun args Z => ∃ (as bs : List Int) (q : Int) (n many m : Nat), args = [.ce (.deck as bs q), .im (.int (n : Int)), .im (.int (many : Int)), .im (.int 3)] ∧ DkOk m as bs q ∧ m ≤ 50000 ∧ n ≤ 20 ∧ 0 < many ∧ many ≤ 8 ∧
  ∀ (r : Rw) (as' bs' : List Int) (q' : Int), LRow n many r → DkOk (m + 100) as' bs' q' → Z (.im (rD r)) [.ce (.deck as' bs' q'), .im (.int (n : Int)), .im (.int (many : Int)), .im (.int 3)]
def N__law_row : List Str := ["_law_deck_here", "_law_inputs", "_law_many", "_law_most", "_law_steps", "_law_found", "_law_number_here", "_law_word", "_law_step", "_law_ends", "_law_k"]
def w__law_row : WS := (wSeq (wPar 4 5 (wCons (wLst wNil) (wCons (wLst wNil) wNil))) (wSeq (wFor (wiRng1 (wCons (wOp gAdd (wC (.int 1)) (wCall sp__law_draw (wCons (wVar 0) (wCons (wVar 2) wNil)))) wNil)) (wgName 6) (wSeq (wAsg 7 (wCall sp__law_one (wCons (wVar 0) (wCons (wLst (wCons (wC (.str "in")) (wCons (wC (.str "in")) (wCons (wC (.str "set")) (wCons (wC (.str "neg")) (wCons (wC (.str "+")) (wCons (wC (.str "+")) (wCons (wC (.str "-")) (wCons (wC (.str "-")) (wCons (wC (.str "*")) (wCons (wC (.str "*")) (wCons (wC (.str "*")) wNil)))))))))))) wNil)))) (wSeq (wIf (wAnd (wTest (wOp gLt (wVar 6) (wVar 1))) (wTest (wOp gGt (wCall sp__law_draw (wCons (wVar 0) (wCons (wC (.int 4)) wNil))) (wC (.int 0))))) (wAsg 7 (wC (.str "in"))) wNext) (wSeq (wAsg 8 (wTup (wCons (wC (.str "set")) (wCons (wOp gSub (wCall sp__law_draw (wCons (wVar 0) (wCons (wC (.int 9)) wNil))) (wC (.int 4))) wNil)))) (wSeq (wIf (wAnd (wTest (wOp gEq (wVar 7) (wC (.str "in")))) (wTest (wOp gGt (wVar 1) (wC (.int 0))))) (wAsg 8 (wTup (wCons (wC (.str "in")) (wCons (wIfE (wTest (wOp gLt (wVar 6) (wVar 1))) (wVar 6) (wCall sp__law_draw (wCons (wVar 0) (wCons (wVar 1) wNil)))) wNil)))) wNext) (wSeq (wIf (wAnd (wTest (wOp gEq (wVar 7) (wC (.str "neg")))) (wTest (wOp gGt (wVar 6) (wC (.int 0))))) (wAsg 8 (wTup (wCons (wC (.str "neg")) (wCons (wCall sp__law_draw (wCons (wVar 0) (wCons (wVar 6) wNil))) wNil)))) wNext) (wSeq (wIf (wAnd (wTest (wIn false (wVar 7) (wTup (wCons (wC (.str "+")) (wCons (wC (.str "-")) (wCons (wC (.str "*")) wNil)))))) (wTest (wOp gGt (wVar 6) (wC (.int 0))))) (wAsg 8 (wTup (wCons (wVar 7) (wCons (wCall sp__law_draw (wCons (wVar 0) (wCons (wVar 6) wNil))) (wCons (wOp gSub (wOp gSub (wVar 6) (wC (.int 1))) (wCall sp__law_draw (wCons (wVar 0) (wCons (wB gMin2 (wCons (wVar 6) (wCons (wC (.int 3)) wNil))) wNil)))) wNil))))) wNext) (wSeq (wIf (wTest (wOp gGt (wCall sp__law_size (wCons (wVar 8) (wCons (wVar 5) wNil))) (wVar 3))) (wAsg 8 (wOp gAdd (wTup (wCons (wC (.str "+")) wNil)) (wSl (wVar 8) (wPart (wC (.int 1))) wNo))) wNext) (wSeq (wDrop (wApp (wVar 4) (wVar 8))) (wDrop (wApp (wVar 5) (wCall sp__law_size (wCons (wVar 8) (wCons (wVar 5) wNil)))))))))))))) (wSeq (wAsg 9 (wCat (wLst (wCons (wOp gSub (wB gLen (wCons (wVar 4) wNil)) (wC (.int 1))) wNil)) (wLc (wiRng1 (wCons (wCall sp__law_draw (wCons (wVar 0) (wCons (wC (.int 3)) wNil))) wNil)) (wgName 10) wYes (wCall sp__law_draw (wCons (wVar 0) (wCons (wB gLen (wCons (wVar 4) wNil)) wNil))) [10]))) (wRet 4 (wTup (wCons (wVar 1) (wCons (wB gTuple (wCons (wVar 4) wNil)) (wCons (wB gTuple (wCons (wVar 9) wNil)) wNil))))))))
theorem vc__law_row : ∀ args Z, sp__law_row args Z → args.length = 4 ∧ w__law_row (endsOf 4 Z) (args ++ List.replicate (N__law_row.length - 4) .un) := by
  rintro args Z ⟨as, bs, q, n, many, m, rfl, k, hm, hn, m0, m8, z⟩
  refine ⟨rfl, Nat.zero_le _, Nat.zero_le _, rfl, as, bs, q, (many : Int), m, rfl, k, by omega, by omega, by omega, fun r as1 bs1 q1 r0 r1 k1 => ⟨⟨by omega, by omega⟩, RowI n many m, ⟨as1, bs1, q1, [], .un, .un, .un, trivial, trivial, trivial, k1, .nil n, rfl, rfl⟩, ?_, ?_⟩⟩
  · rintro i d Γ hd ⟨as, bs, q, st, x6, x7, x8, h6, h7, h8, k, hs, rfl, rfl⟩
    obtain ⟨hi, rfl⟩ := rngD_of hd
    rw [Int.zero_add]
    refine ⟨_, rfl, h6, Nat.le_of_ble_eq_true rfl, rfl, as, bs, q, _, m + 1 + 8 * st.length, rfl, k, by omega, by decide, by decide, fun d as2 bs2 q2 hd2 k2 => ?_⟩
    obtain ⟨w, rfl, hw⟩ : ∃ w, d = .str w ∧ w ∈ opWs := by
      simp only [List.mem_cons, List.not_mem_nil, or_false] at hd2
      rcases hd2 with rfl | rfl | rfl | rfl | rfl | rfl | rfl | rfl | rfl | rfl | rfl <;> exact ⟨_, rfl, by simp [opWs]⟩
    exact row_a hm hn hs h8 (by omega) hw k2 fun _ h => h
  · rintro Γ ⟨as, bs, q, st, x6, x7, x8, h6, h7, h8, k, hs, hl, rfl⟩
    rw [rngD_len] at hl k
    have l0 : 0 < st.length := by omega
    have l1 : st.length ≤ many := by omega
    refine ⟨_, rfl, Nat.le_of_ble_eq_true rfl, rfl, as, bs, q, 3, m + 1 + 8 * st.length, rfl, by rw [hl]; exact k, by omega, by decide, by decide, fun r as1 bs1 q1 r0 r1 k1 => ⟨⟨by omega, by omega⟩, rfl, by rw [rngD_len]; omega, fun i acc Γ => ∃ as bs q es, DkOk (m + 1 + 8 * st.length + 1 + i) as bs q ∧ es.length = i ∧ (∀ e ∈ es, e < st.length) ∧ acc = es.map nD ∧ Γ = [.ce (.deck as bs q), .im (.int (n : Int)), .im (.int (many : Int)), .im (.int 3), .ce (.ls (st.map sD)), .ce (.ls (((szA 1).run 0 st).map .int)), x6, x7, x8, .un, .un], ⟨as1, bs1, q1, [], k1, rfl, fun e h => (nomatch h), rfl, rfl⟩, fun _ _ _ _ => trivial, ?_, ?_⟩⟩
    · rintro i d acc Γ hd ⟨as, bs, q, es, k, hi, he, rfl, rfl⟩
      obtain ⟨hi', rfl⟩ := rngD_of hd
      refine ⟨_, rfl, fxU, fun _ => ⟨_, rfl, rfl, as, bs, q, _, m + 1 + 8 * st.length + 1 + i, rfl, k, by omega, by rw [List.length_map]; omega, by rw [List.length_map]; omega, fun r as' bs' q' r0 r1 k' => ?_⟩, nofun⟩
      rw [List.length_map] at r1
      obtain ⟨a, rfl⟩ : ∃ a : Nat, r = (a : Int) := ⟨r.toNat, by omega⟩
      refine ⟨as', bs', q', es ++ [a], k'.mono (by omega), by rw [List.length_append, hi]; rfl, fun e h => ?_, by rw [List.map_append]; rfl, by rw [List.length_map]; rfl⟩
      rcases List.mem_append.mp h with h | h
      · exact he e h
      · rw [List.mem_singleton] at h; omega
    · rintro acc Γ ⟨as, bs, q, es, k, hi, he, rfl, rfl⟩
      rw [rngD_len] at hi k
      have e1 : ((st.map sD).length : Int) - 1 = ((st.length - 1 : Nat) : Int) := by rw [List.length_map]; omega
      refine ⟨_, es.map nD, rfl, rfl, by simp; omega, _, rfl, _, rfl, Nat.le_of_ble_eq_true rfl, ?_⟩
      have zz := z ⟨n, st, (st.length - 1) :: es⟩ as bs q ⟨rfl, hs, l0, l1, fun e h => ?_, by simp, by simp; omega⟩ (k.mono (by omega))
      · rw [e1]
        exact zz
      · rcases List.mem_cons.mp h with h | h
        · have h' : e = st.length - 1 := h
          show e < st.length
          omega
        · exact he e h
end G
set_option maxRecDepth 100000
set_option maxHeartbeats 4000000
/-! Y0: runs of made rows. -/
namespace G
open PySem PySem.Spec PyProof.Rows L2
section
variable {α : Type} {A : Alg α} {z : α}
/-- the inputs told otherwise -/
def Alg.wi (A : Alg α) (f : Nat → α) : Alg α := { A with inp := f }
theorem stp_ren {v : Nat → α} {g : Nat → Nat} {s : Stp} : A.stp v (ren g s) = A.stp (fun k => v (g k)) s := by cases s <;> rfl
theorem stp_wi {v : Nat → α} {f : Nat → α} {s : Stp} (h : isInp s = false) : (A.wi f).stp v s = A.stp v s := by
  cases s with
  | inp i => cases h
  | _ => rfl
theorem wi_self {l : List Stp} {f : Nat → α} {n : Nat} (w : Wf l) (i : Inn n l) (h : ∀ i, i < n → f i = A.inp i) : ∀ k, k < l.length → A.tr z l k = (A.wi f).tr z l k :=
  tr_hom (A := A) (B := A.wi f) (n := n) (f := fun x => x) ⟨fun i hi => (h i hi).symm, fun _ => rfl, fun _ => rfl, fun _ _ _ => rfl⟩ w i
theorem tr_pre {l st : List Stp} (w : Wf l) (ws : Wf st) (h : ∀ k, k < l.length → st[k]? = l[k]?) : ∀ k, k < l.length → A.tr z st k = A.tr z l k :=
  tr_uniq w (u := fun k => A.tr z st k) fun k s e => tr_spec ws (by rw [h k (List.getElem?_eq_some_iff.mp e).1]; exact e)
theorem fed_two {one other : Rw} {st : List Stp} {g : Nat → Nat} (k1 : RowOk one) (k2 : RowOk other) (F : FedTo one other other.st.length st g) :
    ∀ j, j < other.st.length → A.tr z st (g j) = (A.wi fun i => A.tr z one.st (one.en.getD i 0)).tr z other.st j :=
  tr_uniq k2.wf (u := fun j => A.tr z st (g j)) fun j s e => by
    have hj : j < other.st.length := (List.getElem?_eq_some_iff.mp e).1
    cases hs : isInp s with
    | true =>
      cases s with
      | inp i =>
        have h1 := F.inp j i hj e
        have h2 := k1.en _ (List.mem_of_getElem? h1)
        show A.tr z st (g j) = A.tr z one.st (one.en.getD i 0)
        rw [List.getD_eq_getElem?_getD, h1]
        exact tr_pre k1.wf F.wf F.pre _ h2
      | _ => cases hs
    | false =>
      rw [stp_wi hs]
      show A.tr z st (g j) = _
      rw [tr_spec F.wf (F.at_ j s hj e hs), stp_ren]
theorem bes_get1 {one other : Rw} {k : Nat} (hk : k < one.st.length) : (besR one other).st[k]? = one.st[k]? := by
  show (one.st ++ _)[k]? = _
  rw [List.getElem?_append_left hk]
theorem bes_get2 {one other : Rw} {j : Nat} : (besR one other).st[one.st.length + j]? = (other.st[j]?).map (besS one.n one.st.length) := by
  show (one.st ++ _)[one.st.length + j]? = _
  rw [List.getElem?_append_right (by omega), Nat.add_sub_cancel_left, List.getElem?_map]
theorem bes_wf {one other : Rw} (k1 : RowOk one) (k2 : RowOk other) : Wf (besR one other).st := fun k s e a ha => by
  rcases Nat.lt_or_ge k one.st.length with h | h
  · rw [bes_get1 h] at e
    exact k1.wf k s e a ha
  · obtain ⟨j, rfl⟩ : ∃ j, k = one.st.length + j := ⟨k - one.st.length, by omega⟩
    rw [bes_get2] at e
    cases ej : other.st[j]? with
    | none => rw [ej] at e; cases e
    | some t =>
      rw [ej] at e
      cases e
      have w := k2.wf j t ej
      cases t with
      | inp i => simp [besS, refs] at ha
      | set c => simp [besS, ren, refs] at ha
      | neg b =>
        simp only [besS, ren, refs, List.mem_singleton] at ha
        have := w b (by simp [refs])
        omega
      | bin o b c =>
        simp only [besS, ren, refs, List.mem_cons, List.not_mem_nil, or_false] at ha
        have := w b (by simp [refs])
        have := w c (by simp [refs])
        omega
theorem bes_one {one other : Rw} (k1 : RowOk one) (k2 : RowOk other) : ∀ k, k < one.st.length → A.tr z (besR one other).st k = A.tr z one.st k :=
  tr_pre k1.wf (bes_wf k1 k2) fun _ hk => bes_get1 hk
theorem bes_two {one other : Rw} (k1 : RowOk one) (k2 : RowOk other) : ∀ j, j < other.st.length → A.tr z (besR one other).st (one.st.length + j) = (A.wi fun i => A.inp (one.n + i)).tr z other.st j :=
  tr_uniq k2.wf (u := fun j => A.tr z (besR one other).st (one.st.length + j)) fun j s e => by
    show A.tr z (besR one other).st (one.st.length + j) = _
    rw [tr_spec (bes_wf k1 k2) (s := besS one.n one.st.length s) (by rw [bes_get2, e]; rfl)]
    cases s <;> rfl
theorem rn_get {r : Rw} {m : Nat} {order : List Nat} {k : Nat} : (rnR r m order).st[k]? = (r.st[k]?).map (rnS order) := List.getElem?_map ..
theorem rn_wf {r : Rw} {m : Nat} {order : List Nat} (k1 : RowOk r) : Wf (rnR r m order).st := fun k s e a ha => by
  rw [rn_get] at e
  cases ek : r.st[k]? with
  | none => rw [ek] at e; cases e
  | some t =>
    rw [ek] at e
    cases e
    refine k1.wf k t ek a ?_
    cases t with
    | inp i => simp [rnS, refs] at ha
    | _ => exact ha
theorem rn_tr {r : Rw} {m : Nat} {order : List Nat} (k1 : RowOk r) : ∀ k, k < r.st.length → A.tr z (rnR r m order).st k = (A.wi fun i => A.inp (order.getD i 0)).tr z r.st k :=
  tr_uniq k1.wf (u := fun k => A.tr z (rnR r m order).st k) fun k s e => by
    show A.tr z (rnR r m order).st k = _
    rw [tr_spec (rn_wf k1) (s := rnS order s) (by rw [rn_get, e]; rfl)]
    cases s <;> rfl
theorem sim_tr {r t : Rw} {g : Nat → Nat} {S : Nat → Prop} (k1 : RowOk r) (h : Sim r t g S) : ∀ j, S j → A.tr z t.st (g j) = A.tr z r.st j := by
  intro j
  induction j using Nat.strongRecOn with
  | ind j ih =>
    intro hj
    have e : r.st[j]? = some (r.st[j]'(h.lt j hj)) := List.getElem?_eq_getElem _
    rw [tr_spec h.wf (h.st j _ hj e), tr_spec k1.wf e, stp_ren]
    exact stp_congr fun a ha => ih a (k1.wf j _ e a ha) (h.cl j _ hj e a ha)
end
end G
set_option maxRecDepth 100000
set_option maxHeartbeats 4000000
/-! Y1: rates through duals. -/
namespace G
open PySem PySem.Spec PyProof.Rows L2
/-- value and one rate -/
def Dl (x dx : Nat → Int) : Alg (Int × Int) where
  inp := fun i => (x i, dx i)
  set := fun c => (c, 0)
  neg := fun a => (0 - a.1, 0 - a.2)
  bin := fun o a b => match o with
    | .add => (a.1 + b.1, a.2 + b.2)
    | .sub => (a.1 - b.1, a.2 - b.2)
    | .mul => (a.1 * b.1, a.2 * b.1 + a.1 * b.2)
def xs (p : List Int) (i : Nat) : Int := p.getD i 0
def ey (u i : Nat) : Int := if u = i then 1 else 0
theorem dl_rc {r : Rw} {p : List Int} (ok : RowOk r) {u : Nat} (hu : u < r.n) : ∀ k, k < r.st.length → (val r p k, rc r p u k) = (Dl (xs p) (ey u)).tr (0, 0) r.st k :=
  tr_uniq ok.wf (u := fun k => (val r p k, rc r p u k)) fun k s e => by
    show (val r p k, rc r p u k) = _
    rw [rc_stp ok hu e]
    unfold val
    rw [tr_spec ok.wf e]
    cases s with
    | bin o a b => cases o <;> rfl
    | _ => rfl
theorem dl_fst {x dx : Nat → Int} {l : List Stp} (w : Wf l) {n : Nat} (i : Inn n l) {p : List Int} (h : ∀ j, j < n → x j = p.getD j 0) : ∀ k, k < l.length → ((Dl x dx).tr (0, 0) l k).1 = (valA p).tr 0 l k :=
  tr_hom (A := Dl x dx) (B := valA p) (n := n) (f := Prod.fst) ⟨fun j hj => h j hj, fun _ => rfl, fun _ => rfl, fun o _ _ => by cases o <;> rfl⟩ w i
/-! sums -/
def sm (n : Nat) (f : Nat → Int) : Int := ((List.range n).map f).sum
theorem sm_succ (n : Nat) (f : Nat → Int) : sm (n + 1) f = sm n f + f n := by
  unfold sm
  rw [List.range_succ, List.map_append, List.sum_append]
  simp
theorem sm_congr {n : Nat} {f g : Nat → Int} (h : ∀ i, i < n → f i = g i) : sm n f = sm n g := by
  induction n with
  | zero => rfl
  | succ n ih => rw [sm_succ, sm_succ, ih fun i hi => h i (by omega), h n (by omega)]
theorem sm_zero (n : Nat) : sm n (fun _ => 0) = 0 := by
  induction n with
  | zero => rfl
  | succ n ih => rw [sm_succ, ih]; rfl
theorem sm_add (n : Nat) (f g : Nat → Int) : sm n (fun i => f i + g i) = sm n f + sm n g := by
  induction n with
  | zero => rfl
  | succ n ih => rw [sm_succ, sm_succ, sm_succ, ih]; omega
theorem sm_mul (n : Nat) (f : Nat → Int) (c : Int) : sm n (fun i => f i * c) = sm n f * c := by
  induction n with
  | zero => exact (Int.zero_mul c).symm
  | succ n ih => rw [sm_succ, sm_succ, ih, Int.add_mul]
theorem sm_neg (n : Nat) (f : Nat → Int) : sm n (fun i => 0 - f i) = 0 - sm n f := by
  induction n with
  | zero => rfl
  | succ n ih => rw [sm_succ, sm_succ, ih]; omega
theorem sm_sub (n : Nat) (f g : Nat → Int) : sm n (fun i => f i - g i) = sm n f - sm n g := by
  induction n with
  | zero => rfl
  | succ n ih => rw [sm_succ, sm_succ, sm_succ, ih]; omega
theorem sm_one {n u : Nat} (hu : u < n) (f : Nat → Int) : sm n (fun i => f i * ey i u) = f u := by
  induction n with
  | zero => omega
  | succ n ih =>
    rw [sm_succ]
    by_cases h : u = n
    · subst h
      rw [sm_congr (g := fun _ => 0) (fun i hi => by unfold ey; rw [if_neg (by omega), Int.mul_zero]), sm_zero]
      unfold ey
      rw [if_pos rfl]
      omega
    · rw [ih (by omega)]
      unfold ey
      rw [if_neg (by omega)]
      omega
/-- the rate along dx is the sum of dx times the single rates -/
theorem dl_lin {n : Nat} {x dx : Nat → Int} {l : List Stp} (w : Wf l) (inn : Inn n l) : ∀ k, k < l.length →
    (((Dl x (ey 0)).tr (0, 0) l k).1, sm n fun i => dx i * ((Dl x (ey i)).tr (0, 0) l k).2) = (Dl x dx).tr (0, 0) l k := by
  have one : ∀ u k, k < l.length → ((Dl x (ey u)).tr (0, 0) l k).1 = ((Dl x (ey 0)).tr (0, 0) l k).1 := fun u =>
    let P := (List.range n).map x
    have hP : ∀ j, j < n → x j = P.getD j 0 := fun j hj => by
      show x j = ((List.range n).map x).getD j 0
      rw [List.getD_eq_getElem?_getD, List.getElem?_map, List.getElem?_range hj]; rfl
    fun k hk => (dl_fst w inn hP k hk).trans (dl_fst w inn hP k hk).symm
  refine tr_uniq w (u := fun k => (((Dl x (ey 0)).tr (0, 0) l k).1, sm n fun i => dx i * ((Dl x (ey i)).tr (0, 0) l k).2)) fun k s e => ?_
  have hk : k < l.length := (List.getElem?_eq_some_iff.mp e).1
  have sp : ∀ u, (Dl x (ey u)).tr (0, 0) l k = (Dl x (ey u)).stp ((Dl x (ey u)).tr (0, 0) l) s := fun u => tr_spec w e
  have wk := w k s e
  show (((Dl x (ey 0)).tr (0, 0) l k).1, sm n fun i => dx i * ((Dl x (ey i)).tr (0, 0) l k).2) = _
  rw [sp 0, sm_congr (g := fun i => dx i * ((Dl x (ey i)).stp ((Dl x (ey i)).tr (0, 0) l) s).2) fun i _ => by rw [sp i]]
  cases s with
  | inp j =>
    have hj := inn k j e
    refine Prod.ext rfl ?_
    exact sm_one hj dx
  | set c =>
    refine Prod.ext rfl ?_
    show sm n (fun i => dx i * 0) = 0
    rw [sm_congr (g := fun _ => 0) fun i _ => Int.mul_zero _, sm_zero]
  | neg a =>
    refine Prod.ext rfl ?_
    show sm n (fun i => dx i * (0 - ((Dl x (ey i)).tr (0, 0) l a).2)) = 0 - sm n _
    rw [← sm_neg]
    exact sm_congr fun i _ => by rw [Int.mul_sub, Int.mul_zero]
  | bin o a b =>
    have ha := wk a (by simp [refs])
    have hb := wk b (by simp [refs])
    cases o with
    | add =>
      refine Prod.ext rfl ?_
      show sm n (fun i => dx i * (((Dl x (ey i)).tr (0, 0) l a).2 + ((Dl x (ey i)).tr (0, 0) l b).2)) = sm n _ + sm n _
      rw [← sm_add]
      exact sm_congr fun i _ => Int.mul_add _ _ _
    | sub =>
      refine Prod.ext rfl ?_
      show sm n (fun i => dx i * (((Dl x (ey i)).tr (0, 0) l a).2 - ((Dl x (ey i)).tr (0, 0) l b).2)) = sm n _ - sm n _
      rw [← sm_sub]
      exact sm_congr fun i _ => Int.mul_sub _ _ _
    | mul =>
      refine Prod.ext rfl ?_
      show sm n (fun i => dx i * (((Dl x (ey i)).tr (0, 0) l a).2 * ((Dl x (ey i)).tr (0, 0) l b).1 + ((Dl x (ey i)).tr (0, 0) l a).1 * ((Dl x (ey i)).tr (0, 0) l b).2)) = sm n _ * ((Dl x (ey 0)).tr (0, 0) l b).1 + ((Dl x (ey 0)).tr (0, 0) l a).1 * sm n _
      rw [Int.mul_comm ((Dl x (ey 0)).tr (0, 0) l a).1, ← sm_mul, ← sm_mul, ← sm_add]
      refine sm_congr fun i _ => ?_
      rw [one i a (by omega), one i b (by omega), Int.mul_add, Int.mul_assoc, Int.mul_assoc, Int.mul_comm ((Dl x (ey 0)).tr (0, 0) l a).1]
end G
set_option maxRecDepth 100000
set_option maxHeartbeats 4000000
/-! Y2: fed rows: values, rates, pulls. -/
namespace G
open PySem PySem.Spec PyProof.Rows L2
theorem en_map {one : Rw} {f : Nat → Int} {i : Nat} (h : i < one.en.length) : (one.en.map f).getD i 0 = f (one.en.getD i 0) := by
  rw [List.getD_eq_getElem?_getD, List.getD_eq_getElem?_getD, List.getElem?_map, List.getElem?_eq_getElem h]
  rfl
section
variable {one other : Rw} {st : List Stp} {g : Nat → Nat} {p : List Int}
theorem val_fed (k1 : RowOk one) (k2 : RowOk other) (F : FedTo one other other.st.length st g) (hn : one.en.length = other.n) {j : Nat} (hj : j < other.st.length) :
    val (fedOf one other st g) p (g j) = val other (one.en.map (val one p)) j := by
  show (valA p).tr 0 st (g j) = _
  rw [fed_two k1 k2 F j hj]
  refine tr_hom (A := (valA p).wi fun i => (valA p).tr 0 one.st (one.en.getD i 0)) (B := valA (one.en.map (val one p))) (n := other.n) (f := fun x => x) ⟨fun i hi => ?_, fun _ => rfl, fun _ => rfl, fun _ _ _ => rfl⟩ k2.wf k2.inn j hj
  show val one p (one.en.getD i 0) = (one.en.map (val one p)).getD i 0
  rw [en_map (by omega)]
theorem rc_fed (k1 : RowOk one) (k2 : RowOk other) (k3 : RowOk (fedOf one other st g)) (F : FedTo one other other.st.length st g) (hn : one.en.length = other.n) {u : Nat} (hu : u < one.n) {j : Nat} (hj : j < other.st.length) :
    rc (fedOf one other st g) p u (g j) = sm other.n fun i => rc one p u (one.en.getD i 0) * rc other (one.en.map (val one p)) i j := by
  have e1 := dl_rc (p := p) k3 (u := u) hu (g j) (F.lt j hj)
  have e2 : (Dl (xs p) (ey u)).tr (0, 0) (fedOf one other st g).st (g j) = _ := fed_two (A := Dl (xs p) (ey u)) (z := (0, 0)) k1 k2 F j hj
  have e3 : ((Dl (xs p) (ey u)).wi fun i => (Dl (xs p) (ey u)).tr (0, 0) one.st (one.en.getD i 0)).tr (0, 0) other.st j = (Dl (xs (one.en.map (val one p))) fun i => rc one p u (one.en.getD i 0)).tr (0, 0) other.st j := by
    refine tr_hom (A := (Dl (xs p) (ey u)).wi fun i => (Dl (xs p) (ey u)).tr (0, 0) one.st (one.en.getD i 0)) (B := Dl (xs (one.en.map (val one p))) fun i => rc one p u (one.en.getD i 0)) (n := other.n) (f := fun x => x) ⟨fun i hi => ?_, fun _ => rfl, fun _ => rfl, fun _ _ _ => rfl⟩ k2.wf k2.inn j hj
    show (Dl (xs p) (ey u)).tr (0, 0) one.st (one.en.getD i 0) = (xs (one.en.map (val one p)) i, rc one p u (one.en.getD i 0))
    have hi' : i < one.en.length := by omega
    have hx : one.en.getD i 0 < one.st.length := by
      rw [List.getD_eq_getElem?_getD, List.getElem?_eq_getElem hi']
      exact k1.en _ (List.getElem_mem hi')
    rw [← dl_rc k1 hu _ hx]
    unfold xs
    rw [en_map hi']
  rw [e2, e3, ← dl_lin (n := other.n) k2.wf k2.inn j hj] at e1
  have e4 := congrArg Prod.snd e1
  have e5 : rc (fedOf one other st g) p u (g j) = sm other.n _ := e4
  rw [e5]
  refine sm_congr fun i hi => ?_
  rw [← dl_rc k2 hi j hj]
theorem sum_zip (f : Int → Int → Int) : ∀ (a b : List Int) (n : Nat), a.length = n → b.length = n → (List.zipWith f a b).sum = sm n fun i => f (a.getD i 0) (b.getD i 0)
  | [], [], n, h, _ => by cases h; rfl
  | [], _ :: _, n, h, k => by simp at h k; omega
  | _ :: _, [], n, h, k => by simp at h k; omega
  | x :: a, y :: b, n, h, k => by
    cases n with
    | zero => simp at h
    | succ n =>
      have ih := sum_zip f a b n (by simpa using h) (by simpa using k)
      rw [List.zipWith_cons_cons, List.sum_cons, ih]
      unfold sm
      rw [List.range_succ_eq_map, List.map_cons, List.sum_cons, List.map_map]
      rfl
theorem rat_rc {r : Rw} (ok : RowOk r) {k : Nat} (hk : k < r.st.length) : rat r p k = (List.range r.n).map fun u => rc r p u k := by
  have hl := rat_len (p := p) ok k hk
  refine List.ext_getElem? fun i => ?_
  by_cases h : i < r.n
  · rw [List.getElem?_map, List.getElem?_range h]
    show _ = some ((rat r p k).getD i 0)
    rw [List.getD_eq_getElem?_getD, List.getElem?_eq_getElem (by omega)]
    rfl
  · rw [List.getElem?_eq_none (by omega), List.getElem?_eq_none (by simp; omega)]
theorem chain_fed (k1 : RowOk one) (k2 : RowOk other) (k3 : RowOk (fedOf one other st g)) (F : FedTo one other other.st.length st g) (hn : one.en.length = other.n) {j : Nat} (hj : j < other.st.length) :
    rat (fedOf one other st g) p (g j) = chainV one other p j := by
  rw [rat_rc k3 (F.lt j hj)]
  unfold chainV
  refine List.map_congr_left fun u hu => ?_
  have hu' : u < one.n := List.mem_range.mp hu
  rw [rc_fed k1 k2 k3 F hn hu' hj]
  have : (List.zipWith (fun a own => a * own.getD u 0) (rat other (one.en.map (val one p)) j) (one.en.map (rat one p))) = List.zipWith (fun a b => a * b) (rat other (one.en.map (val one p)) j) (one.en.map fun e => rc one p u e) := by
    rw [List.zipWith_map_right, List.zipWith_map_right]
    rfl
  rw [this, sum_zip (fun a b => a * b) _ _ other.n (by rw [rat_len k2 j hj]) (by rw [List.length_map, hn])]
  refine sm_congr fun i hi => ?_
  rw [en_map (by omega), Int.mul_comm]
  rfl
theorem sm_exch (n : Nat) (l : List (Nat × Int)) (f : Nat → Nat → Int) (c : Nat → Int) : sm n (fun i => (l.map fun q => q.2 * f i q.1).sum * c i) = (l.map fun q => q.2 * sm n fun i => f i q.1 * c i).sum := by
  induction l with
  | nil =>
    show sm n (fun i => (0 : Int) * c i) = 0
    rw [sm_congr (g := fun _ => 0) fun i _ => Int.zero_mul _, sm_zero]
  | cons q l ih =>
    simp only [List.map_cons, List.sum_cons]
    rw [← ih, sm_congr (g := fun i => (f i q.1 * c i) * q.2 + (l.map fun q => q.2 * f i q.1).sum * c i) fun i _ => by rw [Int.add_mul, Int.mul_comm q.2, Int.mul_assoc, Int.mul_comm q.2, Int.mul_assoc], sm_add, sm_mul, Int.mul_comm]
theorem zip_pairs (f : Nat → Int) : ∀ (en : List Nat) (w : List Int), (List.zipWith (fun e x => x * f e) en w).sum = ((en.zip w).map fun q => q.2 * f q.1).sum
  | [], _ => rfl
  | _ :: _, [] => rfl
  | e :: en, x :: w => by
    simp only [List.zipWith_cons_cons, List.zip_cons_cons, List.map_cons, List.sum_cons]
    rw [zip_pairs f en w]
theorem sw_fed (k1 : RowOk one) (k2 : RowOk other) (k3 : RowOk (fedOf one other st g)) (F : FedTo one other other.st.length st g) (hn : one.en.length = other.n) (w : List Int) :
    swV (fedOf one other st g) p w = swV one p (swV other (one.en.map (val one p)) w) := by
  unfold swV
  refine List.map_congr_left fun u hu => ?_
  have hu' : u < one.n := List.mem_range.mp hu
  have e1 : (List.zipWith (fun e x => x * rc (fedOf one other st g) p u e) (fedOf one other st g).en w) = List.zipWith (fun e x => x * rc (fedOf one other st g) p u (g e)) other.en w := by
    show List.zipWith _ (other.en.map g) w = _
    rw [List.zipWith_map_left]
  rw [e1, zip_pairs (fun e => rc (fedOf one other st g) p u (g e))]
  have e2 : ∀ (en : List Nat) (m : Nat) (h : Nat → Int) (c : Nat → Int), en.length = m → (List.zipWith (fun e x => x * c e) en ((List.range m).map h)).sum = sm m fun i => h i * c (en.getD i 0) := fun en m h c hl => by
    have : (List.zipWith (fun e x => x * c e) en ((List.range m).map h)) = List.zipWith (fun a b => b * a) (en.map c) ((List.range m).map h) := by rw [List.zipWith_map_left]
    rw [this, sum_zip (fun a b => b * a) _ _ m (by rw [List.length_map, hl]) (by simp)]
    refine sm_congr fun i hi => ?_
    have h1 : ((List.range m).map h).getD i 0 = h i := by
      rw [List.getD_eq_getElem?_getD, List.getElem?_map, List.getElem?_range hi]; rfl
    have h2 : (en.map c).getD i 0 = c (en.getD i 0) := by
      rw [List.getD_eq_getElem?_getD, List.getD_eq_getElem?_getD, List.getElem?_map, List.getElem?_eq_getElem (by omega)]; rfl
    rw [h1, h2]
  rw [e2 one.en other.n _ (fun e => rc one p u e) hn]
  have e3 : sm other.n (fun i => (List.zipWith (fun e x => x * rc other (one.en.map (val one p)) i e) other.en w).sum * rc one p u (one.en.getD i 0)) = sm other.n (fun i => ((other.en.zip w).map fun q => q.2 * rc other (one.en.map (val one p)) i q.1).sum * rc one p u (one.en.getD i 0)) :=
    sm_congr fun i _ => by rw [zip_pairs (fun e => rc other (one.en.map (val one p)) i e)]
  rw [e3, sm_exch other.n (other.en.zip w) (fun i e => rc other (one.en.map (val one p)) i e) (fun i => rc one p u (one.en.getD i 0))]
  congr 1
  refine List.map_congr_left fun q hq => ?_
  rw [rc_fed k1 k2 k3 F hn hu' (k2.en q.1 (List.of_mem_zip hq).1)]
  congr 1
  exact sm_congr fun i _ => Int.mul_comm _ _
end
end G
set_option maxRecDepth 100000
set_option maxHeartbeats 4000000
/-! Y3: slim rows, rows side by side, renamed rows. -/
namespace G
open PySem PySem.Spec PyProof.Rows L2
section
variable {r t : Rw} {g : Nat → Nat} {S : Nat → Prop} {p : List Int}
theorem Sim.get (h : Sim r t g S) {k : Nat} {s : Stp} (e : t.st[k]? = some s) : ∃ j s', S j ∧ g j = k ∧ r.st[j]? = some s' ∧ s = ren g s' := by
  obtain ⟨j, hj, hk⟩ := h.on k (List.getElem?_eq_some_iff.mp e).1
  have e' : r.st[j]? = some (r.st[j]'(h.lt j hj)) := List.getElem?_eq_getElem _
  have := h.st j _ hj e'
  rw [hk, e] at this
  exact ⟨j, _, hj, hk, e', Option.some.inj this⟩
theorem Sim.glt (h : Sim r t g S) {j : Nat} (hj : S j) : g j < t.st.length := by
  have e' : r.st[j]? = some (r.st[j]'(h.lt j hj)) := List.getElem?_eq_getElem _
  exact (List.getElem?_eq_some_iff.mp (h.st j _ hj e')).1
theorem Sim.ok (h : Sim r t g S) (k : RowOk r) (hp : 0 < r.en.length) : RowOk t where
  wf := h.wf
  inn := fun i j e => by
    obtain ⟨a, s', _, _, h3, h4⟩ := h.get e
    cases s' with
    | inp b => cases h4; rw [h.n]; exact k.inn a j h3
    | set c => cases h4
    | neg c => cases h4
    | bin o c d => cases h4
  en := fun e he => by
    rw [h.en] at he
    obtain ⟨a, ha, rfl⟩ := List.mem_map.mp he
    exact h.glt (h.enS a ha)
  ln := Nat.le_trans h.ln k.ln
  le := by rw [h.en, List.length_map]; exact k.le
  ln1 := by
    obtain ⟨e, he⟩ : ∃ e, e ∈ r.en := ⟨r.en[0], List.getElem_mem hp⟩
    have := h.glt (h.enS e he)
    omega
  ln2 := by rw [h.n]; exact k.ln2
theorem Sim.val (h : Sim r t g S) (k : RowOk r) {j : Nat} (hj : S j) : val t p (g j) = G.val r p j := sim_tr (A := valA p) k h j hj
theorem Sim.rat (h : Sim r t g S) (k : RowOk r) {j : Nat} (hj : S j) : rat t p (g j) = G.rat r p j := by
  unfold G.rat du
  rw [h.n, sim_tr (A := duA r.n p) k h j hj]
theorem Sim.pol (h : Sim r t g S) (k : RowOk r) {j : Nat} (hj : S j) : pol t (g j) = G.pol r j := by
  unfold G.pol
  rw [h.n, sim_tr (A := polyA r.n) k h j hj]
theorem Sim.siz (h : Sim r t g S) (k : RowOk r) {j : Nat} (hj : S j) : siz t (g j) = G.siz r j := sim_tr (A := szA 1) k h j hj
theorem Sim.map {α : Type} {f f' : Nat → α} (h : Sim r t g S) (e : ∀ j, S j → f (g j) = f' j) : t.en.map f = r.en.map f' := by
  rw [h.en, List.map_map]
  exact List.map_congr_left fun a ha => e a (h.enS a ha)
theorem Sim.sw (h : Sim r t g S) (k : RowOk r) (w : List Int) : swV t p w = swV r p w := by
  unfold swV
  rw [h.n, h.en]
  refine List.map_congr_left fun u hu => ?_
  rw [List.zipWith_map_left, zip_pairs (fun a => rc t p u (g a)), zip_pairs (fun a => rc r p u a)]
  congr 1
  refine List.map_congr_left fun q hq => ?_
  have := h.rat (p := p) k (h.enS q.1 (List.of_mem_zip hq).1)
  unfold rc
  rw [this]
end
section
variable {one other : Rw} {p q : List Int}
theorem bes_len {one other : Rw} : (besR one other).st.length = one.st.length + other.st.length := by simp [besR]
theorem bes_ok (k1 : RowOk one) (k2 : RowOk other) (hl : one.st.length + other.st.length ≤ 900) (he : one.en.length + other.en.length ≤ 900) (hn : one.n + other.n ≤ 900) : RowOk (besR one other) where
  wf := bes_wf k1 k2
  inn := fun k i e => by
    show i < one.n + other.n
    rcases Nat.lt_or_ge k one.st.length with h | h
    · rw [bes_get1 h] at e
      have := k1.inn k i e
      omega
    · obtain ⟨j, rfl⟩ : ∃ j, k = one.st.length + j := ⟨k - one.st.length, by omega⟩
      rw [bes_get2] at e
      cases ej : other.st[j]? with
      | none => rw [ej] at e; cases e
      | some t =>
        rw [ej] at e
        have e' := Option.some.inj e
        cases t with
        | inp a =>
          have : one.n + a = i := by injection e'
          have := k2.inn j a ej
          omega
        | set c => cases e'
        | neg c => cases e'
        | bin o c d => cases e'
  en := fun e h => by
    rw [bes_len]
    have h' : e ∈ one.en ++ other.en.map fun a => one.st.length + a := h
    rcases List.mem_append.mp h' with h | h
    · have := k1.en e h; omega
    · obtain ⟨a, ha, rfl⟩ := List.mem_map.mp h
      have := k2.en a ha
      omega
  ln := by rw [bes_len]; exact hl
  le := by show (one.en ++ other.en.map fun a => one.st.length + a).length ≤ 900; rw [List.length_append, List.length_map]; exact he
  ln1 := by rw [bes_len]; have := k1.ln1; omega
  ln2 := hn
theorem getD_left {i : Nat} (h : i < p.length) : (p ++ q).getD i 0 = p.getD i 0 := by
  rw [List.getD_eq_getElem?_getD, List.getD_eq_getElem?_getD, List.getElem?_append_left h]
theorem getD_right {i : Nat} : (p ++ q).getD (p.length + i) 0 = q.getD i 0 := by
  rw [List.getD_eq_getElem?_getD, List.getD_eq_getElem?_getD, List.getElem?_append_right (by omega), Nat.add_sub_cancel_left]
theorem bes_val1 (k1 : RowOk one) (k2 : RowOk other) (hp : p.length = one.n) {k : Nat} (hk : k < one.st.length) : val (besR one other) (p ++ q) k = val one p k := by
  show (valA (p ++ q)).tr 0 (besR one other).st k = _
  rw [bes_one k1 k2 k hk]
  exact tr_hom (A := valA (p ++ q)) (B := valA p) (n := one.n) (f := fun x => x) ⟨fun i hi => getD_left (by omega), fun _ => rfl, fun _ => rfl, fun _ _ _ => rfl⟩ k1.wf k1.inn k hk
theorem bes_val2 (k1 : RowOk one) (k2 : RowOk other) (hp : p.length = one.n) {j : Nat} (hj : j < other.st.length) : val (besR one other) (p ++ q) (one.st.length + j) = val other q j := by
  show (valA (p ++ q)).tr 0 (besR one other).st (one.st.length + j) = _
  rw [bes_two k1 k2 j hj]
  exact tr_hom (A := (valA (p ++ q)).wi fun i => (valA (p ++ q)).inp (one.n + i)) (B := valA q) (n := other.n) (f := fun x => x) ⟨fun i hi => by
    show (p ++ q).getD (one.n + i) 0 = q.getD i 0
    rw [← hp]; exact getD_right, fun _ => rfl, fun _ => rfl, fun _ _ _ => rfl⟩ k2.wf k2.inn j hj
end
end G
set_option maxRecDepth 100000
set_option maxHeartbeats 4000000
/-! Y4: rates and pulls of rows side by side, of renamed rows. -/
namespace G
open PySem PySem.Spec PyProof.Rows L2
theorem dl_zero {n : Nat} {x : Nat → Int} {l : List Stp} (w : Wf l) (inn : Inn n l) {k : Nat} (hk : k < l.length) : ((Dl x (fun _ => 0)).tr (0, 0) l k).2 = 0 := by
  rw [← dl_lin (n := n) w inn k hk]
  show sm n (fun i => 0 * _) = 0
  rw [sm_congr (g := fun _ => 0) fun i _ => Int.zero_mul _, sm_zero]
theorem dl_cong {n : Nat} {x dx y dy : Nat → Int} {l : List Stp} (w : Wf l) (inn : Inn n l) (h : ∀ i, i < n → x i = y i ∧ dx i = dy i) : ∀ k, k < l.length → (Dl x dx).tr (0, 0) l k = (Dl y dy).tr (0, 0) l k :=
  tr_hom (A := Dl x dx) (B := Dl y dy) (n := n) (f := fun x => x) ⟨fun i hi => by
    show (x i, dx i) = (y i, dy i)
    rw [(h i hi).1, (h i hi).2], fun _ => rfl, fun _ => rfl, fun _ _ _ => rfl⟩ w inn
theorem ey_sh {n u i : Nat} (h : n ≤ u) : ey u (n + i) = ey (u - n) i := by
  unfold ey
  by_cases c : u = n + i
  · rw [if_pos c, if_pos (by omega)]
  · rw [if_neg c, if_neg (by omega)]
section
variable {one other : Rw} {p q : List Int}
theorem bes_rc1 (k1 : RowOk one) (k2 : RowOk other) (k3 : RowOk (besR one other)) (hp : p.length = one.n) {u k : Nat} (hu : u < one.n + other.n) (hk : k < one.st.length) :
    rc (besR one other) (p ++ q) u k = if u < one.n then rc one p u k else 0 := by
  have e1 := congrArg Prod.snd (dl_rc (p := p ++ q) k3 (u := u) hu k (by rw [bes_len]; omega))
  rw [bes_one k1 k2 k hk] at e1
  have e2 : rc (besR one other) (p ++ q) u k = _ := e1
  rw [e2]
  split
  · rename_i h
    rw [dl_cong (x := xs (p ++ q)) (dx := ey u) (y := xs p) (dy := ey u) k1.wf k1.inn (fun i hi => ⟨getD_left (by omega), rfl⟩) k hk, ← dl_rc k1 h k hk]
  · rename_i h
    rw [dl_cong (x := xs (p ++ q)) (dx := ey u) (y := xs p) (dy := fun _ => 0) k1.wf k1.inn (fun i hi => ⟨getD_left (by omega), by unfold ey; rw [if_neg (by omega)]⟩) k hk]
    exact dl_zero k1.wf k1.inn hk
theorem bes_rc2 (k1 : RowOk one) (k2 : RowOk other) (k3 : RowOk (besR one other)) (hp : p.length = one.n) {u j : Nat} (hu : u < one.n + other.n) (hj : j < other.st.length) :
    rc (besR one other) (p ++ q) u (one.st.length + j) = if u < one.n then 0 else rc other q (u - one.n) j := by
  have e1 := congrArg Prod.snd (dl_rc (p := p ++ q) k3 (u := u) hu (one.st.length + j) (by rw [bes_len]; omega))
  rw [bes_two k1 k2 j hj] at e1
  have e3 : ((Dl (xs (p ++ q)) (ey u)).wi fun i => (Dl (xs (p ++ q)) (ey u)).inp (one.n + i)) = Dl (fun i => xs (p ++ q) (one.n + i)) (fun i => ey u (one.n + i)) := rfl
  rw [e3] at e1
  have e2 : rc (besR one other) (p ++ q) u (one.st.length + j) = _ := e1
  rw [e2]
  split
  · rename_i h
    rw [dl_cong (x := fun i => xs (p ++ q) (one.n + i)) (dx := fun i => ey u (one.n + i)) (y := xs q) (dy := fun _ => 0) k2.wf k2.inn (fun i hi => ⟨by unfold xs; rw [← hp]; exact getD_right, by unfold ey; rw [if_neg (by omega)]⟩) j hj]
    exact dl_zero k2.wf k2.inn hj
  · rename_i h
    rw [dl_cong (x := fun i => xs (p ++ q) (one.n + i)) (dx := fun i => ey u (one.n + i)) (y := xs q) (dy := ey (u - one.n)) k2.wf k2.inn (fun i hi => ⟨by unfold xs; rw [← hp]; exact getD_right, ey_sh (by omega)⟩) j hj, ← dl_rc k2 (by omega) j hj]
theorem map0 : ∀ {f : Nat → Int} {n : Nat}, (∀ i ∈ List.range n, f i = 0) → (List.range n).map f = List.replicate n 0 := fun {f n} h => by
  refine List.eq_replicate_iff.mpr ⟨by rw [List.length_map, List.length_range], fun x hx => ?_⟩
  obtain ⟨i, hi, rfl⟩ := List.mem_map.mp hx
  exact h i hi
theorem sum0 {α : Type} : ∀ {l : List α} {f : α → Int}, (∀ q ∈ l, f q = 0) → (l.map f).sum = 0
  | [], _, _ => rfl
  | q :: l, f, h => by
    rw [List.map_cons, List.sum_cons, h q (List.mem_cons_self ..), sum0 fun x hx => h x (List.mem_cons_of_mem _ hx)]
    rfl
theorem range_split {α : Type} (a b : Nat) (f : Nat → α) : (List.range (a + b)).map f = (List.range a).map f ++ (List.range b).map fun i => f (a + i) := by
  rw [List.range_add, List.map_append, List.map_map]
  rfl
theorem bes_rat1 (k1 : RowOk one) (k2 : RowOk other) (k3 : RowOk (besR one other)) (hp : p.length = one.n) {k : Nat} (hk : k < one.st.length) :
    rat (besR one other) (p ++ q) k = rat one p k ++ List.replicate other.n 0 := by
  rw [rat_rc k3 (by rw [bes_len]; omega), rat_rc k1 hk]
  show (List.range (one.n + other.n)).map _ = _
  rw [range_split]
  congr 1
  · refine List.map_congr_left fun u hu => ?_
    have hu' := List.mem_range.mp hu
    rw [bes_rc1 k1 k2 k3 hp (by omega) hk, if_pos hu']
  · have e : ∀ i ∈ List.range other.n, rc (besR one other) (p ++ q) (one.n + i) k = 0 := fun i hi => by
      have hi' := List.mem_range.mp hi
      rw [bes_rc1 k1 k2 k3 hp (by omega) hk, if_neg (by omega)]
    exact map0 e
theorem bes_rat2 (k1 : RowOk one) (k2 : RowOk other) (k3 : RowOk (besR one other)) (hp : p.length = one.n) {j : Nat} (hj : j < other.st.length) :
    rat (besR one other) (p ++ q) (one.st.length + j) = List.replicate one.n 0 ++ rat other q j := by
  rw [rat_rc k3 (by rw [bes_len]; omega), rat_rc k2 hj]
  show (List.range (one.n + other.n)).map _ = _
  rw [range_split]
  congr 1
  · have e : ∀ i ∈ List.range one.n, rc (besR one other) (p ++ q) i (one.st.length + j) = 0 := fun i hi => by
      have hi' := List.mem_range.mp hi
      rw [bes_rc2 k1 k2 k3 hp (by omega) hj, if_pos hi']
    exact map0 e
  · refine List.map_congr_left fun i hi => ?_
    have hi' := List.mem_range.mp hi
    rw [bes_rc2 k1 k2 k3 hp (by omega) hj, if_neg (by omega), Nat.add_sub_cancel_left]
theorem bes_sw (k1 : RowOk one) (k2 : RowOk other) (k3 : RowOk (besR one other)) (hp : p.length = one.n) {w v : List Int} (hw : w.length = one.en.length) :
    swV (besR one other) (p ++ q) (w ++ v) = swV one p w ++ swV other q v := by
  have key : ∀ u, (List.zipWith (fun e x => x * rc (besR one other) (p ++ q) u e) (besR one other).en (w ++ v)).sum = (List.zipWith (fun e x => x * rc (besR one other) (p ++ q) u e) one.en w).sum + (List.zipWith (fun e x => x * rc (besR one other) (p ++ q) u (one.st.length + e)) other.en v).sum := fun u => by
    show (List.zipWith _ (one.en ++ other.en.map fun a => one.st.length + a) (w ++ v)).sum = _
    rw [List.zipWith_append hw.symm, List.sum_append, List.zipWith_map_left]
  have nul : ∀ (en : List Nat) (x : List Int) (f : Nat → Int), (∀ e ∈ en, f e = 0) → (List.zipWith (fun e x => x * f e) en x).sum = 0 := fun en x f h => by
    rw [zip_pairs f en x]
    have : ∀ q ∈ en.zip x, q.2 * f q.1 = 0 := fun q hq => by rw [h q.1 (List.of_mem_zip hq).1, Int.mul_zero]
    exact sum0 this
  have cng : ∀ (en : List Nat) (x : List Int) (f g : Nat → Int), (∀ e ∈ en, f e = g e) → (List.zipWith (fun e x => x * f e) en x).sum = (List.zipWith (fun e x => x * g e) en x).sum := fun en x f g h => by
    rw [zip_pairs f en x, zip_pairs g en x]
    congr 1
    exact List.map_congr_left fun q hq => by rw [h q.1 (List.of_mem_zip hq).1]
  unfold swV
  show (List.range (one.n + other.n)).map _ = _
  rw [range_split]
  congr 1
  · refine List.map_congr_left fun u hu => ?_
    have hu' := List.mem_range.mp hu
    rw [key u, nul other.en v (fun e => rc (besR one other) (p ++ q) u (one.st.length + e)) (fun e he => by rw [bes_rc2 k1 k2 k3 hp (by omega) (k2.en e he), if_pos hu']), Int.add_zero]
    exact cng _ _ _ _ fun e he => by rw [bes_rc1 k1 k2 k3 hp (by omega) (k1.en e he), if_pos hu']
  · refine List.map_congr_left fun u hu => ?_
    have hu' := List.mem_range.mp hu
    rw [key (one.n + u), nul one.en w (fun e => rc (besR one other) (p ++ q) (one.n + u) e) (fun e he => by rw [bes_rc1 k1 k2 k3 hp (by omega) (k1.en e he), if_neg (by omega)]), Int.zero_add]
    exact cng _ _ _ _ fun e he => by rw [bes_rc2 k1 k2 k3 hp (by omega) (k2.en e he), if_neg (by omega), Nat.add_sub_cancel_left]
end
end G
set_option maxRecDepth 100000
set_option maxHeartbeats 4000000
/-! Y5: renamed rows. -/
namespace G
open PySem PySem.Spec PyProof.Rows L2
section
variable {r : Rw} {m : Nat} {order : List Nat} {p : List Int}
/-- the point that the inputs see -/
def ownP (order : List Nat) (p : List Int) : List Int := order.map fun k => p.getD k 0
theorem rn_len : (rnR r m order).st.length = r.st.length := by simp [rnR]
theorem rn_ok (k1 : RowOk r) (ho : order.length = r.n) (hm : ∀ o ∈ order, o < m) (m9 : m ≤ 900) : RowOk (rnR r m order) where
  wf := rn_wf k1
  inn := fun k i e => by
    rw [rn_get] at e
    cases ek : r.st[k]? with
    | none => rw [ek] at e; cases e
    | some t =>
      rw [ek] at e
      have e' := Option.some.inj e
      cases t with
      | inp a =>
        have h1 : order.getD a 0 = i := by injection e'
        have ha := k1.inn k a ek
        rw [← h1, List.getD_eq_getElem?_getD, List.getElem?_eq_getElem (by omega)]
        exact hm _ (List.getElem_mem (by omega))
      | set c => cases e'
      | neg c => cases e'
      | bin o c d => cases e'
  en := fun e h => by rw [rn_len]; exact k1.en e h
  ln := by rw [rn_len]; exact k1.ln
  le := k1.le
  ln1 := by rw [rn_len]; exact k1.ln1
  ln2 := m9
theorem own_get (ho : order.length = r.n) {i : Nat} (hi : i < r.n) : (ownP order p).getD i 0 = p.getD (order.getD i 0) 0 := by
  unfold ownP
  rw [List.getD_eq_getElem?_getD, List.getElem?_map, List.getD_eq_getElem?_getD (l := order), List.getElem?_eq_getElem (by omega)]
  rfl
theorem rn_val (k1 : RowOk r) (ho : order.length = r.n) {k : Nat} (hk : k < r.st.length) : val (rnR r m order) p k = val r (ownP order p) k := by
  show (valA p).tr 0 (rnR r m order).st k = _
  rw [rn_tr k1 k hk]
  exact tr_hom (A := (valA p).wi fun i => (valA p).inp (order.getD i 0)) (B := valA (ownP order p)) (n := r.n) (f := fun x => x) ⟨fun i hi => (own_get ho hi).symm, fun _ => rfl, fun _ => rfl, fun _ _ _ => rfl⟩ k1.wf k1.inn k hk
theorem rn_rc (k1 : RowOk r) (k3 : RowOk (rnR r m order)) (ho : order.length = r.n) {u : Nat} (hu : u < m) {k : Nat} (hk : k < r.st.length) :
    rc (rnR r m order) p u k = sm r.n fun i => ey u (order.getD i 0) * rc r (ownP order p) i k := by
  have e1 := congrArg Prod.snd (dl_rc (p := p) k3 (u := u) hu k (by rw [rn_len]; exact hk))
  rw [rn_tr k1 k hk] at e1
  have e3 : ((Dl (xs p) (ey u)).wi fun i => (Dl (xs p) (ey u)).inp (order.getD i 0)) = Dl (fun i => xs p (order.getD i 0)) (fun i => ey u (order.getD i 0)) := rfl
  rw [e3, dl_cong (x := fun i => xs p (order.getD i 0)) (dx := fun i => ey u (order.getD i 0)) (y := xs (ownP order p)) (dy := fun i => ey u (order.getD i 0)) k1.wf k1.inn (fun i hi => ⟨(own_get ho hi).symm, rfl⟩) k hk, ← dl_lin (n := r.n) k1.wf k1.inn k hk] at e1
  have e2 : rc (rnR r m order) p u k = sm r.n _ := e1
  rw [e2]
  exact sm_congr fun i hi => by rw [← dl_rc k1 hi k hk]
/-- the pulls of a renamed row add up -/
theorem rn_sw (k1 : RowOk r) (k3 : RowOk (rnR r m order)) (ho : order.length = r.n) (w : List Int) :
    swV (rnR r m order) p w = (List.range m).map fun u => (((List.range r.n).filter fun k => decide (order.getD k 0 = u)).map fun k => (swV r (ownP order p) w).getD k 0).sum := by
  unfold swV
  refine List.map_congr_left fun u hu => ?_
  have hu' : u < m := List.mem_range.mp hu
  show (List.zipWith (fun e x => x * rc (rnR r m order) p u e) r.en w).sum = _
  rw [zip_pairs (fun e => rc (rnR r m order) p u e)]
  have e0 : ((r.en.zip w).map fun q => q.2 * rc (rnR r m order) p u q.1) = (r.en.zip w).map fun q => q.2 * sm r.n fun i => rc r (ownP order p) i q.1 * ey u (order.getD i 0) := by
    refine List.map_congr_left fun q hq => ?_
    rw [rn_rc k1 k3 ho hu' (k1.en q.1 (List.of_mem_zip hq).1)]
    congr 1
    exact sm_congr fun i _ => Int.mul_comm _ _
  rw [e0, ← sm_exch r.n (r.en.zip w) (fun i e => rc r (ownP order p) i e) (fun i => ey u (order.getD i 0))]
  have e1 : ∀ (n : Nat) (f : Nat → Int) (c : Nat → Nat), sm n (fun i => f i * ey u (c i)) = (((List.range n).filter fun k => decide (c k = u)).map f).sum := fun n f c => by
    induction n with
    | zero => rfl
    | succ n ih =>
      rw [sm_succ, ih, List.range_succ, List.filter_append, List.map_append, List.sum_append]
      congr 1
      unfold ey
      by_cases h : c n = u
      · rw [if_pos h.symm]
        simp [h]
      · rw [if_neg (fun z => h z.symm)]
        simp [h]
  rw [e1]
  congr 1
  refine List.map_congr_left fun k hk => ?_
  have hk' : k < r.n := List.mem_range.mp (List.mem_filter.mp hk).1
  rw [List.getD_eq_getElem?_getD, List.getElem?_map, List.getElem?_range hk']
  show _ = (List.zipWith (fun e x => x * rc r (ownP order p) k e) r.en w).sum
  rw [zip_pairs (fun e => rc r (ownP order p) k e)]
end
end G
set_option maxRecDepth 100000
set_option maxHeartbeats 4000000
/-! Y6: how wide the values and rates are. -/
namespace G
open PySem PySem.Spec PyProof.Rows L2
def wd (a : Nat) (r : Rw) (k : Nat) : Nat := (a + k) * (siz r k).toNat
structure Nar (a : Nat) (r : Rw) (p : List Int) : Prop where
  a0 : 0 < a
  x : ∀ i, i < r.n → (p.getD i 0).natAbs < 2 ^ a
  c : ∀ (k : Nat) (c : Int), r.st[k]? = some (.set c) → c.natAbs < 2 ^ a
theorem pow2 {m n : Nat} (h : m ≤ n) : 2 ^ m ≤ 2 ^ n := Nat.pow_le_pow_right (by decide) h
theorem twice {x y : Int} {m n : Nat} (hx : x.natAbs < 2 ^ m) (hy : y.natAbs < 2 ^ m) (h : m + 1 ≤ n) : (x + y).natAbs < 2 ^ n ∧ (x - y).natAbs < 2 ^ n := by
  have h1 : 2 ^ (m + 1) ≤ 2 ^ n := pow2 h
  rw [Nat.pow_succ] at h1
  omega
theorem mulw {x y : Int} {m n : Nat} (hx : x.natAbs < 2 ^ m) (hy : y.natAbs < 2 ^ n) : (x * y).natAbs < 2 ^ (m + n) := by
  rw [Int.natAbs_mul, Nat.pow_add]
  exact Nat.mul_lt_mul'' hx hy
theorem wide_all {a : Nat} {r : Rw} {p : List Int} (ok : RowOk r) (h : Nar a r p) : ∀ k, k < r.st.length → (val r p k).natAbs < 2 ^ wd a r k ∧ ∀ u, u < r.n → (rc r p u k).natAbs < 2 ^ wd a r k := by
  intro k
  induction k using Nat.strongRecOn with
  | ind k ih =>
    intro hk
    have e : r.st[k]? = some (r.st[k]) := List.getElem?_eq_getElem hk
    have w := ok.wf k _ e
    have sk : siz r k = (szA 1).stp (siz r) (r.st[k]) := tr_spec ok.wf e
    have vk : val r p k = (valA p).stp (val r p) (r.st[k]) := tr_spec ok.wf e
    have rk : ∀ u, u < r.n → rc r p u k = rvC u (val r p) (rc r p u) (r.st[k]) := fun u hu => rc_stp ok hu e
    have pos := siz_pos ok
    generalize hs : r.st[k] = s at e w sk vk rk
    have one : 1 ≤ 2 ^ wd a r k := Nat.pos_of_ne_zero (by simp)
    have s1 := pos k hk
    have big : a ≤ wd a r k := by
      unfold wd
      have : 1 ≤ (siz r k).toNat := by omega
      exact Nat.le_trans (Nat.le_add_right a k) (Nat.le_trans (Nat.le_of_eq (Nat.mul_one _).symm) (Nat.mul_le_mul_left _ this))
    cases s with
    | inp i =>
      have hi := ok.inn k i e
      refine ⟨by rw [vk]; exact Nat.lt_of_lt_of_le (h.x i hi) (pow2 big), fun u hu => ?_⟩
      rw [rk u hu]
      have two : 2 ^ 1 ≤ 2 ^ wd a r k := pow2 (Nat.le_trans h.a0 big)
      show (if u = i then (1 : Int) else 0).natAbs < _
      split
      · exact Nat.lt_of_lt_of_le (by decide) two
      · exact one
    | set c =>
      refine ⟨by rw [vk]; exact Nat.lt_of_lt_of_le (h.c k c e) (pow2 big), fun u hu => ?_⟩
      rw [rk u hu]
      show (0 : Int).natAbs < _
      exact one
    | neg b =>
      have hb := w b (by simp [refs])
      have hb' := ih b hb (by omega)
      have le : wd a r b ≤ wd a r k := by
        have : siz r k = siz r b := sk
        unfold wd
        rw [this]
        exact Nat.mul_le_mul_right _ (by omega)
      refine ⟨?_, fun u hu => ?_⟩
      · rw [vk]
        show (0 - val r p b).natAbs < _
        have := Nat.lt_of_lt_of_le hb'.1 (pow2 le)
        omega
      · rw [rk u hu]
        show (0 - rc r p u b).natAbs < _
        have := Nat.lt_of_lt_of_le (hb'.2 u hu) (pow2 le)
        omega
    | bin o b c =>
      have hb := w b (by simp [refs])
      have hc := w c (by simp [refs])
      have hb' := ih b hb (by omega)
      have hc' := ih c hc (by omega)
      have pb := pos b (by omega)
      have pc := pos c (by omega)
      have lin : ∀ S : Int, siz r k = S → siz r b ≤ S → siz r c ≤ S → wd a r b + 1 ≤ wd a r k ∧ wd a r c + 1 ≤ wd a r k := fun S hS h1 h2 => by
        have key : ∀ j, j < k → 1 ≤ siz r j → siz r j ≤ S → wd a r j + 1 ≤ wd a r k := fun j hj q1 q2 => by
          unfold wd
          rw [hS]
          have e1 : (siz r j).toNat ≤ S.toNat := by omega
          have e2 : (a + j) * (siz r j).toNat ≤ (a + j) * S.toNat := Nat.mul_le_mul_left _ e1
          have e3 : (a + j + 1) * S.toNat ≤ (a + k) * S.toNat := Nat.mul_le_mul_right _ (by omega)
          rw [Nat.add_mul, Nat.one_mul] at e3
          omega
        exact ⟨key b hb pb h1, key c hc pc h2⟩
      cases o with
      | mul =>
        have hS : siz r k = siz r b + siz r c := sk
        have hM : wd a r b + wd a r c + 1 ≤ wd a r k := by
          unfold wd
          have e0 : (siz r k).toNat = (siz r b).toNat + (siz r c).toNat := by omega
          have e1 : 1 ≤ (siz r b).toNat := by omega
          have e2 : (a + b) * (siz r b).toNat + (siz r b).toNat ≤ (a + k) * (siz r b).toNat := by
            have := Nat.mul_le_mul_right (siz r b).toNat (show a + b + 1 ≤ a + k by omega)
            rw [Nat.add_mul, Nat.one_mul] at this
            exact this
          have e3 : (a + c) * (siz r c).toNat ≤ (a + k) * (siz r c).toNat := Nat.mul_le_mul_right _ (by omega)
          rw [e0, Nat.mul_add]
          omega
        refine ⟨?_, fun u hu => ?_⟩
        · rw [vk]
          exact Nat.lt_of_lt_of_le (mulw hb'.1 hc'.1) (pow2 (by omega))
        · rw [rk u hu]
          exact (twice (mulw (hb'.2 u hu) hc'.1) (mulw hb'.1 (hc'.2 u hu)) hM).1
      | add =>
        have hS : siz r k = max (siz r b) (siz r c) := sk
        have l := lin _ rfl (by omega) (by omega)
        refine ⟨?_, fun u hu => ?_⟩
        · rw [vk]
          exact (twice (m := wd a r k - 1) (Nat.lt_of_lt_of_le hb'.1 (pow2 (by omega))) (Nat.lt_of_lt_of_le hc'.1 (pow2 (by omega))) (by omega)).1
        · rw [rk u hu]
          exact (twice (m := wd a r k - 1) (Nat.lt_of_lt_of_le (hb'.2 u hu) (pow2 (by omega))) (Nat.lt_of_lt_of_le (hc'.2 u hu) (pow2 (by omega))) (by omega)).1
      | sub =>
        have hS : siz r k = max (siz r b) (siz r c) := sk
        have l := lin _ rfl (by omega) (by omega)
        refine ⟨?_, fun u hu => ?_⟩
        · rw [vk]
          exact (twice (m := wd a r k - 1) (Nat.lt_of_lt_of_le hb'.1 (pow2 (by omega))) (Nat.lt_of_lt_of_le hc'.1 (pow2 (by omega))) (by omega)).2
        · rw [rk u hu]
          exact (twice (m := wd a r k - 1) (Nat.lt_of_lt_of_le (hb'.2 u hu) (pow2 (by omega))) (Nat.lt_of_lt_of_le (hc'.2 u hu) (pow2 (by omega))) (by omega)).2
end G
set_option maxRecDepth 100000
set_option maxHeartbeats 4000000
/-! Y7: products are allowed. -/
namespace G
open PySem PySem.Spec PyProof.Rows L2
theorem mulR_of {r : Rw} {p : List Int} {N : Nat} (ok : RowOk r) (h : ∀ k, k < r.st.length → (val r p k).natAbs < 2 ^ N) (h0 : 0 < N) (h9 : N + N ≤ 1000000) : MulR r p := fun k s e => by
  have w := ok.wf k s e
  have hk : k < r.st.length := (List.getElem?_eq_some_iff.mp e).1
  cases s with
  | bin o a b =>
    have ha := w a (by simp [refs])
    have hb := w b (by simp [refs])
    cases o with
    | mul => exact wide_mul (h a (by omega)) (h b (by omega)) h0 h0 h9
    | add => trivial
    | sub => trivial
  | _ => trivial
theorem rat_mem {r : Rw} {p : List Int} (ok : RowOk r) {k : Nat} (hk : k < r.st.length) {x : Int} (hx : x ∈ rat r p k) : ∃ u, u < r.n ∧ x = rc r p u k := by
  rw [rat_rc ok hk] at hx
  obtain ⟨u, hu, rfl⟩ := List.mem_map.mp hx
  exact ⟨u, List.mem_range.mp hu, rfl⟩
theorem mulV_of {r : Rw} {p : List Int} {N : Nat} (ok : RowOk r) (h : ∀ k, k < r.st.length → (val r p k).natAbs < 2 ^ N) (hr : ∀ k, k < r.st.length → ∀ u, u < r.n → (rc r p u k).natAbs < 2 ^ N) (h0 : 0 < N) (h9 : N + N ≤ 1000000) : MulV r p := fun k s e => by
  have w := ok.wf k s e
  have hk : k < r.st.length := (List.getElem?_eq_some_iff.mp e).1
  cases s with
  | bin o a b =>
    have ha := w a (by simp [refs])
    have hb := w b (by simp [refs])
    cases o with
    | mul =>
      refine ⟨fun x hx => ?_, fun y hy => ?_⟩
      · obtain ⟨u, hu, rfl⟩ := rat_mem ok (by omega) hx
        exact wide_mul (hr a (by omega) u hu) (h b (by omega)) h0 h0 h9
      · obtain ⟨u, hu, rfl⟩ := rat_mem ok (by omega) hy
        exact wide_mul (h a (by omega)) (hr b (by omega) u hu) h0 h0 h9
    | add => trivial
    | sub => trivial
  | _ => trivial
end G
set_option maxRecDepth 100000
set_option maxHeartbeats 4000000
/-! Y8: a fed row fits. -/
namespace G
open PySem PySem.Spec PyProof.Rows L2
theorem LRow.ok {n L : Nat} {r : Rw} (h : LRow n L r) (hL : L ≤ 20) (hn : n ≤ 20) : RowOk r := ⟨h.ls.wf, by rw [h.nn]; exact h.ls.inn, h.en, by have := h.l1; omega, by have := h.e1; omega, h.l0, by rw [h.nn]; omega⟩
theorem LRow.sz {n L : Nat} {r : Rw} (h : LRow n L r) {k : Nat} (hk : k < r.st.length) : 1 ≤ siz r k ∧ siz r k ≤ 3 := h.ls.at hk
theorem szw {l : List Stp} (w : Wf l) {f : Nat → Int} (h : ∀ (k i : Nat), l[k]? = some (.inp i) → 1 ≤ f i ∧ f i ≤ 3) : ∀ k, k < l.length → 1 ≤ ((szA 1).wi f).tr 0 l k ∧ ((szA 1).wi f).tr 0 l k ≤ 3 * (szA 1).tr 0 l k := by
  intro k
  induction k using Nat.strongRecOn with
  | ind k ih =>
    intro hk
    have e : l[k]? = some (l[k]) := List.getElem?_eq_getElem hk
    have wk := w k _ e
    rw [tr_spec w e, tr_spec (A := szA 1) w e]
    generalize l[k] = s at e wk
    cases s with
    | inp i => exact ⟨(h k i e).1, by show f i ≤ 3 * 1; have := (h k i e).2; omega⟩
    | set c => exact ⟨by show (1 : Int) ≤ 1; decide, by show (1 : Int) ≤ 3 * 1; decide⟩
    | neg a =>
      have ha := wk a (by simp [refs])
      exact ih a ha (by omega)
    | bin o a b =>
      have ha := wk a (by simp [refs])
      have hb := wk b (by simp [refs])
      have h1 := ih a ha (by omega)
      have h2 := ih b hb (by omega)
      cases o with
      | mul => exact ⟨by show 1 ≤ _ + _; omega, by show _ + _ ≤ 3 * (_ + _); omega⟩
      | add => exact ⟨by show 1 ≤ max _ _; omega, by show max _ _ ≤ 3 * max _ _; omega⟩
      | sub => exact ⟨by show 1 ≤ max _ _; omega, by show max _ _ ≤ 3 * max _ _; omega⟩
section
variable {one other : Rw} {st : List Stp} {g : Nat → Nat} {n : Nat}
theorem fed_siz1 (h1 : LRow n 7 one) (hn : n ≤ 20) (F : FedTo one other other.st.length st g) {k : Nat} (hk : k < one.st.length) : siz (fedOf one other st g) k = siz one k := tr_pre (A := szA 1) (z := 0) h1.ls.wf F.wf F.pre k hk
theorem fed_siz2 (h1 : LRow n 7 one) (h2 : LRow one.en.length 8 other) (hn : n ≤ 20) (F : FedTo one other other.st.length st g) {j : Nat} (hj : j < other.st.length) : 1 ≤ siz (fedOf one other st g) (g j) ∧ siz (fedOf one other st g) (g j) ≤ 9 := by
  have k1 := h1.ok (by decide) hn
  have k2 := h2.ok (by decide) (by have := h1.e1; omega)
  have e1 : siz (fedOf one other st g) (g j) = ((szA 1).wi fun i => (szA 1).tr 0 one.st (one.en.getD i 0)).tr 0 other.st j := fed_two k1 k2 F j hj
  have e2 := szw (f := fun i => (szA 1).tr 0 one.st (one.en.getD i 0)) k2.wf (fun k i e => by
    have hi := h2.ls.inn k i e
    have : one.en.getD i 0 < one.st.length := by
      rw [List.getD_eq_getElem?_getD, List.getElem?_eq_getElem hi]
      exact h1.en _ (List.getElem_mem hi)
    exact h1.sz this) j hj
  have e3 : (szA 1).tr 0 other.st j ≤ 3 := (h2.sz hj).2
  rw [e1]
  omega
theorem fed_step (F : FedTo one other other.st.length st g) {k : Nat} {s : Stp} (e : st[k]? = some s) : one.st[k]? = some s ∨ ∃ j s', j < other.st.length ∧ other.st[j]? = some s' ∧ isInp s' = false ∧ g j = k ∧ s = ren g s' := by
  rcases Nat.lt_or_ge k one.st.length with h | h
  · exact .inl (by rw [← F.pre k h]; exact e)
  · obtain ⟨j, s', hj, e', hs, hg⟩ := F.on k h (List.getElem?_eq_some_iff.mp e).1
    refine .inr ⟨j, s', hj, e', hs, hg, ?_⟩
    have := F.at_ j s' hj e' hs
    rw [hg, e] at this
    exact Option.some.inj this
theorem fed_ok (h1 : LRow n 7 one) (h2 : LRow one.en.length 8 other) (hn : n ≤ 20) (F : FedTo one other other.st.length st g) : RowOk (fedOf one other st g) where
  wf := F.wf
  inn := fun k i e => by
    rcases fed_step F e with e' | ⟨j, s', hj, e', hs, hg, hr⟩
    · show i < one.n
      rw [h1.nn]
      exact h1.ls.inn k i e'
    · cases s' with
      | inp a => cases hs
      | set c => cases hr
      | neg a => cases hr
      | bin o a b => cases hr
  en := fun e he => by
    obtain ⟨a, ha, rfl⟩ := List.mem_map.mp he
    exact F.lt a (h2.en a ha)
  ln := by show st.length ≤ 900; have := F.ln2; have := h1.l1; have := h2.l1; omega
  le := by show (other.en.map g).length ≤ 900; rw [List.length_map]; have := h2.e1; omega
  ln1 := by show 0 < st.length; have := F.ln1; have := h1.l0; omega
  ln2 := by show one.n ≤ 900; rw [h1.nn]; omega
theorem fed_len (h1 : LRow n 7 one) (h2 : LRow one.en.length 8 other) (F : FedTo one other other.st.length st g) : st.length ≤ 15 := by
  have := F.ln2; have := h1.l1; have := h2.l1; omega
theorem fed_cs (h1 : LRow n 7 one) (h2 : LRow one.en.length 8 other) (F : FedTo one other other.st.length st g) {k : Nat} {c : Int} (e : st[k]? = some (.set c)) : -4 ≤ c ∧ c ≤ 4 := by
  rcases fed_step F e with e' | ⟨j, s', hj, e', hs, hg, hr⟩
  · exact h1.ls.cs c (List.mem_of_getElem? e')
  · cases s' with
    | set b => cases hr; exact h2.ls.cs _ (List.mem_of_getElem? e')
    | inp a => cases hr
    | neg a => cases hr
    | bin o a b => cases hr
theorem fed_sz (h1 : LRow n 7 one) (h2 : LRow one.en.length 8 other) (hn : n ≤ 20) (F : FedTo one other other.st.length st g) {k : Nat} (hk : k < st.length) : siz (fedOf one other st g) k ≤ 9 := by
  rcases Nat.lt_or_ge k one.st.length with h | h
  · rw [fed_siz1 h1 hn F h]
    have := (h1.sz h).2
    omega
  · obtain ⟨j, s', hj, e', hs, hg⟩ := F.on k h hk
    rw [← hg]
    exact (fed_siz2 h1 h2 hn F hj).2
theorem fed_fits (h1 : LRow n 7 one) (h2 : LRow one.en.length 8 other) (hn : n ≤ 20) (F : FedTo one other other.st.length st g) : Fits (fedOf one other st g) where
  ok := fed_ok h1 h2 hn F
  n := by show one.n ≤ 20; rw [h1.nn]; exact hn
  ls := by show st.length ≤ 400; have := fed_len h1 h2 F; omega
  le := by show (other.en.map g).length ≤ 20; rw [List.length_map]; have := h2.e1; omega
  le1 := by show 0 < (other.en.map g).length; rw [List.length_map]; exact h2.e0
  sz := fun k hk => by have := fed_sz h1 h2 hn F hk; omega
  cs := fun k c e => by have := fed_cs h1 h2 F e; omega
end
end G
set_option maxRecDepth 100000
set_option maxHeartbeats 4000000
/-! Y9: what a polynomial gives at a point. -/
namespace G
open PySem PySem.Spec PyProof.Rows L2
def Lm (m : List Nat → Int) (p : Po) : Int := (p.map fun t => t.2 * m t.1).sum
variable {m : List Nat → Int}
theorem Lm_nil : Lm m [] = 0 := rfl
theorem Lm_cons (t : List Nat × Int) (p : Po) : Lm m (t :: p) = t.2 * m t.1 + Lm m p := rfl
theorem Lm_app (p q : Po) : Lm m (p ++ q) = Lm m p + Lm m q := by
  unfold Lm
  rw [List.map_append, List.sum_append]
theorem Lm_perm {p q : Po} (h : p.Perm q) : Lm m p = Lm m q := by
  induction h with
  | nil => rfl
  | cons x _ ih => rw [Lm_cons, Lm_cons, ih]
  | swap x y l => rw [Lm_cons, Lm_cons, Lm_cons, Lm_cons]; omega
  | trans _ _ a b => exact a.trans b
theorem map_same {k : List Nat} {v : Int} : ∀ {p : Po}, k ∉ p.map (·.1) → p.map (fun t => if t.1 = k then (t.1, v) else t) = p
  | [], _ => rfl
  | t :: p, h => by
    have h1 : t.1 ≠ k := fun e => h (by rw [← e]; simp)
    rw [List.map_cons, if_neg h1, map_same fun z => h (by rw [List.map_cons]; exact List.mem_cons_of_mem _ z)]
theorem Lm_put {k : List Nat} {v : Int} : ∀ {p : Po}, (p.map (·.1)).Nodup → Lm m (put p k v) = Lm m p + (v - (look p k).getD 0) * m k
  | [], _ => by
    show v * m k + 0 = 0 + (v - 0) * m k
    rw [Int.sub_zero]; omega
  | t :: p, nd => by
    have nd' := List.nodup_cons.mp nd
    have ih := Lm_put (k := k) (v := v) (p := p) nd'.2
    by_cases h : t.1 = k
    · have e1 : put (t :: p) k v = (t.1, v) :: p := by
        unfold put
        rw [if_pos (by simp [h]), List.map_cons, if_pos h]
        rw [map_same (by rw [← h]; exact nd'.1)]
      rw [e1, Lm_cons, Lm_cons, look_cons, if_pos h, h]
      show v * m k + Lm m p = t.2 * m k + Lm m p + (v - t.2) * m k
      rw [Int.sub_mul]
      omega
    · have e1 : put (t :: p) k v = t :: put p k v := by
        unfold put
        rw [List.any_cons, decide_eq_false h, Bool.false_or]
        split
        · rw [List.map_cons, if_neg h]
        · rfl
      rw [e1, Lm_cons, Lm_cons, ih, look_cons, if_neg h]
      omega
theorem Lm_add {p : Po} (nd : (p.map (·.1)).Nodup) (k : List Nat) (c : Int) : Lm m (addP p k c) = Lm m p + c * m k := by
  unfold addP
  rw [Lm_put nd]
  congr 2
  omega
theorem nd_put {p : Po} {k : List Nat} {c : Int} (nd : (p.map (·.1)).Nodup) : ((put p k c).map (·.1)).Nodup := by
  rw [put_keys]
  split
  · exact nd
  · rename_i h
    exact List.nodup_append.mpr ⟨nd, by simp, fun a ha b hb e => by
      have : b = k := by simpa using hb
      subst this
      exact h (e ▸ ha)⟩
theorem Lm_fold : ∀ (b a : Po), (a.map (·.1)).Nodup → Lm m (b.foldl (fun acc t => addP acc t.1 t.2) a) = Lm m a + Lm m b ∧ ((b.foldl (fun acc t => addP acc t.1 t.2) a).map (·.1)).Nodup
  | [], a, nd => ⟨(Int.add_zero _).symm, nd⟩
  | t :: b, a, nd => by
    have := Lm_fold b (addP a t.1 t.2) (nd_put nd)
    refine ⟨?_, this.2⟩
    rw [List.foldl_cons, this.1, Lm_add nd, Lm_cons]
    omega
theorem look_app_nd {p : Po} {t : List Nat × Int} (nd : (p.map (·.1)).Nodup) (h : t ∈ p) : look p t.1 = some t.2 := by
  induction p with
  | nil => simp at h
  | cons a p ih =>
    have nd' := List.nodup_cons.mp nd
    rw [look_cons]
    rcases List.mem_cons.mp h with rfl | h
    · rw [if_pos rfl]
    · have : a.1 ≠ t.1 := fun e => nd'.1 (List.mem_map.mpr ⟨t, h, e.symm⟩)
      rw [if_neg this, ih nd'.2 h]
theorem Lm_pick {p : Po} (nd : (p.map (·.1)).Nodup) : ∀ q : Po, (∀ t ∈ q, t ∈ p) → Lm m ((q.map (·.1)).filterMap (pick p)) = Lm m q
  | [], _ => rfl
  | t :: q, h => by
    have ih := Lm_pick nd q fun x hx => h x (List.mem_cons_of_mem _ hx)
    have e := look_app_nd nd (h t (List.mem_cons_self ..))
    rw [List.map_cons, List.filterMap_cons]
    unfold pick
    rw [e]
    by_cases c : t.2 = 0
    · simp only [c, if_true]
      rw [Lm_cons, c, Int.zero_mul, Int.zero_add]
      exact ih
    · simp only [if_neg c]
      rw [Lm_cons, Lm_cons]
      exact congrArg _ ih
theorem Lm_asp {p : Po} (nd : (p.map (·.1)).Nodup) : Lm m (aspP p) = Lm m p := by
  unfold aspP
  rw [Lm_perm ((sortN_perm (p.map (·.1))).filterMap (pick p))]
  exact Lm_pick nd p fun _ h => h
theorem Lm_plus {a b : Po} (nd : (a.map (·.1)).Nodup) : Lm m (plusP a b) = Lm m a + Lm m b := by
  have := Lm_fold (m := m) b a nd
  unfold plusP
  rw [Lm_asp this.2, this.1]
theorem Lm_scaled {a : Po} {c : Int} (nd : (a.map (·.1)).Nodup) : Lm m (scaledP a c) = Lm m a * c := by
  unfold scaledP
  have e : ((a.map fun t => (t.1, t.2 * c)).map (·.1)) = a.map (·.1) := by rw [List.map_map]; rfl
  rw [Lm_asp (by rw [e]; exact nd)]
  clear e nd
  induction a with
  | nil => exact (Int.zero_mul c).symm
  | cons t a ih =>
    rw [List.map_cons, Lm_cons, Lm_cons, ih, Int.add_mul]
    show t.2 * c * m t.1 + _ = _
    rw [Int.mul_assoc, Int.mul_comm c, ← Int.mul_assoc]
theorem nd_asp {p : Po} (nd : (p.map (·.1)).Nodup) : ((aspP p).map (·.1)).Nodup := by
  have h : ((sortN (p.map (·.1)))).Nodup := (sortN_perm (p.map (·.1))).nodup_iff.mpr nd
  unfold aspP
  exact List.Sublist.nodup (filt_keys _) h
theorem Lm_minus {a b : Po} (na : (a.map (·.1)).Nodup) (nb : (b.map (·.1)).Nodup) : Lm m (minusP a b) = Lm m a - Lm m b := by
  unfold minusP
  rw [Lm_plus na, Lm_scaled nb]
  omega
theorem Lm_timesI {n : Nat} (hm : ∀ k l : List Nat, k.length = n → l.length = n → m (addK k l) = m k * m l) {t : List Nat × Int} (ht : t.1.length = n) : ∀ (b acc : Po), (∀ u ∈ b, u.1.length = n) → (acc.map (·.1)).Nodup →
    Lm m (G.timesI t b acc) = Lm m acc + t.2 * m t.1 * Lm m b ∧ ((G.timesI t b acc).map (·.1)).Nodup
  | [], acc, _, nd => ⟨by show Lm m acc = _ + _ * 0; rw [Int.mul_zero, Int.add_zero], nd⟩
  | u :: b, acc, hb, nd => by
    have := Lm_timesI hm ht b (addP acc (addK t.1 u.1) (t.2 * u.2)) (fun x hx => hb x (List.mem_cons_of_mem _ hx)) (nd_put nd)
    refine ⟨?_, this.2⟩
    show Lm m (G.timesI t b (addP acc (addK t.1 u.1) (t.2 * u.2))) = _
    rw [this.1, Lm_add nd, hm _ _ ht (hb u (List.mem_cons_self ..)), Lm_cons, Int.mul_add]
    have : t.2 * u.2 * (m t.1 * m u.1) = t.2 * m t.1 * (u.2 * m u.1) := by
      rw [Int.mul_assoc, Int.mul_assoc, ← Int.mul_assoc u.2, Int.mul_comm u.2, Int.mul_assoc (m t.1)]
    omega
theorem Lm_timesA {n : Nat} (hm : ∀ k l : List Nat, k.length = n → l.length = n → m (addK k l) = m k * m l) {b : Po} (hb : ∀ u ∈ b, u.1.length = n) : ∀ (a acc : Po), (∀ t ∈ a, t.1.length = n) → (acc.map (·.1)).Nodup →
    Lm m (a.foldl (fun acc t => G.timesI t b acc) acc) = Lm m acc + Lm m a * Lm m b ∧ ((a.foldl (fun acc t => G.timesI t b acc) acc).map (·.1)).Nodup
  | [], acc, _, nd => ⟨by show Lm m acc = _ + 0 * _; rw [Int.zero_mul, Int.add_zero], nd⟩
  | t :: a, acc, ha, nd => by
    have h1 := Lm_timesI hm (ha t (List.mem_cons_self ..)) b acc hb nd
    have h2 := Lm_timesA hm hb a (G.timesI t b acc) (fun x hx => ha x (List.mem_cons_of_mem _ hx)) h1.2
    refine ⟨?_, h2.2⟩
    rw [List.foldl_cons, h2.1, h1.1, Lm_cons, Int.add_mul]
    omega
theorem Lm_times {n : Nat} (hm : ∀ k l : List Nat, k.length = n → l.length = n → m (addK k l) = m k * m l) {a b : Po} (ha : ∀ u ∈ a, u.1.length = n) (hb : ∀ u ∈ b, u.1.length = n) : Lm m (timesP a b) = Lm m a * Lm m b := by
  have := Lm_timesA hm hb a [] ha (by simp)
  unfold timesP
  rw [Lm_asp this.2, this.1, Lm_nil, Int.zero_add]
end G
set_option maxRecDepth 100000
set_option maxHeartbeats 4000000
/-! Y10: a row's polynomials tell its values; how great their coefficients are. -/
namespace G
open PySem PySem.Spec PyProof.Rows L2
theorem monV_c : ∀ (l : List (Int × Nat)) (c : Int), monV c l = c * monV 1 l
  | [], c => (Int.mul_one c).symm
  | q :: l, c => by
    show monV (c * q.1 ^ q.2) l = c * monV (1 * q.1 ^ q.2) l
    rw [monV_c l (c * q.1 ^ q.2), monV_c l (1 * q.1 ^ q.2), Int.one_mul, Int.mul_assoc]
def mn (p : List Int) (k : List Nat) : Int := monV 1 (p.zip k)
theorem mn_cons (x : Int) (p : List Int) (a : Nat) (k : List Nat) : mn (x :: p) (a :: k) = x ^ a * mn p k := by
  show monV (1 * x ^ a) (p.zip k) = _
  rw [monV_c, Int.one_mul]
  rfl
theorem mn_add : ∀ (p : List Int) (k l : List Nat), k.length = p.length → l.length = p.length → mn p (addK k l) = mn p k * mn p l
  | [], k, l, _, _ => rfl
  | x :: p, [], _, h, _ => by simp at h
  | x :: p, _ :: _, [], _, h => by simp at h
  | x :: p, a :: k, b :: l, h1, h2 => by
    show mn (x :: p) ((a + b) :: addK k l) = _
    rw [mn_cons, mn_cons, mn_cons, mn_add p k l (by simpa using h1) (by simpa using h2), Int.pow_add]
    simp [Int.mul_comm, Int.mul_left_comm, Int.mul_assoc]
theorem mn_zero : ∀ (p : List Int), mn p (List.replicate p.length 0) = 1
  | [] => rfl
  | x :: p => by
    rw [List.length_cons, List.replicate_succ, mn_cons, mn_zero p, Int.pow_zero]
    rfl
theorem mn_unit {p : List Int} {n i : Nat} (hp : p.length = n) (h2 : n ≤ 2) (hi : i < n) : mn p (unitN n i) = p.getD i 0 := by
  match p, hp with
  | [], hp => simp at hp; omega
  | [x], hp =>
    have e : n = 1 := by simpa using hp.symm
    subst e
    have : i = 0 := by omega
    subst this
    show mn [x] [1] = x
    rw [mn_cons, Int.pow_succ, Int.pow_zero, Int.one_mul]
    exact Int.mul_one x
  | [x, y], hp =>
    have e : n = 2 := by simpa using hp.symm
    subst e
    rcases Nat.lt_or_ge i 1 with h | h
    · have : i = 0 := by omega
      subst this
      show mn [x, y] [1, 0] = x
      rw [mn_cons, mn_cons, Int.pow_succ, Int.pow_zero, Int.pow_zero, Int.one_mul, Int.one_mul]
      exact Int.mul_one x
    · have : i = 1 := by omega
      subst this
      show mn [x, y] [0, 1] = y
      rw [mn_cons, mn_cons, Int.pow_succ, Int.pow_zero, Int.pow_zero, Int.one_mul, Int.one_mul]
      exact Int.mul_one y
  | _ :: _ :: _ :: _, hp => simp at hp; omega
theorem evP_aux (xs : List Int) : ∀ (p : Po) (c : Int), p.foldl (fun acc t => acc + monV t.2 (xs.zip t.1)) c = c + Lm (mn xs) p
  | [], c => (Int.add_zero c).symm
  | t :: p, c => by
    rw [List.foldl_cons, evP_aux xs p, Lm_cons, monV_c]
    show c + t.2 * mn xs t.1 + _ = _
    omega
theorem evP_Lm (p : Po) (xs : List Int) : evP p xs = Lm (mn xs) p := by
  unfold evP
  rw [evP_aux, Int.zero_add]
theorem pol_val {r : Rw} {p : List Int} (ok : RowOk r) (hp : p.length = r.n) (h2 : r.n ≤ 2) : ∀ k, k < r.st.length → Lm (mn p) (pol r k) = val r p k := by
  intro k
  induction k using Nat.strongRecOn with
  | ind k ih =>
    intro hk
    have e : r.st[k]? = some (r.st[k]) := List.getElem?_eq_getElem hk
    have w := ok.wf k _ e
    have h : val r p k = (valA p).stp (val r p) (r.st[k]) := tr_spec ok.wf e
    have h' : pol r k = (polyA r.n).stp (pol r) (r.st[k]) := tr_spec ok.wf e
    rw [h, h']
    generalize r.st[k] = s at *
    have hm : ∀ k l : List Nat, k.length = r.n → l.length = r.n → mn p (addK k l) = mn p k * mn p l := fun k l h1 h2 => mn_add p k l (by omega) (by omega)
    cases s with
    | inp i =>
      have hi := ok.inn k i e
      show Lm (mn p) [(unitN r.n i, 1)] = p.getD i 0
      rw [Lm_cons, Lm_nil, mn_unit hp h2 hi, Int.one_mul, Int.add_zero]
    | set c =>
      show Lm (mn p) (aspP [(List.replicate r.n 0, c)]) = c
      rw [Lm_asp (by simp), Lm_cons, Lm_nil]
      show c * mn p (List.replicate r.n 0) + 0 = c
      rw [← hp, mn_zero, Int.mul_one, Int.add_zero]
    | neg a =>
      have la := w a (by simp [refs])
      show Lm (mn p) (scaledP (pol r a) (-1)) = 0 - val r p a
      rw [Lm_scaled (pol_pg ok a (by omega)).nd, ih a la (by omega)]
      omega
    | bin o a b =>
      have la := w a (by simp [refs])
      have lb := w b (by simp [refs])
      have ga := pol_pg ok a (by omega)
      have gb := pol_pg ok b (by omega)
      cases o with
      | add =>
        show Lm (mn p) (plusP (pol r a) (pol r b)) = val r p a + val r p b
        rw [Lm_plus ga.nd, ih a la (by omega), ih b lb (by omega)]
      | sub =>
        show Lm (mn p) (minusP (pol r a) (pol r b)) = val r p a - val r p b
        rw [Lm_minus ga.nd gb.nd, ih a la (by omega), ih b lb (by omega)]
      | mul =>
        show Lm (mn p) (timesP (pol r a) (pol r b)) = val r p a * val r p b
        rw [Lm_times hm (fun t ht => (ga.ky t ht).1) (fun t ht => (gb.ky t ht).1), ih a la (by omega), ih b lb (by omega)]
/-! coefficients -/
def nm (p : Po) : Nat := (p.map fun t => t.2.natAbs).sum
theorem nm_nil : nm [] = 0 := rfl
theorem nm_cons (t : List Nat × Int) (p : Po) : nm (t :: p) = t.2.natAbs + nm p := rfl
theorem nm_app (p q : Po) : nm (p ++ q) = nm p + nm q := by
  unfold nm
  rw [List.map_append, List.sum_append]
theorem nm_perm {p q : Po} (h : p.Perm q) : nm p = nm q := by
  induction h with
  | nil => rfl
  | cons x _ ih => rw [nm_cons, nm_cons, ih]
  | swap x y l => rw [nm_cons, nm_cons, nm_cons, nm_cons]; omega
  | trans _ _ a b => exact a.trans b
theorem nm_mem : ∀ {p : Po} {t : List Nat × Int}, t ∈ p → t.2.natAbs ≤ nm p
  | a :: p, t, h => by
    rw [nm_cons]
    rcases List.mem_cons.mp h with rfl | h
    · omega
    · have := nm_mem h; omega
theorem nm_put {k : List Nat} {v : Int} : ∀ {p : Po}, (p.map (·.1)).Nodup → nm (put p k v) + ((look p k).getD 0).natAbs = nm p + v.natAbs
  | [], _ => by
    show v.natAbs + 0 + 0 = 0 + v.natAbs
    omega
  | t :: p, nd => by
    have nd' := List.nodup_cons.mp nd
    have ih := nm_put (k := k) (v := v) (p := p) nd'.2
    by_cases h : t.1 = k
    · have e1 : put (t :: p) k v = (t.1, v) :: p := by
        unfold put
        rw [if_pos (by simp [h]), List.map_cons, if_pos h]
        rw [map_same (by rw [← h]; exact nd'.1)]
      rw [e1, nm_cons, nm_cons, look_cons, if_pos h]
      show v.natAbs + nm p + t.2.natAbs = t.2.natAbs + nm p + v.natAbs
      omega
    · have e1 : put (t :: p) k v = t :: put p k v := by
        unfold put
        rw [List.any_cons, decide_eq_false h, Bool.false_or]
        split
        · rw [List.map_cons, if_neg h]
        · rfl
      rw [e1, nm_cons, nm_cons, look_cons, if_neg h]
      omega
theorem nm_add {p : Po} {k : List Nat} {c : Int} (nd : (p.map (·.1)).Nodup) : nm (addP p k c) ≤ nm p + c.natAbs := by
  have := nm_put (k := k) (v := (look p k).getD 0 + c) nd
  unfold addP
  omega
theorem nm_fold : ∀ (b a : Po), (a.map (·.1)).Nodup → nm (b.foldl (fun acc t => addP acc t.1 t.2) a) ≤ nm a + nm b
  | [], a, nd => Nat.le_refl _
  | t :: b, a, nd => by
    have := nm_fold b (addP a t.1 t.2) (nd_put nd)
    have := nm_add (k := t.1) (c := t.2) nd
    rw [List.foldl_cons, nm_cons]
    omega
theorem nm_pick {p : Po} (nd : (p.map (·.1)).Nodup) : ∀ q : Po, (∀ t ∈ q, t ∈ p) → nm ((q.map (·.1)).filterMap (pick p)) = nm q
  | [], _ => rfl
  | t :: q, h => by
    have ih := nm_pick nd q fun x hx => h x (List.mem_cons_of_mem _ hx)
    have e := look_app_nd nd (h t (List.mem_cons_self ..))
    rw [List.map_cons, List.filterMap_cons]
    unfold pick
    rw [e]
    by_cases c : t.2 = 0
    · simp only [c, if_true]
      rw [nm_cons, c]
      show _ = 0 + nm q
      rw [Nat.zero_add]
      exact ih
    · simp only [if_neg c]
      rw [nm_cons, nm_cons]
      exact congrArg _ ih
theorem nm_asp {p : Po} (nd : (p.map (·.1)).Nodup) : nm (aspP p) = nm p := by
  unfold aspP
  rw [nm_perm ((sortN_perm (p.map (·.1))).filterMap (pick p))]
  exact nm_pick nd p fun _ h => h
theorem nm_plus {a b : Po} (nd : (a.map (·.1)).Nodup) : nm (plusP a b) ≤ nm a + nm b := by
  have := (Lm_fold (m := fun _ => 0) b a nd).2
  unfold plusP
  rw [nm_asp this]
  exact nm_fold b a nd
theorem nm_scaled {a : Po} (nd : (a.map (·.1)).Nodup) : nm (scaledP a (-1)) = nm a := by
  unfold scaledP
  have e : ((a.map fun t => (t.1, t.2 * (-1))).map (·.1)) = a.map (·.1) := by rw [List.map_map]; rfl
  rw [nm_asp (by rw [e]; exact nd)]
  unfold nm
  rw [List.map_map]
  congr 1
  refine List.map_congr_left fun t _ => ?_
  show (t.2 * (-1)).natAbs = t.2.natAbs
  omega
theorem nd_scaled {a : Po} {c : Int} (nd : (a.map (·.1)).Nodup) : ((scaledP a c).map (·.1)).Nodup := by
  refine nd_asp ?_
  have e : ((a.map fun t => (t.1, t.2 * c)).map (·.1)) = a.map (·.1) := by rw [List.map_map]; rfl
  rw [e]
  exact nd
theorem nm_minus {a b : Po} (na : (a.map (·.1)).Nodup) (nb : (b.map (·.1)).Nodup) : nm (minusP a b) ≤ nm a + nm b := by
  unfold minusP
  have := nm_plus (b := scaledP b (-1)) na
  rw [nm_scaled nb] at this
  exact this
theorem nm_timesI {t : List Nat × Int} : ∀ (b acc : Po), (acc.map (·.1)).Nodup → nm (G.timesI t b acc) ≤ nm acc + t.2.natAbs * nm b ∧ ((G.timesI t b acc).map (·.1)).Nodup
  | [], acc, nd => ⟨Nat.le_add_right .., nd⟩
  | u :: b, acc, nd => by
    have h := nm_timesI (t := t) b (addP acc (addK t.1 u.1) (t.2 * u.2)) (nd_put nd)
    refine ⟨?_, h.2⟩
    have h2 := nm_add (k := addK t.1 u.1) (c := t.2 * u.2) nd
    show nm (G.timesI t b (addP acc (addK t.1 u.1) (t.2 * u.2))) ≤ _
    rw [nm_cons, Nat.mul_add]
    rw [Int.natAbs_mul] at h2
    omega
theorem nm_timesA {b : Po} : ∀ (a acc : Po), (acc.map (·.1)).Nodup → nm (a.foldl (fun acc t => G.timesI t b acc) acc) ≤ nm acc + nm a * nm b ∧ ((a.foldl (fun acc t => G.timesI t b acc) acc).map (·.1)).Nodup
  | [], acc, nd => ⟨Nat.le_add_right .., nd⟩
  | t :: a, acc, nd => by
    have h1 := nm_timesI (t := t) b acc nd
    have h2 := nm_timesA (b := b) a (G.timesI t b acc) h1.2
    refine ⟨?_, h2.2⟩
    rw [List.foldl_cons, nm_cons, Nat.add_mul]
    have := h2.1
    have := h1.1
    omega
theorem nm_times {a b : Po} : nm (timesP a b) ≤ nm a * nm b := by
  have h := nm_timesA (b := b) a [] (by simp)
  unfold timesP
  rw [nm_asp h.2]
  have := h.1
  rw [nm_nil] at this
  omega
theorem pol_nm {a : Nat} {r : Rw} (ok : RowOk r) (a0 : 0 < a) (c : ∀ (k : Nat) (c : Int), r.st[k]? = some (.set c) → c.natAbs < 2 ^ a) : ∀ k, k < r.st.length → nm (pol r k) < 2 ^ wd a r k := by
  intro k
  induction k using Nat.strongRecOn with
  | ind k ih =>
    intro hk
    have e : r.st[k]? = some (r.st[k]) := List.getElem?_eq_getElem hk
    have w := ok.wf k _ e
    have sk : siz r k = (szA 1).stp (siz r) (r.st[k]) := tr_spec ok.wf e
    have h' : pol r k = (polyA r.n).stp (pol r) (r.st[k]) := tr_spec ok.wf e
    have pos := siz_pos ok
    have s1 := pos k hk
    have big : a ≤ wd a r k := by
      unfold wd
      have : 1 ≤ (siz r k).toNat := by omega
      exact Nat.le_trans (Nat.le_add_right a k) (Nat.le_trans (Nat.le_of_eq (Nat.mul_one _).symm) (Nat.mul_le_mul_left _ this))
    rw [h']
    generalize hs : r.st[k] = s at e w sk h'
    cases s with
    | inp i =>
      have two : 2 ^ 1 ≤ 2 ^ wd a r k := pow2 (Nat.le_trans a0 big)
      show nm [(unitN r.n i, 1)] < _
      exact Nat.lt_of_lt_of_le (by show 1 + 0 < 2 ^ 1; decide) two
    | set b =>
      show nm (aspP [(List.replicate r.n 0, b)]) < _
      rw [nm_asp (by simp)]
      show b.natAbs + 0 < _
      exact Nat.lt_of_lt_of_le (c k b e) (pow2 big)
    | neg b =>
      have hb := w b (by simp [refs])
      have hb' := ih b hb (by omega)
      have le : wd a r b ≤ wd a r k := by
        have : siz r k = siz r b := sk
        unfold wd
        rw [this]
        exact Nat.mul_le_mul_right _ (by omega)
      show nm (scaledP (pol r b) (-1)) < _
      rw [nm_scaled (pol_pg ok b (by omega)).nd]
      exact Nat.lt_of_lt_of_le hb' (pow2 le)
    | bin o b c =>
      have hb := w b (by simp [refs])
      have hc := w c (by simp [refs])
      have hb' := ih b hb (by omega)
      have hc' := ih c hc (by omega)
      have pb := pos b (by omega)
      have pc := pos c (by omega)
      have gb := pol_pg ok b (by omega)
      have gc := pol_pg ok c (by omega)
      have lin : ∀ S : Int, siz r k = S → siz r b ≤ S → siz r c ≤ S → wd a r b + 1 ≤ wd a r k ∧ wd a r c + 1 ≤ wd a r k := fun S hS h1 h2 => by
        have key : ∀ j, j < k → 1 ≤ siz r j → siz r j ≤ S → wd a r j + 1 ≤ wd a r k := fun j hj q1 q2 => by
          unfold wd
          rw [hS]
          have e1 : (siz r j).toNat ≤ S.toNat := by omega
          have e2 : (a + j) * (siz r j).toNat ≤ (a + j) * S.toNat := Nat.mul_le_mul_left _ e1
          have e3 : (a + j + 1) * S.toNat ≤ (a + k) * S.toNat := Nat.mul_le_mul_right _ (by omega)
          rw [Nat.add_mul, Nat.one_mul] at e3
          omega
        exact ⟨key b hb pb h1, key c hc pc h2⟩
      have both : ∀ {x y : Nat}, wd a r b + 1 ≤ wd a r k → wd a r c + 1 ≤ wd a r k → x < 2 ^ wd a r b → y < 2 ^ wd a r c → x + y < 2 ^ wd a r k := fun {x y} q1 q2 hx hy => by
        have z1 : 2 ^ wd a r b ≤ 2 ^ (wd a r k - 1) := pow2 (by omega)
        have z2 : 2 ^ wd a r c ≤ 2 ^ (wd a r k - 1) := pow2 (by omega)
        have z3 : 2 ^ (wd a r k - 1 + 1) = 2 ^ (wd a r k - 1) * 2 := Nat.pow_succ ..
        rw [show wd a r k - 1 + 1 = wd a r k by omega] at z3
        omega
      cases o with
      | mul =>
        have hS : siz r k = siz r b + siz r c := sk
        have hM : wd a r b + wd a r c + 1 ≤ wd a r k := by
          unfold wd
          have e0 : (siz r k).toNat = (siz r b).toNat + (siz r c).toNat := by omega
          have e1 : 1 ≤ (siz r b).toNat := by omega
          have e2 : (a + b) * (siz r b).toNat + (siz r b).toNat ≤ (a + k) * (siz r b).toNat := by
            have := Nat.mul_le_mul_right (siz r b).toNat (show a + b + 1 ≤ a + k by omega)
            rw [Nat.add_mul, Nat.one_mul] at this
            exact this
          have e3 : (a + c) * (siz r c).toNat ≤ (a + k) * (siz r c).toNat := Nat.mul_le_mul_right _ (by omega)
          rw [e0, Nat.mul_add]
          omega
        show nm (timesP (pol r b) (pol r c)) < _
        refine Nat.lt_of_le_of_lt nm_times (Nat.lt_of_lt_of_le ?_ (pow2 (show wd a r b + wd a r c ≤ wd a r k by omega)))
        rw [Nat.pow_add]
        exact Nat.mul_lt_mul'' hb' hc'
      | add =>
        have hS : siz r k = max (siz r b) (siz r c) := sk
        have l := lin _ rfl (by omega) (by omega)
        exact Nat.lt_of_le_of_lt (nm_plus gb.nd) (both l.1 l.2 hb' hc')
      | sub =>
        have hS : siz r k = max (siz r b) (siz r c) := sk
        have l := lin _ rfl (by omega) (by omega)
        exact Nat.lt_of_le_of_lt (nm_minus gb.nd gc.nd) (both l.1 l.2 hb' hc')
theorem wd_le {a : Nat} {r : Rw} {k : Nat} {K S : Nat} (hk : k ≤ K) (hs : siz r k ≤ (S : Int)) : wd a r k ≤ (a + K) * S := by
  unfold wd
  exact Nat.mul_le_mul (by omega) (by omega)
theorem cf_of {a : Nat} {r : Rw} (ok : RowOk r) (a0 : 0 < a) (c : ∀ (k : Nat) (c : Int), r.st[k]? = some (.set c) → c.natAbs < 2 ^ a) {S : Nat} (hs : ∀ k, k < r.st.length → siz r k ≤ (S : Int)) (h9 : (a + r.st.length) * S ≤ 400000) : ∀ k, k < r.st.length → Cf (pol r k) := fun k hk t ht =>
  Nat.lt_of_le_of_lt (nm_mem ht) (Nat.lt_of_lt_of_le (pol_nm ok a0 c k hk) (pow2 (Nat.le_trans (wd_le (Nat.le_of_lt hk) (hs k hk)) h9)))
end G
set_option maxRecDepth 100000
set_option maxHeartbeats 4000000
/-! Y11: rows at points with narrow values. -/
namespace G
open PySem PySem.Spec PyProof.Rows L2
structure Good (r : Rw) (p : List Int) (B : Nat) : Prop where
  ok : RowOk r
  hp : p.length = r.n
  v : ∀ k, k < r.st.length → (val r p k).natAbs < 2 ^ B
  c : ∀ k, k < r.st.length → ∀ u, u < r.n → (rc r p u k).natAbs < 2 ^ B
  b0 : 0 < B
  b1 : B ≤ 1000
section
variable {r t one other : Rw} {p q w : List Int} {B C W : Nat}
theorem Good.mulR (h : Good r p B) : MulR r p := mulR_of h.ok h.v h.b0 (by have := h.b1; omega)
theorem Good.mulV (h : Good r p B) : MulV r p := mulV_of h.ok h.v h.c h.b0 (by have := h.b1; omega)
theorem Good.up (h : Good r p B) (le : B ≤ C) (c1 : C ≤ 1000) : Good r p C := ⟨h.ok, h.hp, fun k hk => Nat.lt_of_lt_of_le (h.v k hk) (pow2 le), fun k hk u hu => Nat.lt_of_lt_of_le (h.c k hk u hu) (pow2 le), Nat.lt_of_lt_of_le h.b0 le, c1⟩
theorem sum_bd {M : Nat} : ∀ l : List Int, (∀ x ∈ l, x.natAbs < 2 ^ M) → l.sum.natAbs < 2 ^ (M + l.length)
  | [], _ => Nat.pos_of_ne_zero (by simp)
  | x :: l, h => by
    have h1 := h x (List.mem_cons_self ..)
    have h2 := sum_bd l fun y hy => h y (List.mem_cons_of_mem _ hy)
    have h3 : 2 ^ M ≤ 2 ^ (M + l.length) := pow2 (by omega)
    have h4 : 2 ^ (M + (l.length + 1)) = 2 ^ (M + l.length) * 2 := Nat.pow_succ ..
    rw [List.sum_cons, List.length_cons, h4]
    omega
theorem bdd_up (h : Bdd w B) (le : B ≤ C) : Bdd w C := fun x hx => Nat.lt_of_lt_of_le (h x hx) (pow2 le)
theorem swV_bd (h : Good r p B) (hw : Bdd w W) (hl : w.length = r.en.length) : Bdd (swV r p w) (W + B + r.en.length) := fun x hx => by
  unfold swV at hx
  obtain ⟨u, hu, rfl⟩ := List.mem_map.mp hx
  have hu' := List.mem_range.mp hu
  have := sum_bd (M := W + B) (List.zipWith (fun e x => x * rc r p u e) r.en w) fun y hy => by
    rw [List.mem_iff_getElem?] at hy
    obtain ⟨i, hi⟩ := hy
    rw [List.getElem?_zipWith] at hi
    cases e1 : r.en[i]? with
    | none => rw [e1] at hi; cases hi
    | some e =>
      cases e2 : w[i]? with
      | none => rw [e1, e2] at hi; cases hi
      | some x =>
        rw [e1, e2] at hi
        have hi' : x * rc r p u e = y := Option.some.inj hi
        rw [← hi']
        exact mulw (hw x (List.mem_of_getElem? e2)) (h.c e (h.ok.en e (List.mem_of_getElem? e1)) u hu')
  rw [List.length_zipWith, hl, Nat.min_self] at this
  exact this
theorem swV_len : (swV r p w).length = r.n := by simp [swV]
theorem good_of {a : Nat} {S : Nat} (ok : RowOk r) (hp : p.length = r.n) (h : Nar a r p) (hs : ∀ k, k < r.st.length → siz r k ≤ (S : Int)) (hB : (a + r.st.length) * S ≤ B) (b1 : B ≤ 1000) : Good r p B := by
  have w := wide_all ok h
  have le : ∀ k, k < r.st.length → wd a r k ≤ B := fun k hk => Nat.le_trans (wd_le (Nat.le_of_lt hk) (hs k hk)) hB
  refine ⟨ok, hp, fun k hk => Nat.lt_of_lt_of_le (w k hk).1 (pow2 (le k hk)), fun k hk u hu => Nat.lt_of_lt_of_le ((w k hk).2 u hu) (pow2 (le k hk)), ?_, b1⟩
  have h0 := le 0 ok.ln1
  have h1 := siz_pos ok 0 ok.ln1
  have h2 : 0 < a := h.a0
  unfold wd at h0
  have : 1 ≤ (a + 0) * (siz r 0).toNat := Nat.mul_pos (by omega) (by omega)
  omega
theorem get_bd {a : Nat} (h : ∀ x ∈ p, x.natAbs < 2 ^ a) (i : Nat) : (p.getD i 0).natAbs < 2 ^ a := by
  rw [List.getD_eq_getElem?_getD]
  cases e : p[i]? with
  | none => exact Nat.pos_of_ne_zero (by simp)
  | some x => exact h x (List.mem_of_getElem? e)
theorem c4 {c : Int} {a : Nat} (h : -4 ≤ c ∧ c ≤ 4) (ha : 3 ≤ a) : c.natAbs < 2 ^ a := by
  have h1 : 2 ^ 3 ≤ 2 ^ a := pow2 ha
  have h2 : (2 : Nat) ^ 3 = 8 := by decide
  omega
theorem LRow.nar {n L a : Nat} (h : LRow n L r) (ha : 3 ≤ a) (hp : Bdd p a) : Nar a r p := ⟨by omega, fun i _ => get_bd hp i, fun k c e => c4 (h.ls.cs c (List.mem_of_getElem? e)) ha⟩
theorem LRow.good {n L a : Nat} (h : LRow n L r) (hL : L ≤ 8) (hn : n ≤ 20) (ha : 3 ≤ a) (hl : p.length = n) (hp : Bdd p a) (hB : (a + 8) * 3 ≤ B) (b1 : B ≤ 1000) : Good r p B :=
  good_of (S := 3) (h.ok (by omega) hn) (by rw [h.nn]; exact hl) (h.nar ha hp) (fun k hk => (h.sz hk).2) (Nat.le_trans (Nat.mul_le_mul_right 3 (by have := h.l1; omega)) hB) b1
theorem Sim.rcs {g : Nat → Nat} {S : Nat → Prop} (h : Sim r t g S) (k : RowOk r) {j u : Nat} (hj : S j) : rc t p u (g j) = rc r p u j := by
  unfold rc
  rw [h.rat k hj]
theorem Sim.good {g : Nat → Nat} {S : Nat → Prop} (h : Sim r t g S) (k : Good r p B) (he : 0 < r.en.length) : Good t p B where
  ok := h.ok k.ok he
  hp := by rw [h.n]; exact k.hp
  v := fun i hi => by
    obtain ⟨j, hj, rfl⟩ := h.on i hi
    rw [h.val k.ok hj]
    exact k.v j (h.lt j hj)
  c := fun i hi u hu => by
    obtain ⟨j, hj, rfl⟩ := h.on i hi
    rw [h.rcs k.ok hj]
    exact k.c j (h.lt j hj) u (by rw [← h.n]; exact hu)
  b0 := k.b0
  b1 := k.b1
theorem bes_good (h1 : Good one p B) (h2 : Good other q B) (k3 : RowOk (besR one other)) : Good (besR one other) (p ++ q) B where
  ok := k3
  hp := by show _ = one.n + other.n; rw [List.length_append, h1.hp, h2.hp]
  v := fun k hk => by
    rcases Nat.lt_or_ge k one.st.length with h | h
    · rw [bes_val1 h1.ok h2.ok h1.hp h]
      exact h1.v k h
    · rw [bes_len] at hk
      obtain ⟨j, rfl⟩ : ∃ j, k = one.st.length + j := ⟨k - one.st.length, by omega⟩
      rw [bes_val2 h1.ok h2.ok h1.hp (by omega)]
      exact h2.v j (by omega)
  c := fun k hk u hu => by
    have hu' : u < one.n + other.n := hu
    have z : (0 : Int).natAbs < 2 ^ B := Nat.pos_of_ne_zero (by simp)
    rcases Nat.lt_or_ge k one.st.length with h | h
    · rw [bes_rc1 h1.ok h2.ok k3 h1.hp hu' h]
      split
      · rename_i hh; exact h1.c k h u hh
      · exact z
    · rw [bes_len] at hk
      obtain ⟨j, rfl⟩ : ∃ j, k = one.st.length + j := ⟨k - one.st.length, by omega⟩
      rw [bes_rc2 h1.ok h2.ok k3 h1.hp hu' (by omega)]
      split
      · exact z
      · rename_i hh; exact h2.c j (by omega) (u - one.n) (by omega)
  b0 := h1.b0
  b1 := h1.b1
theorem bes_siz1 (k1 : RowOk one) (k2 : RowOk other) {k : Nat} (hk : k < one.st.length) : siz (besR one other) k = siz one k := bes_one (A := szA 1) k1 k2 k hk
theorem bes_siz2 (k1 : RowOk one) (k2 : RowOk other) {j : Nat} (hj : j < other.st.length) : siz (besR one other) (one.st.length + j) = siz other j := bes_two (A := szA 1) k1 k2 j hj
theorem bes_step {k : Nat} {s : Stp} (e : (besR one other).st[k]? = some s) : one.st[k]? = some s ∨ ∃ s', s' ∈ other.st ∧ s = besS one.n one.st.length s' := by
  rcases Nat.lt_or_ge k one.st.length with h | h
  · rw [bes_get1 h] at e
    exact .inl e
  · obtain ⟨j, rfl⟩ : ∃ j, k = one.st.length + j := ⟨k - one.st.length, by omega⟩
    rw [bes_get2] at e
    cases ej : other.st[j]? with
    | none => rw [ej] at e; cases e
    | some t => rw [ej] at e; exact .inr ⟨t, List.mem_of_getElem? ej, (Option.some.inj e).symm⟩
theorem bes_fits {n m L M : Nat} (h1 : LRow n L one) (h2 : LRow m M other) (hL : L ≤ 8) (hM : M ≤ 8) (hn : n ≤ 5) (hm : m ≤ 5) : Fits (besR one other) := by
  have k1 := h1.ok (by omega) (by omega)
  have k2 := h2.ok (by omega) (by omega)
  have a1 := h1.l1
  have a2 := h2.l1
  have a3 := h1.e1
  have a4 := h2.e1
  have a5 := h1.nn
  have a6 := h2.nn
  refine ⟨bes_ok k1 k2 (by omega) (by omega) (by omega), ?_, ?_, ?_, ?_, fun k hk => ?_, fun k c e => ?_⟩
  · show one.n + other.n ≤ 20; omega
  · rw [bes_len]; omega
  · show (one.en ++ other.en.map fun a => one.st.length + a).length ≤ 20
    rw [List.length_append, List.length_map]; omega
  · show 0 < (one.en ++ other.en.map fun a => one.st.length + a).length
    rw [List.length_append, List.length_map]
    have := h1.e0
    omega
  · rcases Nat.lt_or_ge k one.st.length with h | h
    · rw [bes_siz1 k1 k2 h]
      have := (h1.sz h).2
      omega
    · rw [bes_len] at hk
      obtain ⟨j, rfl⟩ : ∃ j, k = one.st.length + j := ⟨k - one.st.length, by omega⟩
      rw [bes_siz2 k1 k2 (by omega)]
      have := (h2.sz (k := j) (by omega)).2
      omega
  · rcases bes_step e with e' | ⟨s', hs, hr⟩
    · have := h1.ls.cs c (List.mem_of_getElem? e')
      omega
    · cases s' with
      | set b =>
        have : c = b := by cases hr; rfl
        subst this
        have := h2.ls.cs c hs
        omega
      | inp i => cases hr
      | neg a => cases hr
      | bin o a b => cases hr
theorem rn_siz {m : Nat} {order : List Nat} (k1 : RowOk r) {k : Nat} (hk : k < r.st.length) : siz (rnR r m order) k = siz r k := rn_tr (A := szA 1) k1 k hk
theorem rn_good {n L m a : Nat} {order : List Nat} (h : LRow n L r) (hL : L ≤ 8) (hn : n ≤ 20) (ho : order.length = n) (hm : ∀ o ∈ order, o < m) (m9 : m ≤ 900) (ha : 3 ≤ a) (hl : p.length = m) (hp : Bdd p a) (hB : (a + 8) * 3 ≤ B) (b1 : B ≤ 1000) : Good (rnR r m order) p B := by
  have k1 := h.ok (by omega) hn
  refine good_of (S := 3) (a := a) (rn_ok k1 (by rw [h.nn]; exact ho) hm m9) hl ⟨by omega, fun i _ => get_bd hp i, fun k c e => ?_⟩ (fun k hk => ?_) (Nat.le_trans (Nat.mul_le_mul_right 3 (by rw [rn_len]; have := h.l1; omega)) hB) b1
  · rw [rn_get] at e
    cases ek : r.st[k]? with
    | none => rw [ek] at e; cases e
    | some t =>
      rw [ek] at e
      cases t with
      | set b =>
        have : b = c := by injection (Option.some.inj e)
        subst this
        exact c4 (h.ls.cs b (List.mem_of_getElem? ek)) ha
      | inp i => cases e
      | neg a => cases e
      | bin o a b => cases e
  · rw [rn_len] at hk
    rw [rn_siz k1 hk]
    exact (h.sz hk).2
end
section
variable {one other t : Rw} {st : List Stp} {g : Nat → Nat} {n : Nat} {p : List Int}
theorem fed_c3 (h1 : LRow n 7 one) (h2 : LRow one.en.length 8 other) (F : FedTo one other other.st.length st g) : ∀ (k : Nat) (c : Int), (fedOf one other st g).st[k]? = some (.set c) → c.natAbs < 2 ^ 3 := fun k c e => c4 (fed_cs h1 h2 F e) (Nat.le_refl 3)
theorem fed_good (h1 : LRow n 7 one) (h2 : LRow one.en.length 8 other) (hn : n ≤ 20) (F : FedTo one other other.st.length st g) (hl : p.length = n) (hp : Bdd p 3) : Good (fedOf one other st g) p 200 :=
  good_of (a := 3) (S := 9) (fed_ok h1 h2 hn F) (by show _ = one.n; rw [h1.nn]; exact hl) ⟨by decide, fun i _ => get_bd hp i, fed_c3 h1 h2 F⟩ (fun k hk => fed_sz h1 h2 hn F hk) (by show (3 + st.length) * 9 ≤ 200; have := fed_len h1 h2 F; omega) (by decide)
theorem fed_polok (h1 : LRow n 7 one) (h2 : LRow one.en.length 8 other) (h0 : 0 < n) (hn : n ≤ 2) (F : FedTo one other other.st.length st g) : PolOk (fedOf one other st g) where
  ok := fed_ok h1 h2 (by omega) F
  n0 := by show 0 < one.n; rw [h1.nn]; exact h0
  n2 := by show one.n ≤ 2; rw [h1.nn]; exact hn
  sz := fun k hk => fed_sz h1 h2 (by omega) F hk
  cf := cf_of (a := 3) (S := 9) (fed_ok h1 h2 (by omega) F) (by decide) (fed_c3 h1 h2 F) (fun k hk => fed_sz h1 h2 (by omega) F hk) (by show (3 + st.length) * 9 ≤ _; have := fed_len h1 h2 F; omega)
theorem Sim.polok {r : Rw} {S : Nat → Prop} (h : Sim r t g S) (k : PolOk r) (he : 0 < r.en.length) : PolOk t where
  ok := h.ok k.ok he
  n0 := by rw [h.n]; exact k.n0
  n2 := by rw [h.n]; exact k.n2
  sz := fun i hi => by
    obtain ⟨j, hj, rfl⟩ := h.on i hi
    rw [h.siz k.ok hj]
    exact k.sz j (h.lt j hj)
  cf := fun i hi => by
    obtain ⟨j, hj, rfl⟩ := h.on i hi
    rw [h.pol k.ok hj]
    exact k.cf j (h.lt j hj)
theorem fed_smalls (h1 : LRow n 7 one) (h2 : LRow one.en.length 8 other) (hn : n ≤ 20) (F : FedTo one other other.st.length st g) : Smalls (fedOf one other st g) := by
  have l15 := fed_len h1 h2 F
  have ok := fed_ok h1 h2 hn F
  refine ⟨by show one.n < 100; rw [h1.nn]; omega, fun s hs => ?_, fun e he => ?_, by show st.length ≤ 100; omega, ?_, ?_⟩
  · obtain ⟨k, hk⟩ := List.mem_iff_getElem?.mp hs
    have hlt : k < st.length := (List.getElem?_eq_some_iff.mp hk).1
    have w := F.wf k s hk
    intro x hx
    cases s with
    | inp i =>
      have : i < one.n := ok.inn k i hk
      have e : x = (i : Int) := by simpa [numsS] using hx
      rw [h1.nn] at this
      omega
    | set c =>
      have := fed_cs h1 h2 F hk
      have e : x = c := by simpa [numsS] using hx
      omega
    | neg a =>
      have := w a (by simp [refs])
      have e : x = (a : Int) := by simpa [numsS] using hx
      omega
    | bin o a b =>
      have := w a (by simp [refs])
      have := w b (by simp [refs])
      have e : x = (a : Int) ∨ x = (b : Int) := by simpa [numsS] using hx
      omega
  · have := ok.en e he
    have : e < st.length := this
    omega
  · show (other.en.map g).length ≤ 100
    rw [List.length_map]
    have := h2.e1
    omega
  · intro hc
    have : (other.en.map g).length = 0 := by
      have : (fedOf one other st g).en.length = 0 := by rw [hc]; rfl
      exact this
    rw [List.length_map] at this
    have := h2.e0
    omega
end
end G
set_option maxRecDepth 100000
set_option maxHeartbeats 4000000
/-! Y12: uses of promises, comparisons. -/
namespace G
open PySem PySem.Spec PyProof.Rows L2
theorem okd_is {n : Nat} (k : List Int) : okd (n + 1) (isD k) = true := by
  show (k.map D.int).all (okd n) = true
  rw [List.all_map]
  exact List.all_eq_true.mpr fun x _ => by show okd n (.int _) = true; cases n <;> rfl
theorem okd_tis {n : Nat} {α : Type} (l : List α) (f : α → List Int) : okd (n + 2) (.tup (l.map fun e => isD (f e))) = true := by
  show (l.map fun e => isD (f e)).all (okd (n + 1)) = true
  rw [List.all_map]
  exact List.all_eq_true.mpr fun x _ => okd_is _
theorem okd_tns {n : Nat} {α : Type} (l : List α) (f : α → List Nat) : okd (n + 2) (.tup (l.map fun e => nsD (f e))) = true := by
  show (l.map fun e => nsD (f e)).all (okd (n + 1)) = true
  rw [List.all_map]
  exact List.all_eq_true.mpr fun x _ => okd_ns _
theorem okd_s2 {x : Str} {a : Int} (h : PyData.strOk x = true) : okd 2 (.tup [.str x, .int a]) = true := by
  show (PyData.strOk x && (true && true)) = true
  rw [h]
  rfl
theorem okd_s3 {x : Str} {a b : Int} (h : PyData.strOk x = true) : okd 2 (.tup [.str x, .int a, .int b]) = true := by
  show (PyData.strOk x && (true && (true && true))) = true
  rw [h]
  rfl
theorem okd_sD (s : Stp) : okd 2 (sD s) = true := by
  cases s with
  | inp i => exact okd_s2 (by decide +kernel)
  | set c => exact okd_s2 (by decide +kernel)
  | neg a => exact okd_s2 (by decide +kernel)
  | bin o a b => cases o <;> exact okd_s3 (by decide +kernel)
theorem okd_rD (r : Rw) : okd 4 (rD r) = true := by
  have h : (r.st.map sD).all (okd 2) = true := by
    rw [List.all_map]
    exact List.all_eq_true.mpr fun x _ => okd_sD x
  show ([.int (r.n : Int), .tup (r.st.map sD), nsD r.en] : List D).all (okd 3) = true
  rw [List.all_cons, List.all_cons, List.all_cons, okd_ns]
  show (true && ((r.st.map sD).all (okd 2) && (true && true))) = true
  rw [h]
  rfl
theorem ne_is {a b : List Int} {Z : D → Prop} (h : a = b) (z : Z (.bl false)) : gNe (isD a) (isD b) Z := by
  subst h
  refine ⟨1, by decide, okd_is a, okd_is a, ?_⟩
  rw [show deq (.tup (a.map .int)) (.tup (a.map .int)) = true from deq_refl _]
  exact z
theorem ne_tup {a b : List D} {n : Nat} {Z : D → Prop} (h : a = b) (ok : okd n (.tup a) = true) (hn : n ≤ 64) (z : Z (.bl false)) : gNe (.tup a) (.tup b) Z := by
  subst h
  refine ⟨n, hn, ok, ok, ?_⟩
  rw [show deq (.tup a) (.tup a) = true from deq_refl _]
  exact z
theorem eq_tup {a b : List D} {n : Nat} {Z : D → Prop} (h : a = b) (ok : okd n (.tup a) = true) (hn : n ≤ 64) (z : Z (.bl true)) : gEq (.tup a) (.tup b) Z := by
  subst h
  refine ⟨n, hn, ok, ok, ?_⟩
  rw [show deq (.tup a) (.tup a) = true from deq_refl _]
  exact z
theorem eq_rD {r : Rw} {Z : D → Prop} (z : Z (.bl true)) : gEq (rD r) (rD r) Z := eq_tup (n := 4) rfl (okd_rD r) (by decide) z
theorem add_is {a b : List Int} {Z : D → Prop} (h : a.length + b.length ≤ 1000) (z : Z (isD (a ++ b))) : gAdd (isD a) (isD b) Z := by
  refine ⟨by rw [List.length_map, List.length_map]; exact line1000 h, ?_⟩
  rw [← List.map_append]
  exact z
theorem var_im {i : Nat} {Γ : Gm} {d : D} {K : R → Gm → Prop} (hΓ : Γ[i]? = some (.im d)) (z : K (.im d) Γ) : wVar i Γ K := by
  unfold wVar
  rw [hΓ]
  exact z
theorem cons_add {i j : Nat} {Γ : Gm} {a b : List Int} {wr : WA} {Z : List R → Gm → Prop} (hi : Γ[i]? = some (.im (isD a))) (hj : Γ[j]? = some (.im (isD b))) (h : a.length + b.length ≤ 1000) (z : wr Γ fun rs Γ2 => Z (.im (isD (a ++ b)) :: rs) Γ2) : wCons (wOp gAdd (wVar i) (wVar j)) wr Γ Z := by
  show wOp gAdd (wVar i) (wVar j) Γ _
  unfold wOp
  refine var_im hi (var_im hj ?_)
  exact add_is h z
theorem cons_var {i : Nat} {Γ : Gm} {d : D} {wr : WA} {Z : List R → Gm → Prop} (hi : Γ[i]? = some (.im d)) (z : wr Γ fun rs Γ2 => Z (.im d :: rs) Γ2) : wCons (wVar i) wr Γ Z := by
  unfold wCons
  exact var_im hi z
theorem if_ {wt : WT} {w u : WS} {Z : Zs} {Γ : Gm} (h : wt Γ fun b Γ1 => Br b (w Z Γ1) (u Z Γ1)) : wIf wt w u Z Γ := h
theorem test_ {we : WE} {Γ : Gm} {Z : Bool → Gm → Prop} (h : we Γ fun x Γ1 => match x with
  | .im (.bl b) => Z b Γ1
  | _ => False) : wTest we Γ Z := h
theorem op_ {g : D → D → (D → Prop) → Prop} {wa wb : WE} {Γ : Gm} {Z : R → Gm → Prop} (h : wa Γ fun x Γ1 => wb Γ1 fun y Γ2 => match x, y with
  | .im d, .im e => g d e fun d' => Z (.im d') Γ2
  | _, _ => False) : wOp g wa wb Γ Z := h
theorem seq_ {w u : WS} {Z : Zs} {Γ : Gm} (h : w { Z with nx := fun Γ1 => u Z Γ1 } Γ) : wSeq w u Z Γ := h
theorem next_ {Z : Zs} {Γ : Gm} (h : Z.nx Γ) : wNext Z Γ := h
theorem st_ {i : Nat} {d : D} {Z : Gm → Prop} {Γ : Gm} (h : Z (Γ.set i (.im d))) : stZ i (.im d) Z Γ := h
theorem stc_ {i : Nat} {c : C} {Z : Gm → Prop} {Γ : Gm} (h : Z (Γ.set i (.ce c))) : stZ i (.tm c) Z Γ := h
theorem ret_ {np : Nat} {we : WE} {Z : Zs} {Γ : Gm} (h : we Γ fun r Γ1 => match r with
  | .im d => Z.rt (.im d) Γ1
  | .tm c => Z.rt (.tm c) Γ1
  | .sl i => ∃ c, Γ1[i]? = some (.ce c) ∧ np ≤ i ∧ Z.rt (.tm c) Γ1) : wRet np we Z Γ := h
theorem call2 {gs : GSp} {i j k : Nat} {Γ : Gm} {d : D} {a b : List Int} {Z : R → Gm → Prop} (hi : Γ[i]? = some (.im d)) (hj : Γ[j]? = some (.im (isD a))) (hk : Γ[k]? = some (.im (isD b))) (h : a.length + b.length ≤ 1000)
    (z : gs [.im d, .im (isD (a ++ b))] fun r outs => match r with
      | .sl _ => False
      | r => Z r (wbk Γ [.im d, .im (isD (a ++ b))] outs)) : wCall gs (wCons (wVar i) (wCons (wOp gAdd (wVar j) (wVar k)) wNil)) Γ Z := by
  unfold wCall
  refine cons_var hi ?_
  refine cons_add hj hk h ?_
  exact ⟨rfl, z⟩
theorem call3 {gs : GSp} {i j k l m : Nat} {Γ : Gm} {d : D} {a b e f : List Int} {Z : R → Gm → Prop} (hi : Γ[i]? = some (.im d)) (hj : Γ[j]? = some (.im (isD a))) (hk : Γ[k]? = some (.im (isD b))) (hl : Γ[l]? = some (.im (isD e))) (hm : Γ[m]? = some (.im (isD f))) (h : a.length + b.length ≤ 1000) (h' : e.length + f.length ≤ 1000)
    (z : gs [.im d, .im (isD (a ++ b)), .im (isD (e ++ f))] fun r outs => match r with
      | .sl _ => False
      | r => Z r (wbk Γ [.im d, .im (isD (a ++ b)), .im (isD (e ++ f))] outs)) : wCall gs (wCons (wVar i) (wCons (wOp gAdd (wVar j) (wVar k)) (wCons (wOp gAdd (wVar l) (wVar m)) wNil))) Γ Z := by
  unfold wCall
  refine cons_var hi ?_
  refine cons_add hj hk h ?_
  refine cons_add hl hm h' ?_
  exact ⟨rfl, z⟩
section
variable {r one other : Rw} {p w q : List Int} {B C W : Nat} {Z : R → List Sl → Prop}
theorem use_told (h : Good r p B) (z : Z (.im (isD (r.en.map (val r p)))) [.im (rD r), .im (isD p)]) : sp_told [.im (rD r), .im (isD p)] Z := ⟨r, p, rfl, h.ok, h.hp, h.mulR, z⟩
theorem use_rates (h : Good r p B) (h0 : 0 < r.n) (z : Z (.im (.tup (r.en.map fun e => isD (rat r p e)))) [.im (rD r), .im (isD p)]) : sp_rates_at [.im (rD r), .im (isD p)] Z := ⟨r, p, rfl, h.ok, h0, h.hp, h.mulR, h.mulV, z⟩
theorem use_swept (h : Good r p B) (hL : r.st.length ≤ 60) (he : r.en.length ≤ 20) (hw : w.length = r.en.length) (bw : Bdd w W) (w0 : 0 < W) (w1 : W ≤ 5000) (z : Z (.im (isD (swV r p w))) [.im (rD r), .im (isD p), .im (isD w)]) : sp_swept [.im (rD r), .im (isD p), .im (isD w)] Z :=
  ⟨r, p, w, B, W, rfl, h.ok, h.hp, h.mulR, he, hw, h.v, bw, h.b0, w0, by
    have h1 := h.b1
    have h2 : r.st.length * (B + 2) ≤ 60 * 1002 := Nat.mul_le_mul hL (by omega)
    omega, z⟩
theorem use_fed_rates (h1 : Good one p B) (h2 : Good other (one.en.map (val one p)) C) (h0 : 0 < one.n) (h02 : 0 < other.n) (hn : one.en.length = other.n) (z : Z (.im (.tup (other.en.map fun e => isD (chainV one other p e)))) [.im (rD one), .im (rD other), .im (isD p)]) : sp_rates_fed [.im (rD one), .im (rD other), .im (isD p)] Z :=
  ⟨one, other, p, rfl, h1.ok, h2.ok, h0, h02, h1.hp, hn, h1.mulR, h1.mulV, h2.mulR, h2.mulV, fun e he a ha c hc y hy => by
    obtain ⟨u, hu, rfl⟩ := rat_mem h2.ok (h2.ok.en e he) ha
    obtain ⟨v, hv, rfl⟩ := rat_mem h1.ok (h1.ok.en c hc) hy
    exact wide_mul (h2.c e (h2.ok.en e he) u hu) (h1.c c (h1.ok.en c hc) v hv) h2.b0 h1.b0 (by have := h1.b1; have := h2.b1; omega), z⟩
theorem use_back_told {b : Rw} (h : Good r p B) (hb : BackOk r b) (hL : r.st.length ≤ 60) (he : r.en.length ≤ 20) (hw : w.length = r.en.length) (bw : Bdd w W) (w0 : 0 < W) (w1 : W ≤ 5000) (z : Z (.im (isD (swV r p w))) [.im (rD b), .im (isD (p ++ w))]) : sp_told [.im (rD b), .im (isD (p ++ w))] Z := by
  have hs := hb.sem p w B W ⟨h.hp, hw, h.v, bw, h.b0, w0⟩
  refine ⟨b, p ++ w, rfl, hb.ok, by rw [List.length_append, h.hp, hw, hb.n], mulR_of hb.ok hs.2 (by have := h.b0; omega) ?_, ?_⟩
  · have h1 := h.b1
    have h2 : (r.en.length + r.st.length) * (B + 2) ≤ 80 * 1002 := Nat.mul_le_mul (by omega) (by omega)
    omega
  · rw [hs.1]
    exact z
end
def Sm4 (p : List Int) : Prop := ∀ x ∈ p, -4 ≤ x ∧ x ≤ 4
theorem Sm4.bdd {p : List Int} (h : Sm4 p) : Bdd p 3 := fun x hx => c4 (h x hx) (Nat.le_refl 3)
/-- a tuple of draws -/
theorem dr_lc {wi : WI} {s m : Nat} {as bs : List Int} {n : Int} {Δ : Gm} {ds : List D} {Z : R → Gm → Prop} (hwi : ∀ K : List D → Hk → Gm → Prop, K ds none (.ce (.deck as bs n) :: Δ) → wi (.ce (.deck as bs n) :: Δ) K) (hs : Δ[s]? = some .un) (hl : ds.length ≤ 5) (k : DkOk m as bs n) (hm : m ≤ 90000)
    (z : ∀ p as' bs' n', p.length = ds.length → Sm4 p → DkOk (m + 5) as' bs' n' → Z (.im (isD p)) (.ce (.deck as' bs' n') :: Δ)) :
    wB gTuple (wCons (wLc wi (wgName (s + 1)) wYes (wOp gSub (wCall sp__law_draw (wCons (wVar 0) (wCons (wC (.int 9)) wNil))) (wC (.int 4))) [s + 1]) wNil) (.ce (.deck as bs n) :: Δ) Z := by
  have hlt : s < Δ.length := (List.getElem?_eq_some_iff.mp hs).1
  have d0 : ∀ x : Sl, (Δ.set s x).set s .un = Δ := fun x => by
    rw [List.set_set]
    refine List.ext_getElem? fun i => ?_
    by_cases e : s = i
    · subst e
      rw [List.getElem?_set_self hlt, hs]
    · rw [List.getElem?_set_ne e]
  have d1 : Δ.set s .un = Δ := by
    have := d0 .un
    rw [List.set_set] at this
    exact this
  refine hwi _ ⟨?_, by omega, fun i acc Γ => ∃ as bs n p, DkOk (m + i) as bs n ∧ p.length = i ∧ Sm4 p ∧ Γ = .ce (.deck as bs n) :: Δ ∧ acc = p.map .int, ⟨as, bs, n, [], k, rfl, fun _ h => (nomatch h), ?_, rfl⟩, fun _ _ _ _ => trivial, ?_, ?_⟩
  · show (noCe Δ[s]? && true) = true
    rw [hs]
    rfl
  · show .ce (.deck as bs n) :: Δ.set s .un = _
    rw [d1]
  · rintro i d acc Γ hd ⟨as, bs, n, p, k, hp, hx, rfl, rfl⟩
    have hi : i < ds.length := (List.getElem?_eq_some_iff.mp hd).1
    refine ⟨_, hs, fxU, fun _ => ⟨rfl, as, bs, n, 9, m + i, rfl, k, by omega, by decide, by decide, fun r as' bs' n' r0 r1 k' => ⟨as', bs', n', p ++ [r - 4], k'.mono (by omega), by rw [List.length_append, hp]; rfl, fun x h => ?_, ?_, by rw [List.map_append]; rfl⟩⟩, nofun⟩
    · rcases List.mem_append.mp h with h | h
      · exact hx x h
      · rw [List.mem_singleton] at h; omega
    · show .ce (.deck as' bs' n') :: (Δ.set s (.im d)).set s .un = _
      rw [d0]
  · rintro acc Γ ⟨as, bs, n, p, k, hp, hx, rfl, rfl⟩
    exact ⟨_, rfl, z p as bs n hp hx (k.mono (by omega))⟩
end G
set_option maxRecDepth 100000
set_option maxHeartbeats 4000000
/-! Z1: fed rows go with their parts. -/
namespace G
open PySem PySem.Spec PyProof.Rows L2
section
variable {one other : Rw} {st : List Stp} {g : Nat → Nat} {n : Nat} {p : List Int}
theorem fed_map {α : Type} {f f' : Nat → α} (h : ∀ j, j < other.st.length → f (g j) = f' j) (k2 : RowOk other) : (fedOf one other st g).en.map f = other.en.map f' := by
  show (other.en.map g).map f = _
  rw [List.map_map]
  exact List.map_congr_left fun a ha => h a (k2.en a ha)
theorem fed_told (k1 : RowOk one) (k2 : RowOk other) (F : FedTo one other other.st.length st g) (hn : one.en.length = other.n) : (fedOf one other st g).en.map (val (fedOf one other st g) p) = other.en.map (val other (one.en.map (val one p))) :=
  fed_map (fun j hj => val_fed k1 k2 F hn hj) k2
theorem fed_rates (k1 : RowOk one) (k2 : RowOk other) (k3 : RowOk (fedOf one other st g)) (F : FedTo one other other.st.length st g) (hn : one.en.length = other.n) : ((fedOf one other st g).en.map fun e => isD (rat (fedOf one other st g) p e)) = other.en.map fun e => isD (chainV one other p e) :=
  fed_map (fun j hj => by rw [chain_fed k1 k2 k3 F hn hj]) k2
end
theorem mem_sum : ∀ {l : List Nat} {k : Nat}, k ∈ l → k ≤ l.sum
  | a :: l, k, h => by
    rw [List.sum_cons]
    rcases List.mem_cons.mp h with rfl | h
    · omega
    · have := mem_sum h; omega
def sp__law_fed_right : GSp := fun args Z => ∃ (as bs : List Int) (q : Int) (one other : Rw) (n m : Nat), args = [.ce (.deck as bs q), .im (rD one), .im (rD other)] ∧ DkOk m as bs q ∧ m ≤ 50000 ∧ LRow n 7 one ∧ 0 < n ∧ n ≤ 2 ∧ LRow one.en.length 8 other ∧
  ∀ (as' bs' : List Int) (q' : Int), DkOk (m + 10) as' bs' q' → Z (.im (.bl true)) [.ce (.deck as' bs' q'), .im (rD one), .im (rD other)]
def N__law_fed_right : List Str := ["_law_deck_here", "_law_one_here", "_law_other", "_law_both", "_law_point_here", "_law_inner", "_law_weights", "_law_pulls", "_law_thin", "_law_found", "_law_k", "_law_end", "_law_poly"]
def w__law_fed_right : WS := (wSeq (wPar 3 4 (wCons (wCall sp_fed (wCons (wVar 1) (wCons (wVar 2) wNil))) (wCons (wB gTuple (wCons (wLc (wiRng1 (wCons (wIx (wVar 1) (wC (.int 0))) wNil)) (wgName 10) wYes (wOp gSub (wCall sp__law_draw (wCons (wVar 0) (wCons (wC (.int 9)) wNil))) (wC (.int 4))) [10]) wNil)) wNil))) (wSeq (wPar 5 6 (wCons (wCall sp_told (wCons (wVar 1) (wCons (wVar 4) wNil))) (wCons (wB gTuple (wCons (wLc (wiTup (wIx (wVar 2) (wC (.int 2)))) (wgName 11) wYes (wOp gSub (wCall sp__law_draw (wCons (wVar 0) (wCons (wC (.int 9)) wNil))) (wC (.int 4))) [11]) wNil)) wNil))) (wSeq (wAsg 7 (wCall sp_swept (wCons (wVar 1) (wCons (wVar 4) (wCons (wCall sp_swept (wCons (wVar 2) (wCons (wVar 5) (wCons (wVar 6) wNil)))) wNil))))) (wSeq (wIf (wOr (wTest (wOp gNe (wCall sp_told (wCons (wVar 3) (wCons (wVar 4) wNil))) (wCall sp_told (wCons (wVar 2) (wCons (wVar 5) wNil))))) (wTest (wOp gNe (wCall sp_rates_at (wCons (wVar 3) (wCons (wVar 4) wNil))) (wCall sp_rates_fed (wCons (wVar 1) (wCons (wVar 2) (wCons (wVar 4) wNil))))))) (wRet 3 (wC (.bl false))) wNext) (wSeq (wIf (wOr (wTest (wOp gNe (wCall sp_swept (wCons (wVar 3) (wCons (wVar 4) (wCons (wVar 6) wNil)))) (wVar 7))) (wTest (wOp gNe (wCall sp_told (wCons (wCall sp_backward (wCons (wVar 3) wNil)) (wCons (wOp gAdd (wVar 4) (wVar 6)) wNil))) (wVar 7)))) (wRet 3 (wC (.bl false))) wNext) (wSeq (wPar 8 9 (wCons (wCall sp_slim (wCons (wVar 3) wNil)) (wCons (wCall sp_polys (wCons (wVar 3) wNil)) wNil))) (wSeq (wIf (wOr (wNot (wTest (wCall sp_same (wCons (wVar 8) (wCons (wVar 3) wNil))))) (wOr (wTest (wOp gNe (wCall sp_hangs (wCons (wVar 8) wNil)) (wCall sp_hangs (wCons (wVar 3) wNil)))) (wTest (wOp gNe (wCall sp_swept (wCons (wVar 8) (wCons (wVar 4) (wCons (wVar 6) wNil)))) (wVar 7))))) (wRet 3 (wC (.bl false))) wNext) (wSeq (wIf (wTest (wOp gNe (wB gTuple (wCons (wLc (wiTup (wVar 9)) (wgName 12) wYes (wCall sp_value_of (wCons (wVar 12) (wCons (wVar 4) wNil))) [12]) wNil)) (wCall sp_told (wCons (wVar 8) (wCons (wVar 4) wNil))))) (wRet 3 (wC (.bl false))) wNext) (wRet 3 (wAndV (wOp gEq (wCall sp_read_row (wCons (wCall sp_row_text (wCons (wVar 3) wNil)) wNil)) (wVar 3)) (wOp gEq (wCall sp_rates_at (wCons (wVar 8) (wCons (wVar 4) wNil))) (wCall sp_rates_at (wCons (wVar 3) (wCons (wVar 4) wNil))))))))))))))
theorem vc__law_fed_right : ∀ args Z, sp__law_fed_right args Z → args.length = 3 ∧ w__law_fed_right (endsOf 3 Z) (args ++ List.replicate (N__law_fed_right.length - 3) .un) := by
  rintro args Z ⟨as, bs, q, one, other, n, m, rfl, kd, hm, h1, n0, n2, h2, z⟩
  have k1 := h1.ok (by decide) (by omega)
  have k2 := h2.ok (by decide) (by have := h1.e1; omega)
  have nn := h1.nn
  have hn : one.en.length = other.n := h2.nn.symm
  have o0 : 0 < other.n := by rw [← hn]; exact h1.e0
  have l1 := h1.l1
  have l2 := h2.l1
  have e1 := h1.e1
  have e2 := h2.e1
  refine ⟨rfl, rfl, one, other, rfl, k1, k2, hn, by omega, fun st g F => fed_fits h1 h2 (by omega) F, fun st g F => ?_⟩
  refine dr_lc (s := 9) (ds := rngD 0 one.n) (fun K h => ⟨_, _, rfl, rfl, ⟨by omega, by omega⟩, h⟩) rfl (by rw [rngD_len]; omega) kd (by omega) fun p as1 bs1 q1 hp hx kd1 => ?_
  rw [rngD_len, nn] at hp
  have g1 : Good one p 40 := h1.good (by decide) (by omega) (Nat.le_refl 3) hp hx.bdd (by decide) (by decide)
  have gq : Bdd (one.en.map (val one p)) 40 := fun x hx => by
    obtain ⟨e, he, rfl⟩ := List.mem_map.mp hx
    exact g1.v e (k1.en e he)
  have g2 : Good other (one.en.map (val one p)) 150 := h2.good (by decide) (by omega) (by decide) (List.length_map ..) gq (by decide) (by decide)
  have gb : Good (fedOf one other st g) p 200 := fed_good h1 h2 (by omega) F hp hx.bdd
  have le : (fedOf one other st g).en.length = other.en.length := List.length_map ..
  have lb : (fedOf one other st g).st.length ≤ 15 := fed_len h1 h2 F
  have pb := fed_polok h1 h2 n0 n2 F
  have nb : 0 < (fedOf one other st g).n := by show 0 < one.n; omega
  have n8 : (fedOf one other st g).n ≤ 800 := by show one.n ≤ 800; omega
  have l0 : 0 < (fedOf one other st g).en.length := by rw [le]; exact h2.e0
  have tl := fed_told (p := p) k1 k2 F hn
  have rt := fed_rates (p := p) k1 k2 gb.ok F hn
  have sm := fed_smalls h1 h2 (by omega) F
  have ft := fed_fits h1 h2 (by omega) F
  have sw := fun w => sw_fed (p := p) k1 k2 gb.ok F hn w
  refine ⟨rfl, use_told g1 ?_⟩
  refine dr_lc (s := 10) (ds := other.en.map nD) (fun K h => ⟨_, _, rfl, rfl, h⟩) rfl (by rw [List.length_map]; omega) kd1 (by omega) fun w as2 bs2 q2 hw hy kd2 => ?_
  rw [List.length_map] at hw
  have hw' : w.length = (fedOf one other st g).en.length := by rw [le]; exact hw
  have sl : (swV other (one.en.map (val one p)) w).length = one.en.length := by rw [swV_len, hn]
  have sb : Bdd (swV other (one.en.map (val one p)) w) 200 := bdd_up (swV_bd g2 hy.bdd hw) (by omega)
  refine ⟨rfl, use_swept g2 (by omega) (by omega) hw hy.bdd (by decide) (by decide) ⟨rfl, use_swept g1 (by omega) (by omega) sl sb (by decide) (by decide) ?_⟩⟩
  refine ⟨rfl, use_told gb ⟨rfl, use_told g2 (ne_is tl (itN rfl ⟨rfl, use_rates gb nb ⟨rfl, use_fed_rates g1 g2 (by omega) o0 hn (ne_tup (n := 2) rt (okd_tis _ _) (by decide) (itN rfl ?_))⟩⟩))⟩⟩
  refine ⟨rfl, use_swept gb (by omega) (by omega) hw' hy.bdd (by decide) (by decide) ?_⟩
  refine var_im rfl ?_
  refine ne_is (sw w) ?_
  refine itN rfl ?_
  refine ⟨rfl, _, rfl, gb.ok, by omega, by omega, nb, n8, fun b hb => ?_⟩
  refine cons_add rfl rfl (by omega) ?_
  refine ⟨rfl, use_back_told gb hb (by omega) (by omega) hw' hy.bdd (by decide) (by decide) ?_⟩
  refine var_im rfl ?_
  refine ne_is (sw w) ?_
  refine itN rfl ?_
  refine ⟨rfl, _, rfl, gb.ok, fun t gt S hs => ⟨rfl, _, rfl, pb, ?_⟩⟩
  have gt' : Good t p 200 := hs.good gb l0
  have pt := hs.polok pb l0
  have et : t.en.length = (fedOf one other st g).en.length := by rw [hs.en, List.length_map]
  have ep : t.en.map (pol t) = (fedOf one other st g).en.map (pol (fedOf one other st g)) := hs.map fun j hj => hs.pol gb.ok hj
  have eh : (t.en.map fun e => nsD (hangP t.n (pol t e))) = (fedOf one other st g).en.map fun e => nsD (hangP (fedOf one other st g).n (pol (fedOf one other st g) e)) := hs.map fun j hj => by rw [hs.pol gb.ok hj, hs.n]
  have ev : t.en.map (val t p) = (fedOf one other st g).en.map (val (fedOf one other st g) p) := hs.map fun j hj => hs.val gb.ok hj
  have er : (t.en.map fun e => isD (rat t p e)) = (fedOf one other st g).en.map fun e => isD (rat (fedOf one other st g) p e) := hs.map fun j hj => by rw [hs.rat gb.ok hj]
  have es : swV t p w = swV one p (swV other (one.en.map (val one p)) w) := by rw [hs.sw gb.ok w, sw w]
  have lt := hs.ln
  refine ⟨rfl, t, fedOf one other st g, rfl, pt, pb, hs.n, ep, itN rfl ?_⟩
  refine ⟨rfl, t, rfl, pt, rfl, fedOf one other st g, rfl, pb, ne_tup (n := 2) eh (okd_tns _ _) (by decide) (itN rfl ?_)⟩
  refine ⟨rfl, use_swept gt' (by omega) (by omega) (by omega) hy.bdd (by decide) (by decide) ?_⟩
  refine var_im rfl ?_
  refine ne_is es ?_
  refine itN rfl ?_
  refine ⟨rfl, by rw [List.length_map]; omega, fun i acc Γ => Γ = [.ce (.deck as2 bs2 q2), .im (rD one), .im (rD other), .im (rD (fedOf one other st g)), .im (isD p), .im (isD (one.en.map (val one p))), .im (isD w), .im (isD (swV one p (swV other (one.en.map (val one p)) w))), .im (rD t), .im (.tup ((fedOf one other st g).en.map fun e => pD (pol (fedOf one other st g) e))), .un, .un, .un] ∧ acc = (((fedOf one other st g).en.take i).map (val (fedOf one other st g) p)).map .int, ⟨rfl, rfl⟩, fun _ _ _ _ => trivial, ?_, ?_⟩
  · rintro i d acc Γ hd ⟨rfl, rfl⟩
    obtain ⟨e, he, rfl⟩ := get_of_map hd
    have hlt := gb.ok.en e (List.mem_of_getElem? he)
    have pv := pol_val gb.ok gb.hp pb.n2 e hlt
    have pg := pol_pg gb.ok e hlt
    have cf := pb.cf e hlt
    have s9 := pb.sz e hlt
    refine ⟨_, rfl, fxU, fun _ => ⟨rfl, pol (fedOf one other st g) e, p, rfl, fun x h => by have := hx x h; omega, by omega, fun t' ht => ⟨cf t' ht, fun k hk => ?_⟩, ?_⟩, nofun⟩
    · have s1 := (pg.ky t' ht).2
      have s2 : k ≤ t'.1.sum := mem_sum hk
      omega
    · rw [evP_Lm, pv]
      refine ⟨rfl, ?_⟩
      rw [List.take_add_one, he]
      simp
  · rintro acc Γ ⟨rfl, rfl⟩
    rw [List.length_map, List.take_length]
    refine ⟨_, rfl, rfl, use_told gt' (ne_is ev.symm (itN rfl ?_))⟩
    refine ⟨rfl, _, rfl, sm, rfl, _, rfl, sm, ft, ?_⟩
    refine var_im rfl ?_
    refine eq_rD ?_
    refine itY rfl ?_
    refine ⟨rfl, use_rates gt' (by rw [hs.n]; exact nb) ⟨rfl, use_rates gb nb (eq_tup (n := 2) er (okd_tis _ _) (by decide) ?_)⟩⟩
    exact z as2 bs2 q2 (kd2.mono (by omega))
end G
set_option maxRecDepth 100000
set_option maxHeartbeats 4000000
/-! Z2: rows side by side go by themselves. -/
namespace G
open PySem PySem.Spec PyProof.Rows L2
theorem rep_flat : ∀ n : Nat, (List.replicate n [D.int 0]).flatten = (List.replicate n (0 : Int)).map .int
  | 0 => rfl
  | n + 1 => by
    rw [List.replicate_succ, List.flatten_cons, rep_flat n]
    rfl
theorem rep_is {n : Nat} {Z : D → Prop} (h0 : 0 < n) (h1 : n ≤ 1000) (z : Z (isD (List.replicate n 0))) : gRep (.tup [.int 0]) (.int (n : Int)) Z := by
  refine ⟨by simp, by decide, by omega, by omega, ?_⟩
  rw [Int.toNat_natCast, rep_flat]
  exact z
theorem far_bdd {p : List Int} (h : ∀ x ∈ p, x.natAbs ≤ 100000000000000000000) : Bdd p 67 := fun x hx => by
  have h1 := h x hx
  have h2 : (2 : Nat) ^ 67 = 147573952589676412928 := by decide
  omega
section
variable {one other : Rw} {p q : List Int} {B : Nat}
theorem bes_map {α : Type} {f f1 f2 : Nat → α} (k1 : RowOk one) (k2 : RowOk other) (h1 : ∀ k, k < one.st.length → f k = f1 k) (h2 : ∀ j, j < other.st.length → f (one.st.length + j) = f2 j) : (besR one other).en.map f = one.en.map f1 ++ other.en.map f2 := by
  show (one.en ++ other.en.map fun a => one.st.length + a).map f = _
  rw [List.map_append, List.map_map]
  congr 1
  · exact List.map_congr_left fun a ha => h1 a (k1.en a ha)
  · exact List.map_congr_left fun a ha => h2 a (k2.en a ha)
end
def sp__law_beside_right : GSp := fun args Z => ∃ (as bs : List Int) (q : Int) (one other : Rw) (n n2 m : Nat), args = [.ce (.deck as bs q), .im (rD one), .im (rD other)] ∧ DkOk m as bs q ∧ m ≤ 50000 ∧ LRow n 7 one ∧ 0 < n ∧ n ≤ 2 ∧ LRow n2 8 other ∧ 0 < n2 ∧ n2 ≤ 3 ∧
  ∀ (as' bs' : List Int) (q' : Int), DkOk (m + 100) as' bs' q' → Z (.im (.bl true)) [.ce (.deck as' bs' q'), .im (rD one), .im (rD other)]
def N__law_beside_right : List Str := ["_law_deck_here", "_law_one_here", "_law_other", "_law_pair", "_law_first", "_law_second", "_law_heavy", "_law_light", "_law_due", "_law_rates", "_law_row_here", "_law_end"]
def w__law_beside_right : WS := (wSeq (wAsg 3 (wCall sp_beside (wCons (wVar 1) (wCons (wVar 2) wNil)))) (wSeq (wPar 4 5 (wCons (wCall sp__law_point (wCons (wVar 0) (wCons (wIx (wVar 1) (wC (.int 0))) wNil))) (wCons (wCall sp__law_point (wCons (wVar 0) (wCons (wIx (wVar 2) (wC (.int 0))) wNil))) wNil))) (wSeq (wUnl2 6 7 (wLc (wiTup (wTup (wCons (wVar 1) (wCons (wVar 2) wNil)))) (wgName 10) wYes (wB gTuple (wCons (wLc (wiTup (wIx (wVar 10) (wC (.int 2)))) (wgName 11) wYes (wOp gSub (wCall sp__law_draw (wCons (wVar 0) (wCons (wC (.int 9)) wNil))) (wC (.int 4))) [11]) wNil)) [10])) (wSeq (wAsg 8 (wOp gAdd (wCall sp_swept (wCons (wVar 1) (wCons (wVar 4) (wCons (wVar 6) wNil)))) (wCall sp_swept (wCons (wVar 2) (wCons (wVar 5) (wCons (wVar 7) wNil)))))) (wSeq (wIf (wTest (wOp gNe (wCall sp_swept (wCons (wVar 3) (wCons (wOp gAdd (wVar 4) (wVar 5)) (wCons (wOp gAdd (wVar 6) (wVar 7)) wNil)))) (wVar 8))) (wRet 3 (wC (.bl false))) wNext) (wSeq (wIf (wTest (wOp gNe (wCall sp_told (wCons (wVar 3) (wCons (wOp gAdd (wVar 4) (wVar 5)) wNil))) (wOp gAdd (wCall sp_told (wCons (wVar 1) (wCons (wVar 4) wNil))) (wCall sp_told (wCons (wVar 2) (wCons (wVar 5) wNil)))))) (wRet 3 (wC (.bl false))) wNext) (wSeq (wAsg 9 (wLc (wiTup (wCall sp_rates_at (wCons (wVar 1) (wCons (wVar 4) wNil)))) (wgName 10) wYes (wOp gAdd (wVar 10) (wOp gRep (wTup (wCons (wC (.int 0)) wNil)) (wIx (wVar 2) (wC (.int 0))))) [10])) (wRet 3 (wOp gEq (wCall sp_rates_at (wCons (wVar 3) (wCons (wOp gAdd (wVar 4) (wVar 5)) wNil))) (wB gTuple (wCons (wCat (wVar 9) (wLc (wiTup (wCall sp_rates_at (wCons (wVar 2) (wCons (wVar 5) wNil)))) (wgName 10) wYes (wOp gAdd (wOp gRep (wTup (wCons (wC (.int 0)) wNil)) (wIx (wVar 1) (wC (.int 0)))) (wVar 10)) [10])) wNil)))))))))))
theorem vc__law_beside_right : ∀ args Z, sp__law_beside_right args Z → args.length = 3 ∧ w__law_beside_right (endsOf 3 Z) (args ++ List.replicate (N__law_beside_right.length - 3) .un) := by
  rintro args Z ⟨as, bs, c, one, other, n, n2, m, rfl, kd, hm, h1, n0, n1, h2, o0, o1, z⟩
  have k1 := h1.ok (by decide) (by omega)
  have k2 := h2.ok (by decide) (by omega)
  have nn := h1.nn
  have nn2 := h2.nn
  have l1 := h1.l1
  have l2 := h2.l1
  have e1 := h1.e1
  have e2 := h2.e1
  have ft := bes_fits h1 h2 (by decide) (by decide) (by omega) (by omega)
  refine ⟨rfl, rfl, one, other, rfl, k1, k2, by omega, by omega, ft, ?_⟩
  refine ⟨_, _, rfl, rfl, rfl, as, bs, c, one.n, m, rfl, kd, by omega, by omega, fun p as1 bs1 q1 hp hx kd1 => ⟨_, _, rfl, rfl, rfl, as1, bs1, q1, other.n, m + 1 + 14 * one.n, rfl, kd1, by omega, by omega, fun q as2 bs2 q2 hq hy kd2 => ?_⟩⟩
  have g1 : Good one p 230 := h1.good (by decide) (by omega) (a := 67) (by decide) (by omega) (far_bdd hx) (by decide) (by decide)
  have g2 : Good other q 230 := h2.good (by decide) (by omega) (a := 67) (by decide) (by omega) (far_bdd hy) (by decide) (by decide)
  have gb : Good (besR one other) (p ++ q) 230 := bes_good g1 g2 ft.ok
  have m2 : m + 1 + 14 * one.n + 1 + 14 * other.n ≤ m + 80 := by omega
  have kd3 : DkOk (m + 80) as2 bs2 q2 := kd2.mono m2
  refine ⟨Nat.le_of_ble_eq_true rfl, rfl, Nat.le_of_ble_eq_true rfl, fun i acc Γ => ∃ as bs c, DkOk (m + 80 + 5 * i) as bs c ∧ Γ = [.ce (.deck as bs c), .im (rD one), .im (rD other), .im (rD (besR one other)), .im (isD p), .im (isD q), .un, .un, .un, .un, .un, .un] ∧ ((i = 0 ∧ acc = []) ∨ (i = 1 ∧ ∃ w, acc = [isD w] ∧ w.length = one.en.length ∧ Sm4 w) ∨ (i = 2 ∧ ∃ w v, acc = [isD w, isD v] ∧ w.length = one.en.length ∧ Sm4 w ∧ v.length = other.en.length ∧ Sm4 v)), ⟨as2, bs2, q2, kd3, rfl, .inl ⟨rfl, rfl⟩⟩, fun _ _ _ _ => trivial, ?_, ?_⟩
  · rintro i d acc Γ hd ⟨as, bs, c, kd, rfl, h⟩
    rcases h with ⟨rfl, rfl⟩ | ⟨rfl, w, rfl, hw, sw⟩ | ⟨rfl, w, v, rfl, hw, sw, hv, sv⟩
    · have e : rD one = d := Option.some.inj hd
      subst e
      refine ⟨_, rfl, fxU, fun _ => ?_, nofun⟩
      refine dr_lc (s := 10) (ds := one.en.map nD) (fun K h => ⟨_, _, rfl, rfl, h⟩) rfl (by rw [List.length_map]; omega) kd (by omega) fun w as2 bs2 q2 hw hy kd2 => ?_
      rw [List.length_map] at hw
      exact ⟨as2, bs2, q2, kd2, rfl, .inr (.inl ⟨rfl, w, rfl, hw, hy⟩)⟩
    · have e : rD other = d := Option.some.inj hd
      subst e
      refine ⟨_, rfl, fxU, fun _ => ?_, nofun⟩
      refine dr_lc (s := 10) (ds := other.en.map nD) (fun K h => ⟨_, _, rfl, rfl, h⟩) rfl (by rw [List.length_map]; omega) kd (by omega) fun v as2 bs2 q2 hv hy kd2 => ?_
      rw [List.length_map] at hv
      exact ⟨as2, bs2, q2, kd2, rfl, .inr (.inr ⟨rfl, w, v, rfl, hw, sw, hv, hy⟩)⟩
    · cases hd
  rintro acc Γ ⟨as3, bs3, q3, kd4, rfl, h⟩
  obtain ⟨w, v, rfl, hw, sw, hv, sv⟩ : ∃ w v, acc = [isD w, isD v] ∧ w.length = one.en.length ∧ Sm4 w ∧ v.length = other.en.length ∧ Sm4 v := by
    rcases h with ⟨e, _⟩ | ⟨e, _⟩ | ⟨_, h⟩
    · cases e
    · cases e
    · exact h
  clear h
  have lb : (besR one other).st.length = one.st.length + other.st.length := bes_len
  have le : (besR one other).en.length = one.en.length + other.en.length := by
    show (one.en ++ other.en.map fun a => one.st.length + a).length = _
    rw [List.length_append, List.length_map]
  have bwv : Bdd (w ++ v) 3 := fun x hx => by
    rcases List.mem_append.mp hx with h | h
    · exact sw.bdd x h
    · exact sv.bdd x h
  have esw : swV (besR one other) (p ++ q) (w ++ v) = swV one p w ++ swV other q v := bes_sw k1 k2 ft.ok g1.hp hw
  have etl : (besR one other).en.map (val (besR one other) (p ++ q)) = one.en.map (val one p) ++ other.en.map (val other q) :=
    bes_map k1 k2 (fun k hk => bes_val1 k1 k2 g1.hp hk) (fun j hj => bes_val2 k1 k2 g1.hp hj)
  have ert : ((besR one other).en.map fun e => isD (rat (besR one other) (p ++ q) e)) = (one.en.map fun e => isD (rat one p e ++ List.replicate other.n 0)) ++ other.en.map fun e => isD (List.replicate one.n 0 ++ rat other q e) :=
    bes_map k1 k2 (fun k hk => by rw [bes_rat1 k1 k2 ft.ok g1.hp hk]) (fun j hj => by rw [bes_rat2 k1 k2 ft.ok g1.hp hj])
  refine ⟨isD w, isD v, rfl, ?_⟩
  refine ⟨rfl, use_swept g1 (by omega) (by omega) hw sw.bdd (by decide) (by decide) ⟨rfl, use_swept g2 (by omega) (by omega) hv sv.bdd (by decide) (by decide) (add_is (by rw [swV_len, swV_len]; omega) ?_)⟩⟩
  refine st_ ?_
  dsimp only
  refine seq_ ?_
  refine if_ ?_
  refine test_ ?_
  refine op_ ?_
  refine call3 rfl rfl rfl rfl rfl (by omega) (by omega) ?_
  refine use_swept gb (by omega) (by omega) (by rw [List.length_append]; omega) bwv (by decide) (by decide) ?_
  refine var_im rfl ?_
  refine ne_is esw ?_
  refine itN rfl ?_
  refine next_ ?_
  dsimp only
  refine seq_ ?_
  refine if_ ?_
  refine test_ ?_
  refine op_ ?_
  refine call2 rfl rfl rfl (by omega) ?_
  refine use_told gb ?_
  refine op_ ?_
  refine ⟨rfl, use_told g1 ⟨rfl, use_told g2 (add_is (by rw [List.length_map, List.length_map]; omega) ?_)⟩⟩
  refine ne_is etl ?_
  refine itN rfl ?_
  refine ⟨rfl, use_rates g1 (by omega) ⟨rfl, by rw [List.length_map]; omega, fun i acc Γ => Γ = [.ce (.deck as3 bs3 q3), .im (rD one), .im (rD other), .im (rD (besR one other)), .im (isD p), .im (isD q), .im (isD w), .im (isD v), .im (isD (swV one p w ++ swV other q v)), .un, .un, .un] ∧ acc = (one.en.take i).map fun e => isD (rat one p e ++ List.replicate other.n 0), ⟨rfl, rfl⟩, fun _ _ _ _ => trivial, ?_, ?_⟩⟩
  · rintro i d acc Γ hd ⟨rfl, rfl⟩
    obtain ⟨e, he, rfl⟩ := get_of_map hd
    have hlt := k1.en e (List.mem_of_getElem? he)
    refine ⟨_, rfl, fxU, fun _ => ⟨Nat.le_of_ble_eq_true rfl, _, _, rfl, rfl, rep_is (by omega) (by omega) (add_is (by rw [rat_len k1 e hlt, List.length_replicate]; omega) ⟨rfl, ?_⟩)⟩, nofun⟩
    rw [List.take_add_one, he]
    simp
  rintro acc Γ ⟨rfl, rfl⟩
  rw [List.length_map, List.take_length]
  refine stc_ ?_
  dsimp only
  refine ret_ ?_
  refine op_ ?_
  refine call2 rfl rfl rfl (by omega) ?_
  refine use_rates gb (by show 0 < one.n + other.n; omega) ?_
  refine ⟨rfl, use_rates g2 (by omega) ⟨rfl, by rw [List.length_map]; omega, fun i acc Γ => Γ = [.ce (.deck as3 bs3 q3), .im (rD one), .im (rD other), .im (rD (besR one other)), .im (isD p), .im (isD q), .im (isD w), .im (isD v), .im (isD (swV one p w ++ swV other q v)), .ce (.ls (one.en.map fun e => isD (rat one p e ++ List.replicate other.n 0))), .un, .un] ∧ acc = (other.en.take i).map fun e => isD (List.replicate one.n 0 ++ rat other q e), ⟨rfl, rfl⟩, fun _ _ _ _ => trivial, ?_, ?_⟩⟩
  · rintro i d acc Γ hd ⟨rfl, rfl⟩
    obtain ⟨e, he, rfl⟩ := get_of_map hd
    have hlt := k2.en e (List.mem_of_getElem? he)
    refine ⟨_, rfl, fxU, fun _ => ⟨Nat.le_of_ble_eq_true rfl, _, _, rfl, rfl, rep_is (by omega) (by omega) ?_⟩, nofun⟩
    refine var_im rfl ?_
    refine add_is (by rw [rat_len k2 e hlt, List.length_replicate]; omega) ?_
    refine ⟨rfl, ?_⟩
    rw [List.take_add_one, he]
    simp
  rintro acc Γ ⟨rfl, rfl⟩
  rw [List.length_map, List.take_length]
  refine ⟨_, _, rfl, rfl, by rw [List.length_map, List.length_map]; omega, _, rfl, eq_tup (n := 2) ert (okd_tis _ _) (by decide) ?_⟩
  exact z as3 bs3 q3 (kd4.mono (show m + 80 + 5 * 2 ≤ m + 100 by omega))
end G
set_option maxRecDepth 100000
set_option maxHeartbeats 4000000
/-! Z3: the deck. -/
namespace G
open PySem PySem.Spec PyProof.Rows L2
def N__law_draw : List Str := ["_law_deck_here", "_law_many", "_law_rest", "_law_cell", "_law_mixed"]
def wDrawT : WS := (wSeq (wAsg 2 (wDk00 0)) (wSeq (wDkPut 0 (wOp gDiv (wVar 2) (wVar 1))) (wSeq (wIf (wTest (wOp gEq (wDk00 0) (wC (.int 0)))) (wDrop (wDkPop 0)) wNext) (wRet 2 (wOp gMod (wB gInt (wCons (wVar 2) wNil)) (wVar 1))))))
def wDrawE : WS := (wSeq (wDkSet 0 (wOp gAdd (wDk2 0) (wC (.int 1)))) (wSeq (wAsg 3 (wDk1 0 (wOp gMod (wB gInt (wCons (wDk2 0) wNil)) (wDkLen 0)))) (wSeq (wAsg 4 (wOp gMod (wB gInt (wCons (wOp gAdd (wOp gMod (wB gInt (wCons (wVar 3) wNil)) (wC (.int 4294966297))) (wOp gMul (wC (.int 1640531527)) (wDk2 0))) wNil)) (wC (.int 4294966297)))) (wSeq (wAsg 4 (wOp gMod (wB gInt (wCons (wOp gAdd (wOp gMul (wVar 4) (wVar 4)) (wOp gMul (wC (.int 122949823)) (wDk2 0))) wNil)) (wC (.int 4294966237)))) (wRet 2 (wOp gMod (wOp gDiv (wOp gMod (wB gInt (wCons (wOp gMul (wVar 4) (wVar 4)) wNil)) (wC (.int 4294966187))) (wC (.int 1024))) (wVar 1)))))))
def w__law_draw : WS := (wSeq (wIf (wTest (wDkNe 0)) wDrawT wNext) wDrawE)
theorem small40 {x : Int} (h0 : 0 ≤ x) (h1 : x < 4294966297) : x.natAbs < 2 ^ 40 := by
  have : (2 : Nat) ^ 40 = 1099511627776 := by decide
  omega
theorem vc__law_draw : ∀ args Z, sp__law_draw args Z → args.length = 2 ∧ w__law_draw (endsOf 2 Z) (args ++ List.replicate (N__law_draw.length - 2) .un) := by
  rintro args Z ⟨as, bs, n, many, m, rfl, k, hm, m0, m1, z⟩
  refine ⟨rfl, as, bs, n, rfl, ?_⟩
  cases as with
  | cons a as =>
    have a0 := k.a0 a (List.mem_cons_self ..)
    have la : as.length + 1 ≤ 64 := k.la
    refine itY rfl ⟨a, as, bs, n, rfl, ⟨m0, by omega⟩, a / many, a, as, bs, n, rfl, rfl, a / many, as, bs, n, rfl, fun hb => ?_, fun hb => ?_⟩
    · refine ⟨a / many, as, bs, n, rfl, m0, ?_⟩
      exact z _ as bs n (Int.emod_nonneg _ (by omega)) (Int.emod_lt_of_pos _ m0) ⟨fun x hx => k.a0 x (List.mem_cons_of_mem _ hx), by omega, k.b0, k.lb, k.n0, by have := k.n1; omega⟩
    · refine ⟨m0, ?_⟩
      have h0 : 0 ≤ a / many := Int.ediv_nonneg (by omega) (by omega)
      have h1 : a / many ≠ 0 := of_decide_eq_false hb
      refine z _ (a / many :: as) bs n (Int.emod_nonneg _ (by omega)) (Int.emod_lt_of_pos _ m0) ⟨fun x hx => ?_, la, k.b0, k.lb, k.n0, by have := k.n1; omega⟩
      rcases List.mem_cons.mp hx with rfl | hx
      · omega
      · exact k.a0 x (List.mem_cons_of_mem _ hx)
  | nil =>
    have n0 := k.n0
    have n1 := k.n1
    obtain ⟨j, hj, hl⟩ : ∃ j : Nat, (n + 1) % (bs.length : Int) = (j : Int) ∧ j < bs.length := by
      have h0 : (0 : Int) < (bs.length : Int) := by have := k.lb.1; omega
      have h1 := Int.emod_nonneg (n + 1) (show (bs.length : Int) ≠ 0 by omega)
      have h2 := Int.emod_lt_of_pos (n + 1) h0
      exact ⟨((n + 1) % (bs.length : Int)).toNat, by omega, by omega⟩
    have nn : (n + 1).natAbs < 2 ^ 20 := by
      have : (2 : Nat) ^ 20 = 1048576 := by decide
      omega
    refine itN rfl ⟨[], bs, n, rfl, n + 1, [], bs, n, rfl, rfl, ⟨_, _, _, rfl⟩, _, _, _, rfl, _, _, _, rfl, by have := k.lb.1; omega, _, [], bs, n + 1, bs[j], rfl, rfl, ?_, ?_⟩
    · rw [hj]
      exact atI_nat (List.getElem?_eq_getElem hl)
    refine ⟨by decide, [], bs, n + 1, rfl, wide_mul (a := 40) (b := 20) (by decide) nn (by decide) (by decide) (by decide), by decide, ?_⟩
    have b1 := Int.emod_nonneg (bs[j] % 4294966297 + 1640531527 * (n + 1)) (show (4294966297 : Int) ≠ 0 by decide)
    have b2 := Int.emod_lt_of_pos (bs[j] % 4294966297 + 1640531527 * (n + 1)) (show (0 : Int) < 4294966297 by decide)
    generalize (bs[j] % 4294966297 + 1640531527 * (n + 1)) % 4294966297 = v at b1 b2 ⊢
    have b3 := small40 b1 b2
    refine ⟨wide_mul (a := 40) (b := 40) b3 b3 (by decide) (by decide) (by decide), [], bs, n + 1, rfl, wide_mul (a := 40) (b := 20) (by decide) nn (by decide) (by decide) (by decide), by decide, ?_⟩
    have c1 := Int.emod_nonneg (v * v + 122949823 * (n + 1)) (show (4294966237 : Int) ≠ 0 by decide)
    have c2 := Int.emod_lt_of_pos (v * v + 122949823 * (n + 1)) (show (0 : Int) < 4294966237 by decide)
    generalize (v * v + 122949823 * (n + 1)) % 4294966237 = u at c1 c2 ⊢
    have c3 := small40 c1 (by omega)
    refine ⟨wide_mul (a := 40) (b := 40) c3 c3 (by decide) (by decide) (by decide), by decide, ⟨by decide, by decide⟩, m0, ?_⟩
    exact z _ [] bs (n + 1) (Int.emod_nonneg _ (by omega)) (Int.emod_lt_of_pos _ m0) ⟨fun x hx => (nomatch hx), by decide, k.b0, k.lb, by omega, by omega⟩
def sp__law_deck : GSp := fun args Z => ∃ ns : List Int, args = [.im (.fl ns)] ∧ ns.length ≤ 63 ∧ ∀ as bs, DkOk 0 as bs 0 → Z (.tm (.deck as bs 0)) [.im (.fl ns)]
def N__law_deck : List Str := ["_law_script", "_law_cells", "_law_cell"]
def w__law_deck : WS := (wSeq (wAsg 1 (wLc (wiLst (wSl (wVar 0) wNo (wPart (wC (.int 63))))) (wgName 2) wYes (wB gAbs (wCons (wVar 2) wNil)) [2])) (wRet 1 (wDkMk (wCons (wLc (wiLst (wVar 1)) (wgName 2) (wTest (wOp gGe (wVar 2) (wOp gPow (wC (.int 10)) (wC (.int 18))))) (wVar 2) [2]) (wCons (wCat (wVar 1) (wLst (wCons (wOp gAdd (wC (.int 11246)) (wB gLen (wCons (wVar 1) wNil))) wNil))) (wCons (wC (.int 0)) wNil))))))
def absI (i : Int) : Int := if i < 0 then -i else i
theorem absI_nn (i : Int) : 0 ≤ absI i := by
  unfold absI
  split <;> omega
theorem cut_ints (ns : List Int) (lo hi : Option Int) : ∃ l : List Int, cutD (ns.map .int) lo hi = l.map .int ∧ l.length ≤ ns.length :=
  ⟨(ns.drop (HT.sIx (ns.map D.int).length 0 lo)).take (HT.sIx (ns.map D.int).length (ns.map D.int).length hi - HT.sIx (ns.map D.int).length 0 lo), by
    unfold cutD
    rw [List.map_take, List.map_drop], by
    rw [List.length_take, List.length_drop]
    omega⟩
theorem vc__law_deck : ∀ args Z, sp__law_deck args Z → args.length = 1 ∧ w__law_deck (endsOf 1 Z) (args ++ List.replicate (N__law_deck.length - 1) .un) := by
  rintro args Z ⟨ns, rfl, hl, z⟩
  obtain ⟨l, el, ll⟩ := cut_ints ns none (some 63)
  refine ⟨rfl, rfl, by rw [el, List.length_map]; omega, fun i acc Γ => Γ = [.im (.fl ns), .un, .un] ∧ acc = ((l.take i).map absI).map .int, ⟨rfl, rfl⟩, fun _ _ _ _ => trivial, ?_, ?_⟩
  · rintro i d acc Γ hd ⟨rfl, rfl⟩
    rw [el] at hd
    obtain ⟨e, he, rfl⟩ := get_of_map hd
    refine ⟨_, rfl, fxU, fun _ => ⟨rfl, ?_⟩, nofun⟩
    rw [List.take_add_one, he]
    simp
    rfl
  · rintro acc Γ ⟨rfl, rfl⟩
    rw [el, List.length_map, List.take_length]
    have lc : (l.map absI).length ≤ 63 := by rw [List.length_map]; omega
    have pos : ∀ x ∈ l.map absI, 0 ≤ x := fun x hx => by
      obtain ⟨y, _, rfl⟩ := List.mem_map.mp hx
      exact absI_nn y
    generalize l.map absI = cs at lc pos
    refine ⟨_, rfl, rfl, by rw [List.length_map]; omega, fun i acc Γ => Γ = [.im (.fl ns), .ce (.ls (cs.map .int)), .un] ∧ acc = ((cs.take i).filter fun x => decide (1000000000000000000 ≤ x)).map .int, ⟨rfl, rfl⟩, fun _ _ _ h => by rw [h.1]; rfl, ?_, ?_⟩
    · rintro i d acc Γ hd ⟨rfl, rfl⟩
      obtain ⟨e, he, rfl⟩ := get_of_map hd
      refine ⟨_, rfl, fxU, ⟨by decide, by decide, by decide⟩, fun hb => ⟨rfl, ?_⟩, fun hb => ⟨rfl, ?_⟩⟩
      · rw [List.take_add_one, he, List.filter_append, List.map_append]
        have hb' : decide ((1000000000000000000 : Int) ≤ e) = true := hb
        simp [List.filter, hb']
      · rw [List.take_add_one, he, List.filter_append, List.map_append]
        have hb' : decide ((1000000000000000000 : Int) ≤ e) = false := hb
        simp [List.filter, hb']
    · rintro acc Γ ⟨rfl, rfl⟩
      rw [List.length_map, List.take_length]
      refine ⟨_, rfl, Nat.le_of_ble_eq_true rfl, cs.map .int, [.int (11246 + ((cs.map D.int).length : Int))], rfl, rfl, by rw [List.length_map]; show cs.length + 1 ≤ 1000; omega, ?_⟩
      refine ⟨cs.filter fun x => decide (1000000000000000000 ≤ x), cs ++ [11246 + (cs.length : Int)], 0, ?_, ?_⟩
      · rw [List.length_map, List.map_append]
        rfl
      · refine z _ _ ⟨fun a ha => ?_, ?_, fun a ha => ?_, ?_, by decide, by decide⟩
        · have h := List.mem_filter.mp ha
          have := of_decide_eq_true h.2
          omega
        · have := List.length_filter_le (fun x => decide ((1000000000000000000 : Int) ≤ x)) cs
          omega
        · rcases List.mem_append.mp ha with h | h
          · exact pos a h
          · rw [List.mem_singleton] at h; omega
        · rw [List.length_append]
          show 0 < cs.length + 1 ∧ cs.length + 1 ≤ 64
          omega
end G
set_option maxRecDepth 100000
set_option maxHeartbeats 4000000
/-! Z4: the law. -/
namespace G
open PySem PySem.Spec PyProof.Rows L2
abbrev LawG (ns as bs : List Int) (q : Int) (x2 x3 x4 x5 x6 x7 x8 x9 x10 x11 x12 x13 x14 : Sl) : Gm := [.im (.fl ns), .ce (.deck as bs q), x2, x3, x4, x5, x6, x7, x8, x9, x10, x11, x12, x13, x14]
def wPullI : WE := (wB gSum (wCons (wLc (wiRng1 (wCons (wIx (wVar 3) (wC (.int 0))) wNil)) (wgName 12) (wTest (wOp gEq (wIx (wVar 6) (wVar 12)) (wVar 14))) (wIx (wVar 11) (wVar 12)) [12]) wNil))
theorem pull_i {ns as bs : List Int} {q : Int} {x2 x4 x5 x7 x8 x9 x10 x13 : Sl} {r : Rw} {order : List Nat} {mine : List Int} {u : Nat} {Z : R → Gm → Prop} (hn : r.n ≤ 900) (ho : order.length = r.n) (hm : mine.length = r.n)
    (z : Z (.im (.int (((List.range r.n).filter fun k => decide (order.getD k 0 = u)).map fun k => mine.getD k 0).sum)) (LawG ns as bs q x2 (.im (rD r)) x4 x5 (.im (nsD order)) x7 x8 x9 x10 (.im (isD mine)) .un x13 (.im (.int (u : Int))))) :
    wPullI (LawG ns as bs q x2 (.im (rD r)) x4 x5 (.im (nsD order)) x7 x8 x9 x10 (.im (isD mine)) .un x13 (.im (.int (u : Int)))) Z := by
  refine ⟨_, _, rfl, rfl, ⟨by omega, by omega⟩, rfl, by rw [rngD_len]; omega, fun i acc Γ => Γ = LawG ns as bs q x2 (.im (rD r)) x4 x5 (.im (nsD order)) x7 x8 x9 x10 (.im (isD mine)) .un x13 (.im (.int (u : Int))) ∧ acc = (((List.range i).filter fun k => decide (order.getD k 0 = u)).map fun k => mine.getD k 0).map .int, ⟨rfl, rfl⟩, fun _ _ _ _ => trivial, ?_, ?_⟩
  · rintro i d acc Γ hd ⟨rfl, rfl⟩
    obtain ⟨hi, rfl⟩ := rngD_of hd
    rw [Int.zero_add]
    rw [Int.toNat_natCast] at hi
    have e1 : order[i]? = some (order.getD i 0) := by rw [List.getD_eq_getElem?_getD, List.getElem?_eq_getElem (by omega)]; rfl
    have e2 : mine[i]? = some (mine.getD i 0) := by rw [List.getD_eq_getElem?_getD, List.getElem?_eq_getElem (by omega)]; rfl
    refine ⟨_, rfl, fxU, _, _, rfl, atI_nat (get_map e1), fun hb => ⟨_, _, rfl, atI_nat (get_map e2), rfl, ?_⟩, fun hb => ⟨rfl, ?_⟩⟩
    · have hb' : order.getD i 0 = u := by have : ((order.getD i 0 : Nat) : Int) = (u : Int) := of_decide_eq_true hb; omega
      rw [List.range_succ, List.filter_append, List.map_append, List.map_append]
      have : [i].filter (fun k => decide (order.getD k 0 = u)) = [i] := List.filter_cons_of_pos (decide_eq_true hb')
      rw [this]
      rfl
    · have hb' : ¬ order.getD i 0 = u := fun e => by
        have : ¬ ((order.getD i 0 : Nat) : Int) = (u : Int) := of_decide_eq_false hb
        omega
      rw [List.range_succ, List.filter_append, List.map_append, List.map_append]
      have : [i].filter (fun k => decide (order.getD k 0 = u)) = [] := List.filter_cons_of_neg (by rw [decide_eq_false hb']; decide)
      rw [this]
      simp
  · rintro acc Γ ⟨rfl, rfl⟩
    rw [rngD_len, Int.toNat_natCast]
    exact ⟨_, rfl, z⟩
def wPullL : WE := (wLc (wiRng1 (wCons (wVar 5) wNil)) (wgName 14) wYes wPullI [14])
theorem pull_l {ns as bs : List Int} {q : Int} {x2 x4 x7 x8 x9 x10 x13 : Sl} {r : Rw} {m : Nat} {order : List Nat} {mine : List Int} {Z : R → Gm → Prop} (hn : r.n ≤ 900) (hm9 : m ≤ 900) (ho : order.length = r.n) (hm : mine.length = r.n)
    (z : Z (.tm (.ls (((List.range m).map fun u => (((List.range r.n).filter fun k => decide (order.getD k 0 = u)).map fun k => mine.getD k 0).sum).map .int))) (LawG ns as bs q x2 (.im (rD r)) x4 (.im (.int (m : Int))) (.im (nsD order)) x7 x8 x9 x10 (.im (isD mine)) .un x13 .un)) :
    wPullL (LawG ns as bs q x2 (.im (rD r)) x4 (.im (.int (m : Int))) (.im (nsD order)) x7 x8 x9 x10 (.im (isD mine)) .un x13 .un) Z := by
  refine ⟨⟨by omega, by omega⟩, rfl, by rw [rngD_len]; omega, fun i acc Γ => Γ = LawG ns as bs q x2 (.im (rD r)) x4 (.im (.int (m : Int))) (.im (nsD order)) x7 x8 x9 x10 (.im (isD mine)) .un x13 .un ∧ acc = ((List.range i).map fun u => (((List.range r.n).filter fun k => decide (order.getD k 0 = u)).map fun k => mine.getD k 0).sum).map .int, ⟨rfl, rfl⟩, fun _ _ _ _ => trivial, ?_, ?_⟩
  · rintro i d acc Γ hd ⟨rfl, rfl⟩
    obtain ⟨hi, rfl⟩ := rngD_of hd
    rw [Int.zero_add]
    refine ⟨_, rfl, fxU, fun _ => ?_, nofun⟩
    refine pull_i (u := i) hn ho hm ?_
    refine ⟨rfl, ?_⟩
    rw [List.range_succ, List.map_append, List.map_append]
    rfl
  · rintro acc Γ ⟨rfl, rfl⟩
    rw [rngD_len, Int.toNat_natCast]
    exact z
def sp_law : GSp := fun args Z => ∃ ns : List Int, args = [.im (.fl ns)] ∧ ns.length ≤ 63 ∧ Z (.im (.bl true)) [.im (.fl ns)]
def N_law : List Str := ["_law_script", "_law_deck_here", "_law_turn", "_law_one_here", "_law_other", "_law_inputs", "_law_order", "_law_point_here", "_law_weights", "_law_own", "_law_pulls", "_law_mine", "_law_k", "_law_end", "_law_at"]
def w_law : WS := (wSeq (wAsg 1 (wCall sp__law_deck (wCons (wVar 0) wNil))) (wSeq (wFor (wiRng1 (wCons (wC (.int 5)) wNil)) (wgName 2) (wSeq (wAsg 3 (wCall sp__law_row (wCons (wVar 1) (wCons (wCall sp__law_one (wCons (wVar 1) (wCons (wLst (wCons (wC (.int 1)) (wCons (wC (.int 2)) (wCons (wC (.int 2)) wNil)))) wNil))) (wCons (wC (.int 7)) (wCons (wC (.int 3)) wNil)))))) (wSeq (wAsg 4 (wCall sp__law_row (wCons (wVar 1) (wCons (wB gLen (wCons (wIx (wVar 3) (wC (.int 2))) wNil)) (wCons (wC (.int 8)) (wCons (wC (.int 3)) wNil)))))) (wSeq (wIf (wOr (wNot (wTest (wCall sp__law_fed_right (wCons (wVar 1) (wCons (wVar 3) (wCons (wVar 4) wNil)))))) (wNot (wTest (wCall sp__law_beside_right (wCons (wVar 1) (wCons (wVar 3) (wCons (wVar 4) wNil))))))) (wRet 1 (wC (.bl false))) wNext) (wSeq (wAsg 5 (wOp gAdd (wC (.int 1)) (wCall sp__law_draw (wCons (wVar 1) (wCons (wC (.int 3)) wNil))))) (wSeq (wAsg 6 (wB gTuple (wCons (wLc (wiRng1 (wCons (wIx (wVar 3) (wC (.int 0))) wNil)) (wgName 12) wYes (wCall sp__law_draw (wCons (wVar 1) (wCons (wVar 5) wNil))) [12]) wNil))) (wSeq (wPar 7 8 (wCons (wCall sp__law_point (wCons (wVar 1) (wCons (wVar 5) wNil))) (wCons (wB gTuple (wCons (wLc (wiTup (wIx (wVar 3) (wC (.int 2)))) (wgName 13) wYes (wOp gSub (wCall sp__law_draw (wCons (wVar 1) (wCons (wC (.int 9)) wNil))) (wC (.int 4))) [13]) wNil)) wNil))) (wSeq (wAsg 9 (wB gTuple (wCons (wLc (wiTup (wVar 6)) (wgName 12) wYes (wIx (wVar 7) (wVar 12)) [12]) wNil))) (wSeq (wPar 10 11 (wCons (wCall sp_swept (wCons (wCall sp_renamed (wCons (wVar 3) (wCons (wVar 5) (wCons (wVar 6) wNil)))) (wCons (wVar 7) (wCons (wVar 8) wNil)))) (wCons (wCall sp_swept (wCons (wVar 3) (wCons (wVar 9) (wCons (wVar 8) wNil)))) wNil))) (wSeq (wIf (wTest (wNeL (wB gList (wCons (wVar 10) wNil)) (wLc (wiRng1 (wCons (wVar 5) wNil)) (wgName 14) wYes (wB gSum (wCons (wLc (wiRng1 (wCons (wIx (wVar 3) (wC (.int 0))) wNil)) (wgName 12) (wTest (wOp gEq (wIx (wVar 6) (wVar 12)) (wVar 14))) (wIx (wVar 11) (wVar 12)) [12]) wNil)) [14]))) (wRet 1 (wC (.bl false))) wNext) (wIf (wTest (wOp gNe (wCall sp_told (wCons (wCall sp_renamed (wCons (wVar 3) (wCons (wVar 5) (wCons (wVar 6) wNil)))) (wCons (wVar 7) wNil))) (wCall sp_told (wCons (wVar 3) (wCons (wVar 9) wNil))))) (wRet 1 (wC (.bl false))) wNext))))))))))) (wRet 1 (wC (.bl true)))))
theorem vc_law : ∀ args Z, sp_law args Z → args.length = 1 ∧ w_law (endsOf 1 Z) (args ++ List.replicate (N_law.length - 1) .un) := by
  rintro args Z ⟨ns, rfl, hl, z⟩
  refine ⟨rfl, rfl, ns, rfl, hl, fun as bs k => ⟨⟨by decide, by decide⟩, fun i Γ => ∃ as bs q x2 x3 x4 x5 x6 x7 x8 x9 x10 x11, Fx x2 ∧ DkOk (500 * i) as bs q ∧ Γ = LawG ns as bs q x2 x3 x4 x5 x6 x7 x8 x9 x10 x11 .un .un .un, ⟨as, bs, 0, .un, .un, .un, .un, .un, .un, .un, .un, .un, .un, trivial, k, rfl⟩, ?_, ?_⟩⟩
  · rintro i d Γ hd ⟨as, bs, q, x2, x3, x4, x5, x6, x7, x8, x9, x10, x11, f2, k, rfl⟩
    obtain ⟨hi, rfl⟩ := rngD_of hd
    have hi5 : i < 5 := hi
    rw [Int.zero_add]
    refine ⟨_, rfl, f2, Nat.le_of_ble_eq_true rfl, rfl, as, bs, q, _, 500 * i, rfl, k, by omega, by decide, by decide, fun d as1 bs1 q1 hd1 k1 => ?_⟩
    obtain ⟨n, rfl, n0, n2⟩ : ∃ n : Nat, d = .int (n : Int) ∧ 0 < n ∧ n ≤ 2 := by
      simp only [List.mem_cons, List.not_mem_nil, or_false] at hd1
      rcases hd1 with rfl | rfl | rfl
      · exact ⟨1, rfl, by decide, by decide⟩
      · exact ⟨2, rfl, by decide, by decide⟩
      · exact ⟨2, rfl, by decide, by decide⟩
    refine ⟨rfl, as1, bs1, q1, n, 7, _, rfl, k1, by omega, by omega, by decide, by decide, fun one as2 bs2 q2 h1 k2 => ?_⟩
    have e0 := h1.e0
    have e1 := h1.e1
    have nn := h1.nn
    have l1 := h1.l1
    refine ⟨_, _, rfl, rfl, _, rfl, rfl, as2, bs2, q2, (one.en.map nD).length, 8, _, rfl, k2, by omega, by rw [List.length_map]; omega, by decide, by decide, fun other as3 bs3 q3 h2 k3 => ?_⟩
    rw [List.length_map] at h2
    refine ⟨rfl, as3, bs3, q3, one, other, n, _, rfl, k3, by omega, h1, n0, n2, h2, fun as4 bs4 q4 k4 => itN rfl ?_⟩
    refine ⟨rfl, as4, bs4, q4, one, other, n, one.en.length, _, rfl, k4, by omega, h1, n0, n2, h2, e0, e1, fun as5 bs5 q5 k5 => itN rfl ?_⟩
    refine ⟨rfl, as5, bs5, q5, 3, _, rfl, k5, by omega, by decide, by decide, fun c as6 bs6 q6 c0 c1 k6 => ?_⟩
    obtain ⟨m, em, m0, m3⟩ : ∃ m : Nat, 1 + c = (m : Int) ∧ 1 ≤ m ∧ m ≤ 3 := ⟨(1 + c).toNat, by omega, by omega, by omega⟩
    dsimp only [gAdd]
    rw [em]
    have ok := h1.ok (by decide) (by omega)
    refine ⟨_, _, rfl, rfl, ⟨by omega, by omega⟩, rfl, by rw [rngD_len]; omega, fun j acc Γ => ∃ as bs q, ∃ os : List Nat, DkOk (500 * i + 1 + 100 + 100 + 10 + 100 + 1 + j) as bs q ∧ os.length = j ∧ (∀ o ∈ os, o < m) ∧ Γ = LawG ns as bs q (.im (.int (i : Int))) (.im (rD one)) (.im (rD other)) (.im (.int (m : Int))) x6 x7 x8 x9 x10 x11 .un .un .un ∧ acc = os.map nD, ⟨as6, bs6, q6, [], k6, rfl, fun _ h => (nomatch h), rfl, rfl⟩, fun _ _ _ _ => trivial, ?_, ?_⟩
    · rintro j d acc Γ hd ⟨as, bs, q, os, k, ol, om, rfl, rfl⟩
      obtain ⟨hj, rfl⟩ := rngD_of hd
      refine ⟨_, rfl, fxU, fun _ => ⟨rfl, as, bs, q, (m : Int), _, rfl, k, by omega, by omega, by omega, fun r as' bs' q' r0 r1 k' => ?_⟩, nofun⟩
      obtain ⟨o, rfl⟩ : ∃ o : Nat, r = (o : Int) := ⟨r.toNat, by omega⟩
      refine ⟨as', bs', q', os ++ [o], k', by rw [List.length_append, ol]; rfl, fun x hx => ?_, rfl, by rw [List.map_append]; rfl⟩
      rcases List.mem_append.mp hx with h | h
      · exact om x h
      · rw [List.mem_singleton] at h; omega
    rintro acc Γ ⟨as, bs, q, order, k, ol, om, rfl, rfl⟩
    rw [rngD_len, Int.toNat_natCast] at ol k
    refine ⟨_, rfl, ?_⟩
    refine ⟨rfl, as, bs, q, m, _, rfl, k, by omega, by omega, fun p as1 bs1 q1 hp hx k1 => ?_⟩
    refine ⟨_, _, rfl, rfl, rfl, by rw [List.length_map]; omega, fun j acc Γ => ∃ as bs q w, DkOk (500 * i + 400 + j) as bs q ∧ w.length = j ∧ Sm4 w ∧ Γ = LawG ns as bs q (.im (.int (i : Int))) (.im (rD one)) (.im (rD other)) (.im (.int (m : Int))) (.im (nsD order)) x7 x8 x9 x10 x11 .un .un .un ∧ acc = w.map .int, ⟨as1, bs1, q1, [], k1.mono (by omega), rfl, fun _ h => (nomatch h), rfl, rfl⟩, fun _ _ _ _ => trivial, ?_, ?_⟩
    · rintro j d acc Γ hd ⟨as, bs, q, w, k, wl, ws, rfl, rfl⟩
      have hj : j < one.en.length := by have := (List.getElem?_eq_some_iff.mp hd).1; rw [List.length_map] at this; exact this
      refine ⟨_, rfl, fxU, fun _ => ⟨rfl, as, bs, q, 9, _, rfl, k, by omega, by decide, by decide, fun r as' bs' q' r0 r1 k' => ⟨as', bs', q', w ++ [r - 4], k', by rw [List.length_append, wl]; rfl, fun x h => ?_, rfl, by rw [List.map_append]; rfl⟩⟩, nofun⟩
      rcases List.mem_append.mp h with h | h
      · exact ws x h
      · rw [List.mem_singleton] at h; omega
    rintro acc Γ ⟨as, bs, q, w, k, wl, ws, rfl, rfl⟩
    rw [List.length_map] at wl k
    refine ⟨_, rfl, ?_⟩
    have own : (order.map fun o => p.getD o 0) = ownP order p := rfl
    have ho : order.length = one.n := ol
    refine ⟨rfl, by rw [List.length_map]; omega, fun j acc Γ => Γ = LawG ns as bs q (.im (.int (i : Int))) (.im (rD one)) (.im (rD other)) (.im (.int (m : Int))) (.im (nsD order)) (.im (isD p)) (.im (isD w)) x9 x10 x11 .un .un .un ∧ acc = ((order.take j).map fun o => p.getD o 0).map .int, ⟨rfl, rfl⟩, fun _ _ _ _ => trivial, ?_, ?_⟩
    · rintro j d acc Γ hd ⟨rfl, rfl⟩
      obtain ⟨o, hO, rfl⟩ := get_of_map hd
      have hom := om o (List.mem_of_getElem? hO)
      have e2 : p[o]? = some (p.getD o 0) := by rw [List.getD_eq_getElem?_getD, List.getElem?_eq_getElem (by omega)]; rfl
      refine ⟨_, rfl, fxU, fun _ => ⟨_, _, rfl, atI_nat (get_map e2), rfl, ?_⟩, nofun⟩
      rw [List.take_add_one, hO]
      simp
    rintro acc Γ ⟨rfl, rfl⟩
    rw [List.length_map, List.take_length, own]
    have bp : Bdd p 67 := far_bdd hx
    have bo : Bdd (ownP order p) 67 := fun x hx => by
      obtain ⟨o, _, rfl⟩ := List.mem_map.mp hx
      exact get_bd bp o
    have g1 : Good (rnR one m order) p 230 := rn_good h1 (by decide) (by omega) (by omega) om (by omega) (a := 67) (by decide) hp bp (by decide) (by decide)
    have g2 : Good one (ownP order p) 230 := h1.good (by decide) (by omega) (a := 67) (by decide) (by unfold ownP; rw [List.length_map]; omega) bo (by decide) (by decide)
    have l2 : (rnR one m order).st.length ≤ 60 := by rw [rn_len]; omega
    have esw := rn_sw (p := p) ok g1.ok ho w
    have etl : one.en.map (val (rnR one m order) p) = one.en.map (val one (ownP order p)) := List.map_congr_left fun a ha => rn_val ok ho (ok.en a ha)
    refine ⟨_, rfl, ?_⟩
    refine ⟨rfl, one, m, order, rfl, ok, ho, rfl, use_swept g1 l2 (show one.en.length ≤ 20 by omega) wl ws.bdd (by decide) (by decide) ⟨rfl, use_swept g2 (by omega) (by omega) wl ws.bdd (by decide) (by decide) ?_⟩⟩
    refine ⟨_, rfl, ?_⟩
    refine pull_l (m := m) (by omega) (by omega) ho swV_len ?_
    refine ⟨_, _, rfl, rfl, okd_is (n := 7) _, okd_is (n := 7) _, ?_⟩
    rw [← esw, deq_refl]
    refine itN rfl ?_
    refine ⟨rfl, one, m, order, rfl, ok, ho, rfl, use_told g1 ⟨rfl, use_told g2 (ne_is etl (itN rfl ?_))⟩⟩
    exact ⟨as, bs, q, .im (.int (i : Int)), _, _, _, _, _, _, _, _, _, trivial, k.mono (by omega), rfl⟩
  · rintro Γ ⟨as, bs, q, x2, x3, x4, x5, x6, x7, x8, x9, x10, x11, f2, k, rfl⟩
    exact z
end G
set_option maxRecDepth 100000
set_option maxHeartbeats 4000000
namespace G
open PySem PySem.Spec PyProof.Rows L2
abbrev st_is_integer : Stmt := PySem.Challenge.pw_rowsback_k82_whole_rows_made_of_rows.main.body.getD 15 (.Pass ⟨0, 0, 0, 0⟩)
theorem sc_is_integer : FnScope N_is_integer ["value", "least", "most"] (defScope st_is_integer) := ⟨by rfl, by rfl, by rfl, by decide +kernel, by rfl, by decide +kernel, by decide +kernel⟩
theorem d_is_integer {P : Program} {w : World} {K : PySem.W.Frag} {mg : Str → Option Value} {base : Heap} {C : Addr} (T : Top K mg C) (hh : Here K mg "is_integer" st_is_integer ["value", "least", "most"]) : Fn P w K mg base 1 "is_integer" ["value", "least", "most"] sp_is_integer :=
  hh.fn sc_is_integer (w_is_integer) (fun f cdv A outer s H E hr => by
    have hc : (cxOf CX0 P w K mg base N_is_integer "is_integer" (defScope st_is_integer) f cdv A outer s H E).nox.calm = true := rfl
    have hN : (cxOf CX0 P w K mg base N_is_integer "is_integer" (defScope st_is_integer) f cdv A outer s H E).nox.N.Nodup := sc_is_integer.nd
    have hu : (cxOf CX0 P w K mg base N_is_integer "is_integer" (defScope st_is_integer) f cdv A outer s H E).nox.A.units + 64 < cLine := hr.units
    exact ⟨_, (gs_one (gs_ret (g_and (g_isi (gv 0) rfl T.isinstance rfl T.int boot_int) (g_and (g_not (g_isi (gv 0) rfl T.isinstance rfl T.bool boot_bool)) (g_one (g_lele (gv 1) (gv 0) (gv 2)))))))⟩) (vc_is_integer)
abbrev st_is_step : Stmt := PySem.Challenge.pw_rowsback_k82_whole_rows_made_of_rows.main.body.getD 16 (.Pass ⟨0, 0, 0, 0⟩)
theorem sc_is_step : FnScope N_is_step ["value", "inputs", "number"] (defScope st_is_step) := ⟨by rfl, by rfl, by rfl, by decide +kernel, by rfl, by decide +kernel, by decide +kernel⟩
theorem d_is_step {P : Program} {w : World} {K : PySem.W.Frag} {mg : Str → Option Value} {base : Heap} {C : Addr} (T : Top K mg C) (F_is_integer : Fn P w K mg base 1 "is_integer" ["value", "least", "most"] sp_is_integer) (hh : Here K mg "is_step" st_is_step ["value", "inputs", "number"]) : Fn P w K mg base 2 "is_step" ["value", "inputs", "number"] sp_is_step :=
  hh.fn sc_is_step (w_is_step) (fun f cdv A outer s H E hr => by
    have hc : (cxOf CX0 P w K mg base N_is_step "is_step" (defScope st_is_step) f cdv A outer s H E).nox.calm = true := rfl
    have hN : (cxOf CX0 P w K mg base N_is_step "is_step" (defScope st_is_step) f cdv A outer s H E).nox.N.Nodup := sc_is_step.nd
    have hu : (cxOf CX0 P w K mg base N_is_step "is_step" (defScope st_is_step) f cdv A outer s H E).nox.A.units + 64 < cLine := hr.units
    exact ⟨_, (gs_cons (gs_if (GW.gt (gw_or (gt_not (gt_val (g_isi (gv 0) rfl T.isinstance rfl T.tuple boot_tuple))) (gw_or (gt_cmp (gc_notIn (g_callB cl_len bg_len rfl T.len boot_len (ga_cons (gv 0) ga_nil)) (g_tup (ga_cons g_int (ga_cons g_int ga_nil))))) (gw_or1 (gt_not (gt_val (g_isi (g_ix (gv 0) g_int) rfl T.isinstance rfl T.str boot_str))))))) (gs_one (gs_ret g_bl)) gs_nil) (gs_cons (gs_if (gt_cmp (gc_eq hu (g_callB cl_len bg_len rfl T.len boot_len (ga_cons (gv 0) ga_nil)) g_int)) (gs_one (gs_ret (g_and (g_cmp (gc_inG (g_ix (gv 0) g_int) T.sgn.choose_spec.1 T.sgn.choose_spec.2 (by decide))) (g_and (g_call F_is_integer (hr.mono (by decide)) (ga_cons (g_ix (gv 0) g_int) (ga_cons g_int (ga_cons (g_sub (gv 2) g_int) ga_nil)))) (g_one (g_call F_is_integer (hr.mono (by decide)) (ga_cons (g_ix (gv 0) g_int) (ga_cons g_int (ga_cons (g_sub (gv 2) g_int) ga_nil))))))))) gs_nil) (gs_cons (gs_if (gt_cmp (gc_eq hu (g_ix (gv 0) g_int) g_str)) (gs_one (gs_ret (g_call F_is_integer (hr.mono (by decide)) (ga_cons (g_ix (gv 0) g_int) (ga_cons g_int (ga_cons (g_sub (gv 1) g_int) ga_nil)))))) gs_nil) (gs_cons (gs_if (gt_cmp (gc_eq hu (g_ix (gv 0) g_int) g_str)) (gs_one (gs_ret (g_call F_is_integer (hr.mono (by decide)) (ga_cons (g_ix (gv 0) g_int) (ga_cons (g_sub g_int (g_globI T.MAX_NUMBER)) (ga_cons (g_globI T.MAX_NUMBER) ga_nil)))))) gs_nil) (gs_one (gs_ret (g_and (g_cmp (gc_eq hu (g_ix (gv 0) g_int) g_str)) (g_one (g_call F_is_integer (hr.mono (by decide)) (ga_cons (g_ix (gv 0) g_int) (ga_cons g_int (ga_cons (g_sub (gv 2) g_int) ga_nil))))))))))))⟩) (vc_is_step)
abbrev st_measure : Stmt := PySem.Challenge.pw_rowsback_k82_whole_rows_made_of_rows.main.body.getD 17 (.Pass ⟨0, 0, 0, 0⟩)
theorem sc_measure : FnScope N_measure ["step", "found", "least"] (defScope st_measure) := ⟨by rfl, by rfl, by rfl, by decide +kernel, by rfl, by decide +kernel, by decide +kernel⟩
theorem d_measure {P : Program} {w : World} {K : PySem.W.Frag} {mg : Str → Option Value} {base : Heap} {C : Addr} (T : Top K mg C) (hh : Here K mg "measure" st_measure ["step", "found", "least"]) : Fn P w K mg base 1 "measure" ["step", "found", "least"] sp_measure :=
  hh.fn sc_measure (w_measure) (fun f cdv A outer s H E hr => by
    have hc : (cxOf CX0 P w K mg base N_measure "measure" (defScope st_measure) f cdv A outer s H E).nox.calm = true := rfl
    have hN : (cxOf CX0 P w K mg base N_measure "measure" (defScope st_measure) f cdv A outer s H E).nox.N.Nodup := sc_measure.nd
    have hu : (cxOf CX0 P w K mg base N_measure "measure" (defScope st_measure) f cdv A outer s H E).nox.A.units + 64 < cLine := hr.units
    exact ⟨_, (gs_cons (gs_if (gt_cmp (gc_eq hu (g_ix (gv 0) g_int) g_str)) (gs_one (gs_ret g_int)) gs_nil) (gs_cons (gs_if (gt_cmp (gc_eq hu (g_ix (gv 0) g_int) g_str)) (gs_one (gs_ret (gv 2))) gs_nil) (gs_cons (gs_if (gt_cmp (gc_eq hu (g_ix (gv 0) g_int) g_str)) (gs_one (gs_ret (g_ix (gv 1) (g_ix (gv 0) g_int)))) gs_nil) (gs_cons (gs_if (gt_cmp (gc_eq hu (g_ix (gv 0) g_int) g_str)) (gs_one (gs_ret (g_add (g_ix (gv 1) (g_ix (gv 0) g_int)) (g_ix (gv 1) (g_ix (gv 0) g_int))))) gs_nil) (gs_one (gs_ret (g_callB (call_max2 hc) bg_max2 rfl T.max boot_max (ga_cons (g_ix (gv 1) (g_ix (gv 0) g_int)) (ga_cons (g_ix (gv 1) (g_ix (gv 0) g_int)) ga_nil)))))))))⟩) (vc_measure)
abbrev st_degrees : Stmt := PySem.Challenge.pw_rowsback_k82_whole_rows_made_of_rows.main.body.getD 18 (.Pass ⟨0, 0, 0, 0⟩)
theorem sc_degrees : FnScope N_degrees ["row"] (defScope st_degrees) := ⟨by rfl, by rfl, by rfl, by decide +kernel, by rfl, by decide +kernel, by decide +kernel⟩
theorem d_degrees {P : Program} {w : World} {K : PySem.W.Frag} {mg : Str → Option Value} {base : Heap} {C : Addr} (T : Top K mg C) (F_measure : Fn P w K mg base 1 "measure" ["step", "found", "least"] sp_measure) (hh : Here K mg "degrees" st_degrees ["row"]) : Fn P w K mg base 2 "degrees" ["row"] sp_degrees :=
  hh.fn sc_degrees (w_degrees) (fun f cdv A outer s H E hr => by
    have hc : (cxOf CX0 P w K mg base N_degrees "degrees" (defScope st_degrees) f cdv A outer s H E).nox.calm = true := rfl
    have hN : (cxOf CX0 P w K mg base N_degrees "degrees" (defScope st_degrees) f cdv A outer s H E).nox.N.Nodup := sc_degrees.nd
    have hu : (cxOf CX0 P w K mg base N_degrees "degrees" (defScope st_degrees) f cdv A outer s H E).nox.A.units + 64 < cLine := hr.units
    exact ⟨_, (gs_cons (gs_set (i := 1) hN rfl (by first | exact .inl rfl | exact .inr rfl) (g_lst ga_nil)) (gs_cons (gs_for PassesOwn.never hc (gi_tup (g_ix (gv 0) g_int)) (gg_name hN rfl (by first | exact .inl rfl | exact .inr rfl)) (gs_one (gs_expr (g_appL (gv 1) (g_call F_measure (hr.mono (by decide)) (ga_cons (gv 2) (ga_cons (gv 1) (ga_cons g_int ga_nil)))))))) (gs_one (gs_ret (g_callTy call_tuple_of bg_tuple rfl T.tuple boot_tuple (ga_cons (gv 1) ga_nil))))))⟩) (vc_degrees)
abbrev st_sizes : Stmt := PySem.Challenge.pw_rowsback_k82_whole_rows_made_of_rows.main.body.getD 19 (.Pass ⟨0, 0, 0, 0⟩)
theorem sc_sizes : FnScope N_sizes ["row"] (defScope st_sizes) := ⟨by rfl, by rfl, by rfl, by decide +kernel, by rfl, by decide +kernel, by decide +kernel⟩
theorem d_sizes {P : Program} {w : World} {K : PySem.W.Frag} {mg : Str → Option Value} {base : Heap} {C : Addr} (T : Top K mg C) (F_measure : Fn P w K mg base 1 "measure" ["step", "found", "least"] sp_measure) (hh : Here K mg "sizes" st_sizes ["row"]) : Fn P w K mg base 2 "sizes" ["row"] sp_sizes :=
  hh.fn sc_sizes (w_sizes) (fun f cdv A outer s H E hr => by
    have hc : (cxOf CX0 P w K mg base N_sizes "sizes" (defScope st_sizes) f cdv A outer s H E).nox.calm = true := rfl
    have hN : (cxOf CX0 P w K mg base N_sizes "sizes" (defScope st_sizes) f cdv A outer s H E).nox.N.Nodup := sc_sizes.nd
    have hu : (cxOf CX0 P w K mg base N_sizes "sizes" (defScope st_sizes) f cdv A outer s H E).nox.A.units + 64 < cLine := hr.units
    exact ⟨_, (gs_cons (gs_set (i := 1) hN rfl (by first | exact .inl rfl | exact .inr rfl) (g_lst ga_nil)) (gs_cons (gs_for PassesOwn.never hc (gi_tup (g_ix (gv 0) g_int)) (gg_name hN rfl (by first | exact .inl rfl | exact .inr rfl)) (gs_one (gs_expr (g_appL (gv 1) (g_call F_measure (hr.mono (by decide)) (ga_cons (gv 2) (ga_cons (gv 1) (ga_cons g_int ga_nil)))))))) (gs_one (gs_ret (g_callTy call_tuple_of bg_tuple rfl T.tuple boot_tuple (ga_cons (gv 1) ga_nil))))))⟩) (vc_sizes)
abbrev st_error_within : Stmt := PySem.Challenge.pw_rowsback_k82_whole_rows_made_of_rows.main.body.getD 20 (.Pass ⟨0, 0, 0, 0⟩)
theorem sc_error_within : FnScope N_error_within ["value", "inputs", "steps", "ends"] (defScope st_error_within) := ⟨by rfl, by rfl, by rfl, by decide +kernel, by rfl, by decide +kernel, by decide +kernel⟩
theorem d_error_within {P : Program} {w : World} {K : PySem.W.Frag} {mg : Str → Option Value} {base : Heap} {C : Addr} (T : Top K mg C) (F_is_integer : Fn P w K mg base 1 "is_integer" ["value", "least", "most"] sp_is_integer) (F_is_step : Fn P w K mg base 2 "is_step" ["value", "inputs", "number"] sp_is_step) (F_measure : Fn P w K mg base 1 "measure" ["step", "found", "least"] sp_measure) (hh : Here K mg "error_within" st_error_within ["value", "inputs", "steps", "ends"]) : Fn P w K mg base 3 "error_within" ["value", "inputs", "steps", "ends"] sp_error_within :=
  hh.fn sc_error_within (w_error_within) (fun f cdv A outer s H E hr => by
    have hc : (cxOf CX0 P w K mg base N_error_within "error_within" (defScope st_error_within) f cdv A outer s H E).nox.calm = true := rfl
    have hN : (cxOf CX0 P w K mg base N_error_within "error_within" (defScope st_error_within) f cdv A outer s H E).nox.N.Nodup := sc_error_within.nd
    have hu : (cxOf CX0 P w K mg base N_error_within "error_within" (defScope st_error_within) f cdv A outer s H E).nox.A.units + 64 < cLine := hr.units
    exact ⟨_, (gs_cons (gs_if (GW.gt (gw_or (gt_not (gt_val (g_isi (gv 0) rfl T.isinstance rfl T.tuple boot_tuple))) (gw_or1 (gt_cmp (gc_ne hu (g_callB cl_len bg_len rfl T.len boot_len (ga_cons (gv 0) ga_nil)) g_int))))) (gs_one (gs_ret (g_tup (ga_cons g_non (ga_cons g_str ga_nil))))) gs_nil) (gs_cons (gs_if (gt_not (gt_val (g_call F_is_integer (hr.mono (by decide)) (ga_cons (g_ix (gv 0) g_int) (ga_cons g_int (ga_cons (gv 1) ga_nil)))))) (gs_one (gs_ret (g_tup (ga_cons g_non (ga_cons g_str ga_nil))))) gs_nil) (gs_cons (gs_if (GW.gt (gw_or (gt_not (gt_val (g_isi (g_ix (gv 0) g_int) rfl T.isinstance rfl T.tuple boot_tuple))) (gw_or1 (gt_not (gt_lele g_int (g_callB cl_len bg_len rfl T.len boot_len (ga_cons (g_ix (gv 0) g_int) ga_nil)) (gv 2)))))) (gs_one (gs_ret (g_tup (ga_cons g_non (ga_cons g_str ga_nil))))) gs_nil) (gs_cons (gs_set (i := 4) hN rfl (by first | exact .inl rfl | exact .inr rfl) (g_lst ga_nil)) (gs_cons (gs_for PassesOwn.never hc (gi_enum rfl T.enumerate (ga_cons (g_ix (gv 0) g_int) ga_nil)) (gg_tup hc (ggs_cons (gg_name hN rfl (by first | exact .inl rfl | exact .inr rfl)) (ggs_cons (gg_name hN rfl (by first | exact .inl rfl | exact .inr rfl)) ggs_nil))) (gs_cons (gs_if (gt_not (gt_val (g_call F_is_step (hr.mono (by decide)) (ga_cons (gv 6) (ga_cons (g_ix (gv 0) g_int) (ga_cons (gv 5) ga_nil)))))) (gs_one (gs_ret (g_tup (ga_cons (gv 5) (ga_cons g_str ga_nil))))) gs_nil) (gs_cons (gs_expr (g_appL (gv 4) (g_call F_measure (hr.mono (by decide)) (ga_cons (gv 6) (ga_cons (gv 4) (ga_cons g_int ga_nil)))))) (gs_one (gs_if (gt_cmp (gc_gt (g_ix (gv 4) (g_neg g_int)) (g_globI T.MAX_SIZE))) (gs_one (gs_ret (g_tup (ga_cons (gv 5) (ga_cons g_str ga_nil))))) gs_nil))))) (gs_cons (gs_if (GW.gt (gw_or (gt_not (gt_val (g_isi (g_ix (gv 0) g_int) rfl T.isinstance rfl T.tuple boot_tuple))) (gw_or1 (gt_not (gt_lele g_int (g_callB cl_len bg_len rfl T.len boot_len (ga_cons (g_ix (gv 0) g_int) ga_nil)) (gv 3)))))) (gs_one (gs_ret (g_tup (ga_cons g_non (ga_cons g_str ga_nil))))) gs_nil) (gs_cons (gs_if (gt_not (gt_val (g_callB (cr_all hc) bg_all rfl T.all boot_all (ga_cons (g_lc hc hN (gi_tup (g_ix (gv 0) g_int)) (own := [("end", 7)]) (tt := tYes) (te := (tCall (toSp K sp_is_integer) [] E0 (tCons (tVar 7) (tCons (tC (.int 0)) (tCons (tOp (rI0 fun i j => .int (i - j)) (tCB (rLen K) (tCons (tOp (rIx K) (tVar 0) (tC (.int 1))) tNil)) (tC (.int 1))) tNil))))) (g := (gName 7)) (show BlkOk N_error_within (defScope st_error_within) _ [("end", 7)] from ⟨by rfl, by decide +kernel, by decide +kernel, by decide +kernel, by decide +kernel⟩) (fun _ _ _ _ _ => (gg_name hN rfl (by first | exact .inl rfl | exact .inr rfl))) (fun _ _ _ _ _ => gts_nil) (fun _ _ _ _ _ => (g_call F_is_integer (hr.mono (by decide)) (ga_cons (gv 7) (ga_cons g_int (ga_cons (g_sub (g_callB cl_len bg_len rfl T.len boot_len (ga_cons (g_ix (gv 0) g_int) ga_nil)) g_int) ga_nil)))))) ga_nil)))) (gs_one (gs_ret (g_tup (ga_cons g_non (ga_cons g_str ga_nil))))) gs_nil) (gs_one (gs_ret g_non)))))))))⟩) (vc_error_within)
abbrev st_long_error : Stmt := PySem.Challenge.pw_rowsback_k82_whole_rows_made_of_rows.main.body.getD 21 (.Pass ⟨0, 0, 0, 0⟩)
theorem sc_long_error : FnScope N_long_error ["value"] (defScope st_long_error) := ⟨by rfl, by rfl, by rfl, by decide +kernel, by rfl, by decide +kernel, by decide +kernel⟩
theorem d_long_error {P : Program} {w : World} {K : PySem.W.Frag} {mg : Str → Option Value} {base : Heap} {C : Addr} (T : Top K mg C) (F_error_within : Fn P w K mg base 3 "error_within" ["value", "inputs", "steps", "ends"] sp_error_within) (hh : Here K mg "long_error" st_long_error ["value"]) : Fn P w K mg base 4 "long_error" ["value"] sp_long_error :=
  hh.fn sc_long_error (w_long_error) (fun f cdv A outer s H E hr => by
    have hc : (cxOf CX0 P w K mg base N_long_error "long_error" (defScope st_long_error) f cdv A outer s H E).nox.calm = true := rfl
    have hN : (cxOf CX0 P w K mg base N_long_error "long_error" (defScope st_long_error) f cdv A outer s H E).nox.N.Nodup := sc_long_error.nd
    have hu : (cxOf CX0 P w K mg base N_long_error "long_error" (defScope st_long_error) f cdv A outer s H E).nox.A.units + 64 < cLine := hr.units
    exact ⟨_, (gs_one (gs_ret (g_call F_error_within (hr.mono (by decide)) (ga_cons (gv 0) (ga_cons (g_globI T.MAX_WIDE) (ga_cons (g_globI T.MAX_LONG) (ga_cons (g_globI T.MAX_WIDE) ga_nil)))))))⟩) (vc_long_error)
abbrev st_step_value : Stmt := PySem.Challenge.pw_rowsback_k82_whole_rows_made_of_rows.main.body.getD 22 (.Pass ⟨0, 0, 0, 0⟩)
theorem sc_step_value : FnScope N_step_value ["step", "point", "found"] (defScope st_step_value) := ⟨by rfl, by rfl, by rfl, by decide +kernel, by rfl, by decide +kernel, by decide +kernel⟩
theorem d_step_value {P : Program} {w : World} {K : PySem.W.Frag} {mg : Str → Option Value} {base : Heap} {C : Addr} (T : Top K mg C) (hh : Here K mg "step_value" st_step_value ["step", "point", "found"]) : Fn P w K mg base 1 "step_value" ["step", "point", "found"] sp_step_value :=
  hh.fn sc_step_value (w_step_value) (fun f cdv A outer s H E hr => by
    have hc : (cxOf CX0 P w K mg base N_step_value "step_value" (defScope st_step_value) f cdv A outer s H E).nox.calm = true := rfl
    have hN : (cxOf CX0 P w K mg base N_step_value "step_value" (defScope st_step_value) f cdv A outer s H E).nox.N.Nodup := sc_step_value.nd
    have hu : (cxOf CX0 P w K mg base N_step_value "step_value" (defScope st_step_value) f cdv A outer s H E).nox.A.units + 64 < cLine := hr.units
    exact ⟨_, (gs_cons (gs_if (gt_cmp (gc_eq hu (g_ix (gv 0) g_int) g_str)) (gs_one (gs_ret (g_ix (gv 1) (g_ix (gv 0) g_int)))) gs_nil) (gs_cons (gs_if (gt_cmp (gc_eq hu (g_ix (gv 0) g_int) g_str)) (gs_one (gs_ret (g_ix (gv 0) g_int))) gs_nil) (gs_cons (gs_if (gt_cmp (gc_eq hu (g_ix (gv 0) g_int) g_str)) (gs_one (gs_ret (g_sub g_int (g_ix (gv 2) (g_ix (gv 0) g_int))))) gs_nil) (gs_cons (gs_par (i := 3) (j := 4) hc hN rfl rfl (by decide) rfl rfl (ga_cons (g_ix (gv 2) (g_ix (gv 0) g_int)) (ga_cons (g_ix (gv 2) (g_ix (gv 0) g_int)) ga_nil)) (by rfl)) (gs_cons (gs_if (gt_cmp (gc_eq hu (g_ix (gv 0) g_int) g_str)) (gs_one (gs_ret (g_add (gv 3) (gv 4)))) gs_nil) (gs_one (gs_ret (g_ifE (gt_cmp (gc_eq hu (g_ix (gv 0) g_int) g_str)) (g_sub (gv 3) (gv 4)) (g_mul (gv 3) (gv 4))))))))))⟩) (vc_step_value)
abbrev st_values : Stmt := PySem.Challenge.pw_rowsback_k82_whole_rows_made_of_rows.main.body.getD 23 (.Pass ⟨0, 0, 0, 0⟩)
theorem sc_values : FnScope N_values ["row", "point"] (defScope st_values) := ⟨by rfl, by rfl, by rfl, by decide +kernel, by rfl, by decide +kernel, by decide +kernel⟩
theorem d_values {P : Program} {w : World} {K : PySem.W.Frag} {mg : Str → Option Value} {base : Heap} {C : Addr} (T : Top K mg C) (F_step_value : Fn P w K mg base 1 "step_value" ["step", "point", "found"] sp_step_value) (hh : Here K mg "values" st_values ["row", "point"]) : Fn P w K mg base 2 "values" ["row", "point"] sp_values :=
  hh.fn sc_values (w_values) (fun f cdv A outer s H E hr => by
    have hc : (cxOf CX0 P w K mg base N_values "values" (defScope st_values) f cdv A outer s H E).nox.calm = true := rfl
    have hN : (cxOf CX0 P w K mg base N_values "values" (defScope st_values) f cdv A outer s H E).nox.N.Nodup := sc_values.nd
    have hu : (cxOf CX0 P w K mg base N_values "values" (defScope st_values) f cdv A outer s H E).nox.A.units + 64 < cLine := hr.units
    exact ⟨_, (gs_cons (gs_set (i := 2) hN rfl (by first | exact .inl rfl | exact .inr rfl) (g_lst ga_nil)) (gs_cons (gs_for PassesOwn.never hc (gi_tup (g_ix (gv 0) g_int)) (gg_name hN rfl (by first | exact .inl rfl | exact .inr rfl)) (gs_one (gs_expr (g_appL (gv 2) (g_call F_step_value (hr.mono (by decide)) (ga_cons (gv 3) (ga_cons (gv 1) (ga_cons (gv 2) ga_nil)))))))) (gs_one (gs_ret (g_callTy call_tuple_of bg_tuple rfl T.tuple boot_tuple (ga_cons (gv 2) ga_nil))))))⟩) (vc_values)
abbrev st_told : Stmt := PySem.Challenge.pw_rowsback_k82_whole_rows_made_of_rows.main.body.getD 24 (.Pass ⟨0, 0, 0, 0⟩)
theorem sc_told : FnScope N_told ["row", "point"] (defScope st_told) := ⟨by rfl, by rfl, by rfl, by decide +kernel, by rfl, by decide +kernel, by decide +kernel⟩
theorem d_told {P : Program} {w : World} {K : PySem.W.Frag} {mg : Str → Option Value} {base : Heap} {C : Addr} (T : Top K mg C) (F_values : Fn P w K mg base 2 "values" ["row", "point"] sp_values) (hh : Here K mg "told" st_told ["row", "point"]) : Fn P w K mg base 3 "told" ["row", "point"] sp_told :=
  hh.fn sc_told (w_told) (fun f cdv A outer s H E hr => by
    have hc : (cxOf CX0 P w K mg base N_told "told" (defScope st_told) f cdv A outer s H E).nox.calm = true := rfl
    have hN : (cxOf CX0 P w K mg base N_told "told" (defScope st_told) f cdv A outer s H E).nox.N.Nodup := sc_told.nd
    have hu : (cxOf CX0 P w K mg base N_told "told" (defScope st_told) f cdv A outer s H E).nox.A.units + 64 < cLine := hr.units
    exact ⟨_, (gs_cons (gs_set (i := 2) hN rfl (by first | exact .inl rfl | exact .inr rfl) (g_call F_values (hr.mono (by decide)) (ga_cons (gv 0) (ga_cons (gv 1) ga_nil)))) (gs_one (gs_ret (g_callTy call_tuple_of bg_tuple rfl T.tuple boot_tuple (ga_cons (g_lc hc hN (gi_tup (g_ix (gv 0) g_int)) (own := [("end", 3)]) (tt := tYes) (te := (tOp (rIx K) (tVar 2) (tVar 3))) (g := (gName 3)) (show BlkOk N_told (defScope st_told) _ [("end", 3)] from ⟨by rfl, by decide +kernel, by decide +kernel, by decide +kernel, by decide +kernel⟩) (fun _ _ _ _ _ => (gg_name hN rfl (by first | exact .inl rfl | exact .inr rfl))) (fun _ _ _ _ _ => gts_nil) (fun _ _ _ _ _ => (g_ix (gv 2) (gv 3)))) ga_nil)))))⟩) (vc_told)
abbrev st_steps_used : Stmt := PySem.Challenge.pw_rowsback_k82_whole_rows_made_of_rows.main.body.getD 25 (.Pass ⟨0, 0, 0, 0⟩)
theorem sc_steps_used : FnScope N_steps_used ["step"] (defScope st_steps_used) := ⟨by rfl, by rfl, by rfl, by decide +kernel, by rfl, by decide +kernel, by decide +kernel⟩
theorem d_steps_used {P : Program} {w : World} {K : PySem.W.Frag} {mg : Str → Option Value} {base : Heap} {C : Addr} (T : Top K mg C) (hh : Here K mg "steps_used" st_steps_used ["step"]) : Fn P w K mg base 1 "steps_used" ["step"] sp_steps_used :=
  hh.fn sc_steps_used (w_steps_used) (fun f cdv A outer s H E hr => by
    have hc : (cxOf CX0 P w K mg base N_steps_used "steps_used" (defScope st_steps_used) f cdv A outer s H E).nox.calm = true := rfl
    have hN : (cxOf CX0 P w K mg base N_steps_used "steps_used" (defScope st_steps_used) f cdv A outer s H E).nox.N.Nodup := sc_steps_used.nd
    have hu : (cxOf CX0 P w K mg base N_steps_used "steps_used" (defScope st_steps_used) f cdv A outer s H E).nox.A.units + 64 < cLine := hr.units
    exact ⟨_, (gs_one (gs_ret (g_ifE (gt_cmp (gc_in (g_ix (gv 0) g_int) (g_tup (ga_cons g_str (ga_cons g_str ga_nil))))) (g_tup ga_nil) (g_slice (gv 0) (go_some g_int) go_none))))⟩) (vc_steps_used)
abbrev st_needed : Stmt := PySem.Challenge.pw_rowsback_k82_whole_rows_made_of_rows.main.body.getD 26 (.Pass ⟨0, 0, 0, 0⟩)
theorem sc_needed : FnScope N_needed ["row"] (defScope st_needed) := ⟨by rfl, by rfl, by rfl, by decide +kernel, by rfl, by decide +kernel, by decide +kernel⟩
theorem d_needed {P : Program} {w : World} {K : PySem.W.Frag} {mg : Str → Option Value} {base : Heap} {C : Addr} (T : Top K mg C) (F_steps_used : Fn P w K mg base 1 "steps_used" ["step"] sp_steps_used) (hh : Here K mg "needed" st_needed ["row"]) : Fn P w K mg base 2 "needed" ["row"] sp_needed :=
  hh.fn sc_needed (w_needed) (fun f cdv A outer s H E hr => by
    have hc : (cxOf CX0 P w K mg base N_needed "needed" (defScope st_needed) f cdv A outer s H E).nox.calm = true := rfl
    have hN : (cxOf CX0 P w K mg base N_needed "needed" (defScope st_needed) f cdv A outer s H E).nox.N.Nodup := sc_needed.nd
    have hu : (cxOf CX0 P w K mg base N_needed "needed" (defScope st_needed) f cdv A outer s H E).nox.A.units + 64 < cLine := hr.units
    exact ⟨_, (gs_cons (gs_setLc (i := 1) hc hN rfl rfl (by rfl) (gi_rng1 rfl T.range (ga_cons (g_callB cl_len bg_len rfl T.len boot_len (ga_cons (g_ix (gv 0) g_int) ga_nil)) ga_nil)) (own := [("number", 2)]) (tt := tYes) (te := (tOp (rIn K false) (tVar 2) (tOp (rIx K) (tVar 0) (tC (.int 2))))) (g := (gName 2)) (show BlkOk N_needed (defScope st_needed) _ [("number", 2)] from ⟨by rfl, by decide +kernel, by decide +kernel, by decide +kernel, by decide +kernel⟩) (fun _ _ _ _ _ => (gg_name hN rfl (by first | exact .inl rfl | exact .inr rfl))) (fun _ _ _ _ _ => gts_nil) (fun _ _ _ _ _ => (g_cmp (gc_in (gv 2) (g_ix (gv 0) g_int))))) (gs_cons (gs_for PassesOwn.never hc (gi_downL rfl T.range (ga_cons (g_sub (g_callB cl_len bg_len rfl T.len boot_len (ga_cons (g_ix (gv 0) g_int) ga_nil)) g_int) (ga_cons (g_neg g_int) (ga_cons (g_neg g_int) ga_nil)))) (gg_name hN rfl (by first | exact .inl rfl | exact .inr rfl)) (gs_one (gs_if (gt_val (g_ix (gv 1) (gv 2))) (gs_one (gs_for PassesOwn.never hc (gi_tup (g_call F_steps_used (hr.mono (by decide)) (ga_cons (g_ix (g_ix (gv 0) g_int) (gv 2)) ga_nil))) (gg_name hN rfl (by first | exact .inl rfl | exact .inr rfl)) (gs_one (gs_setL g_bl (gv 1) (gv 3))))) gs_nil))) (gs_one (gs_ret (g_callTy call_tuple_of bg_tuple rfl T.tuple boot_tuple (ga_cons (g_lc hc hN (gi_enumL rfl T.enumerate (ga_cons (gv 1) ga_nil)) (own := [("number", 2), ("is_so", 4)]) (tt := (tB (tVar 4))) (te := (tVar 2)) (g := (gTup K 2 (gCons (gName 2) (gCons (gName 4) gNil)))) (show BlkOk N_needed (defScope st_needed) _ [("number", 2), ("is_so", 4)] from ⟨by rfl, by decide +kernel, by decide +kernel, by decide +kernel, by decide +kernel⟩) (fun _ _ _ _ _ => (gg_tup hc (ggs_cons (gg_name hN rfl (by first | exact .inl rfl | exact .inr rfl)) (ggs_cons (gg_name hN rfl (by first | exact .inl rfl | exact .inr rfl)) ggs_nil)))) (fun _ _ _ _ _ => (gts_one (gt_val (gv 4)))) (fun _ _ _ _ _ => (gv 2))) ga_nil))))))⟩) (vc_needed)
abbrev st_step_by : Stmt := PySem.Challenge.pw_rowsback_k82_whole_rows_made_of_rows.main.body.getD 28 (.Pass ⟨0, 0, 0, 0⟩)
theorem sc_step_by : FnScope N_step_by ["step", "names"] (defScope st_step_by) := ⟨by rfl, by rfl, by rfl, by decide +kernel, by rfl, by decide +kernel, by decide +kernel⟩
theorem d_step_by {P : Program} {w : World} {K : PySem.W.Frag} {mg : Str → Option Value} {base : Heap} {C : Addr} (T : Top K mg C) (hh : Here K mg "step_by" st_step_by ["step", "names"]) : Fn P w K mg base 1 "step_by" ["step", "names"] sp_step_by :=
  hh.fn sc_step_by (w_step_by) (fun f cdv A outer s H E hr => by
    have hc : (cxOf CX0 P w K mg base N_step_by "step_by" (defScope st_step_by) f cdv A outer s H E).nox.calm = true := rfl
    have hN : (cxOf CX0 P w K mg base N_step_by "step_by" (defScope st_step_by) f cdv A outer s H E).nox.N.Nodup := sc_step_by.nd
    have hu : (cxOf CX0 P w K mg base N_step_by "step_by" (defScope st_step_by) f cdv A outer s H E).nox.A.units + 64 < cLine := hr.units
    exact ⟨_, (gs_cons (gs_if (gt_cmp (gc_in (g_ix (gv 0) g_int) (g_tup (ga_cons g_str (ga_cons g_str ga_nil))))) (gs_one (gs_ret (gv 0))) gs_nil) (gs_one (gs_ret (g_add (g_slice (gv 0) go_none (go_some g_int)) (g_callTy call_tuple_of bg_tuple rfl T.tuple boot_tuple (ga_cons (g_lc hc hN (gi_tup (g_slice (gv 0) (go_some g_int) go_none)) (own := [("number", 2)]) (tt := tYes) (te := (tDGet (tVar 1) (tVar 2))) (g := (gName 2)) (show BlkOk N_step_by (defScope st_step_by) _ [("number", 2)] from ⟨by rfl, by decide +kernel, by decide +kernel, by decide +kernel, by decide +kernel⟩) (fun _ _ _ _ _ => (gg_name hN rfl (by first | exact .inl rfl | exact .inr rfl))) (fun _ _ _ _ _ => gts_nil) (fun _ _ _ _ _ => (g_dgetK hu (gv 1) (gv 2)))) ga_nil))))))⟩) (vc_step_by)
abbrev st_slim : Stmt := PySem.Challenge.pw_rowsback_k82_whole_rows_made_of_rows.main.body.getD 29 (.Pass ⟨0, 0, 0, 0⟩)
theorem sc_slim : FnScope N_slim ["row"] (defScope st_slim) := ⟨by rfl, by rfl, by rfl, by decide +kernel, by rfl, by decide +kernel, by decide +kernel⟩
theorem d_slim {P : Program} {w : World} {K : PySem.W.Frag} {mg : Str → Option Value} {base : Heap} {C : Addr} (T : Top K mg C) (F_needed : Fn P w K mg base 2 "needed" ["row"] sp_needed) (F_step_by : Fn P w K mg base 1 "step_by" ["step", "names"] sp_step_by) (hh : Here K mg "slim" st_slim ["row"]) : Fn P w K mg base 3 "slim" ["row"] sp_slim :=
  hh.fn sc_slim (w_slim) (fun f cdv A outer s H E hr => by
    have hc : (cxOf CX0 P w K mg base N_slim "slim" (defScope st_slim) f cdv A outer s H E).nox.calm = true := rfl
    have hN : (cxOf CX0 P w K mg base N_slim "slim" (defScope st_slim) f cdv A outer s H E).nox.N.Nodup := sc_slim.nd
    have hu : (cxOf CX0 P w K mg base N_slim "slim" (defScope st_slim) f cdv A outer s H E).nox.A.units + 64 < cLine := hr.units
    exact ⟨_, (gs_cons (gs_par3C (i := 1) (j := 2) (l := 3) hc hN rfl rfl rfl (by first | exact .inl rfl | exact .inr rfl) (by first | exact .inl rfl | exact .inr rfl) (by first | exact .inl rfl | exact .inr rfl) (ga_cons (g_lst ga_nil) (ga_cons g_newK (ga_cons g_newT ga_nil)))) (gs_cons (gs_for PassesOwn.never hc (gi_tup (g_call F_needed (hr.mono (by decide)) (ga_cons (gv 0) ga_nil))) (gg_name hN rfl (by first | exact .inl rfl | exact .inr rfl)) (gs_cons (gs_set (i := 5) hN rfl (by first | exact .inl rfl | exact .inr rfl) (g_call F_step_by (hr.mono (by decide)) (ga_cons (g_ix (g_ix (gv 0) g_int) (gv 4)) (ga_cons (gv 2) ga_nil)))) (gs_cons (gs_if (gt_dnotinT hu (gv 5) (gv 3)) (gs_cons (gs_putT hu (g_callB cl_len bg_len rfl T.len boot_len (ga_cons (gv 1) ga_nil)) (gv 3) (gv 5)) (gs_one (gs_expr (g_appL (gv 1) (gv 5))))) gs_nil) (gs_one (gs_putK hu (g_dgetT hu (gv 3) (gv 5)) (gv 2) (gv 4)))))) (gs_one (gs_ret (g_tup (ga_cons (g_ix (gv 0) g_int) (ga_cons (g_callTy call_tuple_of bg_tuple rfl T.tuple boot_tuple (ga_cons (gv 1) ga_nil)) (ga_cons (g_callTy call_tuple_of bg_tuple rfl T.tuple boot_tuple (ga_cons (g_lc hc hN (gi_tup (g_ix (gv 0) g_int)) (own := [("end", 6)]) (tt := tYes) (te := (tDGet (tVar 2) (tVar 6))) (g := (gName 6)) (show BlkOk N_slim (defScope st_slim) _ [("end", 6)] from ⟨by rfl, by decide +kernel, by decide +kernel, by decide +kernel, by decide +kernel⟩) (fun _ _ _ _ _ => (gg_name hN rfl (by first | exact .inl rfl | exact .inr rfl))) (fun _ _ _ _ _ => gts_nil) (fun _ _ _ _ _ => (g_dgetK hu (gv 2) (gv 6)))) ga_nil)) ga_nil))))))))⟩) (vc_slim)
abbrev st_checked : Stmt := PySem.Challenge.pw_rowsback_k82_whole_rows_made_of_rows.main.body.getD 30 (.Pass ⟨0, 0, 0, 0⟩)
theorem sc_checked : FnScope N_checked ["row"] (defScope st_checked) := ⟨by rfl, by rfl, by rfl, by decide +kernel, by rfl, by decide +kernel, by decide +kernel⟩
theorem d_checked {P : Program} {w : World} {K : PySem.W.Frag} {mg : Str → Option Value} {base : Heap} {C : Addr} (T : Top K mg C) (F_sizes : Fn P w K mg base 2 "sizes" ["row"] sp_sizes) (hh : Here K mg "checked" st_checked ["row"]) : Fn P w K mg base 3 "checked" ["row"] sp_checked :=
  hh.fn sc_checked (w_checked) (fun f cdv A outer s H E hr => by
    have hc : (cxOf CX0 P w K mg base N_checked "checked" (defScope st_checked) f cdv A outer s H E).nox.calm = true := rfl
    have hN : (cxOf CX0 P w K mg base N_checked "checked" (defScope st_checked) f cdv A outer s H E).nox.N.Nodup := sc_checked.nd
    have hu : (cxOf CX0 P w K mg base N_checked "checked" (defScope st_checked) f cdv A outer s H E).nox.A.units + 64 < cLine := hr.units
    exact ⟨_, (gs_cons (gs_if (GW.gt (gw_or (gt_cmp (gc_gt (g_ix (gv 0) g_int) (g_globI T.MAX_WIDE))) (gw_or (gt_cmp (gc_gt (g_callB cl_len bg_len rfl T.len boot_len (ga_cons (g_ix (gv 0) g_int) ga_nil)) (g_globI T.MAX_LONG))) (gw_or (gt_cmp (gc_gt (g_callB cl_len bg_len rfl T.len boot_len (ga_cons (g_ix (gv 0) g_int) ga_nil)) (g_globI T.MAX_WIDE))) (gw_or1 (gt_cmp (gc_gt (g_callB (cl_maxT hc hu) bg_maxT rfl T.max boot_max (ga_cons (g_call F_sizes (hr.mono (by decide)) (ga_cons (gv 0) ga_nil)) ga_nil)) (g_globI T.MAX_SIZE)))))))) (gs_one gs_never) gs_nil) (gs_one (gs_ret (gv 0))))⟩) (vc_checked)
abbrev st_fed : Stmt := PySem.Challenge.pw_rowsback_k82_whole_rows_made_of_rows.main.body.getD 31 (.Pass ⟨0, 0, 0, 0⟩)
theorem sc_fed : FnScope N_fed ["one", "other"] (defScope st_fed) := ⟨by rfl, by rfl, by rfl, by decide +kernel, by rfl, by decide +kernel, by decide +kernel⟩
theorem d_fed {P : Program} {w : World} {K : PySem.W.Frag} {mg : Str → Option Value} {base : Heap} {C : Addr} (T : Top K mg C) (F_checked : Fn P w K mg base 3 "checked" ["row"] sp_checked) (F_step_by : Fn P w K mg base 1 "step_by" ["step", "names"] sp_step_by) (hh : Here K mg "fed" st_fed ["one", "other"]) : Fn P w K mg base 4 "fed" ["one", "other"] sp_fed :=
  hh.fn sc_fed (w_fed) (fun f cdv A outer s H E hr => by
    have hc : (cxOf CX0 P w K mg base N_fed "fed" (defScope st_fed) f cdv A outer s H E).nox.calm = true := rfl
    have hN : (cxOf CX0 P w K mg base N_fed "fed" (defScope st_fed) f cdv A outer s H E).nox.N.Nodup := sc_fed.nd
    have hu : (cxOf CX0 P w K mg base N_fed "fed" (defScope st_fed) f cdv A outer s H E).nox.A.units + 64 < cLine := hr.units
    exact ⟨_, (gs_cons (gs_if (gt_cmp (gc_ne hu (g_callB cl_len bg_len rfl T.len boot_len (ga_cons (g_ix (gv 0) g_int) ga_nil)) (g_ix (gv 1) g_int))) (gs_one gs_never) gs_nil) (gs_cons (gs_parC (i := 2) (j := 3) hc hN rfl rfl (by first | exact .inl rfl | exact .inr rfl) (by first | exact .inl rfl | exact .inr rfl) (ga_cons (g_callTy call_list_of bg_list rfl T.list boot_list (ga_cons (g_ix (gv 0) g_int) ga_nil)) (ga_cons g_newK ga_nil))) (gs_cons (gs_for PassesOwn.never hc (gi_enum rfl T.enumerate (ga_cons (g_ix (gv 1) g_int) ga_nil)) (gg_tup hc (ggs_cons (gg_name hN rfl (by first | exact .inl rfl | exact .inr rfl)) (ggs_cons (gg_name hN rfl (by first | exact .inl rfl | exact .inr rfl)) ggs_nil))) (gs_one (gs_if (gt_cmp (gc_eq hu (g_ix (gv 5) g_int) g_str)) (gs_one (gs_putK hu (g_ix (g_ix (gv 0) g_int) (g_ix (gv 5) g_int)) (gv 3) (gv 4))) (gs_cons (gs_putK hu (g_callB cl_len bg_len rfl T.len boot_len (ga_cons (gv 2) ga_nil)) (gv 3) (gv 4)) (gs_one (gs_expr (g_appL (gv 2) (g_call F_step_by (hr.mono (by decide)) (ga_cons (gv 5) (ga_cons (gv 3) ga_nil)))))))))) (gs_one (gs_ret (g_call F_checked (hr.mono (by decide)) (ga_cons (g_tup (ga_cons (g_ix (gv 0) g_int) (ga_cons (g_callTy call_tuple_of bg_tuple rfl T.tuple boot_tuple (ga_cons (gv 2) ga_nil)) (ga_cons (g_callTy call_tuple_of bg_tuple rfl T.tuple boot_tuple (ga_cons (g_lc hc hN (gi_tup (g_ix (gv 1) g_int)) (own := [("end", 6)]) (tt := tYes) (te := (tDGet (tVar 3) (tVar 6))) (g := (gName 6)) (show BlkOk N_fed (defScope st_fed) _ [("end", 6)] from ⟨by rfl, by decide +kernel, by decide +kernel, by decide +kernel, by decide +kernel⟩) (fun _ _ _ _ _ => (gg_name hN rfl (by first | exact .inl rfl | exact .inr rfl))) (fun _ _ _ _ _ => gts_nil) (fun _ _ _ _ _ => (g_dgetK hu (gv 3) (gv 6)))) ga_nil)) ga_nil)))) ga_nil)))))))⟩) (vc_fed)
abbrev st_beside : Stmt := PySem.Challenge.pw_rowsback_k82_whole_rows_made_of_rows.main.body.getD 32 (.Pass ⟨0, 0, 0, 0⟩)
theorem sc_beside : FnScope N_beside ["one", "other"] (defScope st_beside) := ⟨by rfl, by rfl, by rfl, by decide +kernel, by rfl, by decide +kernel, by decide +kernel⟩
theorem d_beside {P : Program} {w : World} {K : PySem.W.Frag} {mg : Str → Option Value} {base : Heap} {C : Addr} (T : Top K mg C) (F_checked : Fn P w K mg base 3 "checked" ["row"] sp_checked) (F_step_by : Fn P w K mg base 1 "step_by" ["step", "names"] sp_step_by) (hh : Here K mg "beside" st_beside ["one", "other"]) : Fn P w K mg base 4 "beside" ["one", "other"] sp_beside :=
  hh.fn sc_beside (w_beside) (fun f cdv A outer s H E hr => by
    have hc : (cxOf CX0 P w K mg base N_beside "beside" (defScope st_beside) f cdv A outer s H E).nox.calm = true := rfl
    have hN : (cxOf CX0 P w K mg base N_beside "beside" (defScope st_beside) f cdv A outer s H E).nox.N.Nodup := sc_beside.nd
    have hu : (cxOf CX0 P w K mg base N_beside "beside" (defScope st_beside) f cdv A outer s H E).nox.A.units + 64 < cLine := hr.units
    exact ⟨_, (gs_cons (gs_parC (i := 2) (j := 3) hc hN rfl rfl (by first | exact .inl rfl | exact .inr rfl) (by first | exact .inl rfl | exact .inr rfl) (ga_cons g_newK (ga_cons (g_callTy call_list_of bg_list rfl T.list boot_list (ga_cons (g_ix (gv 0) g_int) ga_nil)) ga_nil))) (gs_cons (gs_for PassesOwn.never hc (gi_enum rfl T.enumerate (ga_cons (g_ix (gv 1) g_int) ga_nil)) (gg_tup hc (ggs_cons (gg_name hN rfl (by first | exact .inl rfl | exact .inr rfl)) (ggs_cons (gg_name hN rfl (by first | exact .inl rfl | exact .inr rfl)) ggs_nil))) (gs_cons (gs_putK hu (g_add (g_callB cl_len bg_len rfl T.len boot_len (ga_cons (g_ix (gv 0) g_int) ga_nil)) (gv 4)) (gv 2) (gv 4)) (gs_one (gs_expr (g_appL (gv 3) (g_ifE (gt_cmp (gc_eq hu (g_ix (gv 5) g_int) g_str)) (g_tup (ga_cons g_str (ga_cons (g_add (g_ix (gv 0) g_int) (g_ix (gv 5) g_int)) ga_nil))) (g_call F_step_by (hr.mono (by decide)) (ga_cons (gv 5) (ga_cons (gv 2) ga_nil))))))))) (gs_cons (gs_set (i := 6) hN rfl (by first | exact .inl rfl | exact .inr rfl) (g_add (g_ix (gv 0) g_int) (g_callTy call_tuple_of bg_tuple rfl T.tuple boot_tuple (ga_cons (g_lc hc hN (gi_tup (g_ix (gv 1) g_int)) (own := [("end", 7)]) (tt := tYes) (te := (tDGet (tVar 2) (tVar 7))) (g := (gName 7)) (show BlkOk N_beside (defScope st_beside) _ [("end", 7)] from ⟨by rfl, by decide +kernel, by decide +kernel, by decide +kernel, by decide +kernel⟩) (fun _ _ _ _ _ => (gg_name hN rfl (by first | exact .inl rfl | exact .inr rfl))) (fun _ _ _ _ _ => gts_nil) (fun _ _ _ _ _ => (g_dgetK hu (gv 2) (gv 7)))) ga_nil)))) (gs_one (gs_ret (g_call F_checked (hr.mono (by decide)) (ga_cons (g_tup (ga_cons (g_add (g_ix (gv 0) g_int) (g_ix (gv 1) g_int)) (ga_cons (g_callTy call_tuple_of bg_tuple rfl T.tuple boot_tuple (ga_cons (gv 3) ga_nil)) (ga_cons (gv 6) ga_nil)))) ga_nil)))))))⟩) (vc_beside)
abbrev st_renamed : Stmt := PySem.Challenge.pw_rowsback_k82_whole_rows_made_of_rows.main.body.getD 33 (.Pass ⟨0, 0, 0, 0⟩)
theorem sc_renamed : FnScope N_renamed ["row", "inputs", "order"] (defScope st_renamed) := ⟨by rfl, by rfl, by rfl, by decide +kernel, by rfl, by decide +kernel, by decide +kernel⟩
theorem d_renamed {P : Program} {w : World} {K : PySem.W.Frag} {mg : Str → Option Value} {base : Heap} {C : Addr} (T : Top K mg C) (hh : Here K mg "renamed" st_renamed ["row", "inputs", "order"]) : Fn P w K mg base 1 "renamed" ["row", "inputs", "order"] sp_renamed :=
  hh.fn sc_renamed (w_renamed) (fun f cdv A outer s H E hr => by
    have hc : (cxOf CX0 P w K mg base N_renamed "renamed" (defScope st_renamed) f cdv A outer s H E).nox.calm = true := rfl
    have hN : (cxOf CX0 P w K mg base N_renamed "renamed" (defScope st_renamed) f cdv A outer s H E).nox.N.Nodup := sc_renamed.nd
    have hu : (cxOf CX0 P w K mg base N_renamed "renamed" (defScope st_renamed) f cdv A outer s H E).nox.A.units + 64 < cLine := hr.units
    exact ⟨_, (gs_cons (gs_setLc (i := 3) hc hN rfl rfl (by rfl) (gi_tup (g_ix (gv 0) g_int)) (own := [("step", 4)]) (tt := tYes) (te := (tIf (tTest (tOp (rEqA K) (tOp (rIx K) (tVar 4) (tC (.int 0))) (tC (.str "in")))) (tTup (tCons (tC (.str "in")) (tCons (tOp (rIx K) (tVar 2) (tOp (rIx K) (tVar 4) (tC (.int 1)))) tNil))) (tVar 4))) (g := (gName 4)) (show BlkOk N_renamed (defScope st_renamed) _ [("step", 4)] from ⟨by rfl, by decide +kernel, by decide +kernel, by decide +kernel, by decide +kernel⟩) (fun _ _ _ _ _ => (gg_name hN rfl (by first | exact .inl rfl | exact .inr rfl))) (fun _ _ _ _ _ => gts_nil) (fun _ _ _ _ _ => (g_ifE (gt_cmp (gc_eq hu (g_ix (gv 4) g_int) g_str)) (g_tup (ga_cons g_str (ga_cons (g_ix (gv 2) (g_ix (gv 4) g_int)) ga_nil))) (gv 4)))) (gs_one (gs_ret (g_tup (ga_cons (gv 1) (ga_cons (g_callTy call_tuple_of bg_tuple rfl T.tuple boot_tuple (ga_cons (gv 3) ga_nil)) (ga_cons (g_ix (gv 0) g_int) ga_nil)))))))⟩) (vc_renamed)
abbrev st_as_poly : Stmt := PySem.Challenge.pw_rowsback_k82_whole_rows_made_of_rows.main.body.getD 35 (.Pass ⟨0, 0, 0, 0⟩)
theorem sc_as_poly : FnScope N_as_poly ["pairs"] (defScope st_as_poly) := ⟨by rfl, by rfl, by rfl, by decide +kernel, by rfl, by decide +kernel, by decide +kernel⟩
theorem d_as_poly {P : Program} {w : World} {K : PySem.W.Frag} {mg : Str → Option Value} {base : Heap} {C : Addr} (T : Top K mg C) (hh : Here K mg "as_poly" st_as_poly ["pairs"]) : Fn P w K mg base 1 "as_poly" ["pairs"] sp_as_poly :=
  hh.fn sc_as_poly (w_as_poly) (fun f cdv A outer s H E hr => by
    have hc : (cxOf CX0 P w K mg base N_as_poly "as_poly" (defScope st_as_poly) f cdv A outer s H E).nox.calm = true := rfl
    have hN : (cxOf CX0 P w K mg base N_as_poly "as_poly" (defScope st_as_poly) f cdv A outer s H E).nox.N.Nodup := sc_as_poly.nd
    have hu : (cxOf CX0 P w K mg base N_as_poly "as_poly" (defScope st_as_poly) f cdv A outer s H E).nox.A.units + 64 < cLine := hr.units
    exact ⟨_, (gs_one (gs_ret (g_callTy call_tupF bg_tupF rfl T.tuple boot_tuple (ga_cons (g_lc hc hN (gi_lst (g_callB (cr_sortedD hu) bg_sorted rfl T.sorted boot_sorted (ga_cons (g_callTy (call_list_dT hc) bg_keysT rfl T.list boot_list (ga_cons (gv 0) ga_nil)) ga_nil))) (own := [("powers", 1)]) (tt := (tTest (tOp (rNeA K) (tDGet (tVar 0) (tVar 1)) (tC (.int 0))))) (te := (tTup (tCons (tVar 1) (tCons (tDGet (tVar 0) (tVar 1)) tNil)))) (g := (gName 1)) (show BlkOk N_as_poly (defScope st_as_poly) _ [("powers", 1)] from ⟨by rfl, by decide +kernel, by decide +kernel, by decide +kernel, by decide +kernel⟩) (fun _ _ _ _ _ => (gg_name hN rfl (by first | exact .inl rfl | exact .inr rfl))) (fun _ _ _ _ _ => (gts_one (gt_cmp (gc_ne hu (g_dgetT hu (gv 0) (gv 1)) g_int)))) (fun _ _ _ _ _ => (g_tup (ga_cons (gv 1) (ga_cons (g_dgetT hu (gv 0) (gv 1)) ga_nil))))) ga_nil))))⟩) (vc_as_poly)
abbrev st_unknown : Stmt := PySem.Challenge.pw_rowsback_k82_whole_rows_made_of_rows.main.body.getD 36 (.Pass ⟨0, 0, 0, 0⟩)
theorem sc_unknown : FnScope N_unknown ["many", "index"] (defScope st_unknown) := ⟨by rfl, by rfl, by rfl, by decide +kernel, by rfl, by decide +kernel, by decide +kernel⟩
theorem d_unknown {P : Program} {w : World} {K : PySem.W.Frag} {mg : Str → Option Value} {base : Heap} {C : Addr} (T : Top K mg C) (hh : Here K mg "unknown" st_unknown ["many", "index"]) : Fn P w K mg base 1 "unknown" ["many", "index"] sp_unknown :=
  hh.fn sc_unknown (w_unknown) (fun f cdv A outer s H E hr => by
    have hc : (cxOf CX0 P w K mg base N_unknown "unknown" (defScope st_unknown) f cdv A outer s H E).nox.calm = true := rfl
    have hN : (cxOf CX0 P w K mg base N_unknown "unknown" (defScope st_unknown) f cdv A outer s H E).nox.N.Nodup := sc_unknown.nd
    have hu : (cxOf CX0 P w K mg base N_unknown "unknown" (defScope st_unknown) f cdv A outer s H E).nox.A.units + 64 < cLine := hr.units
    exact ⟨_, (gs_one (gs_ret (g_tupF (ga_cons (g_tup (ga_cons (g_callTy call_tuple_of bg_tuple rfl T.tuple boot_tuple (ga_cons (g_lc hc hN (gi_rng1 rfl T.range (ga_cons (gv 0) ga_nil)) (own := [("place", 2)]) (tt := tYes) (te := (tCB rInt1 (tCons (tOp (rEqA K) (tVar 2) (tVar 1)) tNil))) (g := (gName 2)) (show BlkOk N_unknown (defScope st_unknown) _ [("place", 2)] from ⟨by rfl, by decide +kernel, by decide +kernel, by decide +kernel, by decide +kernel⟩) (fun _ _ _ _ _ => (gg_name hN rfl (by first | exact .inl rfl | exact .inr rfl))) (fun _ _ _ _ _ => gts_nil) (fun _ _ _ _ _ => (g_callTy cl_int bg_int rfl T.int boot_int (ga_cons (g_cmp (gc_eq hu (gv 2) (gv 1))) ga_nil)))) ga_nil)) (ga_cons g_int ga_nil))) ga_nil))))⟩) (vc_unknown)
abbrev st_constant : Stmt := PySem.Challenge.pw_rowsback_k82_whole_rows_made_of_rows.main.body.getD 37 (.Pass ⟨0, 0, 0, 0⟩)
theorem sc_constant : FnScope N_constant ["many", "number"] (defScope st_constant) := ⟨by rfl, by rfl, by rfl, by decide +kernel, by rfl, by decide +kernel, by decide +kernel⟩
theorem d_constant {P : Program} {w : World} {K : PySem.W.Frag} {mg : Str → Option Value} {base : Heap} {C : Addr} (T : Top K mg C) (F_as_poly : Fn P w K mg base 1 "as_poly" ["pairs"] sp_as_poly) (hh : Here K mg "constant" st_constant ["many", "number"]) : Fn P w K mg base 2 "constant" ["many", "number"] sp_constant :=
  hh.fn sc_constant (w_constant) (fun f cdv A outer s H E hr => by
    have hc : (cxOf CX0 P w K mg base N_constant "constant" (defScope st_constant) f cdv A outer s H E).nox.calm = true := rfl
    have hN : (cxOf CX0 P w K mg base N_constant "constant" (defScope st_constant) f cdv A outer s H E).nox.N.Nodup := sc_constant.nd
    have hu : (cxOf CX0 P w K mg base N_constant "constant" (defScope st_constant) f cdv A outer s H E).nox.A.units + 64 < cLine := hr.units
    exact ⟨_, (gs_one (gs_ret (g_call F_as_poly (hr.mono (by decide)) (ga_cons (g_dispT1 hu (g_rep (g_tup (ga_cons g_int ga_nil)) (gv 0)) (gv 1)) ga_nil))))⟩) (vc_constant)
abbrev st_plus : Stmt := PySem.Challenge.pw_rowsback_k82_whole_rows_made_of_rows.main.body.getD 38 (.Pass ⟨0, 0, 0, 0⟩)
theorem sc_plus : FnScope N_plus ["one", "other"] (defScope st_plus) := ⟨by rfl, by rfl, by rfl, by decide +kernel, by rfl, by decide +kernel, by decide +kernel⟩
theorem d_plus {P : Program} {w : World} {K : PySem.W.Frag} {mg : Str → Option Value} {base : Heap} {C : Addr} (T : Top K mg C) (F_as_poly : Fn P w K mg base 1 "as_poly" ["pairs"] sp_as_poly) (hh : Here K mg "plus" st_plus ["one", "other"]) : Fn P w K mg base 2 "plus" ["one", "other"] sp_plus :=
  hh.fn sc_plus (w_plus) (fun f cdv A outer s H E hr => by
    have hc : (cxOf CX0 P w K mg base N_plus "plus" (defScope st_plus) f cdv A outer s H E).nox.calm = true := rfl
    have hN : (cxOf CX0 P w K mg base N_plus "plus" (defScope st_plus) f cdv A outer s H E).nox.N.Nodup := sc_plus.nd
    have hu : (cxOf CX0 P w K mg base N_plus "plus" (defScope st_plus) f cdv A outer s H E).nox.A.units + 64 < cLine := hr.units
    exact ⟨_, (gs_cons (gs_set (i := 2) hN rfl (by first | exact .inl rfl | exact .inr rfl) (g_callTy (call_dictT hc hu) bg_dictT rfl T.dict boot_dict (ga_cons (gv 0) ga_nil))) (gs_cons (gs_for PassesOwn.never hc (gi_tup (gv 1)) (gg_tup hc (ggs_cons (gg_name hN rfl (by first | exact .inl rfl | exact .inr rfl)) (ggs_cons (gg_name hN rfl (by first | exact .inl rfl | exact .inr rfl)) ggs_nil))) (gs_one (gs_putT hu (g_add (g_get2T hu (gv 2) (gv 3) g_int ⟨by rfl, by rfl, by rfl, by rfl⟩) (gv 4)) (gv 2) (gv 3)))) (gs_one (gs_ret (g_call F_as_poly (hr.mono (by decide)) (ga_cons (gv 2) ga_nil))))))⟩) (vc_plus)
abbrev st_scaled : Stmt := PySem.Challenge.pw_rowsback_k82_whole_rows_made_of_rows.main.body.getD 39 (.Pass ⟨0, 0, 0, 0⟩)
theorem sc_scaled : FnScope N_scaled ["poly", "number"] (defScope st_scaled) := ⟨by rfl, by rfl, by rfl, by decide +kernel, by rfl, by decide +kernel, by decide +kernel⟩
theorem d_scaled {P : Program} {w : World} {K : PySem.W.Frag} {mg : Str → Option Value} {base : Heap} {C : Addr} (T : Top K mg C) (F_as_poly : Fn P w K mg base 1 "as_poly" ["pairs"] sp_as_poly) (hh : Here K mg "scaled" st_scaled ["poly", "number"]) : Fn P w K mg base 2 "scaled" ["poly", "number"] sp_scaled :=
  hh.fn sc_scaled (w_scaled) (fun f cdv A outer s H E hr => by
    have hc : (cxOf CX0 P w K mg base N_scaled "scaled" (defScope st_scaled) f cdv A outer s H E).nox.calm = true := rfl
    have hN : (cxOf CX0 P w K mg base N_scaled "scaled" (defScope st_scaled) f cdv A outer s H E).nox.N.Nodup := sc_scaled.nd
    have hu : (cxOf CX0 P w K mg base N_scaled "scaled" (defScope st_scaled) f cdv A outer s H E).nox.A.units + 64 < cLine := hr.units
    exact ⟨_, (gs_one (gs_ret (g_call F_as_poly (hr.mono (by decide)) (ga_cons (g_callTy (call_dictT hc hu) bg_dictT rfl T.dict boot_dict (ga_cons (g_lc hc hN (gi_tup (gv 0)) (own := [("powers", 2), ("factor", 3)]) (tt := tYes) (te := (tTup (tCons (tVar 2) (tCons (tOp (rI CMulW fun i j => .int (i * j)) (tVar 3) (tVar 1)) tNil)))) (g := (gTup K 2 (gCons (gName 2) (gCons (gName 3) gNil)))) (show BlkOk N_scaled (defScope st_scaled) _ [("powers", 2), ("factor", 3)] from ⟨by rfl, by decide +kernel, by decide +kernel, by decide +kernel, by decide +kernel⟩) (fun _ _ _ _ _ => (gg_tup hc (ggs_cons (gg_name hN rfl (by first | exact .inl rfl | exact .inr rfl)) (ggs_cons (gg_name hN rfl (by first | exact .inl rfl | exact .inr rfl)) ggs_nil)))) (fun _ _ _ _ _ => gts_nil) (fun _ _ _ _ _ => (g_tup (ga_cons (gv 2) (ga_cons (g_mul (gv 3) (gv 1)) ga_nil))))) ga_nil)) ga_nil))))⟩) (vc_scaled)
abbrev st_minus : Stmt := PySem.Challenge.pw_rowsback_k82_whole_rows_made_of_rows.main.body.getD 40 (.Pass ⟨0, 0, 0, 0⟩)
theorem sc_minus : FnScope N_minus ["one", "other"] (defScope st_minus) := ⟨by rfl, by rfl, by rfl, by decide +kernel, by rfl, by decide +kernel, by decide +kernel⟩
theorem d_minus {P : Program} {w : World} {K : PySem.W.Frag} {mg : Str → Option Value} {base : Heap} {C : Addr} (T : Top K mg C) (F_plus : Fn P w K mg base 2 "plus" ["one", "other"] sp_plus) (F_scaled : Fn P w K mg base 2 "scaled" ["poly", "number"] sp_scaled) (hh : Here K mg "minus" st_minus ["one", "other"]) : Fn P w K mg base 3 "minus" ["one", "other"] sp_minus :=
  hh.fn sc_minus (w_minus) (fun f cdv A outer s H E hr => by
    have hc : (cxOf CX0 P w K mg base N_minus "minus" (defScope st_minus) f cdv A outer s H E).nox.calm = true := rfl
    have hN : (cxOf CX0 P w K mg base N_minus "minus" (defScope st_minus) f cdv A outer s H E).nox.N.Nodup := sc_minus.nd
    have hu : (cxOf CX0 P w K mg base N_minus "minus" (defScope st_minus) f cdv A outer s H E).nox.A.units + 64 < cLine := hr.units
    exact ⟨_, (gs_one (gs_ret (g_call F_plus (hr.mono (by decide)) (ga_cons (gv 0) (ga_cons (g_call F_scaled (hr.mono (by decide)) (ga_cons (gv 1) (ga_cons (g_neg g_int) ga_nil))) ga_nil)))))⟩) (vc_minus)
abbrev st_times : Stmt := PySem.Challenge.pw_rowsback_k82_whole_rows_made_of_rows.main.body.getD 41 (.Pass ⟨0, 0, 0, 0⟩)
theorem sc_times : FnScope N_times ["one", "other"] (defScope st_times) := ⟨by rfl, by rfl, by rfl, by decide +kernel, by rfl, by decide +kernel, by decide +kernel⟩
theorem d_times {P : Program} {w : World} {K : PySem.W.Frag} {mg : Str → Option Value} {base : Heap} {C : Addr} (T : Top K mg C) (F_as_poly : Fn P w K mg base 1 "as_poly" ["pairs"] sp_as_poly) (hh : Here K mg "times" st_times ["one", "other"]) : Fn P w K mg base 2 "times" ["one", "other"] sp_times :=
  hh.fn sc_times (w_times) (fun f cdv A outer s H E hr => by
    have hc : (cxOf CX0 P w K mg base N_times "times" (defScope st_times) f cdv A outer s H E).nox.calm = true := rfl
    have hN : (cxOf CX0 P w K mg base N_times "times" (defScope st_times) f cdv A outer s H E).nox.N.Nodup := sc_times.nd
    have hu : (cxOf CX0 P w K mg base N_times "times" (defScope st_times) f cdv A outer s H E).nox.A.units + 64 < cLine := hr.units
    exact ⟨_, (gs_cons (gs_set (i := 2) hN rfl (by first | exact .inl rfl | exact .inr rfl) g_newT) (gs_cons (gs_for PassesOwn.never hc (gi_tup (gv 0)) (gg_tup hc (ggs_cons (gg_name hN rfl (by first | exact .inl rfl | exact .inr rfl)) (ggs_cons (gg_name hN rfl (by first | exact .inl rfl | exact .inr rfl)) ggs_nil))) (gs_one (gs_for PassesOwn.never hc (gi_tup (gv 1)) (gg_tup hc (ggs_cons (gg_name hN rfl (by first | exact .inl rfl | exact .inr rfl)) (ggs_cons (gg_name hN rfl (by first | exact .inl rfl | exact .inr rfl)) ggs_nil))) (gs_cons (gs_set (i := 7) hN rfl (by first | exact .inl rfl | exact .inr rfl) (g_callTy call_tuple_of bg_tuple rfl T.tuple boot_tuple (ga_cons (g_lc hc hN (gi_zip rfl T.zip (ga_cons (gv 3) (ga_cons (gv 5) ga_nil))) (own := [("left", 8), ("right", 9)]) (tt := tYes) (te := (tOp (rAddA K) (tVar 8) (tVar 9))) (g := (gTup K 2 (gCons (gName 8) (gCons (gName 9) gNil)))) (show BlkOk N_times (defScope st_times) _ [("left", 8), ("right", 9)] from ⟨by rfl, by decide +kernel, by decide +kernel, by decide +kernel, by decide +kernel⟩) (fun _ _ _ _ _ => (gg_tup hc (ggs_cons (gg_name hN rfl (by first | exact .inl rfl | exact .inr rfl)) (ggs_cons (gg_name hN rfl (by first | exact .inl rfl | exact .inr rfl)) ggs_nil)))) (fun _ _ _ _ _ => gts_nil) (fun _ _ _ _ _ => (g_add (gv 8) (gv 9)))) ga_nil))) (gs_one (gs_putT hu (g_add (g_get2T hu (gv 2) (gv 7) g_int ⟨by rfl, by rfl, by rfl, by rfl⟩) (g_mul (gv 4) (gv 6))) (gv 2) (gv 7))))))) (gs_one (gs_ret (g_call F_as_poly (hr.mono (by decide)) (ga_cons (gv 2) ga_nil))))))⟩) (vc_times)
abbrev st_power_of : Stmt := PySem.Challenge.pw_rowsback_k82_whole_rows_made_of_rows.main.body.getD 42 (.Pass ⟨0, 0, 0, 0⟩)
theorem sc_power_of : FnScope N_power_of ["number", "power"] (defScope st_power_of) := ⟨by rfl, by rfl, by rfl, by decide +kernel, by rfl, by decide +kernel, by decide +kernel⟩
theorem d_power_of {P : Program} {w : World} {K : PySem.W.Frag} {mg : Str → Option Value} {base : Heap} {C : Addr} (T : Top K mg C) (hh : Here K mg "power_of" st_power_of ["number", "power"]) : Fn P w K mg base 1 "power_of" ["number", "power"] sp_power_of :=
  hh.fn sc_power_of (w_power_of) (fun f cdv A outer s H E hr => by
    have hc : (cxOf CX0 P w K mg base N_power_of "power_of" (defScope st_power_of) f cdv A outer s H E).nox.calm = true := rfl
    have hN : (cxOf CX0 P w K mg base N_power_of "power_of" (defScope st_power_of) f cdv A outer s H E).nox.N.Nodup := sc_power_of.nd
    have hu : (cxOf CX0 P w K mg base N_power_of "power_of" (defScope st_power_of) f cdv A outer s H E).nox.A.units + 64 < cLine := hr.units
    exact ⟨_, (gs_cons (gs_set (i := 2) hN rfl (by first | exact .inl rfl | exact .inr rfl) g_int) (gs_cons (gs_for PassesOwn.never hc (gi_rng1 rfl T.range (ga_cons (gv 1) ga_nil)) (gg_name hN rfl (by first | exact .inl rfl | exact .inr rfl)) (gs_one (gs_set (i := 2) hN rfl (by first | exact .inl rfl | exact .inr rfl) (g_mul (gv 2) (gv 0))))) (gs_one (gs_ret (gv 2)))))⟩) (vc_power_of)
abbrev st_value_of : Stmt := PySem.Challenge.pw_rowsback_k82_whole_rows_made_of_rows.main.body.getD 43 (.Pass ⟨0, 0, 0, 0⟩)
theorem sc_value_of : FnScope N_value_of ["poly", "numbers"] (defScope st_value_of) := ⟨by rfl, by rfl, by rfl, by decide +kernel, by rfl, by decide +kernel, by decide +kernel⟩
theorem d_value_of {P : Program} {w : World} {K : PySem.W.Frag} {mg : Str → Option Value} {base : Heap} {C : Addr} (T : Top K mg C) (F_power_of : Fn P w K mg base 1 "power_of" ["number", "power"] sp_power_of) (hh : Here K mg "value_of" st_value_of ["poly", "numbers"]) : Fn P w K mg base 2 "value_of" ["poly", "numbers"] sp_value_of :=
  hh.fn sc_value_of (w_value_of) (fun f cdv A outer s H E hr => by
    have hc : (cxOf CX0 P w K mg base N_value_of "value_of" (defScope st_value_of) f cdv A outer s H E).nox.calm = true := rfl
    have hN : (cxOf CX0 P w K mg base N_value_of "value_of" (defScope st_value_of) f cdv A outer s H E).nox.N.Nodup := sc_value_of.nd
    have hu : (cxOf CX0 P w K mg base N_value_of "value_of" (defScope st_value_of) f cdv A outer s H E).nox.A.units + 64 < cLine := hr.units
    exact ⟨_, (gs_cons (gs_set (i := 2) hN rfl (by first | exact .inl rfl | exact .inr rfl) g_int) (gs_cons (gs_for PassesOwn.never hc (gi_tup (gv 0)) (gg_tup hc (ggs_cons (gg_name hN rfl (by first | exact .inl rfl | exact .inr rfl)) (ggs_cons (gg_name hN rfl (by first | exact .inl rfl | exact .inr rfl)) ggs_nil))) (gs_cons (gs_set (i := 5) hN rfl (by first | exact .inl rfl | exact .inr rfl) (gv 4)) (gs_cons (gs_for PassesOwn.never hc (gi_zip rfl T.zip (ga_cons (gv 1) (ga_cons (gv 3) ga_nil))) (gg_tup hc (ggs_cons (gg_name hN rfl (by first | exact .inl rfl | exact .inr rfl)) (ggs_cons (gg_name hN rfl (by first | exact .inl rfl | exact .inr rfl)) ggs_nil))) (gs_one (gs_set (i := 5) hN rfl (by first | exact .inl rfl | exact .inr rfl) (g_mul (gv 5) (g_call F_power_of (hr.mono (by decide)) (ga_cons (gv 6) (ga_cons (gv 7) ga_nil))))))) (gs_one (gs_set (i := 2) hN rfl (by first | exact .inl rfl | exact .inr rfl) (g_add (gv 2) (gv 5))))))) (gs_one (gs_ret (gv 2)))))⟩) (vc_value_of)
abbrev st_step_poly : Stmt := PySem.Challenge.pw_rowsback_k82_whole_rows_made_of_rows.main.body.getD 45 (.Pass ⟨0, 0, 0, 0⟩)
theorem sc_step_poly : FnScope N_step_poly ["step", "many", "found"] (defScope st_step_poly) := ⟨by rfl, by rfl, by rfl, by decide +kernel, by rfl, by decide +kernel, by decide +kernel⟩
theorem d_step_poly {P : Program} {w : World} {K : PySem.W.Frag} {mg : Str → Option Value} {base : Heap} {C : Addr} (T : Top K mg C) (F_constant : Fn P w K mg base 2 "constant" ["many", "number"] sp_constant) (F_minus : Fn P w K mg base 3 "minus" ["one", "other"] sp_minus) (F_plus : Fn P w K mg base 2 "plus" ["one", "other"] sp_plus) (F_scaled : Fn P w K mg base 2 "scaled" ["poly", "number"] sp_scaled) (F_times : Fn P w K mg base 2 "times" ["one", "other"] sp_times) (F_unknown : Fn P w K mg base 1 "unknown" ["many", "index"] sp_unknown) (hh : Here K mg "step_poly" st_step_poly ["step", "many", "found"]) : Fn P w K mg base 4 "step_poly" ["step", "many", "found"] sp_step_poly :=
  hh.fn sc_step_poly (w_step_poly) (fun f cdv A outer s H E hr => by
    have hc : (cxOf CX0 P w K mg base N_step_poly "step_poly" (defScope st_step_poly) f cdv A outer s H E).nox.calm = true := rfl
    have hN : (cxOf CX0 P w K mg base N_step_poly "step_poly" (defScope st_step_poly) f cdv A outer s H E).nox.N.Nodup := sc_step_poly.nd
    have hu : (cxOf CX0 P w K mg base N_step_poly "step_poly" (defScope st_step_poly) f cdv A outer s H E).nox.A.units + 64 < cLine := hr.units
    exact ⟨_, (gs_cons (gs_if (gt_cmp (gc_eq hu (g_ix (gv 0) g_int) g_str)) (gs_one (gs_ret (g_call F_unknown (hr.mono (by decide)) (ga_cons (gv 1) (ga_cons (g_ix (gv 0) g_int) ga_nil))))) gs_nil) (gs_cons (gs_if (gt_cmp (gc_eq hu (g_ix (gv 0) g_int) g_str)) (gs_one (gs_ret (g_call F_constant (hr.mono (by decide)) (ga_cons (gv 1) (ga_cons (g_ix (gv 0) g_int) ga_nil))))) gs_nil) (gs_cons (gs_if (gt_cmp (gc_eq hu (g_ix (gv 0) g_int) g_str)) (gs_one (gs_ret (g_call F_scaled (hr.mono (by decide)) (ga_cons (g_dgetK hu (gv 2) (g_ix (gv 0) g_int)) (ga_cons (g_neg g_int) ga_nil))))) gs_nil) (gs_cons (gs_par (i := 3) (j := 4) hc hN rfl rfl (by decide) rfl rfl (ga_cons (g_dgetK hu (gv 2) (g_ix (gv 0) g_int)) (ga_cons (g_dgetK hu (gv 2) (g_ix (gv 0) g_int)) ga_nil)) (by rfl)) (gs_cons (gs_if (gt_cmp (gc_eq hu (g_ix (gv 0) g_int) g_str)) (gs_one (gs_ret (g_call F_plus (hr.mono (by decide)) (ga_cons (gv 3) (ga_cons (gv 4) ga_nil))))) gs_nil) (gs_one (gs_ret (g_ifE (gt_cmp (gc_eq hu (g_ix (gv 0) g_int) g_str)) (g_call F_minus (hr.mono (by decide)) (ga_cons (gv 3) (ga_cons (gv 4) ga_nil))) (g_call F_times (hr.mono (by decide)) (ga_cons (gv 3) (ga_cons (gv 4) ga_nil)))))))))))⟩) (vc_step_poly)
abbrev st_polys_by_steps : Stmt := PySem.Challenge.pw_rowsback_k82_whole_rows_made_of_rows.main.body.getD 46 (.Pass ⟨0, 0, 0, 0⟩)
theorem sc_polys_by_steps : FnScope N_polys_by_steps ["row"] (defScope st_polys_by_steps) := ⟨by rfl, by rfl, by rfl, by decide +kernel, by rfl, by decide +kernel, by decide +kernel⟩
theorem d_polys_by_steps {P : Program} {w : World} {K : PySem.W.Frag} {mg : Str → Option Value} {base : Heap} {C : Addr} (T : Top K mg C) (F_needed : Fn P w K mg base 2 "needed" ["row"] sp_needed) (F_step_poly : Fn P w K mg base 4 "step_poly" ["step", "many", "found"] sp_step_poly) (hh : Here K mg "polys_by_steps" st_polys_by_steps ["row"]) : Fn P w K mg base 5 "polys_by_steps" ["row"] sp_polys_by_steps :=
  hh.fn sc_polys_by_steps (w_polys_by_steps) (fun f cdv A outer s H E hr => by
    have hc : (cxOf CX0 P w K mg base N_polys_by_steps "polys_by_steps" (defScope st_polys_by_steps) f cdv A outer s H E).nox.calm = true := rfl
    have hN : (cxOf CX0 P w K mg base N_polys_by_steps "polys_by_steps" (defScope st_polys_by_steps) f cdv A outer s H E).nox.N.Nodup := sc_polys_by_steps.nd
    have hu : (cxOf CX0 P w K mg base N_polys_by_steps "polys_by_steps" (defScope st_polys_by_steps) f cdv A outer s H E).nox.A.units + 64 < cLine := hr.units
    exact ⟨_, (gs_cons (gs_set (i := 1) hN rfl (by first | exact .inl rfl | exact .inr rfl) g_newK) (gs_cons (gs_for PassesOwn.never hc (gi_tup (g_call F_needed (hr.mono (by decide)) (ga_cons (gv 0) ga_nil))) (gg_name hN rfl (by first | exact .inl rfl | exact .inr rfl)) (gs_cons (gs_putK hu (g_call F_step_poly (hr.mono (by decide)) (ga_cons (g_ix (g_ix (gv 0) g_int) (gv 2)) (ga_cons (g_ix (gv 0) g_int) (ga_cons (gv 1) ga_nil)))) (gv 1) (gv 2)) (gs_one (gs_if (gt_cmp (gc_gt (g_callB cl_len bg_len rfl T.len boot_len (ga_cons (g_dgetK hu (gv 1) (gv 2)) ga_nil)) (g_globI T.MAX_TERMS))) (gs_one gs_never) gs_nil)))) (gs_one (gs_ret (gv 1)))))⟩) (vc_polys_by_steps)
abbrev st_polys : Stmt := PySem.Challenge.pw_rowsback_k82_whole_rows_made_of_rows.main.body.getD 47 (.Pass ⟨0, 0, 0, 0⟩)
theorem sc_polys : FnScope N_polys ["row"] (defScope st_polys) := ⟨by rfl, by rfl, by rfl, by decide +kernel, by rfl, by decide +kernel, by decide +kernel⟩
theorem d_polys {P : Program} {w : World} {K : PySem.W.Frag} {mg : Str → Option Value} {base : Heap} {C : Addr} (T : Top K mg C) (F_polys_by_steps : Fn P w K mg base 5 "polys_by_steps" ["row"] sp_polys_by_steps) (hh : Here K mg "polys" st_polys ["row"]) : Fn P w K mg base 6 "polys" ["row"] sp_polys :=
  hh.fn sc_polys (w_polys) (fun f cdv A outer s H E hr => by
    have hc : (cxOf CX0 P w K mg base N_polys "polys" (defScope st_polys) f cdv A outer s H E).nox.calm = true := rfl
    have hN : (cxOf CX0 P w K mg base N_polys "polys" (defScope st_polys) f cdv A outer s H E).nox.N.Nodup := sc_polys.nd
    have hu : (cxOf CX0 P w K mg base N_polys "polys" (defScope st_polys) f cdv A outer s H E).nox.A.units + 64 < cLine := hr.units
    exact ⟨_, (gs_cons (gs_set (i := 1) hN rfl (by first | exact .inl rfl | exact .inr rfl) (g_call F_polys_by_steps (hr.mono (by decide)) (ga_cons (gv 0) ga_nil))) (gs_one (gs_ret (g_callTy call_tuple_of bg_tuple rfl T.tuple boot_tuple (ga_cons (g_lc hc hN (gi_tup (g_ix (gv 0) g_int)) (own := [("end", 2)]) (tt := tYes) (te := (tDGet (tVar 1) (tVar 2))) (g := (gName 2)) (show BlkOk N_polys (defScope st_polys) _ [("end", 2)] from ⟨by rfl, by decide +kernel, by decide +kernel, by decide +kernel, by decide +kernel⟩) (fun _ _ _ _ _ => (gg_name hN rfl (by first | exact .inl rfl | exact .inr rfl))) (fun _ _ _ _ _ => gts_nil) (fun _ _ _ _ _ => (g_dgetK hu (gv 1) (gv 2)))) ga_nil)))))⟩) (vc_polys)
abbrev st_need_like : Stmt := PySem.Challenge.pw_rowsback_k82_whole_rows_made_of_rows.main.body.getD 48 (.Pass ⟨0, 0, 0, 0⟩)
theorem sc_need_like : FnScope N_need_like ["one", "other"] (defScope st_need_like) := ⟨by rfl, by rfl, by rfl, by decide +kernel, by rfl, by decide +kernel, by decide +kernel⟩
theorem d_need_like {P : Program} {w : World} {K : PySem.W.Frag} {mg : Str → Option Value} {base : Heap} {C : Addr} (T : Top K mg C) (hh : Here K mg "need_like" st_need_like ["one", "other"]) : Fn P w K mg base 1 "need_like" ["one", "other"] sp_need_like :=
  hh.fn sc_need_like (w_need_like) (fun f cdv A outer s H E hr => by
    have hc : (cxOf CX0 P w K mg base N_need_like "need_like" (defScope st_need_like) f cdv A outer s H E).nox.calm = true := rfl
    have hN : (cxOf CX0 P w K mg base N_need_like "need_like" (defScope st_need_like) f cdv A outer s H E).nox.N.Nodup := sc_need_like.nd
    have hu : (cxOf CX0 P w K mg base N_need_like "need_like" (defScope st_need_like) f cdv A outer s H E).nox.A.units + 64 < cLine := hr.units
    exact ⟨_, (gs_one (gs_if (GW.gt (gw_or (gt_cmp (gc_ne hu (g_ix (gv 0) g_int) (g_ix (gv 1) g_int))) (gw_or1 (gt_cmp (gc_ne hu (g_callB cl_len bg_len rfl T.len boot_len (ga_cons (g_ix (gv 0) g_int) ga_nil)) (g_callB cl_len bg_len rfl T.len boot_len (ga_cons (g_ix (gv 1) g_int) ga_nil))))))) (gs_one gs_never) gs_nil))⟩) (vc_need_like)
abbrev st_same : Stmt := PySem.Challenge.pw_rowsback_k82_whole_rows_made_of_rows.main.body.getD 49 (.Pass ⟨0, 0, 0, 0⟩)
theorem sc_same : FnScope N_same ["one", "other"] (defScope st_same) := ⟨by rfl, by rfl, by rfl, by decide +kernel, by rfl, by decide +kernel, by decide +kernel⟩
theorem d_same {P : Program} {w : World} {K : PySem.W.Frag} {mg : Str → Option Value} {base : Heap} {C : Addr} (T : Top K mg C) (F_need_like : Fn P w K mg base 1 "need_like" ["one", "other"] sp_need_like) (F_polys : Fn P w K mg base 6 "polys" ["row"] sp_polys) (hh : Here K mg "same" st_same ["one", "other"]) : Fn P w K mg base 7 "same" ["one", "other"] sp_same :=
  hh.fn sc_same (w_same) (fun f cdv A outer s H E hr => by
    have hc : (cxOf CX0 P w K mg base N_same "same" (defScope st_same) f cdv A outer s H E).nox.calm = true := rfl
    have hN : (cxOf CX0 P w K mg base N_same "same" (defScope st_same) f cdv A outer s H E).nox.N.Nodup := sc_same.nd
    have hu : (cxOf CX0 P w K mg base N_same "same" (defScope st_same) f cdv A outer s H E).nox.A.units + 64 < cLine := hr.units
    exact ⟨_, (gs_cons (gs_expr (g_call F_need_like (hr.mono (by decide)) (ga_cons (gv 0) (ga_cons (gv 1) ga_nil)))) (gs_one (gs_ret (g_cmp (gc_eq hu (g_call F_polys (hr.mono (by decide)) (ga_cons (gv 0) ga_nil)) (g_call F_polys (hr.mono (by decide)) (ga_cons (gv 1) ga_nil)))))))⟩) (vc_same)
abbrev st_rate : Stmt := PySem.Challenge.pw_rowsback_k82_whole_rows_made_of_rows.main.body.getD 51 (.Pass ⟨0, 0, 0, 0⟩)
theorem sc_rate : FnScope N_rate ["poly", "unknown"] (defScope st_rate) := ⟨by rfl, by rfl, by rfl, by decide +kernel, by rfl, by decide +kernel, by decide +kernel⟩
theorem d_rate {P : Program} {w : World} {K : PySem.W.Frag} {mg : Str → Option Value} {base : Heap} {C : Addr} (T : Top K mg C) (hh : Here K mg "rate" st_rate ["poly", "unknown"]) : Fn P w K mg base 1 "rate" ["poly", "unknown"] sp_rate :=
  hh.fn sc_rate (w_rate) (fun f cdv A outer s H E hr => by
    have hc : (cxOf CX0 P w K mg base N_rate "rate" (defScope st_rate) f cdv A outer s H E).nox.calm = true := rfl
    have hN : (cxOf CX0 P w K mg base N_rate "rate" (defScope st_rate) f cdv A outer s H E).nox.N.Nodup := sc_rate.nd
    have hu : (cxOf CX0 P w K mg base N_rate "rate" (defScope st_rate) f cdv A outer s H E).nox.A.units + 64 < cLine := hr.units
    exact ⟨_, (gs_cons (gs_set (i := 2) hN rfl (by first | exact .inl rfl | exact .inr rfl) (g_lst ga_nil)) (gs_cons (gs_for PassesOwn.never hc (gi_tup (gv 0)) (gg_tup hc (ggs_cons (gg_name hN rfl (by first | exact .inl rfl | exact .inr rfl)) (ggs_cons (gg_name hN rfl (by first | exact .inl rfl | exact .inr rfl)) ggs_nil))) (gs_one (gs_if (gt_cmp (gc_gt (g_ix (gv 3) (gv 1)) g_int)) (gs_cons (gs_set (i := 5) hN rfl (by first | exact .inl rfl | exact .inr rfl) (g_add (g_add (g_slice (gv 3) go_none (go_some (gv 1))) (g_tup (ga_cons (g_sub (g_ix (gv 3) (gv 1)) g_int) ga_nil))) (g_slice (gv 3) (go_some (g_add (gv 1) g_int)) go_none))) (gs_one (gs_expr (g_appL (gv 2) (g_tup (ga_cons (gv 5) (ga_cons (g_mul (gv 4) (g_ix (gv 3) (gv 1))) ga_nil))))))) gs_nil))) (gs_one (gs_ret (g_callTy call_tuple_of bg_tuple rfl T.tuple boot_tuple (ga_cons (g_callB (cr_sortedD hu) bg_sorted rfl T.sorted boot_sorted (ga_cons (gv 2) ga_nil)) ga_nil))))))⟩) (vc_rate)
abbrev st_hangs : Stmt := PySem.Challenge.pw_rowsback_k82_whole_rows_made_of_rows.main.body.getD 52 (.Pass ⟨0, 0, 0, 0⟩)
theorem sc_hangs : FnScope N_hangs ["row"] (defScope st_hangs) := ⟨by rfl, by rfl, by rfl, by decide +kernel, by rfl, by decide +kernel, by decide +kernel⟩
theorem d_hangs {P : Program} {w : World} {K : PySem.W.Frag} {mg : Str → Option Value} {base : Heap} {C : Addr} (T : Top K mg C) (F_polys : Fn P w K mg base 6 "polys" ["row"] sp_polys) (F_rate : Fn P w K mg base 1 "rate" ["poly", "unknown"] sp_rate) (hh : Here K mg "hangs" st_hangs ["row"]) : Fn P w K mg base 7 "hangs" ["row"] sp_hangs :=
  hh.fn sc_hangs (w_hangs) (fun f cdv A outer s H E hr => by
    have hc : (cxOf CX0 P w K mg base N_hangs "hangs" (defScope st_hangs) f cdv A outer s H E).nox.calm = true := rfl
    have hN : (cxOf CX0 P w K mg base N_hangs "hangs" (defScope st_hangs) f cdv A outer s H E).nox.N.Nodup := sc_hangs.nd
    have hu : (cxOf CX0 P w K mg base N_hangs "hangs" (defScope st_hangs) f cdv A outer s H E).nox.A.units + 64 < cLine := hr.units
    exact ⟨_, (gs_cons (gs_set (i := 1) hN rfl (by first | exact .inl rfl | exact .inr rfl) (g_lst ga_nil)) (gs_cons (gs_for PassesOwn.never hc (gi_tup (g_call F_polys (hr.mono (by decide)) (ga_cons (gv 0) ga_nil))) (gg_name hN rfl (by first | exact .inl rfl | exact .inr rfl)) (gs_one (gs_expr (g_appL (gv 1) (g_callTy call_tuple_of bg_tuple rfl T.tuple boot_tuple (ga_cons (g_lc hc hN (gi_rng1 rfl T.range (ga_cons (g_ix (gv 0) g_int) ga_nil)) (own := [("unknown", 3)]) (tt := (tTest (tOp (rNeA K) (tCall (toSp K sp_rate) [] E0 (tCons (tVar 2) (tCons (tVar 3) tNil))) (tTup tNil)))) (te := (tVar 3)) (g := (gName 3)) (show BlkOk N_hangs (defScope st_hangs) _ [("unknown", 3)] from ⟨by rfl, by decide +kernel, by decide +kernel, by decide +kernel, by decide +kernel⟩) (fun _ _ _ _ _ => (gg_name hN rfl (by first | exact .inl rfl | exact .inr rfl))) (fun _ _ _ _ _ => (gts_one (gt_cmp (gc_ne hu (g_call F_rate (hr.mono (by decide)) (ga_cons (gv 2) (ga_cons (gv 3) ga_nil))) (g_tup ga_nil))))) (fun _ _ _ _ _ => (gv 3))) ga_nil)))))) (gs_one (gs_ret (g_callTy call_tuple_of bg_tuple rfl T.tuple boot_tuple (ga_cons (gv 1) ga_nil))))))⟩) (vc_hangs)
end G
set_option maxRecDepth 100000
set_option maxHeartbeats 4000000
namespace G
open PySem PySem.Spec PyProof.Rows L2
abbrev st_step_rates : Stmt := PySem.Challenge.pw_rowsback_k82_whole_rows_made_of_rows.main.body.getD 53 (.Pass ⟨0, 0, 0, 0⟩)
theorem sc_step_rates : FnScope N_step_rates ["row", "step", "known", "rates"] (defScope st_step_rates) := ⟨by rfl, by rfl, by rfl, by decide +kernel, by rfl, by decide +kernel, by decide +kernel⟩
theorem d_step_rates {P : Program} {w : World} {K : PySem.W.Frag} {mg : Str → Option Value} {base : Heap} {C : Addr} (T : Top K mg C) (hh : Here K mg "step_rates" st_step_rates ["row", "step", "known", "rates"]) : Fn P w K mg base 1 "step_rates" ["row", "step", "known", "rates"] sp_step_rates :=
  hh.fn sc_step_rates (w_step_rates) (fun f cdv A outer s H E hr => by
    have hc : (cxOf CX0 P w K mg base N_step_rates "step_rates" (defScope st_step_rates) f cdv A outer s H E).nox.calm = true := rfl
    have hN : (cxOf CX0 P w K mg base N_step_rates "step_rates" (defScope st_step_rates) f cdv A outer s H E).nox.N.Nodup := sc_step_rates.nd
    have hu : (cxOf CX0 P w K mg base N_step_rates "step_rates" (defScope st_step_rates) f cdv A outer s H E).nox.A.units + 64 < cLine := hr.units
    exact ⟨_, (gs_cons (gs_if (gt_cmp (gc_eq hu (g_ix (gv 1) g_int) g_str)) (gs_one (gs_ret (g_callTy call_tuple_of bg_tuple rfl T.tuple boot_tuple (ga_cons (g_lc hc hN (gi_rng1 rfl T.range (ga_cons (g_ix (gv 0) g_int) ga_nil)) (own := [("unknown", 6)]) (tt := tYes) (te := (tCB rInt1 (tCons (tOp (rEqA K) (tVar 6) (tOp (rIx K) (tVar 1) (tC (.int 1)))) tNil))) (g := (gName 6)) (show BlkOk N_step_rates (defScope st_step_rates) _ [("unknown", 6)] from ⟨by rfl, by decide +kernel, by decide +kernel, by decide +kernel, by decide +kernel⟩) (fun _ _ _ _ _ => (gg_name hN rfl (by first | exact .inl rfl | exact .inr rfl))) (fun _ _ _ _ _ => gts_nil) (fun _ _ _ _ _ => (g_callTy cl_int bg_int rfl T.int boot_int (ga_cons (g_cmp (gc_eq hu (gv 6) (g_ix (gv 1) g_int))) ga_nil)))) ga_nil)))) gs_nil) (gs_cons (gs_if (gt_cmp (gc_eq hu (g_ix (gv 1) g_int) g_str)) (gs_one (gs_ret (g_rep (g_tup (ga_cons g_int ga_nil)) (g_ix (gv 0) g_int)))) gs_nil) (gs_cons (gs_set (i := 4) hN rfl (by first | exact .inl rfl | exact .inr rfl) (g_ix (gv 3) (g_ix (gv 1) g_int))) (gs_cons (gs_if (gt_cmp (gc_eq hu (g_ix (gv 1) g_int) g_str)) (gs_one (gs_ret (g_callTy call_tuple_of bg_tuple rfl T.tuple boot_tuple (ga_cons (g_lc hc hN (gi_tup (gv 4)) (own := [("a", 7)]) (tt := tYes) (te := (tOp (rI0 fun i j => .int (i - j)) (tC (.int 0)) (tVar 7))) (g := (gName 7)) (show BlkOk N_step_rates (defScope st_step_rates) _ [("a", 7)] from ⟨by rfl, by decide +kernel, by decide +kernel, by decide +kernel, by decide +kernel⟩) (fun _ _ _ _ _ => (gg_name hN rfl (by first | exact .inl rfl | exact .inr rfl))) (fun _ _ _ _ _ => gts_nil) (fun _ _ _ _ _ => (g_sub g_int (gv 7)))) ga_nil)))) gs_nil) (gs_cons (gs_set (i := 5) hN rfl (by first | exact .inl rfl | exact .inr rfl) (g_ix (gv 3) (g_ix (gv 1) g_int))) (gs_cons (gs_if (gt_cmp (gc_eq hu (g_ix (gv 1) g_int) g_str)) (gs_one (gs_ret (g_callTy call_tuple_of bg_tuple rfl T.tuple boot_tuple (ga_cons (g_lc hc hN (gi_zip rfl T.zip (ga_cons (gv 4) (ga_cons (gv 5) ga_nil))) (own := [("a", 7), ("b", 8)]) (tt := tYes) (te := (tOp (rAddA K) (tVar 7) (tVar 8))) (g := (gTup K 2 (gCons (gName 7) (gCons (gName 8) gNil)))) (show BlkOk N_step_rates (defScope st_step_rates) _ [("a", 7), ("b", 8)] from ⟨by rfl, by decide +kernel, by decide +kernel, by decide +kernel, by decide +kernel⟩) (fun _ _ _ _ _ => (gg_tup hc (ggs_cons (gg_name hN rfl (by first | exact .inl rfl | exact .inr rfl)) (ggs_cons (gg_name hN rfl (by first | exact .inl rfl | exact .inr rfl)) ggs_nil)))) (fun _ _ _ _ _ => gts_nil) (fun _ _ _ _ _ => (g_add (gv 7) (gv 8)))) ga_nil)))) gs_nil) (gs_cons (gs_if (gt_cmp (gc_eq hu (g_ix (gv 1) g_int) g_str)) (gs_one (gs_ret (g_callTy call_tuple_of bg_tuple rfl T.tuple boot_tuple (ga_cons (g_lc hc hN (gi_zip rfl T.zip (ga_cons (gv 4) (ga_cons (gv 5) ga_nil))) (own := [("a", 7), ("b", 8)]) (tt := tYes) (te := (tOp (rI0 fun i j => .int (i - j)) (tVar 7) (tVar 8))) (g := (gTup K 2 (gCons (gName 7) (gCons (gName 8) gNil)))) (show BlkOk N_step_rates (defScope st_step_rates) _ [("a", 7), ("b", 8)] from ⟨by rfl, by decide +kernel, by decide +kernel, by decide +kernel, by decide +kernel⟩) (fun _ _ _ _ _ => (gg_tup hc (ggs_cons (gg_name hN rfl (by first | exact .inl rfl | exact .inr rfl)) (ggs_cons (gg_name hN rfl (by first | exact .inl rfl | exact .inr rfl)) ggs_nil)))) (fun _ _ _ _ _ => gts_nil) (fun _ _ _ _ _ => (g_sub (gv 7) (gv 8)))) ga_nil)))) gs_nil) (gs_one (gs_ret (g_callTy call_tuple_of bg_tuple rfl T.tuple boot_tuple (ga_cons (g_lc hc hN (gi_zip rfl T.zip (ga_cons (gv 4) (ga_cons (gv 5) ga_nil))) (own := [("a", 7), ("b", 8)]) (tt := tYes) (te := (tOp (rAddA K) (tOp (rI CMulW fun i j => .int (i * j)) (tVar 7) (tOp (rIx K) (tVar 2) (tOp (rIx K) (tVar 1) (tC (.int 2))))) (tOp (rI CMulW fun i j => .int (i * j)) (tOp (rIx K) (tVar 2) (tOp (rIx K) (tVar 1) (tC (.int 1)))) (tVar 8)))) (g := (gTup K 2 (gCons (gName 7) (gCons (gName 8) gNil)))) (show BlkOk N_step_rates (defScope st_step_rates) _ [("a", 7), ("b", 8)] from ⟨by rfl, by decide +kernel, by decide +kernel, by decide +kernel, by decide +kernel⟩) (fun _ _ _ _ _ => (gg_tup hc (ggs_cons (gg_name hN rfl (by first | exact .inl rfl | exact .inr rfl)) (ggs_cons (gg_name hN rfl (by first | exact .inl rfl | exact .inr rfl)) ggs_nil)))) (fun _ _ _ _ _ => gts_nil) (fun _ _ _ _ _ => (g_add (g_mul (gv 7) (g_ix (gv 2) (g_ix (gv 1) g_int))) (g_mul (g_ix (gv 2) (g_ix (gv 1) g_int)) (gv 8))))) ga_nil)))))))))))⟩) (vc_step_rates)
abbrev st_rates_at : Stmt := PySem.Challenge.pw_rowsback_k82_whole_rows_made_of_rows.main.body.getD 54 (.Pass ⟨0, 0, 0, 0⟩)
theorem sc_rates_at : FnScope N_rates_at ["row", "point"] (defScope st_rates_at) := ⟨by rfl, by rfl, by rfl, by decide +kernel, by rfl, by decide +kernel, by decide +kernel⟩
theorem d_rates_at {P : Program} {w : World} {K : PySem.W.Frag} {mg : Str → Option Value} {base : Heap} {C : Addr} (T : Top K mg C) (F_step_rates : Fn P w K mg base 1 "step_rates" ["row", "step", "known", "rates"] sp_step_rates) (F_values : Fn P w K mg base 2 "values" ["row", "point"] sp_values) (hh : Here K mg "rates_at" st_rates_at ["row", "point"]) : Fn P w K mg base 3 "rates_at" ["row", "point"] sp_rates_at :=
  hh.fn sc_rates_at (w_rates_at) (fun f cdv A outer s H E hr => by
    have hc : (cxOf CX0 P w K mg base N_rates_at "rates_at" (defScope st_rates_at) f cdv A outer s H E).nox.calm = true := rfl
    have hN : (cxOf CX0 P w K mg base N_rates_at "rates_at" (defScope st_rates_at) f cdv A outer s H E).nox.N.Nodup := sc_rates_at.nd
    have hu : (cxOf CX0 P w K mg base N_rates_at "rates_at" (defScope st_rates_at) f cdv A outer s H E).nox.A.units + 64 < cLine := hr.units
    exact ⟨_, (gs_cons (gs_parC (i := 2) (j := 3) hc hN rfl rfl (by first | exact .inl rfl | exact .inr rfl) (by first | exact .inl rfl | exact .inr rfl) (ga_cons (g_call F_values (hr.mono (by decide)) (ga_cons (gv 0) (ga_cons (gv 1) ga_nil))) (ga_cons (g_lst ga_nil) ga_nil))) (gs_cons (gs_for PassesOwn.never hc (gi_tup (g_ix (gv 0) g_int)) (gg_name hN rfl (by first | exact .inl rfl | exact .inr rfl)) (gs_one (gs_expr (g_appL (gv 3) (g_call F_step_rates (hr.mono (by decide)) (ga_cons (gv 0) (ga_cons (gv 4) (ga_cons (gv 2) (ga_cons (gv 3) ga_nil))))))))) (gs_one (gs_ret (g_callTy call_tuple_of bg_tuple rfl T.tuple boot_tuple (ga_cons (g_lc hc hN (gi_tup (g_ix (gv 0) g_int)) (own := [("number", 5)]) (tt := tYes) (te := (tOp (rIx K) (tVar 3) (tVar 5))) (g := (gName 5)) (show BlkOk N_rates_at (defScope st_rates_at) _ [("number", 5)] from ⟨by rfl, by decide +kernel, by decide +kernel, by decide +kernel, by decide +kernel⟩) (fun _ _ _ _ _ => (gg_name hN rfl (by first | exact .inl rfl | exact .inr rfl))) (fun _ _ _ _ _ => gts_nil) (fun _ _ _ _ _ => (g_ix (gv 3) (gv 5)))) ga_nil))))))⟩) (vc_rates_at)
abbrev st_rates_fed : Stmt := PySem.Challenge.pw_rowsback_k82_whole_rows_made_of_rows.main.body.getD 55 (.Pass ⟨0, 0, 0, 0⟩)
theorem sc_rates_fed : FnScope N_rates_fed ["row", "other", "point"] (defScope st_rates_fed) := ⟨by rfl, by rfl, by rfl, by decide +kernel, by rfl, by decide +kernel, by decide +kernel⟩
theorem d_rates_fed {P : Program} {w : World} {K : PySem.W.Frag} {mg : Str → Option Value} {base : Heap} {C : Addr} (T : Top K mg C) (F_rates_at : Fn P w K mg base 3 "rates_at" ["row", "point"] sp_rates_at) (F_told : Fn P w K mg base 3 "told" ["row", "point"] sp_told) (hh : Here K mg "rates_fed" st_rates_fed ["row", "other", "point"]) : Fn P w K mg base 4 "rates_fed" ["row", "other", "point"] sp_rates_fed :=
  hh.fn sc_rates_fed (w_rates_fed) (fun f cdv A outer s H E hr => by
    have hc : (cxOf CX0 P w K mg base N_rates_fed "rates_fed" (defScope st_rates_fed) f cdv A outer s H E).nox.calm = true := rfl
    have hN : (cxOf CX0 P w K mg base N_rates_fed "rates_fed" (defScope st_rates_fed) f cdv A outer s H E).nox.N.Nodup := sc_rates_fed.nd
    have hu : (cxOf CX0 P w K mg base N_rates_fed "rates_fed" (defScope st_rates_fed) f cdv A outer s H E).nox.A.units + 64 < cLine := hr.units
    exact ⟨_, (gs_cons (gs_if (gt_cmp (gc_ne hu (g_ix (gv 1) g_int) (g_callB cl_len bg_len rfl T.len boot_len (ga_cons (g_ix (gv 0) g_int) ga_nil)))) (gs_one gs_never) gs_nil) (gs_cons (gs_parC (i := 3) (j := 4) hc hN rfl rfl (by first | exact .inl rfl | exact .inr rfl) (by first | exact .inl rfl | exact .inr rfl) (ga_cons (g_call F_rates_at (hr.mono (by decide)) (ga_cons (gv 0) (ga_cons (gv 2) ga_nil))) (ga_cons (g_lst ga_nil) ga_nil))) (gs_cons (gs_for PassesOwn.never hc (gi_tup (g_call F_rates_at (hr.mono (by decide)) (ga_cons (gv 1) (ga_cons (g_call F_told (hr.mono (by decide)) (ga_cons (gv 0) (ga_cons (gv 2) ga_nil))) ga_nil)))) (gg_name hN rfl (by first | exact .inl rfl | exact .inr rfl)) (gs_one (gs_expr (g_appL (gv 4) (g_callTy call_tuple_of bg_tuple rfl T.tuple boot_tuple (ga_cons (g_lc hc hN (gi_rng1 rfl T.range (ga_cons (g_ix (gv 0) g_int) ga_nil)) (own := [("k", 6)]) (tt := tYes) (te := (tCB (rSum K) (tCons (tLc (RZ.iZipA K (tCons (tVar 5) (tCons (tVar 3) tNil))) (gTup K 2 (gCons (gName 7) (gCons (gName 8) gNil))) tYes (tOp (rI CMulW fun i j => .int (i * j)) (tVar 7) (tOp (rIx K) (tVar 8) (tVar 6))) [7, 8]) tNil))) (g := (gName 6)) (show BlkOk N_rates_fed (defScope st_rates_fed) _ [("k", 6)] from ⟨by rfl, by decide +kernel, by decide +kernel, by decide +kernel, by decide +kernel⟩) (fun _ _ _ _ _ => (gg_name hN rfl (by first | exact .inl rfl | exact .inr rfl))) (fun _ _ _ _ _ => gts_nil) (fun _ _ _ _ _ => (g_callB (cr_sum hc) bg_sum rfl T.sum boot_sum (ga_cons (g_lc hc hN (gi_zip rfl T.zip (ga_cons (gv 5) (ga_cons (gv 3) ga_nil))) (own := [("a", 7), ("own", 8)]) (tt := tYes) (te := (tOp (rI CMulW fun i j => .int (i * j)) (tVar 7) (tOp (rIx K) (tVar 8) (tVar 6)))) (g := (gTup K 2 (gCons (gName 7) (gCons (gName 8) gNil)))) (BlkOk.nest (show BlkOk N_rates_fed _ _ [("a", 7), ("own", 8)] from ⟨by rfl, by decide +kernel, by decide +kernel, by decide +kernel, by decide +kernel⟩)) (fun _ _ _ _ _ => (gg_tup hc (ggs_cons (gg_name hN rfl (by first | exact .inl rfl | exact .inr rfl)) (ggs_cons (gg_name hN rfl (by first | exact .inl rfl | exact .inr rfl)) ggs_nil)))) (fun _ _ _ _ _ => gts_nil) (fun _ _ _ _ _ => (g_mul (gv 7) (g_ix (gv 8) (gv 6))))) ga_nil)))) ga_nil)))))) (gs_one (gs_ret (g_callTy call_tuple_of bg_tuple rfl T.tuple boot_tuple (ga_cons (gv 4) ga_nil)))))))⟩) (vc_rates_fed)
abbrev st_Steps_put : Stmt := inClass (PySem.Challenge.pw_rowsback_k82_whole_rows_made_of_rows.main.body.getD 56 (.Pass ⟨0, 0, 0, 0⟩)) 1
theorem sc_Steps_put : FnScope N_Steps_put ["self", "step"] (defScope st_Steps_put) := ⟨by rfl, by rfl, by rfl, by decide +kernel, by rfl, by decide +kernel, by decide +kernel⟩
theorem d_Steps_put {P : Program} {w : World} {K : PySem.W.Frag} {mg : Str → Option Value} {base : Heap} {C : Addr} (T : Top K mg C) (hh : HereM K C "put" "Steps.put" st_Steps_put ["self", "step"]) : Mth P w K mg base 1 C "put" ["self", "step"] (sp_Steps_put C) :=
  hh.fn sc_Steps_put (w_Steps_put C) (fun f cdv A outer s H E hr => by
    have hc : (cxOf CX0 P w K mg base N_Steps_put "Steps.put" (defScope st_Steps_put) f cdv A outer s H E).nox.calm = true := rfl
    have hN : (cxOf CX0 P w K mg base N_Steps_put "Steps.put" (defScope st_Steps_put) f cdv A outer s H E).nox.N.Nodup := sc_Steps_put.nd
    have hu : (cxOf CX0 P w K mg base N_Steps_put "Steps.put" (defScope st_Steps_put) f cdv A outer s H E).nox.A.units + 64 < cLine := hr.units
    exact ⟨_, (gs_cons (gs_expr (g_appRL T.cls (gv 0) (gv 1))) (gs_one (gs_ret (g_sub (g_lenR T.cls (gv 0) rfl T.len) g_int))))⟩) (vc_Steps_put C)
abbrev st_Steps_joined : Stmt := inClass (PySem.Challenge.pw_rowsback_k82_whole_rows_made_of_rows.main.body.getD 56 (.Pass ⟨0, 0, 0, 0⟩)) 2
theorem sc_Steps_joined : FnScope N_Steps_joined ["self", "word", "one", "other"] (defScope st_Steps_joined) := ⟨by rfl, by rfl, by rfl, by decide +kernel, by rfl, by decide +kernel, by decide +kernel⟩
theorem d_Steps_joined {P : Program} {w : World} {K : PySem.W.Frag} {mg : Str → Option Value} {base : Heap} {C : Addr} (T : Top K mg C) (F_Steps_put : Mth P w K mg base 1 C "put" ["self", "step"] (sp_Steps_put C)) (hh : HereM K C "joined" "Steps.joined" st_Steps_joined ["self", "word", "one", "other"]) : Mth P w K mg base 2 C "joined" ["self", "word", "one", "other"] (sp_Steps_joined C) :=
  hh.fn sc_Steps_joined (w_Steps_joined C) (fun f cdv A outer s H E hr => by
    have hc : (cxOf CX0 P w K mg base N_Steps_joined "Steps.joined" (defScope st_Steps_joined) f cdv A outer s H E).nox.calm = true := rfl
    have hN : (cxOf CX0 P w K mg base N_Steps_joined "Steps.joined" (defScope st_Steps_joined) f cdv A outer s H E).nox.N.Nodup := sc_Steps_joined.nd
    have hu : (cxOf CX0 P w K mg base N_Steps_joined "Steps.joined" (defScope st_Steps_joined) f cdv A outer s H E).nox.A.units + 64 < cLine := hr.units
    exact ⟨_, (gs_cons (gs_if (gt_cmp (gc_isN (gv 3))) (gs_one (gs_ret (gv 2))) gs_nil) (gs_cons (gs_if (gt_cmp (gc_isN (gv 2))) (gs_one (gs_ret (g_ifE (gt_cmp (gc_eq hu (gv 1) g_str)) (gv 3) (g_meth T.cls F_Steps_put (hr.mono (by decide)) (gv 0) (ga_cons (g_tup (ga_cons g_str (ga_cons (gv 3) ga_nil))) ga_nil))))) gs_nil) (gs_one (gs_ret (g_meth T.cls F_Steps_put (hr.mono (by decide)) (gv 0) (ga_cons (g_tup (ga_cons (gv 1) (ga_cons (gv 2) (ga_cons (gv 3) ga_nil)))) ga_nil))))))⟩) (vc_Steps_joined C)
abbrev st_pull_on : Stmt := PySem.Challenge.pw_rowsback_k82_whole_rows_made_of_rows.main.body.getD 58 (.Pass ⟨0, 0, 0, 0⟩)
theorem sc_pull_on : FnScope N_pull_on ["steps", "step", "pull", "pulls", "sizes"] (defScope st_pull_on) := ⟨by rfl, by rfl, by rfl, by decide +kernel, by rfl, by decide +kernel, by decide +kernel⟩
theorem d_pull_on {P : Program} {w : World} {K : PySem.W.Frag} {mg : Str → Option Value} {base : Heap} {C : Addr} (T : Top K mg C) (F_Steps_joined : Mth P w K mg base 2 C "joined" ["self", "word", "one", "other"] (sp_Steps_joined C)) (F_Steps_put : Mth P w K mg base 1 C "put" ["self", "step"] (sp_Steps_put C)) (hh : Here K mg "pull_on" st_pull_on ["steps", "step", "pull", "pulls", "sizes"]) : Fn P w K mg base 3 "pull_on" ["steps", "step", "pull", "pulls", "sizes"] (sp_pull_on C) :=
  hh.fn sc_pull_on (w_pull_on C) (fun f cdv A outer s H E hr => by
    have hc : (cxOf CX0 P w K mg base N_pull_on "pull_on" (defScope st_pull_on) f cdv A outer s H E).nox.calm = true := rfl
    have hN : (cxOf CX0 P w K mg base N_pull_on "pull_on" (defScope st_pull_on) f cdv A outer s H E).nox.N.Nodup := sc_pull_on.nd
    have hu : (cxOf CX0 P w K mg base N_pull_on "pull_on" (defScope st_pull_on) f cdv A outer s H E).nox.A.units + 64 < cLine := hr.units
    exact ⟨_, (gs_cons (gs_if (gt_cmp (gc_eq hu (g_ix (gv 1) g_int) g_str)) (gs_cons (gs_for PassesOwn.never hc (gi_tup (g_tup (ga_cons (g_tup (ga_cons (g_ix (gv 1) g_int) (ga_cons (g_ix (gv 1) g_int) ga_nil))) (ga_cons (g_tup (ga_cons (g_ix (gv 1) g_int) (ga_cons (g_ix (gv 1) g_int) ga_nil))) ga_nil)))) (gg_tup hc (ggs_cons (gg_name hN rfl (by first | exact .inl rfl | exact .inr rfl)) (ggs_cons (gg_name hN rfl (by first | exact .inl rfl | exact .inr rfl)) ggs_nil))) (gs_one (gs_if (gt_cmp (gc_gt (g_ix (gv 4) (gv 5)) g_int)) (gs_one (gs_setL (g_meth T.cls F_Steps_joined (hr.mono (by decide)) (gv 0) (ga_cons g_str (ga_cons (g_ix (gv 3) (gv 5)) (ga_cons (g_meth T.cls F_Steps_put (hr.mono (by decide)) (gv 0) (ga_cons (g_tup (ga_cons g_str (ga_cons (gv 2) (ga_cons (gv 6) ga_nil)))) ga_nil)) ga_nil)))) (gv 3) (gv 5))) gs_nil))) (gs_one gs_retN)) gs_nil) (gs_one (gs_for PassesOwn.never hc (gi_zip rfl T.zip (ga_cons (g_slice (gv 1) (go_some g_int) go_none) (ga_cons (g_ifE (gt_cmp (gc_eq hu (g_ix (gv 1) g_int) g_str)) (g_tup (ga_cons g_str ga_nil)) (g_tup (ga_cons g_str (ga_cons (g_ix (gv 1) g_int) ga_nil)))) ga_nil))) (gg_tup hc (ggs_cons (gg_name hN rfl (by first | exact .inl rfl | exact .inr rfl)) (ggs_cons (gg_name hN rfl (by first | exact .inl rfl | exact .inr rfl)) ggs_nil))) (gs_one (gs_if (gt_cmp (gc_gt (g_ix (gv 4) (gv 7)) g_int)) (gs_one (gs_setL (g_meth T.cls F_Steps_joined (hr.mono (by decide)) (gv 0) (ga_cons (gv 8) (ga_cons (g_ix (gv 3) (gv 7)) (ga_cons (gv 2) ga_nil)))) (gv 3) (gv 7))) gs_nil)))))⟩) (vc_pull_on C)
abbrev st_backward : Stmt := PySem.Challenge.pw_rowsback_k82_whole_rows_made_of_rows.main.body.getD 59 (.Pass ⟨0, 0, 0, 0⟩)
theorem sc_backward : FnScope N_backward ["row"] (defScope st_backward) := ⟨by rfl, by rfl, by rfl, by decide +kernel, by rfl, by decide +kernel, by decide +kernel⟩
theorem d_backward {P : Program} {w : World} {K : PySem.W.Frag} {mg : Str → Option Value} {base : Heap} {C : Addr} (T : Top K mg C) (F_mk : Mkr P w K mg base 1 C) (F_Steps_joined : Mth P w K mg base 2 C "joined" ["self", "word", "one", "other"] (sp_Steps_joined C)) (F_Steps_put : Mth P w K mg base 1 C "put" ["self", "step"] (sp_Steps_put C)) (F_degrees : Fn P w K mg base 2 "degrees" ["row"] sp_degrees) (F_pull_on : Fn P w K mg base 3 "pull_on" ["steps", "step", "pull", "pulls", "sizes"] (sp_pull_on C)) (hh : Here K mg "backward" st_backward ["row"]) : Fn P w K mg base 4 "backward" ["row"] sp_backward :=
  hh.fn sc_backward (w_backward C) (fun f cdv A outer s H E hr => by
    have hc : (cxOf CX0 P w K mg base N_backward "backward" (defScope st_backward) f cdv A outer s H E).nox.calm = true := rfl
    have hN : (cxOf CX0 P w K mg base N_backward "backward" (defScope st_backward) f cdv A outer s H E).nox.N.Nodup := sc_backward.nd
    have hu : (cxOf CX0 P w K mg base N_backward "backward" (defScope st_backward) f cdv A outer s H E).nox.A.units + 64 < cLine := hr.units
    exact ⟨_, (gs_cons (gs_set (i := 1) hN rfl (by first | exact .inl rfl | exact .inr rfl) (g_mk F_mk (hr.mono (by decide)) rfl T.Steps)) (gs_cons (gs_for PassesOwn.never hc (gi_tup (g_ix (gv 0) g_int)) (gg_name hN rfl (by first | exact .inl rfl | exact .inr rfl)) (gs_one (gs_expr (g_meth T.cls F_Steps_put (hr.mono (by decide)) (gv 1) (ga_cons (gv 2) ga_nil))))) (gs_cons (gs_par3 (i := 3) (j := 4) (l := 5) hc hN rfl rfl rfl (by decide) (by decide) (by decide) rfl rfl rfl (ga_cons (g_repL (g_lst (ga_cons g_non ga_nil)) (g_callB cl_len bg_len rfl T.len boot_len (ga_cons (g_ix (gv 0) g_int) ga_nil))) (ga_cons (g_repL (g_lst (ga_cons g_non ga_nil)) (g_ix (gv 0) g_int)) (ga_cons (g_call F_degrees (hr.mono (by decide)) (ga_cons (gv 0) ga_nil)) ga_nil))) (by rfl)) (gs_cons (gs_for PassesOwn.never hc (gi_enum rfl T.enumerate (ga_cons (g_ix (gv 0) g_int) ga_nil)) (gg_tup hc (ggs_cons (gg_name hN rfl (by first | exact .inl rfl | exact .inr rfl)) (ggs_cons (gg_name hN rfl (by first | exact .inl rfl | exact .inr rfl)) ggs_nil))) (gs_one (gs_if (gt_cmp (gc_gt (g_ix (gv 5) (gv 7)) g_int)) (gs_one (gs_setL (g_meth T.cls F_Steps_joined (hr.mono (by decide)) (gv 1) (ga_cons g_str (ga_cons (g_ix (gv 3) (gv 7)) (ga_cons (g_meth T.cls F_Steps_put (hr.mono (by decide)) (gv 1) (ga_cons (g_tup (ga_cons g_str (ga_cons (g_add (g_ix (gv 0) g_int) (gv 6)) ga_nil))) ga_nil)) ga_nil)))) (gv 3) (gv 7))) gs_nil))) (gs_cons (gs_for PassesOwn.never hc (gi_downL rfl T.range (ga_cons (g_sub (g_callB cl_len bg_len rfl T.len boot_len (ga_cons (g_ix (gv 0) g_int) ga_nil)) g_int) (ga_cons (g_neg g_int) (ga_cons (g_neg g_int) ga_nil)))) (gg_name hN rfl (by first | exact .inl rfl | exact .inr rfl)) (gs_cons (gs_set (i := 2) hN rfl (by first | exact .inl rfl | exact .inr rfl) (g_ix (g_ix (gv 0) g_int) (gv 7))) (gs_one (gs_if (gt_cmp (gc_notN (g_ix (gv 3) (gv 7)))) (gs_one (gs_if (gt_cmp (gc_eq hu (g_ix (gv 2) g_int) g_str)) (gs_one (gs_setL (g_meth T.cls F_Steps_joined (hr.mono (by decide)) (gv 1) (ga_cons g_str (ga_cons (g_ix (gv 4) (g_ix (gv 2) g_int)) (ga_cons (g_ix (gv 3) (gv 7)) ga_nil)))) (gv 4) (g_ix (gv 2) g_int))) (gs_one (gs_expr (g_call F_pull_on (hr.mono (by decide)) (ga_cons (gv 1) (ga_cons (gv 2) (ga_cons (g_ix (gv 3) (gv 7)) (ga_cons (gv 3) (ga_cons (gv 5) ga_nil)))))))))) gs_nil)))) (gs_cons (gs_if (gt_cmp (gc_in g_non (gv 4))) (gs_cons (gs_set (i := 8) hN rfl (by first | exact .inl rfl | exact .inr rfl) (g_meth T.cls F_Steps_put (hr.mono (by decide)) (gv 1) (ga_cons (g_tup (ga_cons g_str (ga_cons g_int ga_nil))) ga_nil))) (gs_one (gs_setLc (i := 4) hc hN rfl rfl (by rfl) (gi_lst (gv 4)) (own := [("own", 9)]) (tt := tYes) (te := (tIf (tTest (tOp rIsN (tVar 9) (tC .non))) (tVar 8) (tVar 9))) (g := (gName 9)) (show BlkOk N_backward (defScope st_backward) _ [("own", 9)] from ⟨by rfl, by decide +kernel, by decide +kernel, by decide +kernel, by decide +kernel⟩) (fun _ _ _ _ _ => (gg_name hN rfl (by first | exact .inl rfl | exact .inr rfl))) (fun _ _ _ _ _ => gts_nil) (fun _ _ _ _ _ => (g_ifE (gt_cmp (gc_isN (gv 9))) (gv 8) (gv 9)))))) gs_nil) (gs_one (gs_ret (g_tup (ga_cons (g_add (g_ix (gv 0) g_int) (g_callB cl_len bg_len rfl T.len boot_len (ga_cons (g_ix (gv 0) g_int) ga_nil))) (ga_cons (g_tupR T.cls (gv 1) rfl T.tuple) (ga_cons (g_callTy call_tuple_of bg_tuple rfl T.tuple boot_tuple (ga_cons (gv 4) ga_nil)) ga_nil))))))))))))⟩) (vc_backward C)
abbrev st_sweep : Stmt := PySem.Challenge.pw_rowsback_k82_whole_rows_made_of_rows.main.body.getD 61 (.Pass ⟨0, 0, 0, 0⟩)
theorem sc_sweep : FnScope N_sweep ["row", "known", "weights"] (defScope st_sweep) := ⟨by rfl, by rfl, by rfl, by decide +kernel, by rfl, by decide +kernel, by decide +kernel⟩
theorem d_sweep {P : Program} {w : World} {K : PySem.W.Frag} {mg : Str → Option Value} {base : Heap} {C : Addr} (T : Top K mg C) (F_needed : Fn P w K mg base 2 "needed" ["row"] sp_needed) (hh : Here K mg "sweep" st_sweep ["row", "known", "weights"]) : Fn P w K mg base 3 "sweep" ["row", "known", "weights"] sp_sweep :=
  hh.fn sc_sweep (w_sweep) (fun f cdv A outer s H E hr => by
    have hc : (cxOf CX0 P w K mg base N_sweep "sweep" (defScope st_sweep) f cdv A outer s H E).nox.calm = true := rfl
    have hN : (cxOf CX0 P w K mg base N_sweep "sweep" (defScope st_sweep) f cdv A outer s H E).nox.N.Nodup := sc_sweep.nd
    have hu : (cxOf CX0 P w K mg base N_sweep "sweep" (defScope st_sweep) f cdv A outer s H E).nox.A.units + 64 < cLine := hr.units
    exact ⟨_, (gs_cons (gs_par (i := 3) (j := 4) hc hN rfl rfl (by decide) rfl rfl (ga_cons (g_repL (g_lst (ga_cons g_int ga_nil)) (g_callB cl_len bg_len rfl T.len boot_len (ga_cons (g_ix (gv 0) g_int) ga_nil))) (ga_cons (g_repL (g_lst (ga_cons g_int ga_nil)) (g_ix (gv 0) g_int)) ga_nil)) (by rfl)) (gs_cons (gs_for PassesOwn.never hc (gi_zip rfl T.zip (ga_cons (g_ix (gv 0) g_int) (ga_cons (gv 2) ga_nil))) (gg_tup hc (ggs_cons (gg_name hN rfl (by first | exact .inl rfl | exact .inr rfl)) (ggs_cons (gg_name hN rfl (by first | exact .inl rfl | exact .inr rfl)) ggs_nil))) (gs_one (gs_setL (g_add (g_ix (gv 3) (gv 5)) (gv 6)) (gv 3) (gv 5)))) (gs_cons (gs_for PassesOwn.never hc (gi_tup (g_revT (g_call F_needed (hr.mono (by decide)) (ga_cons (gv 0) ga_nil)))) (gg_name hN rfl (by first | exact .inl rfl | exact .inr rfl)) (gs_cons (gs_par (i := 7) (j := 8) hc hN rfl rfl (by decide) rfl rfl (ga_cons (g_ix (g_ix (gv 0) g_int) (gv 5)) (ga_cons (g_ix (gv 3) (gv 5)) ga_nil)) (by rfl)) (gs_one (gs_if (gt_cmp (gc_eq hu (g_ix (gv 7) g_int) g_str)) (gs_one (gs_setL (g_add (g_ix (gv 4) (g_ix (gv 7) g_int)) (gv 8)) (gv 4) (g_ix (gv 7) g_int))) (gs_one (gs_if (gt_cmp (gc_eq hu (g_ix (gv 7) g_int) g_str)) (gs_one (gs_setL (g_sub (g_ix (gv 3) (g_ix (gv 7) g_int)) (gv 8)) (gv 3) (g_ix (gv 7) g_int))) (gs_one (gs_if (gt_cmp (gc_eq hu (g_ix (gv 7) g_int) g_str)) (gs_cons (gs_setL (g_add (g_ix (gv 3) (g_ix (gv 7) g_int)) (g_mul (gv 8) (g_dgetK hu (gv 1) (g_ix (gv 7) g_int)))) (gv 3) (g_ix (gv 7) g_int)) (gs_one (gs_setL (g_add (g_ix (gv 3) (g_ix (gv 7) g_int)) (g_mul (gv 8) (g_dgetK hu (gv 1) (g_ix (gv 7) g_int)))) (gv 3) (g_ix (gv 7) g_int)))) (gs_one (gs_if (gt_cmp (gc_in (g_ix (gv 7) g_int) (g_tup (ga_cons g_str (ga_cons g_str ga_nil))))) (gs_cons (gs_setL (g_add (g_ix (gv 3) (g_ix (gv 7) g_int)) (gv 8)) (gv 3) (g_ix (gv 7) g_int)) (gs_one (gs_setL (g_add (g_ix (gv 3) (g_ix (gv 7) g_int)) (g_ifE (gt_cmp (gc_eq hu (g_ix (gv 7) g_int) g_str)) (gv 8) (g_sub g_int (gv 8)))) (gv 3) (g_ix (gv 7) g_int)))) gs_nil)))))))))) (gs_one (gs_ret (g_callTy call_tuple_of bg_tuple rfl T.tuple boot_tuple (ga_cons (gv 4) ga_nil)))))))⟩) (vc_sweep)
abbrev st_swept : Stmt := PySem.Challenge.pw_rowsback_k82_whole_rows_made_of_rows.main.body.getD 62 (.Pass ⟨0, 0, 0, 0⟩)
theorem sc_swept : FnScope N_swept ["row", "point", "weights"] (defScope st_swept) := ⟨by rfl, by rfl, by rfl, by decide +kernel, by rfl, by decide +kernel, by decide +kernel⟩
theorem d_swept {P : Program} {w : World} {K : PySem.W.Frag} {mg : Str → Option Value} {base : Heap} {C : Addr} (T : Top K mg C) (F_sweep : Fn P w K mg base 3 "sweep" ["row", "known", "weights"] sp_sweep) (F_values : Fn P w K mg base 2 "values" ["row", "point"] sp_values) (hh : Here K mg "swept" st_swept ["row", "point", "weights"]) : Fn P w K mg base 4 "swept" ["row", "point", "weights"] sp_swept :=
  hh.fn sc_swept (w_swept) (fun f cdv A outer s H E hr => by
    have hc : (cxOf CX0 P w K mg base N_swept "swept" (defScope st_swept) f cdv A outer s H E).nox.calm = true := rfl
    have hN : (cxOf CX0 P w K mg base N_swept "swept" (defScope st_swept) f cdv A outer s H E).nox.N.Nodup := sc_swept.nd
    have hu : (cxOf CX0 P w K mg base N_swept "swept" (defScope st_swept) f cdv A outer s H E).nox.A.units + 64 < cLine := hr.units
    exact ⟨_, (gs_one (gs_ret (g_call F_sweep (hr.mono (by decide)) (ga_cons (gv 0) (ga_cons (g_callTy (call_dictP hc) bg_dictK rfl T.dict boot_dict (ga_cons (g_listEnum hc rfl T.list boot_list rfl T.enumerate (ga_cons (g_call F_values (hr.mono (by decide)) (ga_cons (gv 0) (ga_cons (gv 1) ga_nil))) ga_nil)) ga_nil)) (ga_cons (gv 2) ga_nil))))))⟩) (vc_swept)
abbrev st_step_text : Stmt := PySem.Challenge.pw_rowsback_k82_whole_rows_made_of_rows.main.body.getD 65 (.Pass ⟨0, 0, 0, 0⟩)
theorem sc_step_text : FnScope N_step_text ["step"] (defScope st_step_text) := ⟨by rfl, by rfl, by rfl, by decide +kernel, by rfl, by decide +kernel, by decide +kernel⟩
theorem d_step_text {P : Program} {w : World} {K : PySem.W.Frag} {mg : Str → Option Value} {base : Heap} {C : Addr} (T : Top K mg C) (hh : Here K mg "step_text" st_step_text ["step"]) : Fn P w K mg base 1 "step_text" ["step"] sp_step_text :=
  hh.fn sc_step_text (w_step_text) (fun f cdv A outer s H E hr => by
    have hc : (cxOf CX0 P w K mg base N_step_text "step_text" (defScope st_step_text) f cdv A outer s H E).nox.calm = true := rfl
    have hN : (cxOf CX0 P w K mg base N_step_text "step_text" (defScope st_step_text) f cdv A outer s H E).nox.N.Nodup := sc_step_text.nd
    have hu : (cxOf CX0 P w K mg base N_step_text "step_text" (defScope st_step_text) f cdv A outer s H E).nox.A.units + 64 < cLine := hr.units
    exact ⟨_, (gs_one (gs_ret (g_join (g_lc hc hN (gi_tup (gv 0)) (own := [("part", 1)]) (tt := tYes) (te := (tCB rStr1 (tCons (tVar 1) tNil))) (g := (gName 1)) (show BlkOk N_step_text (defScope st_step_text) _ [("part", 1)] from ⟨by rfl, by decide +kernel, by decide +kernel, by decide +kernel, by decide +kernel⟩) (fun _ _ _ _ _ => (gg_name hN rfl (by first | exact .inl rfl | exact .inr rfl))) (fun _ _ _ _ _ => gts_nil) (fun _ _ _ _ _ => (g_callTy cl_str bg_str rfl T.str boot_str (ga_cons (gv 1) ga_nil)))))))⟩) (vc_step_text)
abbrev st_row_text : Stmt := PySem.Challenge.pw_rowsback_k82_whole_rows_made_of_rows.main.body.getD 66 (.Pass ⟨0, 0, 0, 0⟩)
theorem sc_row_text : FnScope N_row_text ["row"] (defScope st_row_text) := ⟨by rfl, by rfl, by rfl, by decide +kernel, by rfl, by decide +kernel, by decide +kernel⟩
theorem d_row_text {P : Program} {w : World} {K : PySem.W.Frag} {mg : Str → Option Value} {base : Heap} {C : Addr} (T : Top K mg C) (F_step_text : Fn P w K mg base 1 "step_text" ["step"] sp_step_text) (hh : Here K mg "row_text" st_row_text ["row"]) : Fn P w K mg base 2 "row_text" ["row"] sp_row_text :=
  hh.fn sc_row_text (w_row_text) (fun f cdv A outer s H E hr => by
    have hc : (cxOf CX0 P w K mg base N_row_text "row_text" (defScope st_row_text) f cdv A outer s H E).nox.calm = true := rfl
    have hN : (cxOf CX0 P w K mg base N_row_text "row_text" (defScope st_row_text) f cdv A outer s H E).nox.N.Nodup := sc_row_text.nd
    have hu : (cxOf CX0 P w K mg base N_row_text "row_text" (defScope st_row_text) f cdv A outer s H E).nox.A.units + 64 < cLine := hr.units
    exact ⟨_, (gs_cons (gs_set (i := 1) hN rfl (by first | exact .inl rfl | exact .inr rfl) (g_cat (g_lst (ga_cons (g_add g_str (g_callTy cl_str bg_str rfl T.str boot_str (ga_cons (g_ix (gv 0) g_int) ga_nil))) ga_nil)) (g_lc hc hN (gi_tup (g_ix (gv 0) g_int)) (own := [("step", 2)]) (tt := tYes) (te := (tCall (toSp K sp_step_text) [] E0 (tCons (tVar 2) tNil))) (g := (gName 2)) (show BlkOk N_row_text (defScope st_row_text) _ [("step", 2)] from ⟨by rfl, by decide +kernel, by decide +kernel, by decide +kernel, by decide +kernel⟩) (fun _ _ _ _ _ => (gg_name hN rfl (by first | exact .inl rfl | exact .inr rfl))) (fun _ _ _ _ _ => gts_nil) (fun _ _ _ _ _ => (g_call F_step_text (hr.mono (by decide)) (ga_cons (gv 2) ga_nil)))))) (gs_one (gs_ret (g_join (g_cat (gv 1) (g_lst (ga_cons (g_add g_str (g_join (g_lc hc hN (gi_tup (g_ix (gv 0) g_int)) (own := [("end", 3)]) (tt := tYes) (te := (tCB rStr1 (tCons (tVar 3) tNil))) (g := (gName 3)) (show BlkOk N_row_text (defScope st_row_text) _ [("end", 3)] from ⟨by rfl, by decide +kernel, by decide +kernel, by decide +kernel, by decide +kernel⟩) (fun _ _ _ _ _ => (gg_name hN rfl (by first | exact .inl rfl | exact .inr rfl))) (fun _ _ _ _ _ => gts_nil) (fun _ _ _ _ _ => (g_callTy cl_str bg_str rfl T.str boot_str (ga_cons (gv 3) ga_nil)))))) ga_nil)))))))⟩) (vc_row_text)
abbrev st_number_of : Stmt := PySem.Challenge.pw_rowsback_k82_whole_rows_made_of_rows.main.body.getD 67 (.Pass ⟨0, 0, 0, 0⟩)
theorem sc_number_of : FnScope N_number_of ["word"] (defScope st_number_of) := ⟨by rfl, by rfl, by rfl, by decide +kernel, by rfl, by decide +kernel, by decide +kernel⟩
theorem d_number_of {P : Program} {w : World} {K : PySem.W.Frag} {mg : Str → Option Value} {base : Heap} {C : Addr} (T : Top K mg C) (hh : Here K mg "number_of" st_number_of ["word"]) : Fn P w K mg base 1 "number_of" ["word"] sp_number_of :=
  hh.fn sc_number_of (w_number_of) (fun f cdv A outer s H E hr => by
    have hc : (cxOf CX0 P w K mg base N_number_of "number_of" (defScope st_number_of) f cdv A outer s H E).nox.calm = true := rfl
    have hN : (cxOf CX0 P w K mg base N_number_of "number_of" (defScope st_number_of) f cdv A outer s H E).nox.N.Nodup := sc_number_of.nd
    have hu : (cxOf CX0 P w K mg base N_number_of "number_of" (defScope st_number_of) f cdv A outer s H E).nox.A.units + 64 < cLine := hr.units
    exact ⟨_, (gs_cons (gs_set (i := 1) hN rfl (by first | exact .inl rfl | exact .inr rfl) (g_ifE (gt_cmp (gc_eq hu (g_slice (gv 0) go_none (go_some g_int)) g_str)) (g_slice (gv 0) (go_some g_int) go_none) (gv 0))) (gs_cons (gs_if (GW.gt (gw_or (gt_cmp (gc_eq hu (gv 1) g_str)) (gw_or (gt_cmp (gc_gt (g_callB cl_len bg_len rfl T.len boot_len (ga_cons (gv 1) ga_nil)) g_int)) (gw_or1 (gt_not (gt_val (g_callB (cr_all hc) bg_all rfl T.all boot_all (ga_cons (g_lc hc hN (gi_str (gv 1)) (own := [("sign", 2)]) (tt := tYes) (te := (tOp rInS (tVar 2) (tC (.str "0123456789")))) (g := (gName 2)) (show BlkOk N_number_of (defScope st_number_of) _ [("sign", 2)] from ⟨by rfl, by decide +kernel, by decide +kernel, by decide +kernel, by decide +kernel⟩) (fun _ _ _ _ _ => (gg_name hN rfl (by first | exact .inl rfl | exact .inr rfl))) (fun _ _ _ _ _ => gts_nil) (fun _ _ _ _ _ => (g_cmp (gc_inS (gv 2) (g_globS T.FIGURES))))) ga_nil)))))))) (gs_one (gs_ret g_non)) gs_nil) (gs_cons (gs_if (GW.gt (gw_or (GW.gt (gw_and (gt_cmp (gc_gt (g_callB cl_len bg_len rfl T.len boot_len (ga_cons (gv 1) ga_nil)) g_int)) (gw_and1 (gt_cmp (gc_eq hu (g_ix (gv 1) g_int) g_str))))) (gw_or1 (gt_cmp (gc_eq hu (gv 0) g_str))))) (gs_one (gs_ret g_non)) gs_nil) (gs_one (gs_ret (g_callTy cl_int bg_int rfl T.int boot_int (ga_cons (gv 0) ga_nil)))))))⟩) (vc_number_of)
abbrev st_numbers_of : Stmt := PySem.Challenge.pw_rowsback_k82_whole_rows_made_of_rows.main.body.getD 68 (.Pass ⟨0, 0, 0, 0⟩)
theorem sc_numbers_of : FnScope N_numbers_of ["words"] (defScope st_numbers_of) := ⟨by rfl, by rfl, by rfl, by decide +kernel, by rfl, by decide +kernel, by decide +kernel⟩
theorem d_numbers_of {P : Program} {w : World} {K : PySem.W.Frag} {mg : Str → Option Value} {base : Heap} {C : Addr} (T : Top K mg C) (F_number_of : Fn P w K mg base 1 "number_of" ["word"] sp_number_of) (hh : Here K mg "numbers_of" st_numbers_of ["words"]) : Fn P w K mg base 2 "numbers_of" ["words"] sp_numbers_of :=
  hh.fn sc_numbers_of (w_numbers_of) (fun f cdv A outer s H E hr => by
    have hc : (cxOf CX0 P w K mg base N_numbers_of "numbers_of" (defScope st_numbers_of) f cdv A outer s H E).nox.calm = true := rfl
    have hN : (cxOf CX0 P w K mg base N_numbers_of "numbers_of" (defScope st_numbers_of) f cdv A outer s H E).nox.N.Nodup := sc_numbers_of.nd
    have hu : (cxOf CX0 P w K mg base N_numbers_of "numbers_of" (defScope st_numbers_of) f cdv A outer s H E).nox.A.units + 64 < cLine := hr.units
    exact ⟨_, (gs_cons (gs_setLc (i := 1) hc hN rfl rfl (by rfl) (gi_lst (gv 0)) (own := [("word", 2)]) (tt := tYes) (te := (tCall (toSp K sp_number_of) [] E0 (tCons (tVar 2) tNil))) (g := (gName 2)) (show BlkOk N_numbers_of (defScope st_numbers_of) _ [("word", 2)] from ⟨by rfl, by decide +kernel, by decide +kernel, by decide +kernel, by decide +kernel⟩) (fun _ _ _ _ _ => (gg_name hN rfl (by first | exact .inl rfl | exact .inr rfl))) (fun _ _ _ _ _ => gts_nil) (fun _ _ _ _ _ => (g_call F_number_of (hr.mono (by decide)) (ga_cons (gv 2) ga_nil)))) (gs_one (gs_ret (g_ifE (gt_cmp (gc_in g_non (gv 1))) g_non (g_callTy call_tuple_of bg_tuple rfl T.tuple boot_tuple (ga_cons (gv 1) ga_nil))))))⟩) (vc_numbers_of)
abbrev st_read_step : Stmt := PySem.Challenge.pw_rowsback_k82_whole_rows_made_of_rows.main.body.getD 69 (.Pass ⟨0, 0, 0, 0⟩)
theorem sc_read_step : FnScope N_read_step ["line"] (defScope st_read_step) := ⟨by rfl, by rfl, by rfl, by decide +kernel, by rfl, by decide +kernel, by decide +kernel⟩
theorem d_read_step {P : Program} {w : World} {K : PySem.W.Frag} {mg : Str → Option Value} {base : Heap} {C : Addr} (T : Top K mg C) (F_numbers_of : Fn P w K mg base 2 "numbers_of" ["words"] sp_numbers_of) (hh : Here K mg "read_step" st_read_step ["line"]) : Fn P w K mg base 3 "read_step" ["line"] sp_read_step :=
  hh.fn sc_read_step (w_read_step) (fun f cdv A outer s H E hr => by
    have hc : (cxOf CX0 P w K mg base N_read_step "read_step" (defScope st_read_step) f cdv A outer s H E).nox.calm = true := rfl
    have hN : (cxOf CX0 P w K mg base N_read_step "read_step" (defScope st_read_step) f cdv A outer s H E).nox.N.Nodup := sc_read_step.nd
    have hu : (cxOf CX0 P w K mg base N_read_step "read_step" (defScope st_read_step) f cdv A outer s H E).nox.A.units + 64 < cLine := hr.units
    exact ⟨_, (gs_cons (gs_set (i := 1) hN rfl (by first | exact .inl rfl | exact .inr rfl) (g_split (gv 0) g_str)) (gs_cons (gs_set (i := 2) hN rfl (by first | exact .inl rfl | exact .inr rfl) (g_dispS (l := [("in", 1), ("set", 1), ("neg", 1), ("+", 2), ("-", 2), ("*", 2)]) (pps_cons pe_str pe_int (pps_cons pe_str pe_int (pps_cons pe_str pe_int (pps_cons pe_str pe_int (pps_cons pe_str pe_int (pps_cons pe_str pe_int pps_nil)))))) (by rfl) (by rfl) (by exact nofun) (by decide) (by decide))) (gs_cons (gs_set (i := 3) hN rfl (by first | exact .inl rfl | exact .inr rfl) (g_call F_numbers_of (hr.mono (by decide)) (ga_cons (g_slice (gv 1) (go_some g_int) go_none) ga_nil))) (gs_cons (gs_if (GW.gt (gw_or (gt_dnotinK hu (g_ix (gv 1) g_int) (gv 2)) (gw_or (gt_cmp (gc_isN (gv 3))) (gw_or1 (gt_cmp (gc_ne hu (g_callB cl_len bg_len rfl T.len boot_len (ga_cons (gv 3) ga_nil)) (g_dgetK hu (gv 2) (g_ix (gv 1) g_int)))))))) (gs_one (gs_ret g_non)) gs_nil) (gs_one (gs_ret (g_add (g_tup (ga_cons (g_ix (gv 1) g_int) ga_nil)) (gv 3))))))))⟩) (vc_read_step)
abbrev st_read_head : Stmt := PySem.Challenge.pw_rowsback_k82_whole_rows_made_of_rows.main.body.getD 70 (.Pass ⟨0, 0, 0, 0⟩)
theorem sc_read_head : FnScope N_read_head ["line"] (defScope st_read_head) := ⟨by rfl, by rfl, by rfl, by decide +kernel, by rfl, by decide +kernel, by decide +kernel⟩
theorem d_read_head {P : Program} {w : World} {K : PySem.W.Frag} {mg : Str → Option Value} {base : Heap} {C : Addr} (T : Top K mg C) (F_numbers_of : Fn P w K mg base 2 "numbers_of" ["words"] sp_numbers_of) (hh : Here K mg "read_head" st_read_head ["line"]) : Fn P w K mg base 3 "read_head" ["line"] sp_read_head :=
  hh.fn sc_read_head (w_read_head) (fun f cdv A outer s H E hr => by
    have hc : (cxOf CX0 P w K mg base N_read_head "read_head" (defScope st_read_head) f cdv A outer s H E).nox.calm = true := rfl
    have hN : (cxOf CX0 P w K mg base N_read_head "read_head" (defScope st_read_head) f cdv A outer s H E).nox.N.Nodup := sc_read_head.nd
    have hu : (cxOf CX0 P w K mg base N_read_head "read_head" (defScope st_read_head) f cdv A outer s H E).nox.A.units + 64 < cLine := hr.units
    exact ⟨_, (gs_cons (gs_set (i := 1) hN rfl (by first | exact .inl rfl | exact .inr rfl) (g_split (gv 0) g_str)) (gs_cons (gs_set (i := 2) hN rfl (by first | exact .inl rfl | exact .inr rfl) (g_call F_numbers_of (hr.mono (by decide)) (ga_cons (g_slice (gv 1) (go_some g_int) go_none) ga_nil))) (gs_one (gs_ret (g_ifE (GW.gt (gw_and (gt_cmp (gc_eq hu (g_ix (gv 1) g_int) g_str)) (gw_and (gt_cmp (gc_notN (gv 2))) (gw_and1 (gt_cmp (gc_eq hu (g_callB cl_len bg_len rfl T.len boot_len (ga_cons (gv 2) ga_nil)) g_int)))))) (g_ix (gv 2) g_int) g_non)))))⟩) (vc_read_head)
abbrev st_read_ends : Stmt := PySem.Challenge.pw_rowsback_k82_whole_rows_made_of_rows.main.body.getD 71 (.Pass ⟨0, 0, 0, 0⟩)
theorem sc_read_ends : FnScope N_read_ends ["line"] (defScope st_read_ends) := ⟨by rfl, by rfl, by rfl, by decide +kernel, by rfl, by decide +kernel, by decide +kernel⟩
theorem d_read_ends {P : Program} {w : World} {K : PySem.W.Frag} {mg : Str → Option Value} {base : Heap} {C : Addr} (T : Top K mg C) (F_numbers_of : Fn P w K mg base 2 "numbers_of" ["words"] sp_numbers_of) (hh : Here K mg "read_ends" st_read_ends ["line"]) : Fn P w K mg base 3 "read_ends" ["line"] sp_read_ends :=
  hh.fn sc_read_ends (w_read_ends) (fun f cdv A outer s H E hr => by
    have hc : (cxOf CX0 P w K mg base N_read_ends "read_ends" (defScope st_read_ends) f cdv A outer s H E).nox.calm = true := rfl
    have hN : (cxOf CX0 P w K mg base N_read_ends "read_ends" (defScope st_read_ends) f cdv A outer s H E).nox.N.Nodup := sc_read_ends.nd
    have hu : (cxOf CX0 P w K mg base N_read_ends "read_ends" (defScope st_read_ends) f cdv A outer s H E).nox.A.units + 64 < cLine := hr.units
    exact ⟨_, (gs_cons (gs_set (i := 1) hN rfl (by first | exact .inl rfl | exact .inr rfl) (g_split (gv 0) g_str)) (gs_one (gs_ret (g_ifE (GW.gt (gw_and (gt_cmp (gc_eq hu (g_ix (gv 1) g_int) g_str)) (gw_and1 (gt_cmp (gc_gt (g_callB cl_len bg_len rfl T.len boot_len (ga_cons (gv 1) ga_nil)) g_int))))) (g_call F_numbers_of (hr.mono (by decide)) (ga_cons (g_slice (gv 1) (go_some g_int) go_none) ga_nil)) g_non))))⟩) (vc_read_ends)
abbrev st_read_row : Stmt := PySem.Challenge.pw_rowsback_k82_whole_rows_made_of_rows.main.body.getD 72 (.Pass ⟨0, 0, 0, 0⟩)
theorem sc_read_row : FnScope N_read_row ["value"] (defScope st_read_row) := ⟨by rfl, by rfl, by rfl, by decide +kernel, by rfl, by decide +kernel, by decide +kernel⟩
theorem d_read_row {P : Program} {w : World} {K : PySem.W.Frag} {mg : Str → Option Value} {base : Heap} {C : Addr} (T : Top K mg C) (F_long_error : Fn P w K mg base 4 "long_error" ["value"] sp_long_error) (F_read_ends : Fn P w K mg base 3 "read_ends" ["line"] sp_read_ends) (F_read_head : Fn P w K mg base 3 "read_head" ["line"] sp_read_head) (F_read_step : Fn P w K mg base 3 "read_step" ["line"] sp_read_step) (hh : Here K mg "read_row" st_read_row ["value"]) : Fn P w K mg base 5 "read_row" ["value"] sp_read_row :=
  hh.fn sc_read_row (w_read_row) (fun f cdv A outer s H E hr => by
    have hc : (cxOf CX0 P w K mg base N_read_row "read_row" (defScope st_read_row) f cdv A outer s H E).nox.calm = true := rfl
    have hN : (cxOf CX0 P w K mg base N_read_row "read_row" (defScope st_read_row) f cdv A outer s H E).nox.N.Nodup := sc_read_row.nd
    have hu : (cxOf CX0 P w K mg base N_read_row "read_row" (defScope st_read_row) f cdv A outer s H E).nox.A.units + 64 < cLine := hr.units
    exact ⟨_, (gs_cons (gs_if (gt_not (gt_val (g_isi (gv 0) rfl T.isinstance rfl T.str boot_str))) (gs_one gs_never) gs_nil) (gs_cons (gs_set (i := 1) hN rfl (by first | exact .inl rfl | exact .inr rfl) (g_split (gv 0) g_str)) (gs_cons (gs_par (i := 2) (j := 3) hc hN rfl rfl (by decide) rfl rfl (ga_cons (g_call F_read_head (hr.mono (by decide)) (ga_cons (g_ix (gv 1) g_int) ga_nil)) (ga_cons (g_lst ga_nil) ga_nil)) (by rfl)) (gs_cons (gs_if (gt_cmp (gc_isN (gv 2))) (gs_one gs_never) gs_nil) (gs_cons (gs_for PassesOwn.never hc (gi_rng2 rfl T.range (ga_cons g_int (ga_cons (g_sub (g_callB cl_len bg_len rfl T.len boot_len (ga_cons (gv 1) ga_nil)) g_int) ga_nil))) (gg_name hN rfl (by first | exact .inl rfl | exact .inr rfl)) (gs_cons (gs_set (i := 5) hN rfl (by first | exact .inl rfl | exact .inr rfl) (g_call F_read_step (hr.mono (by decide)) (ga_cons (g_ix (gv 1) (gv 4)) ga_nil))) (gs_cons (gs_if (gt_cmp (gc_isN (gv 5))) (gs_one gs_never) gs_nil) (gs_one (gs_expr (g_appL (gv 3) (gv 5))))))) (gs_cons (gs_set (i := 6) hN rfl (by first | exact .inl rfl | exact .inr rfl) (g_ifE (gt_cmp (gc_gt (g_callB cl_len bg_len rfl T.len boot_len (ga_cons (gv 1) ga_nil)) g_int)) (g_call F_read_ends (hr.mono (by decide)) (ga_cons (g_ix (gv 1) (g_neg g_int)) ga_nil)) g_non)) (gs_cons (gs_if (gt_cmp (gc_isN (gv 6))) (gs_one gs_never) gs_nil) (gs_cons (gs_set (i := 7) hN rfl (by first | exact .inl rfl | exact .inr rfl) (g_tup (ga_cons (gv 2) (ga_cons (g_callTy call_tuple_of bg_tuple rfl T.tuple boot_tuple (ga_cons (gv 3) ga_nil)) (ga_cons (gv 6) ga_nil))))) (gs_cons (gs_set (i := 8) hN rfl (by first | exact .inl rfl | exact .inr rfl) (g_call F_long_error (hr.mono (by decide)) (ga_cons (gv 7) ga_nil))) (gs_cons (gs_if (gt_cmp (gc_notN (gv 8))) (gs_one gs_never) gs_nil) (gs_one (gs_ret (gv 7)))))))))))))⟩) (vc_read_row)
end G
set_option maxRecDepth 100000
set_option maxHeartbeats 4000000
namespace G
open PySem PySem.Spec PyProof.Rows L2
abbrev st__law_one : Stmt := PySem.Challenge.pw_rowsback_k82_whole_rows_made_of_rows.main.body.getD 76 (.Pass ⟨0, 0, 0, 0⟩)
theorem sc__law_one : FnScope N__law_one ["_law_deck_here", "_law_items"] (defScope st__law_one) := ⟨by rfl, by rfl, by rfl, by decide +kernel, by rfl, by decide +kernel, by decide +kernel⟩
theorem d__law_one {P : Program} {w : World} {K : PySem.W.Frag} {mg : Str → Option Value} {base : Heap} {C : Addr} (T : Top K mg C) (F__law_draw : Fn P w K mg base 1 "_law_draw" ["_law_deck_here", "_law_many"] sp__law_draw) (hh : Here K mg "_law_one" st__law_one ["_law_deck_here", "_law_items"]) : Fn P w K mg base 2 "_law_one" ["_law_deck_here", "_law_items"] sp__law_one :=
  hh.fn sc__law_one (w__law_one) (fun f cdv A outer s H E hr => by
    have hc : (cxOf CX0 P w K mg base N__law_one "_law_one" (defScope st__law_one) f cdv A outer s H E).nox.calm = true := rfl
    have hN : (cxOf CX0 P w K mg base N__law_one "_law_one" (defScope st__law_one) f cdv A outer s H E).nox.N.Nodup := sc__law_one.nd
    have hu : (cxOf CX0 P w K mg base N__law_one "_law_one" (defScope st__law_one) f cdv A outer s H E).nox.A.units + 64 < cLine := hr.units
    exact ⟨_, (gs_one (gs_ret (g_ix (gv 1) (g_call F__law_draw (hr.mono (by decide)) (ga_cons (gv 0) (ga_cons (g_callB cl_len bg_len rfl T.len boot_len (ga_cons (gv 1) ga_nil)) ga_nil))))))⟩) (vc__law_one)
abbrev st__law_far : Stmt := PySem.Challenge.pw_rowsback_k82_whole_rows_made_of_rows.main.body.getD 77 (.Pass ⟨0, 0, 0, 0⟩)
theorem sc__law_far : FnScope N__law_far ["_law_deck_here", "_law_many"] (defScope st__law_far) := ⟨by rfl, by rfl, by rfl, by decide +kernel, by rfl, by decide +kernel, by decide +kernel⟩
theorem d__law_far {P : Program} {w : World} {K : PySem.W.Frag} {mg : Str → Option Value} {base : Heap} {C : Addr} (T : Top K mg C) (F__law_draw : Fn P w K mg base 1 "_law_draw" ["_law_deck_here", "_law_many"] sp__law_draw) (hh : Here K mg "_law_far" st__law_far ["_law_deck_here", "_law_many"]) : Fn P w K mg base 2 "_law_far" ["_law_deck_here", "_law_many"] sp__law_far :=
  hh.fn sc__law_far (w__law_far) (fun f cdv A outer s H E hr => by
    have hc : (cxOf CX0 P w K mg base N__law_far "_law_far" (defScope st__law_far) f cdv A outer s H E).nox.calm = true := rfl
    have hN : (cxOf CX0 P w K mg base N__law_far "_law_far" (defScope st__law_far) f cdv A outer s H E).nox.N.Nodup := sc__law_far.nd
    have hu : (cxOf CX0 P w K mg base N__law_far "_law_far" (defScope st__law_far) f cdv A outer s H E).nox.A.units + 64 < cLine := hr.units
    exact ⟨_, (gs_cons (gs_set (i := 2) hN rfl (by first | exact .inl rfl | exact .inr rfl) g_int) (gs_cons (gs_for PassesOwn.never hc (gi_rng1 rfl T.range (ga_cons g_int ga_nil)) (gg_name hN rfl (by first | exact .inl rfl | exact .inr rfl)) (gs_one (gs_set (i := 2) hN rfl (by first | exact .inl rfl | exact .inr rfl) (g_add (g_mul (gv 2) g_int) (g_call F__law_draw (hr.mono (by decide)) (ga_cons (gv 0) (ga_cons g_int ga_nil))))))) (gs_one (gs_ret (g_mod (g_callTy cl_int bg_int rfl T.int boot_int (ga_cons (gv 2) ga_nil)) (gv 1))))))⟩) (vc__law_far)
abbrev st__law_number : Stmt := PySem.Challenge.pw_rowsback_k82_whole_rows_made_of_rows.main.body.getD 78 (.Pass ⟨0, 0, 0, 0⟩)
theorem sc__law_number : FnScope N__law_number ["_law_deck_here"] (defScope st__law_number) := ⟨by rfl, by rfl, by rfl, by decide +kernel, by rfl, by decide +kernel, by decide +kernel⟩
theorem d__law_number {P : Program} {w : World} {K : PySem.W.Frag} {mg : Str → Option Value} {base : Heap} {C : Addr} (T : Top K mg C) (F__law_far : Fn P w K mg base 2 "_law_far" ["_law_deck_here", "_law_many"] sp__law_far) (F__law_one : Fn P w K mg base 2 "_law_one" ["_law_deck_here", "_law_items"] sp__law_one) (hh : Here K mg "_law_number" st__law_number ["_law_deck_here"]) : Fn P w K mg base 3 "_law_number" ["_law_deck_here"] sp__law_number :=
  hh.fn sc__law_number (w__law_number) (fun f cdv A outer s H E hr => by
    have hc : (cxOf CX0 P w K mg base N__law_number "_law_number" (defScope st__law_number) f cdv A outer s H E).nox.calm = true := rfl
    have hN : (cxOf CX0 P w K mg base N__law_number "_law_number" (defScope st__law_number) f cdv A outer s H E).nox.N.Nodup := sc__law_number.nd
    have hu : (cxOf CX0 P w K mg base N__law_number "_law_number" (defScope st__law_number) f cdv A outer s H E).nox.A.units + 64 < cLine := hr.units
    exact ⟨_, (gs_cons (gs_set (i := 1) hN rfl (by first | exact .inl rfl | exact .inr rfl) (g_call F__law_one (hr.mono (by decide)) (ga_cons (gv 0) (ga_cons (g_lst (ga_cons g_int (ga_cons g_int (ga_cons g_int (ga_cons (g_pow g_int g_int) (ga_cons (g_pow g_int g_int) ga_nil)))))) ga_nil)))) (gs_one (gs_ret (g_mul (g_call F__law_one (hr.mono (by decide)) (ga_cons (gv 0) (ga_cons (g_lst (ga_cons g_int (ga_cons (g_neg g_int) ga_nil))) ga_nil))) (g_call F__law_far (hr.mono (by decide)) (ga_cons (gv 0) (ga_cons (g_add (gv 1) g_int) ga_nil)))))))⟩) (vc__law_number)
abbrev st__law_point : Stmt := PySem.Challenge.pw_rowsback_k82_whole_rows_made_of_rows.main.body.getD 79 (.Pass ⟨0, 0, 0, 0⟩)
theorem sc__law_point : FnScope N__law_point ["_law_deck_here", "_law_inputs"] (defScope st__law_point) := ⟨by rfl, by rfl, by rfl, by decide +kernel, by rfl, by decide +kernel, by decide +kernel⟩
theorem d__law_point {P : Program} {w : World} {K : PySem.W.Frag} {mg : Str → Option Value} {base : Heap} {C : Addr} (T : Top K mg C) (F__law_draw : Fn P w K mg base 1 "_law_draw" ["_law_deck_here", "_law_many"] sp__law_draw) (F__law_number : Fn P w K mg base 3 "_law_number" ["_law_deck_here"] sp__law_number) (hh : Here K mg "_law_point" st__law_point ["_law_deck_here", "_law_inputs"]) : Fn P w K mg base 4 "_law_point" ["_law_deck_here", "_law_inputs"] sp__law_point :=
  hh.fn sc__law_point (w__law_point) (fun f cdv A outer s H E hr => by
    have hc : (cxOf CX0 P w K mg base N__law_point "_law_point" (defScope st__law_point) f cdv A outer s H E).nox.calm = true := rfl
    have hN : (cxOf CX0 P w K mg base N__law_point "_law_point" (defScope st__law_point) f cdv A outer s H E).nox.N.Nodup := sc__law_point.nd
    have hu : (cxOf CX0 P w K mg base N__law_point "_law_point" (defScope st__law_point) f cdv A outer s H E).nox.A.units + 64 < cLine := hr.units
    exact ⟨_, (gs_cons (gs_if (gt_cmp (gc_eq hu (g_call F__law_draw (hr.mono (by decide)) (ga_cons (gv 0) (ga_cons g_int ga_nil))) g_int)) (gs_one (gs_ret (g_callTy call_tuple_of bg_tuple rfl T.tuple boot_tuple (ga_cons (g_lc hc hN (gi_rng1 rfl T.range (ga_cons (gv 1) ga_nil)) (own := [("_law_k", 2)]) (tt := tYes) (te := (tOp (rI0 fun i j => .int (i - j)) (tCall (toSp K sp__law_draw) [] E0 (tCons (tVar 0) (tCons (tC (.int 9)) tNil))) (tC (.int 4)))) (g := (gName 2)) (show BlkOk N__law_point (defScope st__law_point) _ [("_law_k", 2)] from ⟨by rfl, by decide +kernel, by decide +kernel, by decide +kernel, by decide +kernel⟩) (fun _ _ _ _ _ => (gg_name hN rfl (by first | exact .inl rfl | exact .inr rfl))) (fun _ _ _ _ _ => gts_nil) (fun _ _ _ _ _ => (g_sub (g_call F__law_draw (hr.mono (by decide)) (ga_cons (gv 0) (ga_cons g_int ga_nil))) g_int))) ga_nil)))) gs_nil) (gs_one (gs_ret (g_callTy call_tuple_of bg_tuple rfl T.tuple boot_tuple (ga_cons (g_lc hc hN (gi_rng1 rfl T.range (ga_cons (gv 1) ga_nil)) (own := [("_law_k", 2)]) (tt := tYes) (te := (tCall (toSp K sp__law_number) [] E0 (tCons (tVar 0) tNil))) (g := (gName 2)) (show BlkOk N__law_point (defScope st__law_point) _ [("_law_k", 2)] from ⟨by rfl, by decide +kernel, by decide +kernel, by decide +kernel, by decide +kernel⟩) (fun _ _ _ _ _ => (gg_name hN rfl (by first | exact .inl rfl | exact .inr rfl))) (fun _ _ _ _ _ => gts_nil) (fun _ _ _ _ _ => (g_call F__law_number (hr.mono (by decide)) (ga_cons (gv 0) ga_nil)))) ga_nil)))))⟩) (vc__law_point)
abbrev st__law_size : Stmt := PySem.Challenge.pw_rowsback_k82_whole_rows_made_of_rows.main.body.getD 80 (.Pass ⟨0, 0, 0, 0⟩)
theorem sc__law_size : FnScope N__law_size ["_law_step", "_law_found"] (defScope st__law_size) := ⟨by rfl, by rfl, by rfl, by decide +kernel, by rfl, by decide +kernel, by decide +kernel⟩
theorem d__law_size {P : Program} {w : World} {K : PySem.W.Frag} {mg : Str → Option Value} {base : Heap} {C : Addr} (T : Top K mg C) (hh : Here K mg "_law_size" st__law_size ["_law_step", "_law_found"]) : Fn P w K mg base 1 "_law_size" ["_law_step", "_law_found"] sp__law_size :=
  hh.fn sc__law_size (w__law_size) (fun f cdv A outer s H E hr => by
    have hc : (cxOf CX0 P w K mg base N__law_size "_law_size" (defScope st__law_size) f cdv A outer s H E).nox.calm = true := rfl
    have hN : (cxOf CX0 P w K mg base N__law_size "_law_size" (defScope st__law_size) f cdv A outer s H E).nox.N.Nodup := sc__law_size.nd
    have hu : (cxOf CX0 P w K mg base N__law_size "_law_size" (defScope st__law_size) f cdv A outer s H E).nox.A.units + 64 < cLine := hr.units
    exact ⟨_, (gs_cons (gs_if (gt_cmp (gc_in (g_ix (gv 0) g_int) (g_tup (ga_cons g_str (ga_cons g_str ga_nil))))) (gs_one (gs_ret g_int)) gs_nil) (gs_cons (gs_if (gt_cmp (gc_eq hu (g_ix (gv 0) g_int) g_str)) (gs_one (gs_ret (g_ix (gv 1) (g_ix (gv 0) g_int)))) gs_nil) (gs_one (gs_ret (g_ifE (gt_cmp (gc_eq hu (g_ix (gv 0) g_int) g_str)) (g_add (g_ix (gv 1) (g_ix (gv 0) g_int)) (g_ix (gv 1) (g_ix (gv 0) g_int))) (g_callB (call_max2 hc) bg_max2 rfl T.max boot_max (ga_cons (g_callTy cl_int bg_int rfl T.int boot_int (ga_cons (g_ix (gv 1) (g_ix (gv 0) g_int)) ga_nil)) (ga_cons (g_callTy cl_int bg_int rfl T.int boot_int (ga_cons (g_ix (gv 1) (g_ix (gv 0) g_int)) ga_nil)) ga_nil))))))))⟩) (vc__law_size)
abbrev st__law_row : Stmt := PySem.Challenge.pw_rowsback_k82_whole_rows_made_of_rows.main.body.getD 81 (.Pass ⟨0, 0, 0, 0⟩)
theorem sc__law_row : FnScope N__law_row ["_law_deck_here", "_law_inputs", "_law_many", "_law_most"] (defScope st__law_row) := ⟨by rfl, by rfl, by rfl, by decide +kernel, by rfl, by decide +kernel, by decide +kernel⟩
theorem d__law_row {P : Program} {w : World} {K : PySem.W.Frag} {mg : Str → Option Value} {base : Heap} {C : Addr} (T : Top K mg C) (F__law_draw : Fn P w K mg base 1 "_law_draw" ["_law_deck_here", "_law_many"] sp__law_draw) (F__law_one : Fn P w K mg base 2 "_law_one" ["_law_deck_here", "_law_items"] sp__law_one) (F__law_size : Fn P w K mg base 1 "_law_size" ["_law_step", "_law_found"] sp__law_size) (hh : Here K mg "_law_row" st__law_row ["_law_deck_here", "_law_inputs", "_law_many", "_law_most"]) : Fn P w K mg base 3 "_law_row" ["_law_deck_here", "_law_inputs", "_law_many", "_law_most"] sp__law_row :=
  hh.fn sc__law_row (w__law_row) (fun f cdv A outer s H E hr => by
    have hc : (cxOf CX0 P w K mg base N__law_row "_law_row" (defScope st__law_row) f cdv A outer s H E).nox.calm = true := rfl
    have hN : (cxOf CX0 P w K mg base N__law_row "_law_row" (defScope st__law_row) f cdv A outer s H E).nox.N.Nodup := sc__law_row.nd
    have hu : (cxOf CX0 P w K mg base N__law_row "_law_row" (defScope st__law_row) f cdv A outer s H E).nox.A.units + 64 < cLine := hr.units
    exact ⟨_, (gs_cons (gs_parC (i := 4) (j := 5) hc hN rfl rfl (by first | exact .inl rfl | exact .inr rfl) (by first | exact .inl rfl | exact .inr rfl) (ga_cons (g_lst ga_nil) (ga_cons (g_lst ga_nil) ga_nil))) (gs_cons (gs_for PassesOwn.never hc (gi_rng1 rfl T.range (ga_cons (g_add g_int (g_call F__law_draw (hr.mono (by decide)) (ga_cons (gv 0) (ga_cons (gv 2) ga_nil)))) ga_nil)) (gg_name hN rfl (by first | exact .inl rfl | exact .inr rfl)) (gs_cons (gs_set (i := 7) hN rfl (by first | exact .inl rfl | exact .inr rfl) (g_call F__law_one (hr.mono (by decide)) (ga_cons (gv 0) (ga_cons (g_lst (ga_cons g_str (ga_cons g_str (ga_cons g_str (ga_cons g_str (ga_cons g_str (ga_cons g_str (ga_cons g_str (ga_cons g_str (ga_cons g_str (ga_cons g_str (ga_cons g_str ga_nil)))))))))))) ga_nil)))) (gs_cons (gs_if (GW.gt (gw_and (gt_cmp (gc_lt (gv 6) (gv 1))) (gw_and1 (gt_cmp (gc_gt (g_call F__law_draw (hr.mono (by decide)) (ga_cons (gv 0) (ga_cons g_int ga_nil))) g_int))))) (gs_one (gs_set (i := 7) hN rfl (by first | exact .inl rfl | exact .inr rfl) g_str)) gs_nil) (gs_cons (gs_set (i := 8) hN rfl (by first | exact .inl rfl | exact .inr rfl) (g_tup (ga_cons g_str (ga_cons (g_sub (g_call F__law_draw (hr.mono (by decide)) (ga_cons (gv 0) (ga_cons g_int ga_nil))) g_int) ga_nil)))) (gs_cons (gs_if (GW.gt (gw_and (gt_cmp (gc_eq hu (gv 7) g_str)) (gw_and1 (gt_cmp (gc_gt (gv 1) g_int))))) (gs_one (gs_set (i := 8) hN rfl (by first | exact .inl rfl | exact .inr rfl) (g_tup (ga_cons g_str (ga_cons (g_ifE (gt_cmp (gc_lt (gv 6) (gv 1))) (gv 6) (g_call F__law_draw (hr.mono (by decide)) (ga_cons (gv 0) (ga_cons (gv 1) ga_nil)))) ga_nil))))) gs_nil) (gs_cons (gs_if (GW.gt (gw_and (gt_cmp (gc_eq hu (gv 7) g_str)) (gw_and1 (gt_cmp (gc_gt (gv 6) g_int))))) (gs_one (gs_set (i := 8) hN rfl (by first | exact .inl rfl | exact .inr rfl) (g_tup (ga_cons g_str (ga_cons (g_call F__law_draw (hr.mono (by decide)) (ga_cons (gv 0) (ga_cons (gv 6) ga_nil))) ga_nil))))) gs_nil) (gs_cons (gs_if (GW.gt (gw_and (gt_cmp (gc_in (gv 7) (g_tup (ga_cons g_str (ga_cons g_str (ga_cons g_str ga_nil)))))) (gw_and1 (gt_cmp (gc_gt (gv 6) g_int))))) (gs_one (gs_set (i := 8) hN rfl (by first | exact .inl rfl | exact .inr rfl) (g_tup (ga_cons (gv 7) (ga_cons (g_call F__law_draw (hr.mono (by decide)) (ga_cons (gv 0) (ga_cons (gv 6) ga_nil))) (ga_cons (g_sub (g_sub (gv 6) g_int) (g_call F__law_draw (hr.mono (by decide)) (ga_cons (gv 0) (ga_cons (g_callB (call_min2 hc) bg_min2 rfl T.min boot_min (ga_cons (gv 6) (ga_cons g_int ga_nil))) ga_nil)))) ga_nil)))))) gs_nil) (gs_cons (gs_if (gt_cmp (gc_gt (g_call F__law_size (hr.mono (by decide)) (ga_cons (gv 8) (ga_cons (gv 5) ga_nil))) (gv 3))) (gs_one (gs_set (i := 8) hN rfl (by first | exact .inl rfl | exact .inr rfl) (g_add (g_tup (ga_cons g_str ga_nil)) (g_slice (gv 8) (go_some g_int) go_none)))) gs_nil) (gs_cons (gs_expr (g_appL (gv 4) (gv 8))) (gs_one (gs_expr (g_appL (gv 5) (g_call F__law_size (hr.mono (by decide)) (ga_cons (gv 8) (ga_cons (gv 5) ga_nil))))))))))))))) (gs_cons (gs_set (i := 9) hN rfl (by first | exact .inl rfl | exact .inr rfl) (g_cat (g_lst (ga_cons (g_sub (g_callB cl_len bg_len rfl T.len boot_len (ga_cons (gv 4) ga_nil)) g_int) ga_nil)) (g_lc hc hN (gi_rng1 rfl T.range (ga_cons (g_call F__law_draw (hr.mono (by decide)) (ga_cons (gv 0) (ga_cons g_int ga_nil))) ga_nil)) (own := [("_law_k", 10)]) (tt := tYes) (te := (tCall (toSp K sp__law_draw) [] E0 (tCons (tVar 0) (tCons (tCB (rLen K) (tCons (tVar 4) tNil)) tNil)))) (g := (gName 10)) (show BlkOk N__law_row (defScope st__law_row) _ [("_law_k", 10)] from ⟨by rfl, by decide +kernel, by decide +kernel, by decide +kernel, by decide +kernel⟩) (fun _ _ _ _ _ => (gg_name hN rfl (by first | exact .inl rfl | exact .inr rfl))) (fun _ _ _ _ _ => gts_nil) (fun _ _ _ _ _ => (g_call F__law_draw (hr.mono (by decide)) (ga_cons (gv 0) (ga_cons (g_callB cl_len bg_len rfl T.len boot_len (ga_cons (gv 4) ga_nil)) ga_nil))))))) (gs_one (gs_ret (g_tup (ga_cons (gv 1) (ga_cons (g_callTy call_tuple_of bg_tuple rfl T.tuple boot_tuple (ga_cons (gv 4) ga_nil)) (ga_cons (g_callTy call_tuple_of bg_tuple rfl T.tuple boot_tuple (ga_cons (gv 9) ga_nil)) ga_nil)))))))))⟩) (vc__law_row)
abbrev st__law_fed_right : Stmt := PySem.Challenge.pw_rowsback_k82_whole_rows_made_of_rows.main.body.getD 82 (.Pass ⟨0, 0, 0, 0⟩)
theorem sc__law_fed_right : FnScope N__law_fed_right ["_law_deck_here", "_law_one_here", "_law_other"] (defScope st__law_fed_right) := ⟨by rfl, by rfl, by rfl, by decide +kernel, by rfl, by decide +kernel, by decide +kernel⟩
theorem d__law_fed_right {P : Program} {w : World} {K : PySem.W.Frag} {mg : Str → Option Value} {base : Heap} {C : Addr} (T : Top K mg C) (F__law_draw : Fn P w K mg base 1 "_law_draw" ["_law_deck_here", "_law_many"] sp__law_draw) (F_backward : Fn P w K mg base 4 "backward" ["row"] sp_backward) (F_fed : Fn P w K mg base 4 "fed" ["one", "other"] sp_fed) (F_hangs : Fn P w K mg base 7 "hangs" ["row"] sp_hangs) (F_polys : Fn P w K mg base 6 "polys" ["row"] sp_polys) (F_rates_at : Fn P w K mg base 3 "rates_at" ["row", "point"] sp_rates_at) (F_rates_fed : Fn P w K mg base 4 "rates_fed" ["row", "other", "point"] sp_rates_fed) (F_read_row : Fn P w K mg base 5 "read_row" ["value"] sp_read_row) (F_row_text : Fn P w K mg base 2 "row_text" ["row"] sp_row_text) (F_same : Fn P w K mg base 7 "same" ["one", "other"] sp_same) (F_slim : Fn P w K mg base 3 "slim" ["row"] sp_slim) (F_swept : Fn P w K mg base 4 "swept" ["row", "point", "weights"] sp_swept) (F_told : Fn P w K mg base 3 "told" ["row", "point"] sp_told) (F_value_of : Fn P w K mg base 2 "value_of" ["poly", "numbers"] sp_value_of) (hh : Here K mg "_law_fed_right" st__law_fed_right ["_law_deck_here", "_law_one_here", "_law_other"]) : Fn P w K mg base 8 "_law_fed_right" ["_law_deck_here", "_law_one_here", "_law_other"] sp__law_fed_right :=
  hh.fn sc__law_fed_right (w__law_fed_right) (fun f cdv A outer s H E hr => by
    have hc : (cxOf CX0 P w K mg base N__law_fed_right "_law_fed_right" (defScope st__law_fed_right) f cdv A outer s H E).nox.calm = true := rfl
    have hN : (cxOf CX0 P w K mg base N__law_fed_right "_law_fed_right" (defScope st__law_fed_right) f cdv A outer s H E).nox.N.Nodup := sc__law_fed_right.nd
    have hu : (cxOf CX0 P w K mg base N__law_fed_right "_law_fed_right" (defScope st__law_fed_right) f cdv A outer s H E).nox.A.units + 64 < cLine := hr.units
    exact ⟨_, (gs_cons (gs_parC (i := 3) (j := 4) hc hN rfl rfl (by first | exact .inl rfl | exact .inr rfl) (by first | exact .inl rfl | exact .inr rfl) (ga_cons (g_call F_fed (hr.mono (by decide)) (ga_cons (gv 1) (ga_cons (gv 2) ga_nil))) (ga_cons (g_callTy call_tuple_of bg_tuple rfl T.tuple boot_tuple (ga_cons (g_lc hc hN (gi_rng1 rfl T.range (ga_cons (g_ix (gv 1) g_int) ga_nil)) (own := [("_law_k", 10)]) (tt := tYes) (te := (tOp (rI0 fun i j => .int (i - j)) (tCall (toSp K sp__law_draw) [] E0 (tCons (tVar 0) (tCons (tC (.int 9)) tNil))) (tC (.int 4)))) (g := (gName 10)) (show BlkOk N__law_fed_right (defScope st__law_fed_right) _ [("_law_k", 10)] from ⟨by rfl, by decide +kernel, by decide +kernel, by decide +kernel, by decide +kernel⟩) (fun _ _ _ _ _ => (gg_name hN rfl (by first | exact .inl rfl | exact .inr rfl))) (fun _ _ _ _ _ => gts_nil) (fun _ _ _ _ _ => (g_sub (g_call F__law_draw (hr.mono (by decide)) (ga_cons (gv 0) (ga_cons g_int ga_nil))) g_int))) ga_nil)) ga_nil))) (gs_cons (gs_par (i := 5) (j := 6) hc hN rfl rfl (by decide) rfl rfl (ga_cons (g_call F_told (hr.mono (by decide)) (ga_cons (gv 1) (ga_cons (gv 4) ga_nil))) (ga_cons (g_callTy call_tuple_of bg_tuple rfl T.tuple boot_tuple (ga_cons (g_lc hc hN (gi_tup (g_ix (gv 2) g_int)) (own := [("_law_end", 11)]) (tt := tYes) (te := (tOp (rI0 fun i j => .int (i - j)) (tCall (toSp K sp__law_draw) [] E0 (tCons (tVar 0) (tCons (tC (.int 9)) tNil))) (tC (.int 4)))) (g := (gName 11)) (show BlkOk N__law_fed_right (defScope st__law_fed_right) _ [("_law_end", 11)] from ⟨by rfl, by decide +kernel, by decide +kernel, by decide +kernel, by decide +kernel⟩) (fun _ _ _ _ _ => (gg_name hN rfl (by first | exact .inl rfl | exact .inr rfl))) (fun _ _ _ _ _ => gts_nil) (fun _ _ _ _ _ => (g_sub (g_call F__law_draw (hr.mono (by decide)) (ga_cons (gv 0) (ga_cons g_int ga_nil))) g_int))) ga_nil)) ga_nil)) (by rfl)) (gs_cons (gs_set (i := 7) hN rfl (by first | exact .inl rfl | exact .inr rfl) (g_call F_swept (hr.mono (by decide)) (ga_cons (gv 1) (ga_cons (gv 4) (ga_cons (g_call F_swept (hr.mono (by decide)) (ga_cons (gv 2) (ga_cons (gv 5) (ga_cons (gv 6) ga_nil)))) ga_nil))))) (gs_cons (gs_if (GW.gt (gw_or (gt_cmp (gc_ne hu (g_call F_told (hr.mono (by decide)) (ga_cons (gv 3) (ga_cons (gv 4) ga_nil))) (g_call F_told (hr.mono (by decide)) (ga_cons (gv 2) (ga_cons (gv 5) ga_nil))))) (gw_or1 (gt_cmp (gc_ne hu (g_call F_rates_at (hr.mono (by decide)) (ga_cons (gv 3) (ga_cons (gv 4) ga_nil))) (g_call F_rates_fed (hr.mono (by decide)) (ga_cons (gv 1) (ga_cons (gv 2) (ga_cons (gv 4) ga_nil))))))))) (gs_one (gs_ret g_bl)) gs_nil) (gs_cons (gs_if (GW.gt (gw_or (gt_cmp (gc_ne hu (g_call F_swept (hr.mono (by decide)) (ga_cons (gv 3) (ga_cons (gv 4) (ga_cons (gv 6) ga_nil)))) (gv 7))) (gw_or1 (gt_cmp (gc_ne hu (g_call F_told (hr.mono (by decide)) (ga_cons (g_call F_backward (hr.mono (by decide)) (ga_cons (gv 3) ga_nil)) (ga_cons (g_add (gv 4) (gv 6)) ga_nil))) (gv 7)))))) (gs_one (gs_ret g_bl)) gs_nil) (gs_cons (gs_par (i := 8) (j := 9) hc hN rfl rfl (by decide) rfl rfl (ga_cons (g_call F_slim (hr.mono (by decide)) (ga_cons (gv 3) ga_nil)) (ga_cons (g_call F_polys (hr.mono (by decide)) (ga_cons (gv 3) ga_nil)) ga_nil)) (by rfl)) (gs_cons (gs_if (GW.gt (gw_or (gt_not (gt_val (g_call F_same (hr.mono (by decide)) (ga_cons (gv 8) (ga_cons (gv 3) ga_nil))))) (gw_or (gt_cmp (gc_ne hu (g_call F_hangs (hr.mono (by decide)) (ga_cons (gv 8) ga_nil)) (g_call F_hangs (hr.mono (by decide)) (ga_cons (gv 3) ga_nil)))) (gw_or1 (gt_cmp (gc_ne hu (g_call F_swept (hr.mono (by decide)) (ga_cons (gv 8) (ga_cons (gv 4) (ga_cons (gv 6) ga_nil)))) (gv 7))))))) (gs_one (gs_ret g_bl)) gs_nil) (gs_cons (gs_if (gt_cmp (gc_ne hu (g_callTy call_tuple_of bg_tuple rfl T.tuple boot_tuple (ga_cons (g_lc hc hN (gi_tup (gv 9)) (own := [("_law_poly", 12)]) (tt := tYes) (te := (tCall (toSp K sp_value_of) [] E0 (tCons (tVar 12) (tCons (tVar 4) tNil)))) (g := (gName 12)) (show BlkOk N__law_fed_right (defScope st__law_fed_right) _ [("_law_poly", 12)] from ⟨by rfl, by decide +kernel, by decide +kernel, by decide +kernel, by decide +kernel⟩) (fun _ _ _ _ _ => (gg_name hN rfl (by first | exact .inl rfl | exact .inr rfl))) (fun _ _ _ _ _ => gts_nil) (fun _ _ _ _ _ => (g_call F_value_of (hr.mono (by decide)) (ga_cons (gv 12) (ga_cons (gv 4) ga_nil))))) ga_nil)) (g_call F_told (hr.mono (by decide)) (ga_cons (gv 8) (ga_cons (gv 4) ga_nil))))) (gs_one (gs_ret g_bl)) gs_nil) (gs_one (gs_ret (g_and (g_cmp (gc_eq hu (g_call F_read_row (hr.mono (by decide)) (ga_cons (g_call F_row_text (hr.mono (by decide)) (ga_cons (gv 3) ga_nil)) ga_nil)) (gv 3))) (g_one (g_cmp (gc_eq hu (g_call F_rates_at (hr.mono (by decide)) (ga_cons (gv 8) (ga_cons (gv 4) ga_nil))) (g_call F_rates_at (hr.mono (by decide)) (ga_cons (gv 3) (ga_cons (gv 4) ga_nil)))))))))))))))))⟩) (vc__law_fed_right)
abbrev st__law_beside_right : Stmt := PySem.Challenge.pw_rowsback_k82_whole_rows_made_of_rows.main.body.getD 83 (.Pass ⟨0, 0, 0, 0⟩)
theorem sc__law_beside_right : FnScope N__law_beside_right ["_law_deck_here", "_law_one_here", "_law_other"] (defScope st__law_beside_right) := ⟨by rfl, by rfl, by rfl, by decide +kernel, by rfl, by decide +kernel, by decide +kernel⟩
theorem d__law_beside_right {P : Program} {w : World} {K : PySem.W.Frag} {mg : Str → Option Value} {base : Heap} {C : Addr} (T : Top K mg C) (F__law_draw : Fn P w K mg base 1 "_law_draw" ["_law_deck_here", "_law_many"] sp__law_draw) (F__law_point : Fn P w K mg base 4 "_law_point" ["_law_deck_here", "_law_inputs"] sp__law_point) (F_beside : Fn P w K mg base 4 "beside" ["one", "other"] sp_beside) (F_rates_at : Fn P w K mg base 3 "rates_at" ["row", "point"] sp_rates_at) (F_swept : Fn P w K mg base 4 "swept" ["row", "point", "weights"] sp_swept) (F_told : Fn P w K mg base 3 "told" ["row", "point"] sp_told) (hh : Here K mg "_law_beside_right" st__law_beside_right ["_law_deck_here", "_law_one_here", "_law_other"]) : Fn P w K mg base 5 "_law_beside_right" ["_law_deck_here", "_law_one_here", "_law_other"] sp__law_beside_right :=
  hh.fn sc__law_beside_right (w__law_beside_right) (fun f cdv A outer s H E hr => by
    have hc : (cxOf CX0 P w K mg base N__law_beside_right "_law_beside_right" (defScope st__law_beside_right) f cdv A outer s H E).nox.calm = true := rfl
    have hN : (cxOf CX0 P w K mg base N__law_beside_right "_law_beside_right" (defScope st__law_beside_right) f cdv A outer s H E).nox.N.Nodup := sc__law_beside_right.nd
    have hu : (cxOf CX0 P w K mg base N__law_beside_right "_law_beside_right" (defScope st__law_beside_right) f cdv A outer s H E).nox.A.units + 64 < cLine := hr.units
    exact ⟨_, (gs_cons (gs_set (i := 3) hN rfl (by first | exact .inl rfl | exact .inr rfl) (g_call F_beside (hr.mono (by decide)) (ga_cons (gv 1) (ga_cons (gv 2) ga_nil)))) (gs_cons (gs_par (i := 4) (j := 5) hc hN rfl rfl (by decide) rfl rfl (ga_cons (g_call F__law_point (hr.mono (by decide)) (ga_cons (gv 0) (ga_cons (g_ix (gv 1) g_int) ga_nil))) (ga_cons (g_call F__law_point (hr.mono (by decide)) (ga_cons (gv 0) (ga_cons (g_ix (gv 2) g_int) ga_nil))) ga_nil)) (by rfl)) (gs_cons (gs_unl2 (i := 6) (j := 7) hc hN rfl rfl (by first | exact .inl rfl | exact .inr rfl) (by first | exact .inl rfl | exact .inr rfl) (g_lc hc hN (gi_tup (g_tup (ga_cons (gv 1) (ga_cons (gv 2) ga_nil)))) (own := [("_law_row_here", 10)]) (tt := tYes) (te := (tCB (rTuple K) (tCons (tLc (iTup K (tOp (rIx K) (tVar 10) (tC (.int 2)))) (gName 11) tYes (tOp (rI0 fun i j => .int (i - j)) (tCall (toSp K sp__law_draw) [] E0 (tCons (tVar 0) (tCons (tC (.int 9)) tNil))) (tC (.int 4))) [11]) tNil))) (g := (gName 10)) (show BlkOk N__law_beside_right (defScope st__law_beside_right) _ [("_law_row_here", 10)] from ⟨by rfl, by decide +kernel, by decide +kernel, by decide +kernel, by decide +kernel⟩) (fun _ _ _ _ _ => (gg_name hN rfl (by first | exact .inl rfl | exact .inr rfl))) (fun _ _ _ _ _ => gts_nil) (fun _ _ _ _ _ => (g_callTy call_tuple_of bg_tuple rfl T.tuple boot_tuple (ga_cons (g_lc hc hN (gi_tup (g_ix (gv 10) g_int)) (own := [("_law_end", 11)]) (tt := tYes) (te := (tOp (rI0 fun i j => .int (i - j)) (tCall (toSp K sp__law_draw) [] E0 (tCons (tVar 0) (tCons (tC (.int 9)) tNil))) (tC (.int 4)))) (g := (gName 11)) (BlkOk.nest (show BlkOk N__law_beside_right _ _ [("_law_end", 11)] from ⟨by rfl, by decide +kernel, by decide +kernel, by decide +kernel, by decide +kernel⟩)) (fun _ _ _ _ _ => (gg_name hN rfl (by first | exact .inl rfl | exact .inr rfl))) (fun _ _ _ _ _ => gts_nil) (fun _ _ _ _ _ => (g_sub (g_call F__law_draw (hr.mono (by decide)) (ga_cons (gv 0) (ga_cons g_int ga_nil))) g_int))) ga_nil))))) (gs_cons (gs_set (i := 8) hN rfl (by first | exact .inl rfl | exact .inr rfl) (g_add (g_call F_swept (hr.mono (by decide)) (ga_cons (gv 1) (ga_cons (gv 4) (ga_cons (gv 6) ga_nil)))) (g_call F_swept (hr.mono (by decide)) (ga_cons (gv 2) (ga_cons (gv 5) (ga_cons (gv 7) ga_nil)))))) (gs_cons (gs_if (gt_cmp (gc_ne hu (g_call F_swept (hr.mono (by decide)) (ga_cons (gv 3) (ga_cons (g_add (gv 4) (gv 5)) (ga_cons (g_add (gv 6) (gv 7)) ga_nil)))) (gv 8))) (gs_one (gs_ret g_bl)) gs_nil) (gs_cons (gs_if (gt_cmp (gc_ne hu (g_call F_told (hr.mono (by decide)) (ga_cons (gv 3) (ga_cons (g_add (gv 4) (gv 5)) ga_nil))) (g_add (g_call F_told (hr.mono (by decide)) (ga_cons (gv 1) (ga_cons (gv 4) ga_nil))) (g_call F_told (hr.mono (by decide)) (ga_cons (gv 2) (ga_cons (gv 5) ga_nil)))))) (gs_one (gs_ret g_bl)) gs_nil) (gs_cons (gs_setLc (i := 9) hc hN rfl rfl (by rfl) (gi_tup (g_call F_rates_at (hr.mono (by decide)) (ga_cons (gv 1) (ga_cons (gv 4) ga_nil)))) (own := [("_law_row_here", 10)]) (tt := tYes) (te := (tOp (rAddA K) (tVar 10) (tOp (rRepA K) (tTup (tCons (tC (.int 0)) tNil)) (tOp (rIx K) (tVar 2) (tC (.int 0)))))) (g := (gName 10)) (show BlkOk N__law_beside_right (defScope st__law_beside_right) _ [("_law_row_here", 10)] from ⟨by rfl, by decide +kernel, by decide +kernel, by decide +kernel, by decide +kernel⟩) (fun _ _ _ _ _ => (gg_name hN rfl (by first | exact .inl rfl | exact .inr rfl))) (fun _ _ _ _ _ => gts_nil) (fun _ _ _ _ _ => (g_add (gv 10) (g_rep (g_tup (ga_cons g_int ga_nil)) (g_ix (gv 2) g_int))))) (gs_one (gs_ret (g_cmp (gc_eq hu (g_call F_rates_at (hr.mono (by decide)) (ga_cons (gv 3) (ga_cons (g_add (gv 4) (gv 5)) ga_nil))) (g_callTy call_tuple_of bg_tuple rfl T.tuple boot_tuple (ga_cons (g_cat (gv 9) (g_lc hc hN (gi_tup (g_call F_rates_at (hr.mono (by decide)) (ga_cons (gv 2) (ga_cons (gv 5) ga_nil)))) (own := [("_law_row_here", 10)]) (tt := tYes) (te := (tOp (rAddA K) (tOp (rRepA K) (tTup (tCons (tC (.int 0)) tNil)) (tOp (rIx K) (tVar 1) (tC (.int 0)))) (tVar 10))) (g := (gName 10)) (show BlkOk N__law_beside_right (defScope st__law_beside_right) _ [("_law_row_here", 10)] from ⟨by rfl, by decide +kernel, by decide +kernel, by decide +kernel, by decide +kernel⟩) (fun _ _ _ _ _ => (gg_name hN rfl (by first | exact .inl rfl | exact .inr rfl))) (fun _ _ _ _ _ => gts_nil) (fun _ _ _ _ _ => (g_add (g_rep (g_tup (ga_cons g_int ga_nil)) (g_ix (gv 1) g_int)) (gv 10))))) ga_nil)))))))))))))⟩) (vc__law_beside_right)
abbrev st_law : Stmt := PySem.Challenge.pw_rowsback_k82_whole_rows_made_of_rows.main.body.getD 84 (.Pass ⟨0, 0, 0, 0⟩)
theorem sc_law : FnScope N_law ["_law_script"] (defScope st_law) := ⟨by rfl, by rfl, by rfl, by decide +kernel, by rfl, by decide +kernel, by decide +kernel⟩
theorem d_law {P : Program} {w : World} {K : PySem.W.Frag} {mg : Str → Option Value} {base : Heap} {C : Addr} (T : Top K mg C) (F__law_beside_right : Fn P w K mg base 5 "_law_beside_right" ["_law_deck_here", "_law_one_here", "_law_other"] sp__law_beside_right) (F__law_deck : Fn P w K mg base 1 "_law_deck" ["_law_script"] sp__law_deck) (F__law_draw : Fn P w K mg base 1 "_law_draw" ["_law_deck_here", "_law_many"] sp__law_draw) (F__law_fed_right : Fn P w K mg base 8 "_law_fed_right" ["_law_deck_here", "_law_one_here", "_law_other"] sp__law_fed_right) (F__law_one : Fn P w K mg base 2 "_law_one" ["_law_deck_here", "_law_items"] sp__law_one) (F__law_point : Fn P w K mg base 4 "_law_point" ["_law_deck_here", "_law_inputs"] sp__law_point) (F__law_row : Fn P w K mg base 3 "_law_row" ["_law_deck_here", "_law_inputs", "_law_many", "_law_most"] sp__law_row) (F_renamed : Fn P w K mg base 1 "renamed" ["row", "inputs", "order"] sp_renamed) (F_swept : Fn P w K mg base 4 "swept" ["row", "point", "weights"] sp_swept) (F_told : Fn P w K mg base 3 "told" ["row", "point"] sp_told) (hh : Here K mg "law" st_law ["_law_script"]) : Fn P w K mg base 9 "law" ["_law_script"] sp_law :=
  hh.fn sc_law (w_law) (fun f cdv A outer s H E hr => by
    have hc : (cxOf CX0 P w K mg base N_law "law" (defScope st_law) f cdv A outer s H E).nox.calm = true := rfl
    have hN : (cxOf CX0 P w K mg base N_law "law" (defScope st_law) f cdv A outer s H E).nox.N.Nodup := sc_law.nd
    have hu : (cxOf CX0 P w K mg base N_law "law" (defScope st_law) f cdv A outer s H E).nox.A.units + 64 < cLine := hr.units
    exact ⟨_, (gs_cons (gs_set (i := 1) hN rfl (by first | exact .inl rfl | exact .inr rfl) (g_call F__law_deck (hr.mono (by decide)) (ga_cons (gv 0) ga_nil))) (gs_cons (gs_for PassesOwn.never hc (gi_rng1 rfl T.range (ga_cons g_int ga_nil)) (gg_name hN rfl (by first | exact .inl rfl | exact .inr rfl)) (gs_cons (gs_set (i := 3) hN rfl (by first | exact .inl rfl | exact .inr rfl) (g_call F__law_row (hr.mono (by decide)) (ga_cons (gv 1) (ga_cons (g_call F__law_one (hr.mono (by decide)) (ga_cons (gv 1) (ga_cons (g_lst (ga_cons g_int (ga_cons g_int (ga_cons g_int ga_nil)))) ga_nil))) (ga_cons g_int (ga_cons g_int ga_nil)))))) (gs_cons (gs_set (i := 4) hN rfl (by first | exact .inl rfl | exact .inr rfl) (g_call F__law_row (hr.mono (by decide)) (ga_cons (gv 1) (ga_cons (g_callB cl_len bg_len rfl T.len boot_len (ga_cons (g_ix (gv 3) g_int) ga_nil)) (ga_cons g_int (ga_cons g_int ga_nil)))))) (gs_cons (gs_if (GW.gt (gw_or (gt_not (gt_val (g_call F__law_fed_right (hr.mono (by decide)) (ga_cons (gv 1) (ga_cons (gv 3) (ga_cons (gv 4) ga_nil)))))) (gw_or1 (gt_not (gt_val (g_call F__law_beside_right (hr.mono (by decide)) (ga_cons (gv 1) (ga_cons (gv 3) (ga_cons (gv 4) ga_nil))))))))) (gs_one (gs_ret g_bl)) gs_nil) (gs_cons (gs_set (i := 5) hN rfl (by first | exact .inl rfl | exact .inr rfl) (g_add g_int (g_call F__law_draw (hr.mono (by decide)) (ga_cons (gv 1) (ga_cons g_int ga_nil))))) (gs_cons (gs_set (i := 6) hN rfl (by first | exact .inl rfl | exact .inr rfl) (g_callTy call_tuple_of bg_tuple rfl T.tuple boot_tuple (ga_cons (g_lc hc hN (gi_rng1 rfl T.range (ga_cons (g_ix (gv 3) g_int) ga_nil)) (own := [("_law_k", 12)]) (tt := tYes) (te := (tCall (toSp K sp__law_draw) [] E0 (tCons (tVar 1) (tCons (tVar 5) tNil)))) (g := (gName 12)) (show BlkOk N_law (defScope st_law) _ [("_law_k", 12)] from ⟨by rfl, by decide +kernel, by decide +kernel, by decide +kernel, by decide +kernel⟩) (fun _ _ _ _ _ => (gg_name hN rfl (by first | exact .inl rfl | exact .inr rfl))) (fun _ _ _ _ _ => gts_nil) (fun _ _ _ _ _ => (g_call F__law_draw (hr.mono (by decide)) (ga_cons (gv 1) (ga_cons (gv 5) ga_nil))))) ga_nil))) (gs_cons (gs_parC (i := 7) (j := 8) hc hN rfl rfl (by first | exact .inl rfl | exact .inr rfl) (by first | exact .inl rfl | exact .inr rfl) (ga_cons (g_call F__law_point (hr.mono (by decide)) (ga_cons (gv 1) (ga_cons (gv 5) ga_nil))) (ga_cons (g_callTy call_tuple_of bg_tuple rfl T.tuple boot_tuple (ga_cons (g_lc hc hN (gi_tup (g_ix (gv 3) g_int)) (own := [("_law_end", 13)]) (tt := tYes) (te := (tOp (rI0 fun i j => .int (i - j)) (tCall (toSp K sp__law_draw) [] E0 (tCons (tVar 1) (tCons (tC (.int 9)) tNil))) (tC (.int 4)))) (g := (gName 13)) (show BlkOk N_law (defScope st_law) _ [("_law_end", 13)] from ⟨by rfl, by decide +kernel, by decide +kernel, by decide +kernel, by decide +kernel⟩) (fun _ _ _ _ _ => (gg_name hN rfl (by first | exact .inl rfl | exact .inr rfl))) (fun _ _ _ _ _ => gts_nil) (fun _ _ _ _ _ => (g_sub (g_call F__law_draw (hr.mono (by decide)) (ga_cons (gv 1) (ga_cons g_int ga_nil))) g_int))) ga_nil)) ga_nil))) (gs_cons (gs_set (i := 9) hN rfl (by first | exact .inl rfl | exact .inr rfl) (g_callTy call_tuple_of bg_tuple rfl T.tuple boot_tuple (ga_cons (g_lc hc hN (gi_tup (gv 6)) (own := [("_law_k", 12)]) (tt := tYes) (te := (tOp (rIx K) (tVar 7) (tVar 12))) (g := (gName 12)) (show BlkOk N_law (defScope st_law) _ [("_law_k", 12)] from ⟨by rfl, by decide +kernel, by decide +kernel, by decide +kernel, by decide +kernel⟩) (fun _ _ _ _ _ => (gg_name hN rfl (by first | exact .inl rfl | exact .inr rfl))) (fun _ _ _ _ _ => gts_nil) (fun _ _ _ _ _ => (g_ix (gv 7) (gv 12)))) ga_nil))) (gs_cons (gs_parC (i := 10) (j := 11) hc hN rfl rfl (by first | exact .inl rfl | exact .inr rfl) (by first | exact .inl rfl | exact .inr rfl) (ga_cons (g_call F_swept (hr.mono (by decide)) (ga_cons (g_call F_renamed (hr.mono (by decide)) (ga_cons (gv 3) (ga_cons (gv 5) (ga_cons (gv 6) ga_nil)))) (ga_cons (gv 7) (ga_cons (gv 8) ga_nil)))) (ga_cons (g_call F_swept (hr.mono (by decide)) (ga_cons (gv 3) (ga_cons (gv 9) (ga_cons (gv 8) ga_nil)))) ga_nil))) (gs_cons (gs_if (gt_cmp (gc_neL hu (g_callTy call_list_of bg_list rfl T.list boot_list (ga_cons (gv 10) ga_nil)) (g_lc hc hN (gi_rng1 rfl T.range (ga_cons (gv 5) ga_nil)) (own := [("_law_at", 14)]) (tt := tYes) (te := (tCB (rSum K) (tCons (tLc (iRng1 (tCons (tOp (rIx K) (tVar 3) (tC (.int 0))) tNil)) (gName 12) (tTest (tOp (rEqA K) (tOp (rIx K) (tVar 6) (tVar 12)) (tVar 14))) (tOp (rIx K) (tVar 11) (tVar 12)) [12]) tNil))) (g := (gName 14)) (show BlkOk N_law (defScope st_law) _ [("_law_at", 14)] from ⟨by rfl, by decide +kernel, by decide +kernel, by decide +kernel, by decide +kernel⟩) (fun _ _ _ _ _ => (gg_name hN rfl (by first | exact .inl rfl | exact .inr rfl))) (fun _ _ _ _ _ => gts_nil) (fun _ _ _ _ _ => (g_callB (cr_sum hc) bg_sum rfl T.sum boot_sum (ga_cons (g_lc hc hN (gi_rng1 rfl T.range (ga_cons (g_ix (gv 3) g_int) ga_nil)) (own := [("_law_k", 12)]) (tt := (tTest (tOp (rEqA K) (tOp (rIx K) (tVar 6) (tVar 12)) (tVar 14)))) (te := (tOp (rIx K) (tVar 11) (tVar 12))) (g := (gName 12)) (BlkOk.nest (show BlkOk N_law _ _ [("_law_k", 12)] from ⟨by rfl, by decide +kernel, by decide +kernel, by decide +kernel, by decide +kernel⟩)) (fun _ _ _ _ _ => (gg_name hN rfl (by first | exact .inl rfl | exact .inr rfl))) (fun _ _ _ _ _ => (gts_one (gt_cmp (gc_eq hu (g_ix (gv 6) (gv 12)) (gv 14))))) (fun _ _ _ _ _ => (g_ix (gv 11) (gv 12)))) ga_nil)))))) (gs_one (gs_ret g_bl)) gs_nil) (gs_one (gs_if (gt_cmp (gc_ne hu (g_call F_told (hr.mono (by decide)) (ga_cons (g_call F_renamed (hr.mono (by decide)) (ga_cons (gv 3) (ga_cons (gv 5) (ga_cons (gv 6) ga_nil)))) (ga_cons (gv 7) ga_nil))) (g_call F_told (hr.mono (by decide)) (ga_cons (gv 3) (ga_cons (gv 9) ga_nil))))) (gs_one (gs_ret g_bl)) gs_nil)))))))))))) (gs_one (gs_ret g_bl))))⟩) (vc_law)
end G
set_option maxRecDepth 100000
set_option maxHeartbeats 4000000
/-! ZE: the deck's defs, the maker. -/
namespace G
open PySem PySem.Spec PyProof.Rows L2
abbrev st__law_draw : Stmt := PySem.Challenge.pw_rowsback_k82_whole_rows_made_of_rows.main.body.getD 75 (.Pass ⟨0, 0, 0, 0⟩)
theorem sc__law_draw : FnScope N__law_draw ["_law_deck_here", "_law_many"] (defScope st__law_draw) := ⟨by rfl, by rfl, by rfl, by decide +kernel, by rfl, by decide +kernel, by decide +kernel⟩
theorem d__law_draw {P : Program} {w : World} {K : PySem.W.Frag} {mg : Str → Option Value} {base : Heap} {C : Addr} (T : Top K mg C) (hh : Here K mg "_law_draw" st__law_draw ["_law_deck_here", "_law_many"]) : Fn P w K mg base 1 "_law_draw" ["_law_deck_here", "_law_many"] sp__law_draw :=
  hh.fn sc__law_draw (w__law_draw) (fun f cdv A outer s H E hr => by
    have hc : (cxOf CX0 P w K mg base N__law_draw "_law_draw" (defScope st__law_draw) f cdv A outer s H E).nox.calm = true := rfl
    have hN : (cxOf CX0 P w K mg base N__law_draw "_law_draw" (defScope st__law_draw) f cdv A outer s H E).nox.N.Nodup := sc__law_draw.nd
    have hu : (cxOf CX0 P w K mg base N__law_draw "_law_draw" (defScope st__law_draw) f cdv A outer s H E).nox.A.units + 64 < cLine := hr.units
    have o : PE (cxOf CX0 P w K mg base N__law_draw "_law_draw" (defScope st__law_draw) f cdv A outer s H E).nox (.Name "_law_deck_here" ⟨0, 0, 0, 0⟩) (tVar 0) := (gv (np := 2) 0).pe
    exact ⟨_, (gs_cons (gs_if (gt_cmp (gc_dkNe (i := 0) hu (gv (np := 2) 0).pe))
      (gs_cons (gs_set (i := 2) hN rfl (by first | exact .inl rfl | exact .inr rfl) (g_dk00 (i := 0) (gv (np := 2) 0).pe))
      (gs_cons (gs_dkPut (i := 0) (gv (np := 2) 0).pe (g_div (gv 2) (gv 1)))
      (gs_cons (gs_if (gt_cmp (gc_eq hu (g_dk00 (i := 0) (gv (np := 2) 0).pe) g_int)) (gs_one (gs_expr (g_dkPop (i := 0) (gv (np := 2) 0).pe))) gs_nil)
      (gs_one (gs_ret (g_mod (g_callTy cl_int bg_int rfl T.int boot_int (ga_cons (gv 2) ga_nil)) (gv 1))))))) gs_nil)
      (gs_cons (gs_dkSet (i := 0) (gv (np := 2) 0).pe (g_add (g_dk2 (i := 0) (gv (np := 2) 0).pe) g_int))
      (gs_cons (gs_set (i := 3) hN rfl (by first | exact .inl rfl | exact .inr rfl) (g_dk1 (i := 0) (gv (np := 2) 0).pe (g_mod (g_callTy cl_int bg_int rfl T.int boot_int (ga_cons (g_dk2 (i := 0) (gv (np := 2) 0).pe) ga_nil)) (g_dkLen (i := 0) (gv (np := 2) 0).pe rfl T.len))))
      (gs_cons (gs_set (i := 4) hN rfl (by first | exact .inl rfl | exact .inr rfl) (g_mod (g_callTy cl_int bg_int rfl T.int boot_int (ga_cons (g_add (g_mod (g_callTy cl_int bg_int rfl T.int boot_int (ga_cons (gv 3) ga_nil)) g_int) (g_mul g_int (g_dk2 (i := 0) (gv (np := 2) 0).pe))) ga_nil)) g_int))
      (gs_cons (gs_set (i := 4) hN rfl (by first | exact .inl rfl | exact .inr rfl) (g_mod (g_callTy cl_int bg_int rfl T.int boot_int (ga_cons (g_add (g_mul (gv 4) (gv 4)) (g_mul g_int (g_dk2 (i := 0) (gv (np := 2) 0).pe))) ga_nil)) g_int))
      (gs_one (gs_ret (g_mod (g_div (g_mod (g_callTy cl_int bg_int rfl T.int boot_int (ga_cons (g_mul (gv 4) (gv 4)) ga_nil)) g_int) g_int) (gv 1)))))))))⟩) (vc__law_draw)
abbrev st__law_deck : Stmt := PySem.Challenge.pw_rowsback_k82_whole_rows_made_of_rows.main.body.getD 74 (.Pass ⟨0, 0, 0, 0⟩)
theorem sc__law_deck : FnScope N__law_deck ["_law_script"] (defScope st__law_deck) := ⟨by rfl, by rfl, by rfl, by decide +kernel, by rfl, by decide +kernel, by decide +kernel⟩
theorem d__law_deck {P : Program} {w : World} {K : PySem.W.Frag} {mg : Str → Option Value} {base : Heap} {C : Addr} (T : Top K mg C) (hh : Here K mg "_law_deck" st__law_deck ["_law_script"]) : Fn P w K mg base 1 "_law_deck" ["_law_script"] sp__law_deck :=
  hh.fn sc__law_deck (w__law_deck) (fun f cdv A outer s H E hr => by
    have hc : (cxOf CX0 P w K mg base N__law_deck "_law_deck" (defScope st__law_deck) f cdv A outer s H E).nox.calm = true := rfl
    have hN : (cxOf CX0 P w K mg base N__law_deck "_law_deck" (defScope st__law_deck) f cdv A outer s H E).nox.N.Nodup := sc__law_deck.nd
    have hu : (cxOf CX0 P w K mg base N__law_deck "_law_deck" (defScope st__law_deck) f cdv A outer s H E).nox.A.units + 64 < cLine := hr.units
    exact ⟨_, (gs_cons (gs_setLc (i := 1) hc hN rfl rfl (by rfl) (gi_lst (g_slice (gv 0) go_none (go_some g_int))) (own := [("_law_cell", 2)]) (tt := tYes) (te := (tCB rAbs (tCons (tVar 2) tNil))) (g := (gName 2)) (show BlkOk N__law_deck (defScope st__law_deck) _ [("_law_cell", 2)] from ⟨by rfl, by decide +kernel, by decide +kernel, by decide +kernel, by decide +kernel⟩) (fun _ _ _ _ _ => (gg_name hN rfl (by first | exact .inl rfl | exact .inr rfl))) (fun _ _ _ _ _ => gts_nil) (fun _ _ _ _ _ => (g_callB call_abs bg_abs rfl T.abs boot_abs (ga_cons (gv 2) ga_nil))))
      (gs_one (gs_ret (g_dkMk (ga_cons (g_lc hc hN (gi_lst (gv 1)) (own := [("_law_cell", 2)]) (tt := (tTest (tOp (rI0 fun i j => .bl (decide (j ≤ i))) (tVar 2) (tOp (rI CPow fun i j => .int (i ^ j.toNat)) (tC (.int 10)) (tC (.int 18)))))) (te := (tVar 2)) (g := (gName 2)) (show BlkOk N__law_deck (defScope st__law_deck) _ [("_law_cell", 2)] from ⟨by rfl, by decide +kernel, by decide +kernel, by decide +kernel, by decide +kernel⟩) (fun _ _ _ _ _ => (gg_name hN rfl (by first | exact .inl rfl | exact .inr rfl))) (fun _ _ _ _ _ => (gts_one (gt_cmp (gc_ge (gv 2) (g_pow g_int g_int))))) (fun _ _ _ _ _ => (gv 2))) (ga_cons (g_cat (gv 1) (g_lst (ga_cons (g_add g_int (g_callB cl_len bg_len rfl T.len boot_len (ga_cons (gv 1) ga_nil))) ga_nil))) (ga_cons g_int ga_nil)))))))⟩) (vc__law_deck)
abbrev st_Steps___init__ : Stmt := inClass (PySem.Challenge.pw_rowsback_k82_whole_rows_made_of_rows.main.body.getD 56 (.Pass ⟨0, 0, 0, 0⟩)) 0
theorem sc_init : FnScope ["self"] ["self"] (defScope st_Steps___init__) := ⟨by rfl, by rfl, by rfl, by decide +kernel, by rfl, by decide +kernel, by decide +kernel⟩
theorem ok_init {P : Program} {w : World} {K : PySem.W.Frag} {mg : Str → Option Value} {base : Heap} {C : Addr} (T : Top K mg C) {f : Addr} {fd : FuncData} (F : FunD K "__init__" "Steps.__init__" (defArgs st_Steps___init__) (defBody st_Steps___init__) (defScope st_Steps___init__) [] [] f fd) : FnOk P w K mg base CX0 1 f fd ["self"] (spInit C) := by
  refine F.ok sc_init (fun vs H Q E h => ?_) (fun cdv A outer s H vs Q E hr h => ⟨_, PSs.nox (pss_one (ps_fld (pv 0) (pe_lst pa_nil) rfl)), ?_⟩)
  · obtain ⟨x, dx, rfl, _⟩ := h
    rfl
  · obtain ⟨x, dx, rfl, hx, k⟩ := h
    refine ⟨Nat.zero_le _, fun l hl => ?_⟩
    have nxl : x ≠ l := ne_of_none hx hl
    refine ⟨_, rfl, x, C, dx, [], rfl, by rw [upd_ne nxl]; exact hx, T.cls.cls, T.cls.no, by decide, ?_⟩
    exact k l hl
end G
set_option maxRecDepth 100000
set_option maxHeartbeats 0
/-! ZF: what the top has written, the law. -/
namespace G
open PySem PySem.Spec PyProof.Rows L2
def dd_is_integer : He.DefD := ⟨("is_integer", none), "is_integer", "is_integer", defArgs st_is_integer, defBody st_is_integer, defScope st_is_integer, [], []⟩
def dd_is_step : He.DefD := ⟨("is_step", none), "is_step", "is_step", defArgs st_is_step, defBody st_is_step, defScope st_is_step, [], []⟩
def dd_measure : He.DefD := ⟨("measure", none), "measure", "measure", defArgs st_measure, defBody st_measure, defScope st_measure, [], []⟩
def dd_degrees : He.DefD := ⟨("degrees", none), "degrees", "degrees", defArgs st_degrees, defBody st_degrees, defScope st_degrees, [], []⟩
def dd_sizes : He.DefD := ⟨("sizes", none), "sizes", "sizes", defArgs st_sizes, defBody st_sizes, defScope st_sizes, [], []⟩
def dd_error_within : He.DefD := ⟨("error_within", none), "error_within", "error_within", defArgs st_error_within, defBody st_error_within, defScope st_error_within, [], []⟩
def dd_long_error : He.DefD := ⟨("long_error", none), "long_error", "long_error", defArgs st_long_error, defBody st_long_error, defScope st_long_error, [], []⟩
def dd_step_value : He.DefD := ⟨("step_value", none), "step_value", "step_value", defArgs st_step_value, defBody st_step_value, defScope st_step_value, [], []⟩
def dd_values : He.DefD := ⟨("values", none), "values", "values", defArgs st_values, defBody st_values, defScope st_values, [], []⟩
def dd_told : He.DefD := ⟨("told", none), "told", "told", defArgs st_told, defBody st_told, defScope st_told, [], []⟩
def dd_steps_used : He.DefD := ⟨("steps_used", none), "steps_used", "steps_used", defArgs st_steps_used, defBody st_steps_used, defScope st_steps_used, [], []⟩
def dd_needed : He.DefD := ⟨("needed", none), "needed", "needed", defArgs st_needed, defBody st_needed, defScope st_needed, [], []⟩
def dd_step_by : He.DefD := ⟨("step_by", none), "step_by", "step_by", defArgs st_step_by, defBody st_step_by, defScope st_step_by, [], []⟩
def dd_slim : He.DefD := ⟨("slim", none), "slim", "slim", defArgs st_slim, defBody st_slim, defScope st_slim, [], []⟩
def dd_checked : He.DefD := ⟨("checked", none), "checked", "checked", defArgs st_checked, defBody st_checked, defScope st_checked, [], []⟩
def dd_fed : He.DefD := ⟨("fed", none), "fed", "fed", defArgs st_fed, defBody st_fed, defScope st_fed, [], []⟩
def dd_beside : He.DefD := ⟨("beside", none), "beside", "beside", defArgs st_beside, defBody st_beside, defScope st_beside, [], []⟩
def dd_renamed : He.DefD := ⟨("renamed", none), "renamed", "renamed", defArgs st_renamed, defBody st_renamed, defScope st_renamed, [], []⟩
def dd_as_poly : He.DefD := ⟨("as_poly", none), "as_poly", "as_poly", defArgs st_as_poly, defBody st_as_poly, defScope st_as_poly, [], []⟩
def dd_unknown : He.DefD := ⟨("unknown", none), "unknown", "unknown", defArgs st_unknown, defBody st_unknown, defScope st_unknown, [], []⟩
def dd_constant : He.DefD := ⟨("constant", none), "constant", "constant", defArgs st_constant, defBody st_constant, defScope st_constant, [], []⟩
def dd_plus : He.DefD := ⟨("plus", none), "plus", "plus", defArgs st_plus, defBody st_plus, defScope st_plus, [], []⟩
def dd_scaled : He.DefD := ⟨("scaled", none), "scaled", "scaled", defArgs st_scaled, defBody st_scaled, defScope st_scaled, [], []⟩
def dd_minus : He.DefD := ⟨("minus", none), "minus", "minus", defArgs st_minus, defBody st_minus, defScope st_minus, [], []⟩
def dd_times : He.DefD := ⟨("times", none), "times", "times", defArgs st_times, defBody st_times, defScope st_times, [], []⟩
def dd_power_of : He.DefD := ⟨("power_of", none), "power_of", "power_of", defArgs st_power_of, defBody st_power_of, defScope st_power_of, [], []⟩
def dd_value_of : He.DefD := ⟨("value_of", none), "value_of", "value_of", defArgs st_value_of, defBody st_value_of, defScope st_value_of, [], []⟩
def dd_step_poly : He.DefD := ⟨("step_poly", none), "step_poly", "step_poly", defArgs st_step_poly, defBody st_step_poly, defScope st_step_poly, [], []⟩
def dd_polys_by_steps : He.DefD := ⟨("polys_by_steps", none), "polys_by_steps", "polys_by_steps", defArgs st_polys_by_steps, defBody st_polys_by_steps, defScope st_polys_by_steps, [], []⟩
def dd_polys : He.DefD := ⟨("polys", none), "polys", "polys", defArgs st_polys, defBody st_polys, defScope st_polys, [], []⟩
def dd_need_like : He.DefD := ⟨("need_like", none), "need_like", "need_like", defArgs st_need_like, defBody st_need_like, defScope st_need_like, [], []⟩
def dd_same : He.DefD := ⟨("same", none), "same", "same", defArgs st_same, defBody st_same, defScope st_same, [], []⟩
def dd_rate : He.DefD := ⟨("rate", none), "rate", "rate", defArgs st_rate, defBody st_rate, defScope st_rate, [], []⟩
def dd_hangs : He.DefD := ⟨("hangs", none), "hangs", "hangs", defArgs st_hangs, defBody st_hangs, defScope st_hangs, [], []⟩
def dd_step_rates : He.DefD := ⟨("step_rates", none), "step_rates", "step_rates", defArgs st_step_rates, defBody st_step_rates, defScope st_step_rates, [], []⟩
def dd_rates_at : He.DefD := ⟨("rates_at", none), "rates_at", "rates_at", defArgs st_rates_at, defBody st_rates_at, defScope st_rates_at, [], []⟩
def dd_rates_fed : He.DefD := ⟨("rates_fed", none), "rates_fed", "rates_fed", defArgs st_rates_fed, defBody st_rates_fed, defScope st_rates_fed, [], []⟩
def dd_Steps___init__ : He.DefD := ⟨("Steps", some "__init__"), "__init__", "Steps.__init__", defArgs st_Steps___init__, defBody st_Steps___init__, defScope st_Steps___init__, [], []⟩
def dd_Steps_put : He.DefD := ⟨("Steps", some "put"), "put", "Steps.put", defArgs st_Steps_put, defBody st_Steps_put, defScope st_Steps_put, [], []⟩
def dd_Steps_joined : He.DefD := ⟨("Steps", some "joined"), "joined", "Steps.joined", defArgs st_Steps_joined, defBody st_Steps_joined, defScope st_Steps_joined, [], []⟩
def dd_pull_on : He.DefD := ⟨("pull_on", none), "pull_on", "pull_on", defArgs st_pull_on, defBody st_pull_on, defScope st_pull_on, [], []⟩
def dd_backward : He.DefD := ⟨("backward", none), "backward", "backward", defArgs st_backward, defBody st_backward, defScope st_backward, [], []⟩
def dd_sweep : He.DefD := ⟨("sweep", none), "sweep", "sweep", defArgs st_sweep, defBody st_sweep, defScope st_sweep, [], []⟩
def dd_swept : He.DefD := ⟨("swept", none), "swept", "swept", defArgs st_swept, defBody st_swept, defScope st_swept, [], []⟩
def dd_step_text : He.DefD := ⟨("step_text", none), "step_text", "step_text", defArgs st_step_text, defBody st_step_text, defScope st_step_text, [], []⟩
def dd_row_text : He.DefD := ⟨("row_text", none), "row_text", "row_text", defArgs st_row_text, defBody st_row_text, defScope st_row_text, [], []⟩
def dd_number_of : He.DefD := ⟨("number_of", none), "number_of", "number_of", defArgs st_number_of, defBody st_number_of, defScope st_number_of, [], []⟩
def dd_numbers_of : He.DefD := ⟨("numbers_of", none), "numbers_of", "numbers_of", defArgs st_numbers_of, defBody st_numbers_of, defScope st_numbers_of, [], []⟩
def dd_read_step : He.DefD := ⟨("read_step", none), "read_step", "read_step", defArgs st_read_step, defBody st_read_step, defScope st_read_step, [], []⟩
def dd_read_head : He.DefD := ⟨("read_head", none), "read_head", "read_head", defArgs st_read_head, defBody st_read_head, defScope st_read_head, [], []⟩
def dd_read_ends : He.DefD := ⟨("read_ends", none), "read_ends", "read_ends", defArgs st_read_ends, defBody st_read_ends, defScope st_read_ends, [], []⟩
def dd_read_row : He.DefD := ⟨("read_row", none), "read_row", "read_row", defArgs st_read_row, defBody st_read_row, defScope st_read_row, [], []⟩
def dd__law_deck : He.DefD := ⟨("_law_deck", none), "_law_deck", "_law_deck", defArgs st__law_deck, defBody st__law_deck, defScope st__law_deck, [], []⟩
def dd__law_draw : He.DefD := ⟨("_law_draw", none), "_law_draw", "_law_draw", defArgs st__law_draw, defBody st__law_draw, defScope st__law_draw, [], []⟩
def dd__law_one : He.DefD := ⟨("_law_one", none), "_law_one", "_law_one", defArgs st__law_one, defBody st__law_one, defScope st__law_one, [], []⟩
def dd__law_far : He.DefD := ⟨("_law_far", none), "_law_far", "_law_far", defArgs st__law_far, defBody st__law_far, defScope st__law_far, [], []⟩
def dd__law_number : He.DefD := ⟨("_law_number", none), "_law_number", "_law_number", defArgs st__law_number, defBody st__law_number, defScope st__law_number, [], []⟩
def dd__law_point : He.DefD := ⟨("_law_point", none), "_law_point", "_law_point", defArgs st__law_point, defBody st__law_point, defScope st__law_point, [], []⟩
def dd__law_size : He.DefD := ⟨("_law_size", none), "_law_size", "_law_size", defArgs st__law_size, defBody st__law_size, defScope st__law_size, [], []⟩
def dd__law_row : He.DefD := ⟨("_law_row", none), "_law_row", "_law_row", defArgs st__law_row, defBody st__law_row, defScope st__law_row, [], []⟩
def dd__law_fed_right : He.DefD := ⟨("_law_fed_right", none), "_law_fed_right", "_law_fed_right", defArgs st__law_fed_right, defBody st__law_fed_right, defScope st__law_fed_right, [], []⟩
def dd__law_beside_right : He.DefD := ⟨("_law_beside_right", none), "_law_beside_right", "_law_beside_right", defArgs st__law_beside_right, defBody st__law_beside_right, defScope st__law_beside_right, [], []⟩
def dd_law : He.DefD := ⟨("law", none), "law", "law", defArgs st_law, defBody st_law, defScope st_law, [], []⟩
def fnA : List He.DefD := [dd_is_integer, dd_is_step, dd_measure, dd_degrees, dd_sizes, dd_error_within, dd_long_error, dd_step_value, dd_values, dd_told, dd_steps_used, dd_needed, dd_step_by, dd_slim, dd_checked, dd_fed, dd_beside, dd_renamed, dd_as_poly, dd_unknown, dd_constant, dd_plus, dd_scaled, dd_minus, dd_times, dd_power_of, dd_value_of, dd_step_poly, dd_polys_by_steps, dd_polys, dd_need_like, dd_same, dd_rate, dd_hangs, dd_step_rates]
def fnB : List He.DefD := [dd_rates_at, dd_rates_fed, dd_Steps___init__, dd_Steps_put, dd_Steps_joined, dd_pull_on, dd_backward, dd_sweep, dd_swept, dd_step_text, dd_row_text, dd_number_of, dd_numbers_of, dd_read_step, dd_read_head, dd_read_ends, dd_read_row, dd__law_deck, dd__law_draw, dd__law_one, dd__law_far, dd__law_number, dd__law_point, dd__law_size, dd__law_row, dd__law_fed_right, dd__law_beside_right, dd_law]
def fnH : List He.DefD := fnA ++ fnB
def fa0 : List He.Fa := [.glo "is_integer", .glo "is_step", .glo "measure", .glo "degrees", .glo "sizes", .glo "error_within", .glo "long_error", .glo "step_value", .glo "values", .glo "told", .glo "steps_used", .glo "needed", .glo "step_by", .glo "slim", .glo "checked", .glo "fed", .glo "beside", .glo "renamed", .glo "as_poly", .glo "unknown", .glo "constant", .glo "plus", .glo "scaled", .glo "minus", .glo "times", .glo "power_of", .glo "value_of", .glo "step_poly", .glo "polys_by_steps", .glo "polys"]
def fa1 : List He.Fa := [.glo "need_like", .glo "same", .glo "rate", .glo "hangs", .glo "step_rates", .glo "rates_at", .glo "rates_fed", .glo "pull_on", .glo "backward", .glo "sweep", .glo "swept", .glo "step_text", .glo "row_text", .glo "number_of", .glo "numbers_of", .glo "read_step", .glo "read_head", .glo "read_ends", .glo "read_row", .glo "_law_deck", .glo "_law_draw", .glo "_law_one", .glo "_law_far", .glo "_law_number", .glo "_law_point", .glo "_law_size", .glo "_law_row", .glo "_law_fed_right", .glo "_law_beside_right", .glo "law"]
def fa2 : List He.Fa := [.free "len", .free "max", .free "min", .free "sum", .free "all", .free "tuple", .free "list", .free "dict", .free "sorted", .free "int", .free "abs", .free "str", .free "bool", .free "isinstance", .free "range", .free "zip", .free "enumerate", .int "MAX_WIDE" 20, .int "MAX_LONG" 400, .int "MAX_SIZE" 64, .int "MAX_TERMS" 200, .int "MAX_NUMBER" 100000000000000000000, .str "FIGURES" "0123456789", .glo "SIGNS", .glo "Steps", .cls "Steps", .noat "Steps" "rows", .mkr "Steps", .meth "Steps" "put", .meth "Steps" "joined"]
def faH : List He.Fa := fa0 ++ fa1 ++ fa2
def ls0 : List Str := ["_wall", "MAX_WIDE", "MAX_LONG", "MAX_SIZE", "MAX_TERMS", "MAX_NUMBER", "RowError", "BadRow", "BadText", "TooWide", "TooLong", "Unfit", "SIGNS", "is_integer", "is_step", "measure", "degrees", "sizes", "error_within", "long_error", "step_value", "values", "told", "steps_used", "needed", "step_by", "slim", "checked", "fed", "beside"]
def ls1 : List Str := ["renamed", "as_poly", "unknown", "constant", "plus", "scaled", "minus", "times", "power_of", "value_of", "step_poly", "polys_by_steps", "polys", "need_like", "same", "rate", "hangs", "step_rates", "rates_at", "rates_fed", "Steps", "pull_on", "backward", "sweep", "swept", "FIGURES", "step_text", "row_text", "number_of", "numbers_of"]
def ls2 : List Str := ["read_step", "read_head", "read_ends", "read_row", "_law_deck", "_law_draw", "_law_one", "_law_far", "_law_number", "_law_point", "_law_size", "_law_row", "_law_fed_right", "_law_beside_right"]
def lsH : List Str := ls0 ++ ls1 ++ ls2
abbrev RR : PySem.W.OpenRow := PySem.W.OpenLaw.row PySem.Challenge.rw_rowsback_k82_whole_rows_made_of_rows
abbrev qv : Program := PySem.W.view RR.prog [84]
def tupOk (K : PySem.W.Frag) : Bool := He.tupB K "SIGNS" [.str "+", .str "-", .str "*"]
abbrev obK (K : PySem.W.Frag) : Bool × He.AlD := (tupOk K, He.obsD faH fnH K)
abbrev hk : PySem.W.Hook where
  α := Bool × He.AlD
  obs := fun s => obK (He.frG s.heap.get? (He.asD s.heap.get? 5))
  val := fun _ => (true, He.valD fnH)
  says := fun _ h => ∃ K : PySem.W.Frag, K.In h ∧ tupOk K = true ∧ He.SaysD faH fnH K
  of := fun _ _ e => ⟨_, He.frG_in, congrArg (fun z : Bool × He.AlD => z.1) e, congrArg (fun z : Bool × He.AlD => z.2) e⟩
  keeps := fun _ _ _ ⟨K, hK, c⟩ k => ⟨K, PySem.W.Frag.In.keeps hK k, c⟩
def ob (s : PySem.W.SharedT) : Bool × He.AlD := obK (He.frG (HandSHeadRun.getT s) (He.asD (HandSHeadRun.getT s) 5))
theorem ob_eq (s : PySem.W.SharedT) : ob s = hk.obs s.abs := by
  have e : HandSHeadRun.getT s = s.abs.heap.get? := funext (HandSHeadRun.getT_eq s)
  show obK (He.frG (HandSHeadRun.getT s) (He.asD (HandSHeadRun.getT s) 5)) = obK (He.frG s.abs.heap.get? (He.asD s.abs.heap.get? 5))
  rw [e]
theorem run (w : World) : HandSHeadRun.RunEq RR qv hk ob 4000 lsH w := by
  intro os
  kernel_rfl
section
variable {K : PySem.W.Frag} {h : Heap} {mg : Str → Option Value}
theorem h_is_integer (X : K.In h) (G : h.Ns mainGlobals mg) (c : He.SaysD faH fnH K) : Here K mg "is_integer" st_is_integer ["value", "least", "most"] := by
  obtain ⟨fd, F⟩ := c.def_ 0 (d := dd_is_integer) rfl
  exact ⟨_, fd, He.glo_ok X G (c.fact 0 (f := .glo "is_integer") rfl), F, (F.bindsN fun _ _ _ _ _ _ us hl => match us, hl with | [_, _, _], _ => rfl)⟩
theorem h_is_step (X : K.In h) (G : h.Ns mainGlobals mg) (c : He.SaysD faH fnH K) : Here K mg "is_step" st_is_step ["value", "inputs", "number"] := by
  obtain ⟨fd, F⟩ := c.def_ 1 (d := dd_is_step) rfl
  exact ⟨_, fd, He.glo_ok X G (c.fact 1 (f := .glo "is_step") rfl), F, (F.bindsN fun _ _ _ _ _ _ us hl => match us, hl with | [_, _, _], _ => rfl)⟩
theorem h_measure (X : K.In h) (G : h.Ns mainGlobals mg) (c : He.SaysD faH fnH K) : Here K mg "measure" st_measure ["step", "found", "least"] := by
  obtain ⟨fd, F⟩ := c.def_ 2 (d := dd_measure) rfl
  exact ⟨_, fd, He.glo_ok X G (c.fact 2 (f := .glo "measure") rfl), F, (F.bindsN fun _ _ _ _ _ _ us hl => match us, hl with | [_, _, _], _ => rfl)⟩
theorem h_degrees (X : K.In h) (G : h.Ns mainGlobals mg) (c : He.SaysD faH fnH K) : Here K mg "degrees" st_degrees ["row"] := by
  obtain ⟨fd, F⟩ := c.def_ 3 (d := dd_degrees) rfl
  exact ⟨_, fd, He.glo_ok X G (c.fact 3 (f := .glo "degrees") rfl), F, (F.bindsN fun _ _ _ _ _ _ us hl => match us, hl with | [_], _ => rfl)⟩
theorem h_sizes (X : K.In h) (G : h.Ns mainGlobals mg) (c : He.SaysD faH fnH K) : Here K mg "sizes" st_sizes ["row"] := by
  obtain ⟨fd, F⟩ := c.def_ 4 (d := dd_sizes) rfl
  exact ⟨_, fd, He.glo_ok X G (c.fact 4 (f := .glo "sizes") rfl), F, (F.bindsN fun _ _ _ _ _ _ us hl => match us, hl with | [_], _ => rfl)⟩
theorem h_error_within (X : K.In h) (G : h.Ns mainGlobals mg) (c : He.SaysD faH fnH K) : Here K mg "error_within" st_error_within ["value", "inputs", "steps", "ends"] := by
  obtain ⟨fd, F⟩ := c.def_ 5 (d := dd_error_within) rfl
  exact ⟨_, fd, He.glo_ok X G (c.fact 5 (f := .glo "error_within") rfl), F, (F.bindsN fun _ _ _ _ _ _ us hl => match us, hl with | [_, _, _, _], _ => rfl)⟩
theorem h_long_error (X : K.In h) (G : h.Ns mainGlobals mg) (c : He.SaysD faH fnH K) : Here K mg "long_error" st_long_error ["value"] := by
  obtain ⟨fd, F⟩ := c.def_ 6 (d := dd_long_error) rfl
  exact ⟨_, fd, He.glo_ok X G (c.fact 6 (f := .glo "long_error") rfl), F, (F.bindsN fun _ _ _ _ _ _ us hl => match us, hl with | [_], _ => rfl)⟩
theorem h_step_value (X : K.In h) (G : h.Ns mainGlobals mg) (c : He.SaysD faH fnH K) : Here K mg "step_value" st_step_value ["step", "point", "found"] := by
  obtain ⟨fd, F⟩ := c.def_ 7 (d := dd_step_value) rfl
  exact ⟨_, fd, He.glo_ok X G (c.fact 7 (f := .glo "step_value") rfl), F, (F.bindsN fun _ _ _ _ _ _ us hl => match us, hl with | [_, _, _], _ => rfl)⟩
theorem h_values (X : K.In h) (G : h.Ns mainGlobals mg) (c : He.SaysD faH fnH K) : Here K mg "values" st_values ["row", "point"] := by
  obtain ⟨fd, F⟩ := c.def_ 8 (d := dd_values) rfl
  exact ⟨_, fd, He.glo_ok X G (c.fact 8 (f := .glo "values") rfl), F, (F.bindsN fun _ _ _ _ _ _ us hl => match us, hl with | [_, _], _ => rfl)⟩
theorem h_told (X : K.In h) (G : h.Ns mainGlobals mg) (c : He.SaysD faH fnH K) : Here K mg "told" st_told ["row", "point"] := by
  obtain ⟨fd, F⟩ := c.def_ 9 (d := dd_told) rfl
  exact ⟨_, fd, He.glo_ok X G (c.fact 9 (f := .glo "told") rfl), F, (F.bindsN fun _ _ _ _ _ _ us hl => match us, hl with | [_, _], _ => rfl)⟩
theorem h_steps_used (X : K.In h) (G : h.Ns mainGlobals mg) (c : He.SaysD faH fnH K) : Here K mg "steps_used" st_steps_used ["step"] := by
  obtain ⟨fd, F⟩ := c.def_ 10 (d := dd_steps_used) rfl
  exact ⟨_, fd, He.glo_ok X G (c.fact 10 (f := .glo "steps_used") rfl), F, (F.bindsN fun _ _ _ _ _ _ us hl => match us, hl with | [_], _ => rfl)⟩
theorem h_needed (X : K.In h) (G : h.Ns mainGlobals mg) (c : He.SaysD faH fnH K) : Here K mg "needed" st_needed ["row"] := by
  obtain ⟨fd, F⟩ := c.def_ 11 (d := dd_needed) rfl
  exact ⟨_, fd, He.glo_ok X G (c.fact 11 (f := .glo "needed") rfl), F, (F.bindsN fun _ _ _ _ _ _ us hl => match us, hl with | [_], _ => rfl)⟩
theorem h_step_by (X : K.In h) (G : h.Ns mainGlobals mg) (c : He.SaysD faH fnH K) : Here K mg "step_by" st_step_by ["step", "names"] := by
  obtain ⟨fd, F⟩ := c.def_ 12 (d := dd_step_by) rfl
  exact ⟨_, fd, He.glo_ok X G (c.fact 12 (f := .glo "step_by") rfl), F, (F.bindsN fun _ _ _ _ _ _ us hl => match us, hl with | [_, _], _ => rfl)⟩
theorem h_slim (X : K.In h) (G : h.Ns mainGlobals mg) (c : He.SaysD faH fnH K) : Here K mg "slim" st_slim ["row"] := by
  obtain ⟨fd, F⟩ := c.def_ 13 (d := dd_slim) rfl
  exact ⟨_, fd, He.glo_ok X G (c.fact 13 (f := .glo "slim") rfl), F, (F.bindsN fun _ _ _ _ _ _ us hl => match us, hl with | [_], _ => rfl)⟩
theorem h_checked (X : K.In h) (G : h.Ns mainGlobals mg) (c : He.SaysD faH fnH K) : Here K mg "checked" st_checked ["row"] := by
  obtain ⟨fd, F⟩ := c.def_ 14 (d := dd_checked) rfl
  exact ⟨_, fd, He.glo_ok X G (c.fact 14 (f := .glo "checked") rfl), F, (F.bindsN fun _ _ _ _ _ _ us hl => match us, hl with | [_], _ => rfl)⟩
theorem h_fed (X : K.In h) (G : h.Ns mainGlobals mg) (c : He.SaysD faH fnH K) : Here K mg "fed" st_fed ["one", "other"] := by
  obtain ⟨fd, F⟩ := c.def_ 15 (d := dd_fed) rfl
  exact ⟨_, fd, He.glo_ok X G (c.fact 15 (f := .glo "fed") rfl), F, (F.bindsN fun _ _ _ _ _ _ us hl => match us, hl with | [_, _], _ => rfl)⟩
theorem h_beside (X : K.In h) (G : h.Ns mainGlobals mg) (c : He.SaysD faH fnH K) : Here K mg "beside" st_beside ["one", "other"] := by
  obtain ⟨fd, F⟩ := c.def_ 16 (d := dd_beside) rfl
  exact ⟨_, fd, He.glo_ok X G (c.fact 16 (f := .glo "beside") rfl), F, (F.bindsN fun _ _ _ _ _ _ us hl => match us, hl with | [_, _], _ => rfl)⟩
theorem h_renamed (X : K.In h) (G : h.Ns mainGlobals mg) (c : He.SaysD faH fnH K) : Here K mg "renamed" st_renamed ["row", "inputs", "order"] := by
  obtain ⟨fd, F⟩ := c.def_ 17 (d := dd_renamed) rfl
  exact ⟨_, fd, He.glo_ok X G (c.fact 17 (f := .glo "renamed") rfl), F, (F.bindsN fun _ _ _ _ _ _ us hl => match us, hl with | [_, _, _], _ => rfl)⟩
theorem h_as_poly (X : K.In h) (G : h.Ns mainGlobals mg) (c : He.SaysD faH fnH K) : Here K mg "as_poly" st_as_poly ["pairs"] := by
  obtain ⟨fd, F⟩ := c.def_ 18 (d := dd_as_poly) rfl
  exact ⟨_, fd, He.glo_ok X G (c.fact 18 (f := .glo "as_poly") rfl), F, (F.bindsN fun _ _ _ _ _ _ us hl => match us, hl with | [_], _ => rfl)⟩
theorem h_unknown (X : K.In h) (G : h.Ns mainGlobals mg) (c : He.SaysD faH fnH K) : Here K mg "unknown" st_unknown ["many", "index"] := by
  obtain ⟨fd, F⟩ := c.def_ 19 (d := dd_unknown) rfl
  exact ⟨_, fd, He.glo_ok X G (c.fact 19 (f := .glo "unknown") rfl), F, (F.bindsN fun _ _ _ _ _ _ us hl => match us, hl with | [_, _], _ => rfl)⟩
theorem h_constant (X : K.In h) (G : h.Ns mainGlobals mg) (c : He.SaysD faH fnH K) : Here K mg "constant" st_constant ["many", "number"] := by
  obtain ⟨fd, F⟩ := c.def_ 20 (d := dd_constant) rfl
  exact ⟨_, fd, He.glo_ok X G (c.fact 20 (f := .glo "constant") rfl), F, (F.bindsN fun _ _ _ _ _ _ us hl => match us, hl with | [_, _], _ => rfl)⟩
theorem h_plus (X : K.In h) (G : h.Ns mainGlobals mg) (c : He.SaysD faH fnH K) : Here K mg "plus" st_plus ["one", "other"] := by
  obtain ⟨fd, F⟩ := c.def_ 21 (d := dd_plus) rfl
  exact ⟨_, fd, He.glo_ok X G (c.fact 21 (f := .glo "plus") rfl), F, (F.bindsN fun _ _ _ _ _ _ us hl => match us, hl with | [_, _], _ => rfl)⟩
theorem h_scaled (X : K.In h) (G : h.Ns mainGlobals mg) (c : He.SaysD faH fnH K) : Here K mg "scaled" st_scaled ["poly", "number"] := by
  obtain ⟨fd, F⟩ := c.def_ 22 (d := dd_scaled) rfl
  exact ⟨_, fd, He.glo_ok X G (c.fact 22 (f := .glo "scaled") rfl), F, (F.bindsN fun _ _ _ _ _ _ us hl => match us, hl with | [_, _], _ => rfl)⟩
theorem h_minus (X : K.In h) (G : h.Ns mainGlobals mg) (c : He.SaysD faH fnH K) : Here K mg "minus" st_minus ["one", "other"] := by
  obtain ⟨fd, F⟩ := c.def_ 23 (d := dd_minus) rfl
  exact ⟨_, fd, He.glo_ok X G (c.fact 23 (f := .glo "minus") rfl), F, (F.bindsN fun _ _ _ _ _ _ us hl => match us, hl with | [_, _], _ => rfl)⟩
theorem h_times (X : K.In h) (G : h.Ns mainGlobals mg) (c : He.SaysD faH fnH K) : Here K mg "times" st_times ["one", "other"] := by
  obtain ⟨fd, F⟩ := c.def_ 24 (d := dd_times) rfl
  exact ⟨_, fd, He.glo_ok X G (c.fact 24 (f := .glo "times") rfl), F, (F.bindsN fun _ _ _ _ _ _ us hl => match us, hl with | [_, _], _ => rfl)⟩
theorem h_power_of (X : K.In h) (G : h.Ns mainGlobals mg) (c : He.SaysD faH fnH K) : Here K mg "power_of" st_power_of ["number", "power"] := by
  obtain ⟨fd, F⟩ := c.def_ 25 (d := dd_power_of) rfl
  exact ⟨_, fd, He.glo_ok X G (c.fact 25 (f := .glo "power_of") rfl), F, (F.bindsN fun _ _ _ _ _ _ us hl => match us, hl with | [_, _], _ => rfl)⟩
theorem h_value_of (X : K.In h) (G : h.Ns mainGlobals mg) (c : He.SaysD faH fnH K) : Here K mg "value_of" st_value_of ["poly", "numbers"] := by
  obtain ⟨fd, F⟩ := c.def_ 26 (d := dd_value_of) rfl
  exact ⟨_, fd, He.glo_ok X G (c.fact 26 (f := .glo "value_of") rfl), F, (F.bindsN fun _ _ _ _ _ _ us hl => match us, hl with | [_, _], _ => rfl)⟩
theorem h_step_poly (X : K.In h) (G : h.Ns mainGlobals mg) (c : He.SaysD faH fnH K) : Here K mg "step_poly" st_step_poly ["step", "many", "found"] := by
  obtain ⟨fd, F⟩ := c.def_ 27 (d := dd_step_poly) rfl
  exact ⟨_, fd, He.glo_ok X G (c.fact 27 (f := .glo "step_poly") rfl), F, (F.bindsN fun _ _ _ _ _ _ us hl => match us, hl with | [_, _, _], _ => rfl)⟩
theorem h_polys_by_steps (X : K.In h) (G : h.Ns mainGlobals mg) (c : He.SaysD faH fnH K) : Here K mg "polys_by_steps" st_polys_by_steps ["row"] := by
  obtain ⟨fd, F⟩ := c.def_ 28 (d := dd_polys_by_steps) rfl
  exact ⟨_, fd, He.glo_ok X G (c.fact 28 (f := .glo "polys_by_steps") rfl), F, (F.bindsN fun _ _ _ _ _ _ us hl => match us, hl with | [_], _ => rfl)⟩
theorem h_polys (X : K.In h) (G : h.Ns mainGlobals mg) (c : He.SaysD faH fnH K) : Here K mg "polys" st_polys ["row"] := by
  obtain ⟨fd, F⟩ := c.def_ 29 (d := dd_polys) rfl
  exact ⟨_, fd, He.glo_ok X G (c.fact 29 (f := .glo "polys") rfl), F, (F.bindsN fun _ _ _ _ _ _ us hl => match us, hl with | [_], _ => rfl)⟩
theorem h_need_like (X : K.In h) (G : h.Ns mainGlobals mg) (c : He.SaysD faH fnH K) : Here K mg "need_like" st_need_like ["one", "other"] := by
  obtain ⟨fd, F⟩ := c.def_ 30 (d := dd_need_like) rfl
  exact ⟨_, fd, He.glo_ok X G (c.fact 30 (f := .glo "need_like") rfl), F, (F.bindsN fun _ _ _ _ _ _ us hl => match us, hl with | [_, _], _ => rfl)⟩
theorem h_same (X : K.In h) (G : h.Ns mainGlobals mg) (c : He.SaysD faH fnH K) : Here K mg "same" st_same ["one", "other"] := by
  obtain ⟨fd, F⟩ := c.def_ 31 (d := dd_same) rfl
  exact ⟨_, fd, He.glo_ok X G (c.fact 31 (f := .glo "same") rfl), F, (F.bindsN fun _ _ _ _ _ _ us hl => match us, hl with | [_, _], _ => rfl)⟩
theorem h_rate (X : K.In h) (G : h.Ns mainGlobals mg) (c : He.SaysD faH fnH K) : Here K mg "rate" st_rate ["poly", "unknown"] := by
  obtain ⟨fd, F⟩ := c.def_ 32 (d := dd_rate) rfl
  exact ⟨_, fd, He.glo_ok X G (c.fact 32 (f := .glo "rate") rfl), F, (F.bindsN fun _ _ _ _ _ _ us hl => match us, hl with | [_, _], _ => rfl)⟩
theorem h_hangs (X : K.In h) (G : h.Ns mainGlobals mg) (c : He.SaysD faH fnH K) : Here K mg "hangs" st_hangs ["row"] := by
  obtain ⟨fd, F⟩ := c.def_ 33 (d := dd_hangs) rfl
  exact ⟨_, fd, He.glo_ok X G (c.fact 33 (f := .glo "hangs") rfl), F, (F.bindsN fun _ _ _ _ _ _ us hl => match us, hl with | [_], _ => rfl)⟩
theorem h_step_rates (X : K.In h) (G : h.Ns mainGlobals mg) (c : He.SaysD faH fnH K) : Here K mg "step_rates" st_step_rates ["row", "step", "known", "rates"] := by
  obtain ⟨fd, F⟩ := c.def_ 34 (d := dd_step_rates) rfl
  exact ⟨_, fd, He.glo_ok X G (c.fact 34 (f := .glo "step_rates") rfl), F, (F.bindsN fun _ _ _ _ _ _ us hl => match us, hl with | [_, _, _, _], _ => rfl)⟩
theorem h_rates_at (X : K.In h) (G : h.Ns mainGlobals mg) (c : He.SaysD faH fnH K) : Here K mg "rates_at" st_rates_at ["row", "point"] := by
  obtain ⟨fd, F⟩ := c.def_ 35 (d := dd_rates_at) rfl
  exact ⟨_, fd, He.glo_ok X G (c.fact 35 (f := .glo "rates_at") rfl), F, (F.bindsN fun _ _ _ _ _ _ us hl => match us, hl with | [_, _], _ => rfl)⟩
theorem h_rates_fed (X : K.In h) (G : h.Ns mainGlobals mg) (c : He.SaysD faH fnH K) : Here K mg "rates_fed" st_rates_fed ["row", "other", "point"] := by
  obtain ⟨fd, F⟩ := c.def_ 36 (d := dd_rates_fed) rfl
  exact ⟨_, fd, He.glo_ok X G (c.fact 36 (f := .glo "rates_fed") rfl), F, (F.bindsN fun _ _ _ _ _ _ us hl => match us, hl with | [_, _, _], _ => rfl)⟩
theorem h_Steps_put (c : He.SaysD faH fnH K) : HereM K (He.ga K "Steps") "put" "Steps.put" st_Steps_put ["self", "step"] := by
  obtain ⟨fd, F⟩ := c.def_ 38 (d := dd_Steps_put) rfl
  exact ⟨_, fd, He.meth_ok (c.fact 88 (f := .meth "Steps" "put") rfl), F, (F.bindsN fun _ _ _ _ _ _ us hl => match us, hl with | [_, _], _ => rfl)⟩
theorem h_Steps_joined (c : He.SaysD faH fnH K) : HereM K (He.ga K "Steps") "joined" "Steps.joined" st_Steps_joined ["self", "word", "one", "other"] := by
  obtain ⟨fd, F⟩ := c.def_ 39 (d := dd_Steps_joined) rfl
  exact ⟨_, fd, He.meth_ok (c.fact 89 (f := .meth "Steps" "joined") rfl), F, (F.bindsN fun _ _ _ _ _ _ us hl => match us, hl with | [_, _, _, _], _ => rfl)⟩
theorem h_pull_on (X : K.In h) (G : h.Ns mainGlobals mg) (c : He.SaysD faH fnH K) : Here K mg "pull_on" st_pull_on ["steps", "step", "pull", "pulls", "sizes"] := by
  obtain ⟨fd, F⟩ := c.def_ 40 (d := dd_pull_on) rfl
  exact ⟨_, fd, He.glo_ok X G (c.fact 37 (f := .glo "pull_on") rfl), F, (F.bindsN fun _ _ _ _ _ _ us hl => match us, hl with | [_, _, _, _, _], _ => rfl)⟩
theorem h_backward (X : K.In h) (G : h.Ns mainGlobals mg) (c : He.SaysD faH fnH K) : Here K mg "backward" st_backward ["row"] := by
  obtain ⟨fd, F⟩ := c.def_ 41 (d := dd_backward) rfl
  exact ⟨_, fd, He.glo_ok X G (c.fact 38 (f := .glo "backward") rfl), F, (F.bindsN fun _ _ _ _ _ _ us hl => match us, hl with | [_], _ => rfl)⟩
theorem h_sweep (X : K.In h) (G : h.Ns mainGlobals mg) (c : He.SaysD faH fnH K) : Here K mg "sweep" st_sweep ["row", "known", "weights"] := by
  obtain ⟨fd, F⟩ := c.def_ 42 (d := dd_sweep) rfl
  exact ⟨_, fd, He.glo_ok X G (c.fact 39 (f := .glo "sweep") rfl), F, (F.bindsN fun _ _ _ _ _ _ us hl => match us, hl with | [_, _, _], _ => rfl)⟩
theorem h_swept (X : K.In h) (G : h.Ns mainGlobals mg) (c : He.SaysD faH fnH K) : Here K mg "swept" st_swept ["row", "point", "weights"] := by
  obtain ⟨fd, F⟩ := c.def_ 43 (d := dd_swept) rfl
  exact ⟨_, fd, He.glo_ok X G (c.fact 40 (f := .glo "swept") rfl), F, (F.bindsN fun _ _ _ _ _ _ us hl => match us, hl with | [_, _, _], _ => rfl)⟩
theorem h_step_text (X : K.In h) (G : h.Ns mainGlobals mg) (c : He.SaysD faH fnH K) : Here K mg "step_text" st_step_text ["step"] := by
  obtain ⟨fd, F⟩ := c.def_ 44 (d := dd_step_text) rfl
  exact ⟨_, fd, He.glo_ok X G (c.fact 41 (f := .glo "step_text") rfl), F, (F.bindsN fun _ _ _ _ _ _ us hl => match us, hl with | [_], _ => rfl)⟩
theorem h_row_text (X : K.In h) (G : h.Ns mainGlobals mg) (c : He.SaysD faH fnH K) : Here K mg "row_text" st_row_text ["row"] := by
  obtain ⟨fd, F⟩ := c.def_ 45 (d := dd_row_text) rfl
  exact ⟨_, fd, He.glo_ok X G (c.fact 42 (f := .glo "row_text") rfl), F, (F.bindsN fun _ _ _ _ _ _ us hl => match us, hl with | [_], _ => rfl)⟩
theorem h_number_of (X : K.In h) (G : h.Ns mainGlobals mg) (c : He.SaysD faH fnH K) : Here K mg "number_of" st_number_of ["word"] := by
  obtain ⟨fd, F⟩ := c.def_ 46 (d := dd_number_of) rfl
  exact ⟨_, fd, He.glo_ok X G (c.fact 43 (f := .glo "number_of") rfl), F, (F.bindsN fun _ _ _ _ _ _ us hl => match us, hl with | [_], _ => rfl)⟩
theorem h_numbers_of (X : K.In h) (G : h.Ns mainGlobals mg) (c : He.SaysD faH fnH K) : Here K mg "numbers_of" st_numbers_of ["words"] := by
  obtain ⟨fd, F⟩ := c.def_ 47 (d := dd_numbers_of) rfl
  exact ⟨_, fd, He.glo_ok X G (c.fact 44 (f := .glo "numbers_of") rfl), F, (F.bindsN fun _ _ _ _ _ _ us hl => match us, hl with | [_], _ => rfl)⟩
theorem h_read_step (X : K.In h) (G : h.Ns mainGlobals mg) (c : He.SaysD faH fnH K) : Here K mg "read_step" st_read_step ["line"] := by
  obtain ⟨fd, F⟩ := c.def_ 48 (d := dd_read_step) rfl
  exact ⟨_, fd, He.glo_ok X G (c.fact 45 (f := .glo "read_step") rfl), F, (F.bindsN fun _ _ _ _ _ _ us hl => match us, hl with | [_], _ => rfl)⟩
theorem h_read_head (X : K.In h) (G : h.Ns mainGlobals mg) (c : He.SaysD faH fnH K) : Here K mg "read_head" st_read_head ["line"] := by
  obtain ⟨fd, F⟩ := c.def_ 49 (d := dd_read_head) rfl
  exact ⟨_, fd, He.glo_ok X G (c.fact 46 (f := .glo "read_head") rfl), F, (F.bindsN fun _ _ _ _ _ _ us hl => match us, hl with | [_], _ => rfl)⟩
theorem h_read_ends (X : K.In h) (G : h.Ns mainGlobals mg) (c : He.SaysD faH fnH K) : Here K mg "read_ends" st_read_ends ["line"] := by
  obtain ⟨fd, F⟩ := c.def_ 50 (d := dd_read_ends) rfl
  exact ⟨_, fd, He.glo_ok X G (c.fact 47 (f := .glo "read_ends") rfl), F, (F.bindsN fun _ _ _ _ _ _ us hl => match us, hl with | [_], _ => rfl)⟩
theorem h_read_row (X : K.In h) (G : h.Ns mainGlobals mg) (c : He.SaysD faH fnH K) : Here K mg "read_row" st_read_row ["value"] := by
  obtain ⟨fd, F⟩ := c.def_ 51 (d := dd_read_row) rfl
  exact ⟨_, fd, He.glo_ok X G (c.fact 48 (f := .glo "read_row") rfl), F, (F.bindsN fun _ _ _ _ _ _ us hl => match us, hl with | [_], _ => rfl)⟩
theorem h__law_deck (X : K.In h) (G : h.Ns mainGlobals mg) (c : He.SaysD faH fnH K) : Here K mg "_law_deck" st__law_deck ["_law_script"] := by
  obtain ⟨fd, F⟩ := c.def_ 52 (d := dd__law_deck) rfl
  exact ⟨_, fd, He.glo_ok X G (c.fact 49 (f := .glo "_law_deck") rfl), F, (F.bindsN fun _ _ _ _ _ _ us hl => match us, hl with | [_], _ => rfl)⟩
theorem h__law_draw (X : K.In h) (G : h.Ns mainGlobals mg) (c : He.SaysD faH fnH K) : Here K mg "_law_draw" st__law_draw ["_law_deck_here", "_law_many"] := by
  obtain ⟨fd, F⟩ := c.def_ 53 (d := dd__law_draw) rfl
  exact ⟨_, fd, He.glo_ok X G (c.fact 50 (f := .glo "_law_draw") rfl), F, (F.bindsN fun _ _ _ _ _ _ us hl => match us, hl with | [_, _], _ => rfl)⟩
theorem h__law_one (X : K.In h) (G : h.Ns mainGlobals mg) (c : He.SaysD faH fnH K) : Here K mg "_law_one" st__law_one ["_law_deck_here", "_law_items"] := by
  obtain ⟨fd, F⟩ := c.def_ 54 (d := dd__law_one) rfl
  exact ⟨_, fd, He.glo_ok X G (c.fact 51 (f := .glo "_law_one") rfl), F, (F.bindsN fun _ _ _ _ _ _ us hl => match us, hl with | [_, _], _ => rfl)⟩
theorem h__law_far (X : K.In h) (G : h.Ns mainGlobals mg) (c : He.SaysD faH fnH K) : Here K mg "_law_far" st__law_far ["_law_deck_here", "_law_many"] := by
  obtain ⟨fd, F⟩ := c.def_ 55 (d := dd__law_far) rfl
  exact ⟨_, fd, He.glo_ok X G (c.fact 52 (f := .glo "_law_far") rfl), F, (F.bindsN fun _ _ _ _ _ _ us hl => match us, hl with | [_, _], _ => rfl)⟩
theorem h__law_number (X : K.In h) (G : h.Ns mainGlobals mg) (c : He.SaysD faH fnH K) : Here K mg "_law_number" st__law_number ["_law_deck_here"] := by
  obtain ⟨fd, F⟩ := c.def_ 56 (d := dd__law_number) rfl
  exact ⟨_, fd, He.glo_ok X G (c.fact 53 (f := .glo "_law_number") rfl), F, (F.bindsN fun _ _ _ _ _ _ us hl => match us, hl with | [_], _ => rfl)⟩
theorem h__law_point (X : K.In h) (G : h.Ns mainGlobals mg) (c : He.SaysD faH fnH K) : Here K mg "_law_point" st__law_point ["_law_deck_here", "_law_inputs"] := by
  obtain ⟨fd, F⟩ := c.def_ 57 (d := dd__law_point) rfl
  exact ⟨_, fd, He.glo_ok X G (c.fact 54 (f := .glo "_law_point") rfl), F, (F.bindsN fun _ _ _ _ _ _ us hl => match us, hl with | [_, _], _ => rfl)⟩
theorem h__law_size (X : K.In h) (G : h.Ns mainGlobals mg) (c : He.SaysD faH fnH K) : Here K mg "_law_size" st__law_size ["_law_step", "_law_found"] := by
  obtain ⟨fd, F⟩ := c.def_ 58 (d := dd__law_size) rfl
  exact ⟨_, fd, He.glo_ok X G (c.fact 55 (f := .glo "_law_size") rfl), F, (F.bindsN fun _ _ _ _ _ _ us hl => match us, hl with | [_, _], _ => rfl)⟩
theorem h__law_row (X : K.In h) (G : h.Ns mainGlobals mg) (c : He.SaysD faH fnH K) : Here K mg "_law_row" st__law_row ["_law_deck_here", "_law_inputs", "_law_many", "_law_most"] := by
  obtain ⟨fd, F⟩ := c.def_ 59 (d := dd__law_row) rfl
  exact ⟨_, fd, He.glo_ok X G (c.fact 56 (f := .glo "_law_row") rfl), F, (F.bindsN fun _ _ _ _ _ _ us hl => match us, hl with | [_, _, _, _], _ => rfl)⟩
theorem h__law_fed_right (X : K.In h) (G : h.Ns mainGlobals mg) (c : He.SaysD faH fnH K) : Here K mg "_law_fed_right" st__law_fed_right ["_law_deck_here", "_law_one_here", "_law_other"] := by
  obtain ⟨fd, F⟩ := c.def_ 60 (d := dd__law_fed_right) rfl
  exact ⟨_, fd, He.glo_ok X G (c.fact 57 (f := .glo "_law_fed_right") rfl), F, (F.bindsN fun _ _ _ _ _ _ us hl => match us, hl with | [_, _, _], _ => rfl)⟩
theorem h__law_beside_right (X : K.In h) (G : h.Ns mainGlobals mg) (c : He.SaysD faH fnH K) : Here K mg "_law_beside_right" st__law_beside_right ["_law_deck_here", "_law_one_here", "_law_other"] := by
  obtain ⟨fd, F⟩ := c.def_ 61 (d := dd__law_beside_right) rfl
  exact ⟨_, fd, He.glo_ok X G (c.fact 58 (f := .glo "_law_beside_right") rfl), F, (F.bindsN fun _ _ _ _ _ _ us hl => match us, hl with | [_, _, _], _ => rfl)⟩
theorem h_law (X : K.In h) (G : h.Ns mainGlobals mg) (c : He.SaysD faH fnH K) : Here K mg "law" st_law ["_law_script"] := by
  obtain ⟨fd, F⟩ := c.def_ 62 (d := dd_law) rfl
  exact ⟨_, fd, He.glo_ok X G (c.fact 59 (f := .glo "law") rfl), F, (F.bindsN fun _ _ _ _ _ _ us hl => match us, hl with | [_], _ => rfl)⟩
theorem topOf (X : K.In h) (G : h.Ns mainGlobals mg) (c : He.SaysD faH fnH K) (ct : tupOk K = true) : Top K mg (He.ga K "Steps") where
  len := He.free_ok X G (c.fact 60 (f := .free "len") rfl)
  max := He.free_ok X G (c.fact 61 (f := .free "max") rfl)
  min := He.free_ok X G (c.fact 62 (f := .free "min") rfl)
  sum := He.free_ok X G (c.fact 63 (f := .free "sum") rfl)
  all := He.free_ok X G (c.fact 64 (f := .free "all") rfl)
  tuple := He.free_ok X G (c.fact 65 (f := .free "tuple") rfl)
  list := He.free_ok X G (c.fact 66 (f := .free "list") rfl)
  dict := He.free_ok X G (c.fact 67 (f := .free "dict") rfl)
  sorted := He.free_ok X G (c.fact 68 (f := .free "sorted") rfl)
  int := He.free_ok X G (c.fact 69 (f := .free "int") rfl)
  abs := He.free_ok X G (c.fact 70 (f := .free "abs") rfl)
  str := He.free_ok X G (c.fact 71 (f := .free "str") rfl)
  bool := He.free_ok X G (c.fact 72 (f := .free "bool") rfl)
  isinstance := He.free_ok X G (c.fact 73 (f := .free "isinstance") rfl)
  range := He.free_ok X G (c.fact 74 (f := .free "range") rfl)
  zip := He.free_ok X G (c.fact 75 (f := .free "zip") rfl)
  enumerate := He.free_ok X G (c.fact 76 (f := .free "enumerate") rfl)
  MAX_WIDE := He.int_ok X G (c.fact 77 (f := .int "MAX_WIDE" 20) rfl)
  MAX_LONG := He.int_ok X G (c.fact 78 (f := .int "MAX_LONG" 400) rfl)
  MAX_SIZE := He.int_ok X G (c.fact 79 (f := .int "MAX_SIZE" 64) rfl)
  MAX_TERMS := He.int_ok X G (c.fact 80 (f := .int "MAX_TERMS" 200) rfl)
  MAX_NUMBER := He.int_ok X G (c.fact 81 (f := .int "MAX_NUMBER" 100000000000000000000) rfl)
  FIGURES := He.str_ok X G (c.fact 82 (f := .str "FIGURES" "0123456789") rfl)
  sgn := ⟨He.ga K "SIGNS", He.glo_ok X G (c.fact 83 (f := .glo "SIGNS") rfl), fun H => He.tupB_ok ct H⟩
  Steps := He.glo_ok X G (c.fact 84 (f := .glo "Steps") rfl)
  cls := ⟨He.cls_ok (c.fact 85 (f := .cls "Steps") rfl), He.noat_ok (c.fact 86 (f := .noat "Steps" "rows") rfl)⟩
theorem mkrOf {P : Program} {w : World} {base : Heap} (X : K.In h) (G : h.Ns mainGlobals mg) (c : He.SaysD faH fnH K) (T : Top K mg (He.ga K "Steps")) : Mkr P w K mg base 1 (He.ga K "Steps") := by
  obtain ⟨fd, F⟩ := c.def_ 37 (d := dd_Steps___init__) rfl
  exact ⟨_, fd, He.mkr_ok (c.fact 87 (f := .mkr "Steps") rfl), F.bindsN fun _ _ _ _ _ _ us hl => match us, hl with | [_], _ => rfl, ok_init T F⟩
theorem fn1 {P : Program} {w : World} {K : PySem.W.Frag} {mg : Str → Option Value} {base : Heap} {k : Nat} {x : Str} {st : Stmt} {N ps : List Str} {gs : GSp} {f : Addr} {fd : FuncData} (F : FunD K x x (defArgs st) (defBody st) (defScope st) [] [] f fd) (S : FnScope N ps (defScope st)) (ww : WS)
    (hb : ∀ (f : Addr) (cdv : Value) (A : Around) (outer : List Env) (s : Shared) (H : Hp) (E : XK), Room k (A.deeper (envOfC x (defScope st) s.heap.objs.size f cdv)) → ∃ t, GSs (cxOf CX0 P w K mg base N x (defScope st) f cdv A outer s H E).nox ps.length (defBody st) t ww)
    (hw : ∀ args Z, gs args Z → args.length = ps.length ∧ ww (endsOf ps.length Z) (args ++ List.replicate (N.length - ps.length) .un)) : FnOk P w K mg base CX0 (k + 1) f fd ps (toSp K gs) := by
  refine F.ok S (fun vs H Q E h => ?_) fun cdv A outer s H vs Q E hr h => ?_
  · obtain ⟨args, fs, _, ar, _, g, _⟩ := h
    rw [ar.len.1, (hw args _ g).1]
  · have hl : vs.length = ps.length := by
      obtain ⟨args, fs, _, ar, _, g, _⟩ := h
      rw [ar.len.1, (hw args _ g).1]
    obtain ⟨t, d⟩ := hb f cdv A outer s H E hr
    exact ⟨t, d.ps.nox, body_of (n := N.length) d.sd hw h⟩
theorem d_law1 {P : Program} {w : World} {K : PySem.W.Frag} {mg : Str → Option Value} {base : Heap} {C : Addr} {f0 : Addr} {fd0 : FuncData} (T : Top K mg C) (F__law_beside_right : Fn P w K mg base 5 "_law_beside_right" ["_law_deck_here", "_law_one_here", "_law_other"] sp__law_beside_right) (F__law_deck : Fn P w K mg base 1 "_law_deck" ["_law_script"] sp__law_deck) (F__law_draw : Fn P w K mg base 1 "_law_draw" ["_law_deck_here", "_law_many"] sp__law_draw) (F__law_fed_right : Fn P w K mg base 8 "_law_fed_right" ["_law_deck_here", "_law_one_here", "_law_other"] sp__law_fed_right) (F__law_one : Fn P w K mg base 2 "_law_one" ["_law_deck_here", "_law_items"] sp__law_one) (F__law_point : Fn P w K mg base 4 "_law_point" ["_law_deck_here", "_law_inputs"] sp__law_point) (F__law_row : Fn P w K mg base 3 "_law_row" ["_law_deck_here", "_law_inputs", "_law_many", "_law_most"] sp__law_row) (F_renamed : Fn P w K mg base 1 "renamed" ["row", "inputs", "order"] sp_renamed) (F_swept : Fn P w K mg base 4 "swept" ["row", "point", "weights"] sp_swept) (F_told : Fn P w K mg base 3 "told" ["row", "point"] sp_told) (hF : FunD K "law" "law" (defArgs st_law) (defBody st_law) (defScope st_law) [] [] f0 fd0) : FnOk P w K mg base CX0 9 f0 fd0 ["_law_script"] (toSp K sp_law) :=
  fn1 hF sc_law (w_law) (fun f cdv A outer s H E hr => by
    have hc : (cxOf CX0 P w K mg base N_law "law" (defScope st_law) f cdv A outer s H E).nox.calm = true := rfl
    have hN : (cxOf CX0 P w K mg base N_law "law" (defScope st_law) f cdv A outer s H E).nox.N.Nodup := sc_law.nd
    have hu : (cxOf CX0 P w K mg base N_law "law" (defScope st_law) f cdv A outer s H E).nox.A.units + 64 < cLine := hr.units
    exact ⟨_, (gs_cons (gs_set (i := 1) hN rfl (by first | exact .inl rfl | exact .inr rfl) (g_call F__law_deck (hr.mono (by decide)) (ga_cons (gv 0) ga_nil))) (gs_cons (gs_for PassesOwn.never hc (gi_rng1 rfl T.range (ga_cons g_int ga_nil)) (gg_name hN rfl (by first | exact .inl rfl | exact .inr rfl)) (gs_cons (gs_set (i := 3) hN rfl (by first | exact .inl rfl | exact .inr rfl) (g_call F__law_row (hr.mono (by decide)) (ga_cons (gv 1) (ga_cons (g_call F__law_one (hr.mono (by decide)) (ga_cons (gv 1) (ga_cons (g_lst (ga_cons g_int (ga_cons g_int (ga_cons g_int ga_nil)))) ga_nil))) (ga_cons g_int (ga_cons g_int ga_nil)))))) (gs_cons (gs_set (i := 4) hN rfl (by first | exact .inl rfl | exact .inr rfl) (g_call F__law_row (hr.mono (by decide)) (ga_cons (gv 1) (ga_cons (g_callB cl_len bg_len rfl T.len boot_len (ga_cons (g_ix (gv 3) g_int) ga_nil)) (ga_cons g_int (ga_cons g_int ga_nil)))))) (gs_cons (gs_if (GW.gt (gw_or (gt_not (gt_val (g_call F__law_fed_right (hr.mono (by decide)) (ga_cons (gv 1) (ga_cons (gv 3) (ga_cons (gv 4) ga_nil)))))) (gw_or1 (gt_not (gt_val (g_call F__law_beside_right (hr.mono (by decide)) (ga_cons (gv 1) (ga_cons (gv 3) (ga_cons (gv 4) ga_nil))))))))) (gs_one (gs_ret g_bl)) gs_nil) (gs_cons (gs_set (i := 5) hN rfl (by first | exact .inl rfl | exact .inr rfl) (g_add g_int (g_call F__law_draw (hr.mono (by decide)) (ga_cons (gv 1) (ga_cons g_int ga_nil))))) (gs_cons (gs_set (i := 6) hN rfl (by first | exact .inl rfl | exact .inr rfl) (g_callTy call_tuple_of bg_tuple rfl T.tuple boot_tuple (ga_cons (g_lc hc hN (gi_rng1 rfl T.range (ga_cons (g_ix (gv 3) g_int) ga_nil)) (own := [("_law_k", 12)]) (tt := tYes) (te := (tCall (toSp K sp__law_draw) [] E0 (tCons (tVar 1) (tCons (tVar 5) tNil)))) (g := (gName 12)) (show BlkOk N_law (defScope st_law) _ [("_law_k", 12)] from ⟨by rfl, by decide +kernel, by decide +kernel, by decide +kernel, by decide +kernel⟩) (fun _ _ _ _ _ => (gg_name hN rfl (by first | exact .inl rfl | exact .inr rfl))) (fun _ _ _ _ _ => gts_nil) (fun _ _ _ _ _ => (g_call F__law_draw (hr.mono (by decide)) (ga_cons (gv 1) (ga_cons (gv 5) ga_nil))))) ga_nil))) (gs_cons (gs_parC (i := 7) (j := 8) hc hN rfl rfl (by first | exact .inl rfl | exact .inr rfl) (by first | exact .inl rfl | exact .inr rfl) (ga_cons (g_call F__law_point (hr.mono (by decide)) (ga_cons (gv 1) (ga_cons (gv 5) ga_nil))) (ga_cons (g_callTy call_tuple_of bg_tuple rfl T.tuple boot_tuple (ga_cons (g_lc hc hN (gi_tup (g_ix (gv 3) g_int)) (own := [("_law_end", 13)]) (tt := tYes) (te := (tOp (rI0 fun i j => .int (i - j)) (tCall (toSp K sp__law_draw) [] E0 (tCons (tVar 1) (tCons (tC (.int 9)) tNil))) (tC (.int 4)))) (g := (gName 13)) (show BlkOk N_law (defScope st_law) _ [("_law_end", 13)] from ⟨by rfl, by decide +kernel, by decide +kernel, by decide +kernel, by decide +kernel⟩) (fun _ _ _ _ _ => (gg_name hN rfl (by first | exact .inl rfl | exact .inr rfl))) (fun _ _ _ _ _ => gts_nil) (fun _ _ _ _ _ => (g_sub (g_call F__law_draw (hr.mono (by decide)) (ga_cons (gv 1) (ga_cons g_int ga_nil))) g_int))) ga_nil)) ga_nil))) (gs_cons (gs_set (i := 9) hN rfl (by first | exact .inl rfl | exact .inr rfl) (g_callTy call_tuple_of bg_tuple rfl T.tuple boot_tuple (ga_cons (g_lc hc hN (gi_tup (gv 6)) (own := [("_law_k", 12)]) (tt := tYes) (te := (tOp (rIx K) (tVar 7) (tVar 12))) (g := (gName 12)) (show BlkOk N_law (defScope st_law) _ [("_law_k", 12)] from ⟨by rfl, by decide +kernel, by decide +kernel, by decide +kernel, by decide +kernel⟩) (fun _ _ _ _ _ => (gg_name hN rfl (by first | exact .inl rfl | exact .inr rfl))) (fun _ _ _ _ _ => gts_nil) (fun _ _ _ _ _ => (g_ix (gv 7) (gv 12)))) ga_nil))) (gs_cons (gs_parC (i := 10) (j := 11) hc hN rfl rfl (by first | exact .inl rfl | exact .inr rfl) (by first | exact .inl rfl | exact .inr rfl) (ga_cons (g_call F_swept (hr.mono (by decide)) (ga_cons (g_call F_renamed (hr.mono (by decide)) (ga_cons (gv 3) (ga_cons (gv 5) (ga_cons (gv 6) ga_nil)))) (ga_cons (gv 7) (ga_cons (gv 8) ga_nil)))) (ga_cons (g_call F_swept (hr.mono (by decide)) (ga_cons (gv 3) (ga_cons (gv 9) (ga_cons (gv 8) ga_nil)))) ga_nil))) (gs_cons (gs_if (gt_cmp (gc_neL hu (g_callTy call_list_of bg_list rfl T.list boot_list (ga_cons (gv 10) ga_nil)) (g_lc hc hN (gi_rng1 rfl T.range (ga_cons (gv 5) ga_nil)) (own := [("_law_at", 14)]) (tt := tYes) (te := (tCB (rSum K) (tCons (tLc (iRng1 (tCons (tOp (rIx K) (tVar 3) (tC (.int 0))) tNil)) (gName 12) (tTest (tOp (rEqA K) (tOp (rIx K) (tVar 6) (tVar 12)) (tVar 14))) (tOp (rIx K) (tVar 11) (tVar 12)) [12]) tNil))) (g := (gName 14)) (show BlkOk N_law (defScope st_law) _ [("_law_at", 14)] from ⟨by rfl, by decide +kernel, by decide +kernel, by decide +kernel, by decide +kernel⟩) (fun _ _ _ _ _ => (gg_name hN rfl (by first | exact .inl rfl | exact .inr rfl))) (fun _ _ _ _ _ => gts_nil) (fun _ _ _ _ _ => (g_callB (cr_sum hc) bg_sum rfl T.sum boot_sum (ga_cons (g_lc hc hN (gi_rng1 rfl T.range (ga_cons (g_ix (gv 3) g_int) ga_nil)) (own := [("_law_k", 12)]) (tt := (tTest (tOp (rEqA K) (tOp (rIx K) (tVar 6) (tVar 12)) (tVar 14)))) (te := (tOp (rIx K) (tVar 11) (tVar 12))) (g := (gName 12)) (BlkOk.nest (show BlkOk N_law _ _ [("_law_k", 12)] from ⟨by rfl, by decide +kernel, by decide +kernel, by decide +kernel, by decide +kernel⟩)) (fun _ _ _ _ _ => (gg_name hN rfl (by first | exact .inl rfl | exact .inr rfl))) (fun _ _ _ _ _ => (gts_one (gt_cmp (gc_eq hu (g_ix (gv 6) (gv 12)) (gv 14))))) (fun _ _ _ _ _ => (g_ix (gv 11) (gv 12)))) ga_nil)))))) (gs_one (gs_ret g_bl)) gs_nil) (gs_one (gs_if (gt_cmp (gc_ne hu (g_call F_told (hr.mono (by decide)) (ga_cons (g_call F_renamed (hr.mono (by decide)) (ga_cons (gv 3) (ga_cons (gv 5) (ga_cons (gv 6) ga_nil)))) (ga_cons (gv 7) ga_nil))) (g_call F_told (hr.mono (by decide)) (ga_cons (gv 3) (ga_cons (gv 9) ga_nil))))) (gs_one (gs_ret g_bl)) gs_nil)))))))))))) (gs_one (gs_ret g_bl))))⟩) (vc_law)
theorem fnLaw {P : Program} {w : World} {base : Heap} {f0 : Addr} {fd0 : FuncData} (X : K.In h) (G : h.Ns mainGlobals mg) (c : He.SaysD faH fnH K) (ct : tupOk K = true) (hF : FunD K "law" "law" (defArgs st_law) (defBody st_law) (defScope st_law) [] [] f0 fd0) : FnOk P w K mg base CX0 9 f0 fd0 ["_law_script"] (toSp K sp_law) := by
  have T := topOf X G c ct
  have F_mk : Mkr P w K mg base 1 (He.ga K "Steps") := mkrOf X G c T
  have F_is_integer : Fn P w K mg base 1 "is_integer" ["value", "least", "most"] sp_is_integer := d_is_integer T (h_is_integer X G c)
  have F_measure : Fn P w K mg base 1 "measure" ["step", "found", "least"] sp_measure := d_measure T (h_measure X G c)
  have F_step_value : Fn P w K mg base 1 "step_value" ["step", "point", "found"] sp_step_value := d_step_value T (h_step_value X G c)
  have F_steps_used : Fn P w K mg base 1 "steps_used" ["step"] sp_steps_used := d_steps_used T (h_steps_used X G c)
  have F_step_by : Fn P w K mg base 1 "step_by" ["step", "names"] sp_step_by := d_step_by T (h_step_by X G c)
  have F_renamed : Fn P w K mg base 1 "renamed" ["row", "inputs", "order"] sp_renamed := d_renamed T (h_renamed X G c)
  have F_as_poly : Fn P w K mg base 1 "as_poly" ["pairs"] sp_as_poly := d_as_poly T (h_as_poly X G c)
  have F_unknown : Fn P w K mg base 1 "unknown" ["many", "index"] sp_unknown := d_unknown T (h_unknown X G c)
  have F_power_of : Fn P w K mg base 1 "power_of" ["number", "power"] sp_power_of := d_power_of T (h_power_of X G c)
  have F_need_like : Fn P w K mg base 1 "need_like" ["one", "other"] sp_need_like := d_need_like T (h_need_like X G c)
  have F_rate : Fn P w K mg base 1 "rate" ["poly", "unknown"] sp_rate := d_rate T (h_rate X G c)
  have F_step_rates : Fn P w K mg base 1 "step_rates" ["row", "step", "known", "rates"] sp_step_rates := d_step_rates T (h_step_rates X G c)
  have F_Steps_put : Mth P w K mg base 1 (He.ga K "Steps") "put" ["self", "step"] (sp_Steps_put (He.ga K "Steps")) := d_Steps_put T (h_Steps_put c)
  have F_step_text : Fn P w K mg base 1 "step_text" ["step"] sp_step_text := d_step_text T (h_step_text X G c)
  have F_number_of : Fn P w K mg base 1 "number_of" ["word"] sp_number_of := d_number_of T (h_number_of X G c)
  have F__law_deck : Fn P w K mg base 1 "_law_deck" ["_law_script"] sp__law_deck := d__law_deck T (h__law_deck X G c)
  have F__law_draw : Fn P w K mg base 1 "_law_draw" ["_law_deck_here", "_law_many"] sp__law_draw := d__law_draw T (h__law_draw X G c)
  have F__law_size : Fn P w K mg base 1 "_law_size" ["_law_step", "_law_found"] sp__law_size := d__law_size T (h__law_size X G c)
  have F_is_step : Fn P w K mg base 2 "is_step" ["value", "inputs", "number"] sp_is_step := d_is_step T F_is_integer (h_is_step X G c)
  have F_degrees : Fn P w K mg base 2 "degrees" ["row"] sp_degrees := d_degrees T F_measure (h_degrees X G c)
  have F_sizes : Fn P w K mg base 2 "sizes" ["row"] sp_sizes := d_sizes T F_measure (h_sizes X G c)
  have F_values : Fn P w K mg base 2 "values" ["row", "point"] sp_values := d_values T F_step_value (h_values X G c)
  have F_needed : Fn P w K mg base 2 "needed" ["row"] sp_needed := d_needed T F_steps_used (h_needed X G c)
  have F_constant : Fn P w K mg base 2 "constant" ["many", "number"] sp_constant := d_constant T F_as_poly (h_constant X G c)
  have F_plus : Fn P w K mg base 2 "plus" ["one", "other"] sp_plus := d_plus T F_as_poly (h_plus X G c)
  have F_scaled : Fn P w K mg base 2 "scaled" ["poly", "number"] sp_scaled := d_scaled T F_as_poly (h_scaled X G c)
  have F_times : Fn P w K mg base 2 "times" ["one", "other"] sp_times := d_times T F_as_poly (h_times X G c)
  have F_value_of : Fn P w K mg base 2 "value_of" ["poly", "numbers"] sp_value_of := d_value_of T F_power_of (h_value_of X G c)
  have F_Steps_joined : Mth P w K mg base 2 (He.ga K "Steps") "joined" ["self", "word", "one", "other"] (sp_Steps_joined (He.ga K "Steps")) := d_Steps_joined T F_Steps_put (h_Steps_joined c)
  have F_row_text : Fn P w K mg base 2 "row_text" ["row"] sp_row_text := d_row_text T F_step_text (h_row_text X G c)
  have F_numbers_of : Fn P w K mg base 2 "numbers_of" ["words"] sp_numbers_of := d_numbers_of T F_number_of (h_numbers_of X G c)
  have F__law_one : Fn P w K mg base 2 "_law_one" ["_law_deck_here", "_law_items"] sp__law_one := d__law_one T F__law_draw (h__law_one X G c)
  have F__law_far : Fn P w K mg base 2 "_law_far" ["_law_deck_here", "_law_many"] sp__law_far := d__law_far T F__law_draw (h__law_far X G c)
  have F_error_within : Fn P w K mg base 3 "error_within" ["value", "inputs", "steps", "ends"] sp_error_within := d_error_within T F_is_integer F_is_step F_measure (h_error_within X G c)
  have F_told : Fn P w K mg base 3 "told" ["row", "point"] sp_told := d_told T F_values (h_told X G c)
  have F_slim : Fn P w K mg base 3 "slim" ["row"] sp_slim := d_slim T F_needed F_step_by (h_slim X G c)
  have F_checked : Fn P w K mg base 3 "checked" ["row"] sp_checked := d_checked T F_sizes (h_checked X G c)
  have F_minus : Fn P w K mg base 3 "minus" ["one", "other"] sp_minus := d_minus T F_plus F_scaled (h_minus X G c)
  have F_rates_at : Fn P w K mg base 3 "rates_at" ["row", "point"] sp_rates_at := d_rates_at T F_step_rates F_values (h_rates_at X G c)
  have F_pull_on : Fn P w K mg base 3 "pull_on" ["steps", "step", "pull", "pulls", "sizes"] (sp_pull_on (He.ga K "Steps")) := d_pull_on T F_Steps_joined F_Steps_put (h_pull_on X G c)
  have F_sweep : Fn P w K mg base 3 "sweep" ["row", "known", "weights"] sp_sweep := d_sweep T F_needed (h_sweep X G c)
  have F_read_step : Fn P w K mg base 3 "read_step" ["line"] sp_read_step := d_read_step T F_numbers_of (h_read_step X G c)
  have F_read_head : Fn P w K mg base 3 "read_head" ["line"] sp_read_head := d_read_head T F_numbers_of (h_read_head X G c)
  have F_read_ends : Fn P w K mg base 3 "read_ends" ["line"] sp_read_ends := d_read_ends T F_numbers_of (h_read_ends X G c)
  have F__law_number : Fn P w K mg base 3 "_law_number" ["_law_deck_here"] sp__law_number := d__law_number T F__law_far F__law_one (h__law_number X G c)
  have F__law_row : Fn P w K mg base 3 "_law_row" ["_law_deck_here", "_law_inputs", "_law_many", "_law_most"] sp__law_row := d__law_row T F__law_draw F__law_one F__law_size (h__law_row X G c)
  have F_long_error : Fn P w K mg base 4 "long_error" ["value"] sp_long_error := d_long_error T F_error_within (h_long_error X G c)
  have F_fed : Fn P w K mg base 4 "fed" ["one", "other"] sp_fed := d_fed T F_checked F_step_by (h_fed X G c)
  have F_beside : Fn P w K mg base 4 "beside" ["one", "other"] sp_beside := d_beside T F_checked F_step_by (h_beside X G c)
  have F_step_poly : Fn P w K mg base 4 "step_poly" ["step", "many", "found"] sp_step_poly := d_step_poly T F_constant F_minus F_plus F_scaled F_times F_unknown (h_step_poly X G c)
  have F_rates_fed : Fn P w K mg base 4 "rates_fed" ["row", "other", "point"] sp_rates_fed := d_rates_fed T F_rates_at F_told (h_rates_fed X G c)
  have F_backward : Fn P w K mg base 4 "backward" ["row"] sp_backward := d_backward T F_mk F_Steps_joined F_Steps_put F_degrees F_pull_on (h_backward X G c)
  have F_swept : Fn P w K mg base 4 "swept" ["row", "point", "weights"] sp_swept := d_swept T F_sweep F_values (h_swept X G c)
  have F__law_point : Fn P w K mg base 4 "_law_point" ["_law_deck_here", "_law_inputs"] sp__law_point := d__law_point T F__law_draw F__law_number (h__law_point X G c)
  have F_polys_by_steps : Fn P w K mg base 5 "polys_by_steps" ["row"] sp_polys_by_steps := d_polys_by_steps T F_needed F_step_poly (h_polys_by_steps X G c)
  have F_read_row : Fn P w K mg base 5 "read_row" ["value"] sp_read_row := d_read_row T F_long_error F_read_ends F_read_head F_read_step (h_read_row X G c)
  have F__law_beside_right : Fn P w K mg base 5 "_law_beside_right" ["_law_deck_here", "_law_one_here", "_law_other"] sp__law_beside_right := d__law_beside_right T F__law_draw F__law_point F_beside F_rates_at F_swept F_told (h__law_beside_right X G c)
  have F_polys : Fn P w K mg base 6 "polys" ["row"] sp_polys := d_polys T F_polys_by_steps (h_polys X G c)
  have F_same : Fn P w K mg base 7 "same" ["one", "other"] sp_same := d_same T F_need_like F_polys (h_same X G c)
  have F_hangs : Fn P w K mg base 7 "hangs" ["row"] sp_hangs := d_hangs T F_polys F_rate (h_hangs X G c)
  have F__law_fed_right : Fn P w K mg base 8 "_law_fed_right" ["_law_deck_here", "_law_one_here", "_law_other"] sp__law_fed_right := d__law_fed_right T F__law_draw F_backward F_fed F_hangs F_polys F_rates_at F_rates_fed F_read_row F_row_text F_same F_slim F_swept F_told F_value_of (h__law_fed_right X G c)
  exact d_law1 T F__law_beside_right F__law_deck F__law_draw F__law_fed_right F__law_one F__law_point F__law_row F_renamed F_swept F_told hF
theorem factsL {P : Program} {w : World} {f : Addr} (X : K.In h) (G : h.Ns mainGlobals mg) (hfa : mg ("law" : Str) = some (.ref f)) (c : He.SaysD faH fnH K) (ct : tupOk K = true) :
    ∃ fd : FuncData, (∀ (s : Shared) (v : Value), BindsTo s fd ⟨[v], []⟩ [("_law_script", v)]) ∧ ∀ base : Heap, FnOk P w K mg base CX0 9 f fd ["_law_script"] (toSp K sp_law) := by
  obtain ⟨fd, F⟩ := c.def_ 62 (d := dd_law) rfl
  have e := hfa.symm.trans (He.glo_ok X G (c.fact 59 (f := .glo "law") rfl))
  cases e
  have b := FunD.bindsA (ps := ["_law_script"]) F fun _ _ _ _ _ _ us hl => match us, hl with | [_], _ => rfl
  exact ⟨fd, fun s v => b s [v] rfl, fun base => fnLaw X G c ct F⟩
theorem lawSp {H : Hp} {a : Addr} {ns : List Int} (hl : ns.length ≤ 63) (hO : Only H) (hS : SqL K H a (ns.map V.int)) (E : XK) : toSp K sp_law [.ref a] H (fun v _ => v = .bl true) E := by
  have hF : SqF K H a ns := by
    rcases hS with (h1 | ⟨o, h1⟩) | h1
    · rcases hO a with h2 | ⟨o, xs, h2⟩
      · rw [h1] at h2; cases h2
      · rw [h1] at h2; cases h2
    · exact .inl ⟨o, h1⟩
    · exact .inr fun _ => .inr h1
  refine ⟨[.im (.fl ns)], [[]], fun r _ => r = .im (.bl true), .cons ⟨rfl, _, rfl, .fl hF⟩ .nil, fun i j f g a hne h1 h2 h3 h4 => ?_, ⟨ns, rfl, hl, rfl⟩, fun r outs v H' hr _ _ rr => ?_⟩
  · cases i with
    | zero => cases h1; cases h3
    | succ i => simp at h1
  · subst hr
    exact Is.inv_bl rr
end
end G
set_option maxRecDepth 100000
set_option maxHeartbeats 0
open PySem PySem.W PySem.Calls PyProof.Rows
theorem PySem.Challenge.cw_rowsback_k82_whole_rows_made_of_rows_holds : PySem.Challenge.rw_rowsback_k82_whole_rows_made_of_rows.Holds := by
  w_on; o_law
  refine HandSHeadRun.head_any (r := OpenLaw.row PySem.Challenge.rw_rowsback_k82_whole_rows_made_of_rows) (q := G.qv) (H := G.hk) (ob := G.ob) (M := 4000) (loose := G.lsH) (d := HandSHeadRun.topDef (OpenLaw.row PySem.Challenge.rw_rowsback_k82_whole_rows_made_of_rows).prog 84) (kwd := []) G.ob_eq
    (by kernel_rfl) (fun s => by kernel_rfl) G.run (by kernel_rfl) (by kernel_rfl) (by kernel_rfl) (by rfl) (by first | assumption | decide +kernel) (by decide +kernel) ⟨rfl, rfl, rfl, rfl, rfl, by decide +kernel⟩ ?hw ?hc
  case hw => w_witness2
  case hc =>
    refine L2.walk_ofE (l := PySem.Challenge.rw_rowsback_k82_whole_rows_made_of_rows) (n := 63) (k := 9) (x := "_law_script") (CX := L2.CX0) rfl (by decide) (by kernel_rfl) ⟨rfl, by decide, by decide⟩ ?F (fun _ _ _ _ z => z)
    intro w mg fa h Y Gn hmg0
    obtain ⟨K, KX, ct, c⟩ := Y
    have hmg : mg ("law" : PySem.Str) = some (.ref fa) := by
      have e : (HandSHeadRun.topDef (OpenLaw.row PySem.Challenge.rw_rowsback_k82_whole_rows_made_of_rows).prog 84).name = ("law" : PySem.Str) := by kernel_rfl
      rw [← e]
      exact hmg0
    obtain ⟨fd, hb, hF⟩ := G.factsL (P := (PySem.Challenge.rw_rowsback_k82_whole_rows_made_of_rows).prog) (w := w) KX Gn hmg c ct
    exact ⟨K, fd, G.toSp K G.sp_law, KX, hb, fun H a ns hl hO hS => G.lawSp hl hO hS _, fun base _ _ => hF base⟩
