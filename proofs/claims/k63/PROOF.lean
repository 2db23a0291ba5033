import PyProof.Rows.All
import Wide.All
import OpenK.AllK
import Wide.FinOn
import HandS.ForMost
import HandS.Wide
import HandS.WideBits
import HandS.SortInts
import HandS.Walk
import HandS.TupAny
import HandS.Style
import HandS.Deep
import HandS.Steps
import HandS.SortRule
import PyProof.ReprReads
import PyProof.ReprRoads
import HandS.Zip
import HandS.IsInst
import HandS.ListItems
import PyProof.ReprLen
import PyProof.Rows.RegStrFacts
import PySem.Challenge.RW_divisorsums_k63_whole_walks_of_free_coun
set_option Elab.async false
set_option linter.all false
set_option maxRecDepth 100000
set_option maxHeartbeats 4000000
set_option exponentiation.threshold 100000
/-! VlA: data in the abstract heap, frozen (Rep) and owned (Own); steps of the pair (frozen part, heap); the frame's slots by value (Sim). -/
namespace Vl
open PySem L2

def Ex (H H' : Hp) : Prop := ∀ a o, H a = some o → H' a = some o
theorem Ex.refl (H : Hp) : Ex H H := fun _ _ h => h
theorem Ex.trans {H H1 H2 : Hp} (a : Ex H H1) (b : Ex H1 H2) : Ex H H2 := fun x o h => b x o (a x o h)
theorem Ex.new {H : Hp} {p : Addr} {o : HO} (h : H p = none) : Ex H (upd H p o) := fun a u e => by
  rw [upd_ne (ne_of_none e h)]; exact e
theorem Ex.out {H H' : Hp} {p : Addr} {o : HO} (e : Ex H H') (h : H p = none) : Ex H (upd H' p o) := fun a u ha => by
  rw [upd_ne (ne_of_none ha h)]; exact e a u ha
theorem Ex.back {H H' : Hp} (e : Ex H H') {a : Addr} (h : H' a = none) : H a = none := by
  cases q : H a with
  | none => rfl
  | some o => rw [e a o q] at h; cases h

def keyD : Key → PyData
  | .inl i => .int i
  | .inr s => .str s
def dicD (es : List (Key × PyData)) : PyData := .dict (es.map fun p => (keyD p.1, p.2))

mutual
inductive Rep (G : Hp) : V → PyData → Prop
  | non : Rep G .non .none
  | bl (b : Bool) : Rep G (.bl b) (.bool b)
  | int (i : Int) : Rep G (.int i) (.int i)
  | str (x : Str) : Rep G (.str x) (.str x)
  | lst {a : Addr} {vs : List V} {ds : List PyData} : G a = some (.lst vs) → RepA G vs ds → Rep G (.ref a) (.list ds)
  | tup {a : Addr} {vs : List V} {ds : List PyData} : G a = some (.tup vs) → RepA G vs ds → Rep G (.ref a) (.tuple ds)
  | dic {a : Addr} {kvs : List (Key × V)} {es : List (Key × PyData)} : G a = some (.dK kvs) → kvs.map (·.1) = es.map (·.1) → RepA G (kvs.map (·.2)) (es.map (·.2)) → Rep G (.ref a) (dicD es)
inductive RepA (G : Hp) : List V → List PyData → Prop
  | nil : RepA G [] []
  | cons {v : V} {vs : List V} {d : PyData} {ds : List PyData} : Rep G v d → RepA G vs ds → RepA G (v :: vs) (d :: ds)
end

def isBox : PyData → Bool
  | .list _ => true
  | .dict _ => true
  | _ => false
mutual
/-- no list, no dict in it -/
def lf : PyData → Bool
  | .list _ => false
  | .dict _ => false
  | .tuple xs => lfs xs
  | _ => true
def lfs : List PyData → Bool
  | [] => true
  | x :: xs => lf x && lfs xs
end
mutual
/-- lists and dicts, their leaves without any -/
def olf : PyData → Bool
  | .list xs => olfs xs
  | .dict kvs => olfk kvs
  | .tuple xs => lfs xs
  | _ => true
def olfs : List PyData → Bool
  | [] => true
  | x :: xs => olf x && olfs xs
def olfk : List (PyData × PyData) → Bool
  | [] => true
  | (_, x) :: xs => olf x && olfk xs
end

mutual
inductive Own (G H : Hp) : V → PyData → List Addr → Prop
  | leaf {v : V} {d : PyData} : isBox d = false → Rep G v d → Own G H v d []
  | lst {a : Addr} {vs : List V} {ds : List PyData} {F : List Addr} : H a = some (.lst vs) → OwnA G H vs ds F → Own G H (.ref a) (.list ds) (a :: F)
  | dic {a : Addr} {kvs : List (Key × V)} {es : List (Key × PyData)} {F : List Addr} : H a = some (.dK kvs) → kvs.map (·.1) = es.map (·.1) → OwnA G H (kvs.map (·.2)) (es.map (·.2)) F → Own G H (.ref a) (dicD es) (a :: F)
inductive OwnA (G H : Hp) : List V → List PyData → List Addr → Prop
  | nil : OwnA G H [] [] []
  | cons {v : V} {vs : List V} {d : PyData} {ds : List PyData} {F F' : List Addr} : Own G H v d F → OwnA G H vs ds F' → OwnA G H (v :: vs) (d :: ds) (F ++ F')
end

mutual
theorem Rep.mono {G G' : Hp} (e : Ex G G') : ∀ {v : V} {d : PyData}, Rep G v d → Rep G' v d
  | _, _, .non => .non
  | _, _, .bl b => .bl b
  | _, _, .int i => .int i
  | _, _, .str x => .str x
  | _, _, .lst h r => .lst (e _ _ h) (RepA.mono e r)
  | _, _, .tup h r => .tup (e _ _ h) (RepA.mono e r)
  | _, _, .dic h k r => .dic (e _ _ h) k (RepA.mono e r)
theorem RepA.mono {G G' : Hp} (e : Ex G G') : ∀ {vs : List V} {ds : List PyData}, RepA G vs ds → RepA G' vs ds
  | _, _, .nil => .nil
  | _, _, .cons h r => .cons (Rep.mono e h) (RepA.mono e r)
end

/-- the heap's objects at F stay -/
def Stay (F : List Addr) (H H' : Hp) : Prop := ∀ a ∈ F, H' a = H a
mutual
theorem Own.mono {G G' H H' : Hp} (e : Ex G G') : ∀ {v : V} {d : PyData} {F : List Addr}, Own G H v d F → Stay F H H' → Own G' H' v d F
  | _, _, _, .leaf b r, _ => .leaf b (r.mono e)
  | _, _, _, .lst h r, s => .lst (by rw [s _ List.mem_cons_self]; exact h) (OwnA.mono e r fun a ha => s a (List.mem_cons_of_mem _ ha))
  | _, _, _, .dic h k r, s => .dic (by rw [s _ List.mem_cons_self]; exact h) k (OwnA.mono e r fun a ha => s a (List.mem_cons_of_mem _ ha))
theorem OwnA.mono {G G' H H' : Hp} (e : Ex G G') : ∀ {vs : List V} {ds : List PyData} {F : List Addr}, OwnA G H vs ds F → Stay F H H' → OwnA G' H' vs ds F
  | _, _, _, .nil, _ => .nil
  | _, _, _, .cons h r, s => .cons (Own.mono e h fun a ha => s a (List.mem_append_left _ ha)) (OwnA.mono e r fun a ha => s a (List.mem_append_right _ ha))
end
mutual
theorem Own.at {G H : Hp} : ∀ {v : V} {d : PyData} {F : List Addr}, Own G H v d F → ∀ a ∈ F, (∃ xs, H a = some (.lst xs)) ∨ ∃ ks, H a = some (.dK ks)
  | _, _, _, .leaf _ _, a, h => nomatch h
  | _, _, _, .lst h r, a, m => by
    rcases List.mem_cons.mp m with e | m
    · subst e; exact .inl ⟨_, h⟩
    · exact OwnA.at r a m
  | _, _, _, .dic h _ r, a, m => by
    rcases List.mem_cons.mp m with e | m
    · subst e; exact .inr ⟨_, h⟩
    · exact OwnA.at r a m
theorem OwnA.at {G H : Hp} : ∀ {vs : List V} {ds : List PyData} {F : List Addr}, OwnA G H vs ds F → ∀ a ∈ F, (∃ xs, H a = some (.lst xs)) ∨ ∃ ks, H a = some (.dK ks)
  | _, _, _, .nil, a, h => nomatch h
  | _, _, _, .cons h r, a, m => by
    rcases List.mem_append.mp m with m | m
    · exact Own.at h a m
    · exact OwnA.at r a m
end
/-- the frozen part with what is owned at F -/
def addF (G H : Hp) (F : List Addr) : Hp := fun a => if a ∈ F then H a else G a
def subF (G : Hp) (F : List Addr) : Hp := fun a => if a ∈ F then none else G a
mutual
theorem Own.frz {G H : Hp} (F0 : List Addr) (g : ∀ a ∈ F0, G a = none) : ∀ {v : V} {d : PyData} {F : List Addr}, Own G H v d F → (∀ a ∈ F, a ∈ F0) → Rep (addF G H F0) v d
  | _, _, _, .leaf _ r, _ => r.mono fun a o h => by
    unfold addF; rw [if_neg fun m => by rw [g a m] at h; cases h]; exact h
  | _, _, _, .lst h r, s => .lst (by unfold addF; rw [if_pos (s _ List.mem_cons_self)]; exact h) (OwnA.frz F0 g r fun a ha => s a (List.mem_cons_of_mem _ ha))
  | _, _, _, .dic h k r, s => .dic (by unfold addF; rw [if_pos (s _ List.mem_cons_self)]; exact h) k (OwnA.frz F0 g r fun a ha => s a (List.mem_cons_of_mem _ ha))
theorem OwnA.frz {G H : Hp} (F0 : List Addr) (g : ∀ a ∈ F0, G a = none) : ∀ {vs : List V} {ds : List PyData} {F : List Addr}, OwnA G H vs ds F → (∀ a ∈ F, a ∈ F0) → RepA (addF G H F0) vs ds
  | _, _, _, .nil, _ => .nil
  | _, _, _, .cons h r, s => .cons (Own.frz F0 g h fun a ha => s a (List.mem_append_left _ ha)) (OwnA.frz F0 g r fun a ha => s a (List.mem_append_right _ ha))
end
mutual
/-- data without lists and dicts do not lean on what is no tuple -/
theorem Rep.drop {G : Hp} {F : List Addr} (t : ∀ a ∈ F, ∀ xs, G a ≠ some (.tup xs)) : ∀ {v : V} {d : PyData}, Rep G v d → lf d = true → Rep (subF G F) v d
  | _, _, .non, _ => .non
  | _, _, .bl b, _ => .bl b
  | _, _, .int i, _ => .int i
  | _, _, .str x, _ => .str x
  | _, _, .tup h r, l => .tup (by unfold subF; rw [if_neg fun m => t _ m _ h]; exact h) (RepA.drop t r (by simpa [lf] using l))
  | _, _, .lst h r, l => by simp [lf] at l
  | _, _, .dic h k r, l => by simp [lf, dicD] at l
theorem RepA.drop {G : Hp} {F : List Addr} (t : ∀ a ∈ F, ∀ xs, G a ≠ some (.tup xs)) : ∀ {vs : List V} {ds : List PyData}, RepA G vs ds → lfs ds = true → RepA (subF G F) vs ds
  | _, _, .nil, _ => .nil
  | _, _, .cons h r, l => by
    simp only [lfs, Bool.and_eq_true] at l
    exact .cons (Rep.drop t h l.1) (RepA.drop t r l.2)
end
theorem lf_of_olf {d : PyData} (b : isBox d = false) (l : olf d = true) : lf d = true := by
  cases d <;> simp_all [isBox, olf, lf]
theorem olfk_dicD : ∀ (es : List (Key × PyData)), olf (dicD es) = olfs (es.map (·.2)) := by
  intro es
  simp only [dicD, olf]
  induction es with
  | nil => rfl
  | cons p es ih => simp only [List.map_cons, olfk, olfs, ih]
mutual
theorem Own.drop {G H : Hp} {F0 : List Addr} (t : ∀ a ∈ F0, ∀ xs, G a ≠ some (.tup xs)) : ∀ {v : V} {d : PyData} {F : List Addr}, Own G H v d F → olf d = true → Own (subF G F0) H v d F
  | _, _, _, .leaf b r, l => .leaf b (r.drop t (lf_of_olf b l))
  | _, _, _, .lst h r, l => .lst h (OwnA.drop t r (by simpa [olf] using l))
  | _, _, _, .dic h k r, l => .dic h k (OwnA.drop t r (by rw [olfk_dicD] at l; exact l))
theorem OwnA.drop {G H : Hp} {F0 : List Addr} (t : ∀ a ∈ F0, ∀ xs, G a ≠ some (.tup xs)) : ∀ {vs : List V} {ds : List PyData} {F : List Addr}, OwnA G H vs ds F → olfs ds = true → OwnA (subF G F0) H vs ds F
  | _, _, _, .nil, _ => .nil
  | _, _, _, .cons h r, l => by
    simp only [olfs, Bool.and_eq_true] at l
    exact .cons (Own.drop t h l.1) (OwnA.drop t r l.2)
end

/-! ### the pot: a list of two ints that a call may turn -/
def IsPot (H : Hp) (a : Addr) : Prop := ∃ x y : Int, H a = some (.lst [.int x, .int y]) ∧ 0 ≤ x ∧ 0 ≤ y ∧ y < 2147483648

/-! ### steps -/
structure Step (pa : Option Addr) (G H G' H' : Hp) : Prop where
  g : Ex G G'
  h : ∀ a o, some a ≠ pa → H a = some o → H' a = some o
  p : ∀ a, pa = some a → IsPot H a → IsPot H' a
  gh : Ex G' H'
  fr : ∀ a, H a ≠ none → G a = none → G' a = none
theorem Step.refl {pa : Option Addr} {G H : Hp} (e : Ex G H) : Step pa G H G H := ⟨Ex.refl G, fun _ _ _ h => h, fun _ _ h => h, e, fun _ _ h => h⟩
theorem IsPot.ne {H : Hp} {a : Addr} (h : IsPot H a) : H a ≠ none := by
  obtain ⟨x, y, e, _⟩ := h
  rw [e]; simp
/-- the pot's address has its pot at the start -/
theorem Step.trans {pa : Option Addr} {G H G1 H1 G2 H2 : Hp} (hp : ∀ a, pa = some a → IsPot H a) (a : Step pa G H G1 H1) (b : Step pa G1 H1 G2 H2) : Step pa G H G2 H2 where
  g := a.g.trans b.g
  h := fun x o n e => b.h x o n (a.h x o n e)
  p := fun x e i => b.p x e (a.p x e i)
  gh := b.gh
  fr := fun x n e => by
    refine b.fr x ?_ (a.fr x n e)
    by_cases z : some x = pa
    · exact (a.p x z.symm (hp x z.symm)).ne
    · cases q : H x with
      | none => exact absurd q n
      | some o => rw [a.h x o z q]; simp
theorem Step.ne {pa : Option Addr} {G H G1 H1 : Hp} (hp : ∀ a, pa = some a → IsPot H a) (a : Step pa G H G1 H1) {x : Addr} (n : H x ≠ none) : H1 x ≠ none := by
  by_cases z : some x = pa
  · exact (a.p x z.symm (hp x z.symm)).ne
  · cases q : H x with
    | none => exact absurd q n
    | some o => rw [a.h x o z q]; simp
/-- a new object, frozen -/
theorem Step.new {pa : Option Addr} {G H : Hp} {p : Addr} {o : HO} (e : Ex G H) (hp : ∀ a, pa = some a → IsPot H a) (n : H p = none) : Step pa G H (upd G p o) (upd H p o) where
  g := Ex.new (e.back n)
  h := fun a u _ q => by rw [upd_ne (ne_of_none q n)]; exact q
  p := fun a z i => by
    obtain ⟨x, y, q, r⟩ := i
    exact ⟨x, y, by rw [upd_ne (ne_of_none q n)]; exact q, r⟩
  gh := fun a u q => by
    by_cases z : a = p
    · subst z; rw [upd_same] at q ⊢; exact q
    · rw [upd_ne z] at q ⊢; exact e a u q
  fr := fun a m q => by
    by_cases z : a = p
    · subst z; exact absurd n m
    · rw [upd_ne z]; exact q
/-- a new object that is not frozen -/
theorem Step.newO {pa : Option Addr} {G H : Hp} {p : Addr} {o : HO} (e : Ex G H) (n : H p = none) : Step pa G H G (upd H p o) where
  g := Ex.refl G
  h := fun a u _ q => by rw [upd_ne (ne_of_none q n)]; exact q
  p := fun a z i => by
    obtain ⟨x, y, q, r⟩ := i
    exact ⟨x, y, by rw [upd_ne (ne_of_none q n)]; exact q, r⟩
  gh := fun a u q => by
    have q' := e a u q
    rw [upd_ne (ne_of_none q' n)]; exact q'
  fr := fun a m q => q
theorem Step.none {pa : Option Addr} {G H G1 H1 : Hp} (a : Step none G H G1 H1) : Step pa G H G1 H1 :=
  ⟨a.g, fun x o _ e => a.h x o (by simp) e, fun x _ i => by
    obtain ⟨u, y, q, r⟩ := i
    exact ⟨u, y, a.h x _ (by simp) q, r⟩, a.gh, a.fr⟩

/-! ### views: what is read of the slots -/
structure Vw where
  p : Bool
  l : List (Option PyData)
structure View (pa : Option Addr) (G H : Hp) (σ : L2.St) (vw : Vw) : Prop where
  vals : ∀ (i : Nat) (d : PyData), vw.l[i]? = some (some d) → ∃ v, σ[i]? = some (some v) ∧ Rep G v d
  pt : vw.p = true → pa ≠ none
  len : vw.l.length = σ.length
  pot : ∀ a, pa = some a → σ[0]? = some (some (.ref a)) ∧ IsPot H a ∧ G a = none
theorem View.isPot {pa : Option Addr} {G H : Hp} {σ : L2.St} {vw : Vw} (w : View pa G H σ vw) : ∀ a, pa = some a → IsPot H a := fun a e => (w.pot a e).2.1
theorem View.step {pa : Option Addr} {G H G' H' : Hp} {σ : L2.St} {vw : Vw} (w : View pa G H σ vw) (s : Step pa G H G' H') : View pa G' H' σ vw :=
  ⟨fun i d e => let ⟨v, h, r⟩ := w.vals i d e; ⟨v, h, r.mono s.g⟩, w.pt, w.len, fun a e => let ⟨h1, h2, h3⟩ := w.pot a e; ⟨h1, s.p a e h2, s.fr a h2.ne h3⟩⟩

/-! ### slots -/
inductive Slot where
  | v (d : PyData)
  | o (d : PyData)
def Slot.d : Slot → PyData
  | .v d => d
  | .o d => d
structure Env' where
  p : Bool
  l : List (Option Slot)
def HoldsS (G H : Hp) (v : V) : Slot → List Addr → Prop
  | .v d, F => Rep G v d ∧ F = []
  | .o d, F => Own G H v d F
theorem HoldsS.mono {G G' H H' : Hp} {v : V} {s : Slot} {F : List Addr} (e : Ex G G') (h : HoldsS G H v s F) (st : Stay F H H') : HoldsS G' H' v s F := by
  cases s with
  | v d => exact ⟨h.1.mono e, h.2⟩
  | o d => exact Own.mono e (show Own G H v d F from h) st
theorem HoldsS.at {G H : Hp} {v : V} {s : Slot} {F : List Addr} (h : HoldsS G H v s F) : ∀ a ∈ F, (∃ xs, H a = some (.lst xs)) ∨ ∃ ks, H a = some (.dK ks) := by
  cases s with
  | v d => rw [h.2]; intro a m; cases m
  | o d => exact Own.at (show Own G H v d F from h)
inductive SimL (G H : Hp) : List (Option V) → List (Option Slot) → List Addr → Prop
  | nil : SimL G H [] [] []
  | skip {x : Option V} {σ : List (Option V)} {ρ : List (Option Slot)} {F : List Addr} : SimL G H σ ρ F → SimL G H (x :: σ) (none :: ρ) F
  | cons {v : V} {s : Slot} {σ : List (Option V)} {ρ : List (Option Slot)} {F1 F2 : List Addr} : HoldsS G H v s F1 → SimL G H σ ρ F2 → SimL G H (some v :: σ) (some s :: ρ) (F1 ++ F2)
theorem SimL.mono {G G' H H' : Hp} (e : Ex G G') : ∀ {σ : List (Option V)} {ρ : List (Option Slot)} {F : List Addr}, SimL G H σ ρ F → Stay F H H' → SimL G' H' σ ρ F
  | _, _, _, .nil, _ => .nil
  | _, _, _, .skip r, s => .skip (SimL.mono e r s)
  | _, _, _, .cons h r, s => .cons (h.mono e fun a m => s a (List.mem_append_left _ m)) (SimL.mono e r fun a m => s a (List.mem_append_right _ m))
theorem SimL.at {G H : Hp} : ∀ {σ : List (Option V)} {ρ : List (Option Slot)} {F : List Addr}, SimL G H σ ρ F → ∀ a ∈ F, (∃ xs, H a = some (.lst xs)) ∨ ∃ ks, H a = some (.dK ks)
  | _, _, _, .nil, a, m => nomatch m
  | _, _, _, .skip r, a, m => SimL.at r a m
  | _, _, _, .cons h r, a, m => by
    rcases List.mem_append.mp m with m | m
    · exact h.at a m
    · exact SimL.at r a m
theorem SimL.length {G H : Hp} : ∀ {σ : List (Option V)} {ρ : List (Option Slot)} {F : List Addr}, SimL G H σ ρ F → σ.length = ρ.length
  | _, _, _, .nil => rfl
  | _, _, _, .skip r => by simp [SimL.length r]
  | _, _, _, .cons _ r => by simp [SimL.length r]

/-- the slot i apart from the others -/
theorem SimL.focus {G H : Hp} : ∀ {σ : List (Option V)} {ρ : List (Option Slot)} {F : List Addr} (i : Nat), SimL G H σ ρ F → i < ρ.length →
    ∃ Fi Fr, F.Perm (Fi ++ Fr) ∧ (∀ s, ρ[i]? = some (some s) → ∃ v, σ[i]? = some (some v) ∧ HoldsS G H v s Fi) ∧
      (∀ G' H' v' s' Fi', Ex G G' → Stay Fr H H' → HoldsS G' H' v' s' Fi' → ∃ F', SimL G' H' (σ.set i (some v')) (ρ.set i (some s')) F' ∧ F'.Perm (Fi' ++ Fr)) ∧
      (∀ G' H', Ex G G' → Stay Fr H H' → ∃ F', SimL G' H' σ (ρ.set i none) F' ∧ F'.Perm Fr)
  | _, _, _, _, .nil, l => absurd l (Nat.not_lt_zero _)
  | _, _, _, 0, .skip (F := F) r, _ => by
    refine ⟨[], F, .refl _, fun s e => by simp at e, fun G' H' v' s' Fi' e st h => ⟨Fi' ++ F, .cons h (r.mono e st), .refl _⟩, fun G' H' e st => ⟨F, .skip (r.mono e st), .refl _⟩⟩
  | _, _, _, 0, .cons (v := v) (s := s) (F1 := F1) (F2 := F2) h r, _ => by
    refine ⟨F1, F2, .refl _, fun s' e => ?_, fun G' H' v' s' Fi' e st h' => ⟨Fi' ++ F2, .cons h' (r.mono e st), .refl _⟩, fun G' H' e st => ⟨F2, .skip (r.mono e st), .refl _⟩⟩
    simp at e; subst e; exact ⟨v, rfl, h⟩
  | _, _, _, i + 1, .skip r, l => by
    obtain ⟨Fi, Fr, p, h1, h2, h3⟩ := SimL.focus i r (by simpa using l)
    refine ⟨Fi, Fr, p, fun s e => by simpa using h1 s (by simpa using e), fun G' H' v' s' Fi' e st h => ?_, fun G' H' e st => ?_⟩
    · obtain ⟨F', q, p'⟩ := h2 G' H' v' s' Fi' e st h
      exact ⟨F', .skip q, p'⟩
    · obtain ⟨F', q, p'⟩ := h3 G' H' e st
      exact ⟨F', .skip q, p'⟩
  | _, _, _, i + 1, .cons (F1 := F1) (F2 := F2) h r, l => by
    obtain ⟨Fi, Fr, p, h1, h2, h3⟩ := SimL.focus i r (by simpa using l)
    refine ⟨Fi, F1 ++ Fr, ?_, fun s e => by simpa using h1 s (by simpa using e), fun G' H' v' s' Fi' e st h' => ?_, fun G' H' e st => ?_⟩
    · exact (List.Perm.append_left F1 p).trans (by
        rw [← List.append_assoc, ← List.append_assoc]
        exact List.Perm.append_right Fr List.perm_append_comm)
    · obtain ⟨F', q, p'⟩ := h2 G' H' v' s' Fi' e (fun a m => st a (List.mem_append_right _ m)) h'
      refine ⟨F1 ++ F', .cons (h.mono e fun a m => st a (List.mem_append_left _ m)) q, (List.Perm.append_left F1 p').trans ?_⟩
      rw [← List.append_assoc, ← List.append_assoc]
      exact List.Perm.append_right Fr List.perm_append_comm
    · obtain ⟨F', q, p'⟩ := h3 G' H' e (fun a m => st a (List.mem_append_right _ m))
      exact ⟨F1 ++ F', .cons (h.mono e fun a m => st a (List.mem_append_left _ m)) q, List.Perm.append_left F1 p'⟩

/-! ### the frame by value -/
structure Sim (pa : Option Addr) (G0 B G H : Hp) (σ : L2.St) (ρ : Env') (F : List Addr) : Prop where
  sl : SimL G H σ ρ.l F
  pt : ρ.p = true ↔ pa ≠ none
  gg : Ex G0 G
  gh : Ex G H
  bh : Ex B H
  gb : ∀ a, B a ≠ none → G0 a = none → G a = none
  nd : F.Nodup
  fr : ∀ a ∈ F, B a = none ∧ G a = none ∧ some a ≠ pa
  pot : ∀ a, pa = some a → σ[0]? = some (some (.ref a)) ∧ IsPot H a ∧ G a = none ∧ B a = none
section
variable {pa : Option Addr} {G0 B G H G' H' : Hp} {σ : L2.St} {ρ : Env'} {F : List Addr}
theorem Sim.isPot (S : Sim pa G0 B G H σ ρ F) : ∀ a, pa = some a → IsPot H a := fun a e => (S.pot a e).2.1
theorem Sim.ne (S : Sim pa G0 B G H σ ρ F) {a : Addr} (m : a ∈ F) : H a ≠ none := by
  rcases S.sl.at a m with ⟨_, e⟩ | ⟨_, e⟩ <;> · rw [e]; simp
/-- a step from the frozen part with the owned ones of Fz, which then stay frozen -/
theorem Sim.stepF {σ' : L2.St} {ρ' : Env'} {F' Fz : List Addr} (S : Sim pa G0 B G H σ ρ F) (hF : F.Perm (Fz ++ F')) (s : Step pa (addF G H F) H G' H') (hσ : σ'[0]? = σ[0]? ∨ pa = none) (hρ : ρ'.p = ρ.p)
    (hs : ∀ G2, Ex G G2 → (∀ a ∈ Fz, G2 a = H a) → (∀ a, a ∉ F' → G2 a = G' a) → Stay F' H H' → SimL G2 H' σ' ρ'.l F') : Sim pa G0 B (subF G' F') H' σ' ρ' F' := by
  have nd : (Fz ++ F').Nodup := hF.nodup_iff.mp S.nd
  have mF : ∀ a, a ∈ F' → a ∈ F := fun a m => hF.mem_iff.mpr (List.mem_append_right _ m)
  have mZ : ∀ a, a ∈ Fz → a ∈ F := fun a m => hF.mem_iff.mpr (List.mem_append_left _ m)
  have st : Stay F' H H' := fun a m => by
    have hn := S.ne (mF a m)
    cases q : H a with
    | none => exact absurd q hn
    | some o => exact s.h a o (S.fr a (mF a m)).2.2 q
  have eG : Ex G (subF G' F') := fun a o h => by
    have nm : a ∉ F := fun m => by rw [(S.fr a m).2.1] at h; cases h
    unfold subF
    rw [if_neg fun m => nm (mF a m)]
    exact s.g a o (by unfold addF; rw [if_neg nm]; exact h)
  refine ⟨hs _ eG (fun a m => ?_) (fun a m => by unfold subF; rw [if_neg m]) st, by rw [hρ]; exact S.pt, S.gg.trans eG, fun a o h => ?_, fun a o h => ?_, fun a n e => ?_, (List.nodup_append.mp nd).2.1, fun a m => ?_, fun a e => ?_⟩
  · have hn := S.ne (mZ a m)
    have no : a ∉ F' := fun m' => (List.nodup_append.mp nd).2.2 a m a m' rfl
    unfold subF
    rw [if_neg no]
    cases q : H a with
    | none => exact absurd q hn
    | some o => exact s.g a o (by unfold addF; rw [if_pos (mZ a m)]; exact q)
  · unfold subF at h
    split at h
    · cases h
    · exact s.gh a o h
  · by_cases z : some a = pa
    · have := (S.pot a z.symm).2.2.2
      rw [this] at h; cases h
    · exact s.h a o z (S.bh a o h)
  · unfold subF
    split
    · rfl
    · refine s.fr a ?_ ?_
      · cases q : B a with
        | none => exact absurd q n
        | some o => rw [S.bh a o q]; simp
      · unfold addF
        rw [if_neg fun m => n (S.fr a m).1]
        exact S.gb a n e
  · exact ⟨(S.fr a (mF a m)).1, by unfold subF; rw [if_pos m], (S.fr a (mF a m)).2.2⟩
  · obtain ⟨h1, h2, h3, h4⟩ := S.pot a e
    refine ⟨?_, s.p a e h2, ?_, h4⟩
    · rcases hσ with z | z
      · rw [z]; exact h1
      · rw [z] at e; cases e
    · unfold subF
      split
      · rfl
      · refine s.fr a h2.ne ?_
        unfold addF
        rw [if_neg fun m => (S.fr a m).2.2 e.symm]
        exact h3
theorem Sim.ex (S : Sim pa G0 B G H σ ρ F) : Ex (addF G H F) H := fun a o h => by
  unfold addF at h
  split at h
  · exact h
  · exact S.gh a o h
end
end Vl
/-! VlB: expressions by value: what a reading comes to, over views of the slots. -/
namespace Vl
open PySem L2

abbrev WE := Vw → (PyData → Prop) → Prop
abbrev WC := Vw → (Bool → Prop) → Prop
abbrev WA := Vw → (List PyData → Prop) → Prop
def TEok (te : TE) (w : WE) : Prop := ∀ (pa : Option Addr) (G H : Hp) (σ : L2.St) (vw : Vw) (P : PyData → Prop) (Q : VK), View pa G H σ vw → Ex G H → w vw P →
  (∀ v G' H' d, Step pa G H G' H' → Rep G' v d → P d → Q v H') → te σ H Q
def TTok (tt : TT) (w : WC) : Prop := ∀ (pa : Option Addr) (G H : Hp) (σ : L2.St) (vw : Vw) (P : Bool → Prop) (Q : Bool → Hp → Prop), View pa G H σ vw → Ex G H → w vw P →
  (∀ b G' H', Step pa G H G' H' → P b → Q b H') → tt σ H Q
def TAok (ta : TA) (w : WA) : Prop := ∀ (pa : Option Addr) (G H : Hp) (σ : L2.St) (vw : Vw) (P : List PyData → Prop) (Q : List V → Hp → Prop), View pa G H σ vw → Ex G H → w vw P →
  (∀ vs G' H' ds, Step pa G H G' H' → RepA G' vs ds → P ds → Q vs H') → ta σ H Q
/-- a new thing of one's own -/
def TOok (te : TE) (w : WE) : Prop := ∀ (pa : Option Addr) (G H : Hp) (σ : L2.St) (vw : Vw) (P : PyData → Prop) (Q : VK), View pa G H σ vw → Ex G H → w vw P →
  (∀ v G' H' d F, Step pa G H G' H' → Own G' H' v d F → F.Nodup → (∀ a ∈ F, H a = none ∧ G' a = none) → P d → Q v H') → te σ H Q
structure VE (X : Cx) (e : Expr) (te : TE) (w : WE) : Prop where
  pe : PE X e te
  ok : TEok te w
structure VO (X : Cx) (e : Expr) (te : TE) (w : WE) : Prop where
  pe : PE X e te
  ok : TOok te w
structure VC (X : Cx) (e : Expr) (tt : TT) (w : WC) : Prop where
  pe : PT X e tt
  ok : TTok tt w
structure VA (X : Cx) (es : List Expr) (ta : TA) (w : WA) : Prop where
  pe : PA X es ta
  ok : TAok ta w

/-! ### names, constants -/
def wV (i : Nat) : WE := fun vw P => match vw.l[i]? with
  | some (some d) => P d
  | _ => False
def wK (d : PyData) : WE := fun _ P => P d
theorem ok_var {i : Nat} : TEok (tVar i) (wV i) := by
  intro pa G H σ vw P Q w e h k
  unfold wV at h
  split at h
  · rename_i d hd
    obtain ⟨v, h1, r⟩ := w.vals i d hd
    exact ⟨v, h1, k v G H d (Step.refl e) r h⟩
  · exact h.elim
theorem ok_int {i : Int} : TEok (tC (.int i)) (wK (.int i)) := fun _ G H _ _ _ _ _ e h k => k _ G H _ (Step.refl e) (.int i) h
theorem ok_bl {b : Bool} : TEok (tC (.bl b)) (wK (.bool b)) := fun _ G H _ _ _ _ _ e h k => k _ G H _ (Step.refl e) (.bl b) h
theorem ok_non : TEok (tC .non) (wK .none) := fun _ G H _ _ _ _ _ e h k => k _ G H _ (Step.refl e) .non h
theorem ok_str {x : Str} : TEok (tC (.str x)) (wK (.str x)) := fun _ G H _ _ _ _ _ e h k => k _ G H _ (Step.refl e) (.str x) h

section
variable {X : Cx}
theorem vv (i : Nat) {x : Str} {pos : Pos} (hN : X.N[i]? = some x := by rfl) (hv : Vis X.env.scope x := by first | exact Or.inl rfl | exact Or.inr (Or.inl rfl) | exact Or.inr (Or.inr rfl)) (hd : (x == ("__debug__" : Str)) = false := by decide)
    (hcd : (x == ("__classdict__" : Str)) = false := by decide) : VE X (.Name x pos) (tVar i) (wV i) := ⟨pe_var hN hv hd hcd, ok_var⟩
theorem vint {i : Int} {j pos} : VE X (.Constant (.int i) j pos) (tC (.int i)) (wK (.int i)) := ⟨pe_int, ok_int⟩
theorem vbl {b : Bool} {j pos} : VE X (.Constant (.bool b) j pos) (tC (.bl b)) (wK (.bool b)) := ⟨pe_bl, ok_bl⟩
theorem vnon {j pos} : VE X (.Constant .none j pos) (tC .non) (wK .none) := ⟨pe_non, ok_non⟩
theorem vstr {x : Str} {j pos} : VE X (.Constant (.str x) j pos) (tC (.str x)) (wK (.str x)) := ⟨pe_str, ok_str⟩
theorem vglobI {x : Str} {i : Int} {t : Tok} {pos : Pos} (hg : Gl X x) (hm : X.mg x = some (.int i t)) (hd : (x == ("__debug__" : Str)) = false := by decide) : VE X (.Name x pos) (tC (.int i)) (wK (.int i)) := ⟨pe_glob hg hm ⟨_, rfl⟩ hd, ok_int⟩
theorem vglobS {x y : Str} {t : Tok} {pos : Pos} (hg : Gl X x) (hm : X.mg x = some (.str y t)) (hd : (x == ("__debug__" : Str)) = false := by decide) : VE X (.Name x pos) (tC (.str y)) (wK (.str y)) := ⟨pe_glob hg hm ⟨_, rfl⟩ hd, ok_str⟩
end

/-! ### two operands -/
/-- an operation by values: what it asks and gives, over the frozen part -/
def R2ok (r : R2) (w : PyData → PyData → (PyData → Prop) → Prop) : Prop := ∀ (pa : Option Addr) (G H : Hp) (x y : V) (d e : PyData) (P : PyData → Prop) (Q : VK), Ex G H → (∀ a, pa = some a → IsPot H a) → Rep G x d → Rep G y e → w d e P →
  (∀ v G' H' d, Step pa G H G' H' → Rep G' v d → P d → Q v H') → r x y H Q
def wOp (w : PyData → PyData → (PyData → Prop) → Prop) (wa wb : WE) : WE := fun vw P => wa vw fun x => wb vw fun y => w x y P
theorem ok_op {r : R2} {w : PyData → PyData → (PyData → Prop) → Prop} {ta tb : TE} {wa wb : WE} (hr : R2ok r w) (ha : TEok ta wa) (hb : TEok tb wb) : TEok (tOp r ta tb) (wOp w wa wb) := by
  intro pa G H σ vw P Q vi e h k
  refine ha pa G H σ vw _ _ vi e h fun x G1 H1 d s1 r1 h1 => ?_
  refine hb pa G1 H1 σ vw _ _ (vi.step s1) s1.gh h1 fun y G2 H2 d2 s2 r2 h2 => ?_
  refine hr pa G2 H2 x y d d2 P Q s2.gh ((vi.step s1).step s2).isPot (r1.mono s2.g) r2 h2 fun v G3 H3 d3 s3 r3 h3 => ?_
  exact k v G3 H3 d3 ((s1.trans vi.isPot s2).trans vi.isPot s3) r3 h3
/-- two ints -/
def wI (C : Int → Int → Prop) (g : Int → Int → PyData) : PyData → PyData → (PyData → Prop) → Prop := fun x y P => match x, y with
  | .int i, .int j => C i j ∧ P (g i j)
  | _, _ => False
def wI0 (g : Int → Int → PyData) : PyData → PyData → (PyData → Prop) → Prop := fun x y P => match x, y with
  | .int i, .int j => P (g i j)
  | _, _ => False
theorem rep_int {G : Hp} {x : V} {i : Int} (r : Rep G x (.int i)) : x = .int i := by cases r; rfl
theorem rep_bl {G : Hp} {x : V} {b : Bool} (r : Rep G x (.bool b)) : x = .bl b := by cases r; rfl
theorem rep_str {G : Hp} {x : V} {z : Str} (r : Rep G x (.str z)) : x = .str z := by cases r; rfl
theorem rep_non {G : Hp} {x : V} (r : Rep G x .none) : x = .non := by cases r; rfl
theorem rep_lst {G : Hp} {x : V} {ds : List PyData} (r : Rep G x (.list ds)) : ∃ a vs, x = .ref a ∧ G a = some (.lst vs) ∧ RepA G vs ds := by
  cases r with
  | lst h q => exact ⟨_, _, rfl, h, q⟩
theorem rep_tup {G : Hp} {x : V} {ds : List PyData} (r : Rep G x (.tuple ds)) : ∃ a vs, x = .ref a ∧ G a = some (.tup vs) ∧ RepA G vs ds := by
  cases r with
  | tup h q => exact ⟨_, _, rfl, h, q⟩
theorem rok_I {C : Int → Int → Prop} {g : Int → Int → Int} : R2ok (rI C fun i j => .int (g i j)) (wI C fun i j => .int (g i j)) := by
  intro pa G H x y d e P Q ex hp rx ry h k
  unfold wI at h
  split at h
  · rename_i i j
    obtain rfl := rep_int rx
    obtain rfl := rep_int ry
    exact ⟨i, j, rfl, rfl, h.1, k _ G H _ (Step.refl ex) (.int _) h.2⟩
  · exact h.elim
theorem rok_I0 {g : Int → Int → Int} : R2ok (rI0 fun i j => .int (g i j)) (wI0 fun i j => .int (g i j)) := by
  intro pa G H x y d e P Q ex hp rx ry h k
  unfold wI0 at h
  split at h
  · rename_i i j
    obtain rfl := rep_int rx
    obtain rfl := rep_int ry
    exact ⟨i, j, rfl, rfl, k _ G H _ (Step.refl ex) (.int _) h⟩
  · exact h.elim
theorem rok_B0 {g : Int → Int → Bool} : R2ok (rI0 fun i j => .bl (g i j)) (wI0 fun i j => .bool (g i j)) := by
  intro pa G H x y d e P Q ex hp rx ry h k
  unfold wI0 at h
  split at h
  · rename_i i j
    obtain rfl := rep_int rx
    obtain rfl := rep_int ry
    exact ⟨i, j, rfl, rfl, k _ G H _ (Step.refl ex) (.bl _) h⟩
  · exact h.elim
/-- factors that fit: one below 2 ^ 64, or both below 2 ^ 20000 -/
def big : Nat := 2 ^ 20000
def MulOk (i j : Int) : Prop := (i.natAbs < big ∧ j.natAbs < big)
def DivOk (i j : Int) : Prop := 0 < j ∧ j.natAbs < 2 ^ 8000
abbrev wAdd := wOp (wI0 fun i j => .int (i + j))
abbrev wSub := wOp (wI0 fun i j => .int (i - j))
abbrev wMul := wOp (wI MulOk fun i j => .int (i * j))
abbrev wDiv := wOp (wI DivOk fun i j => .int (i / j))
abbrev wMod := wOp (wI (fun _ j => 0 < j) fun i j => .int (i % j))
abbrev wPow := wOp (wI CPow fun i j => .int (i ^ j.toNat))
abbrev wShl := wOp (wI (fun i j => 0 ≤ j ∧ j ≤ 1000000 ∧ i.natAbs < big) fun i j => .int (i * 2 ^ j.toNat))
abbrev wShr := wOp (wI (fun _ j => 0 ≤ j) fun i j => .int (i / 2 ^ j.toNat))
abbrev wBand := wOp (wI0 fun i j => .int (Builtin.bitAnd i j))
abbrev wBor := wOp (wI0 fun i j => .int (Builtin.bitOr i j))
theorem rok_mono {r : R2} {w w' : PyData → PyData → (PyData → Prop) → Prop} (h : R2ok r w) (m : ∀ d e P, w' d e P → w d e P) : R2ok r w' := fun pa G H x y d e P Q ex hp rx ry q k => h pa G H x y d e P Q ex hp rx ry (m d e P q) k
theorem wI_mono {C C' : Int → Int → Prop} {g : Int → Int → PyData} (h : ∀ i j, C' i j → C i j) : ∀ d e P, wI C' g d e P → wI C g d e P := by
  intro d e P q
  unfold wI at q ⊢
  split at q
  · exact ⟨h _ _ q.1, q.2⟩
  · exact q.elim
theorem MulOk.w {i j : Int} (h : MulOk i j) : CMulW i j := wide_mul (a := 20000) (b := 20000) h.1 h.2 (by decide) (by decide) (by decide)
theorem DivOk.w {i j : Int} (h : DivOk i j) : CDivW i j := wide_div (b := 8000) h.1 h.2 (by decide) (by decide)
section
variable {X : Cx} {a b : Expr} {ta tb : TE} {wa wb : WE} {pos : Pos}
theorem vadd (ha : VE X a ta wa) (hb : VE X b tb wb) : VE X (.BinOp a .Add b pos) (tOp (rI0 fun i j => .int (i + j)) ta tb) (wAdd wa wb) := ⟨pe_op op_add ha.pe hb.pe, ok_op rok_I0 ha.ok hb.ok⟩
theorem vsub (ha : VE X a ta wa) (hb : VE X b tb wb) : VE X (.BinOp a .Sub b pos) (tOp (rI0 fun i j => .int (i - j)) ta tb) (wSub wa wb) := ⟨pe_op op_sub ha.pe hb.pe, ok_op rok_I0 ha.ok hb.ok⟩
theorem vmul (ha : VE X a ta wa) (hb : VE X b tb wb) : VE X (.BinOp a .Mult b pos) (tOp (rI CMulW fun i j => .int (i * j)) ta tb) (wMul wa wb) := ⟨pe_op op_mulW ha.pe hb.pe, ok_op (rok_mono rok_I (wI_mono fun _ _ => MulOk.w)) ha.ok hb.ok⟩
theorem vdiv (ha : VE X a ta wa) (hb : VE X b tb wb) : VE X (.BinOp a .FloorDiv b pos) (tOp (rI CDivW fun i j => .int (i / j)) ta tb) (wDiv wa wb) := ⟨pe_op op_fdivW ha.pe hb.pe, ok_op (rok_mono rok_I (wI_mono fun _ _ => DivOk.w)) ha.ok hb.ok⟩
theorem vmod (ha : VE X a ta wa) (hb : VE X b tb wb) : VE X (.BinOp a .Mod b pos) (tOp (rI (fun _ j => 0 < j) fun i j => .int (i % j)) ta tb) (wMod wa wb) := ⟨pe_op op_mod ha.pe hb.pe, ok_op rok_I ha.ok hb.ok⟩
theorem vpow (ha : VE X a ta wa) (hb : VE X b tb wb) : VE X (.BinOp a .Pow b pos) (tOp (rI CPow fun i j => .int (i ^ j.toNat)) ta tb) (wPow wa wb) := ⟨pe_op op_pow ha.pe hb.pe, ok_op rok_I ha.ok hb.ok⟩
theorem vshl (ha : VE X a ta wa) (hb : VE X b tb wb) : VE X (.BinOp a .LShift b pos) (tOp (rI CShl fun i j => .int (i * 2 ^ j.toNat)) ta tb) (wShl wa wb) := ⟨pe_op op_shlW ha.pe hb.pe, ok_op (rok_mono rok_I (wI_mono fun i j h => by
  obtain ⟨h0, h1, h2⟩ := h
  have := shl_ok (i := i) (j := j.toNat) (n := 20000) h2 (by omega)
  rw [Int.toNat_of_nonneg h0] at this
  exact this)) ha.ok hb.ok⟩
theorem vshr (ha : VE X a ta wa) (hb : VE X b tb wb) : VE X (.BinOp a .RShift b pos) (tOp (rI (fun _ j => 0 ≤ j) fun i j => .int (i / 2 ^ j.toNat)) ta tb) (wShr wa wb) := ⟨pe_op op_shr ha.pe hb.pe, ok_op rok_I ha.ok hb.ok⟩
theorem vband (ha : VE X a ta wa) (hb : VE X b tb wb) : VE X (.BinOp a .BitAnd b pos) (tOp (rI0 fun i j => .int (Builtin.bitAnd i j)) ta tb) (wBand wa wb) := ⟨pe_op op_and ha.pe hb.pe, ok_op rok_I0 ha.ok hb.ok⟩
theorem vbor (ha : VE X a ta wa) (hb : VE X b tb wb) : VE X (.BinOp a .BitOr b pos) (tOp (rI0 fun i j => .int (Builtin.bitOr i j)) ta tb) (wBor wa wb) := ⟨pe_op op_or ha.pe hb.pe, ok_op rok_I0 ha.ok hb.ok⟩
end
/-- - x -/
def wNeg (wa : WE) : WE := fun vw P => wa vw fun x => match x with
  | .int i => P (.int (-i))
  | _ => False
theorem ok_neg {ta : TE} {wa : WE} (ha : TEok ta wa) : TEok (tUn (rU fun i => .int (-i)) ta) (wNeg wa) := by
  intro pa G H σ vw P Q vi e h k
  refine ha pa G H σ vw _ _ vi e h fun x G1 H1 d s1 r1 h1 => ?_
  split at h1
  · rename_i i
    obtain rfl := rep_int r1
    exact ⟨i, rfl, k _ G1 H1 _ s1 (.int _) h1⟩
  · exact h1.elim
theorem vneg {X : Cx} {a : Expr} {ta : TE} {wa : WE} {pos : Pos} (ha : VE X a ta wa) : VE X (.UnaryOp .USub a pos) (tUn (rU fun i => .int (-i)) ta) (wNeg wa) := ⟨pe_un un_neg ha.pe, ok_neg ha.ok⟩

/-! ### comparisons -/
mutual
theorem Rep.dp {K : PySem.W.Frag} {G H : Hp} (e : Ex G H) : ∀ {v : V} {d : PyData}, Rep G v d → d.canLay0 = true → Dp K H v d
  | _, _, .non, _ => .non
  | _, _, .bl b, _ => .bl b
  | _, _, .int i, _ => .int i
  | _, _, .str x, _ => .str x
  | _, _, .lst h r, c => .lst (SqL.of (e _ _ h)) (RepA.dp e r (by simpa [PyData.canLay0] using c))
  | _, _, .tup h r, c => .tup (SqT.of (e _ _ h)) (RepA.dp e r (by simpa [PyData.canLay0] using c))
  | _, _, .dic _ _ _, c => by simp [dicD, PyData.canLay0] at c
theorem RepA.dp {K : PySem.W.Frag} {G H : Hp} (e : Ex G H) : ∀ {vs : List V} {ds : List PyData}, RepA G vs ds → PyData.canLayAll0 ds = true → DpAll K H vs ds
  | _, _, .nil, _ => .nil
  | _, _, .cons h r, c => by
    simp only [PyData.canLayAll0, Bool.and_eq_true] at c
    exact .cons (Rep.dp e h c.1) (RepA.dp e r c.2)
end
theorem lay_of_shaped {d : PyData} (h : SeqAt.shaped d = true) : d.canLay0 = true := by
  unfold SeqAt.shaped at h
  rw [Bool.and_eq_true] at h
  exact h.1
/-- == -/
def wEq2 (neg : Bool) : PyData → PyData → (PyData → Prop) → Prop := fun x y P => match x, y with
  | .int i, .int j => P (.bool (decide (i = j) != neg))
  | .str i, .str j => P (.bool (decide (i = j) != neg))
  | .bool i, .bool j => P (.bool (decide (i = j) != neg))
  | .none, .none => P (.bool (!neg))
  | x, y => SeqAt.shaped x = true ∧ SeqAt.shaped y = true ∧ P (.bool (PyData.eqv x y != neg))
def rEqV2 (K : PySem.W.Frag) : R2 := fun x y H Q => rEq x y H Q ∨ rEqD K x y H Q
def rNeV2 (K : PySem.W.Frag) : R2 := fun x y H Q => rNe x y H Q ∨ rNeD K x y H Q
theorem dec_V_int {i j : Int} : decide (V.int i = V.int j) = decide (i = j) := by by_cases h : i = j <;> simp [h]
theorem dec_V_str {i j : Str} : decide (V.str i = V.str j) = decide (i = j) := by by_cases h : i = j <;> simp [h]
theorem dec_V_bl {i j : Bool} : decide (V.bl i = V.bl j) = decide (i = j) := by by_cases h : i = j <;> simp [h]
theorem rok_eq {K : PySem.W.Frag} : R2ok (rEqV2 K) (wEq2 false) := by
  intro pa G H x y d e P Q ex hp rx ry h k
  unfold wEq2 at h
  split at h
  · obtain rfl := rep_int rx
    obtain rfl := rep_int ry
    exact .inl ⟨rfl, by rw [dec_V_int]; exact k _ G H _ (Step.refl ex) (.bl _) (by simpa using h)⟩
  · obtain rfl := rep_str rx
    obtain rfl := rep_str ry
    exact .inl ⟨rfl, by rw [dec_V_str]; exact k _ G H _ (Step.refl ex) (.bl _) (by simpa using h)⟩
  · obtain rfl := rep_bl rx
    obtain rfl := rep_bl ry
    exact .inl ⟨rfl, by rw [dec_V_bl]; exact k _ G H _ (Step.refl ex) (.bl _) (by simpa using h)⟩
  · obtain rfl := rep_non rx
    obtain rfl := rep_non ry
    exact .inl ⟨rfl, k _ G H (.bool true) (Step.refl ex) (.bl _) (by simpa using h)⟩
  · obtain ⟨h1, h2, h3⟩ := h
    exact .inr ⟨d, e, rx.dp ex (lay_of_shaped h1), ry.dp ex (lay_of_shaped h2), h1, h2, k _ G H _ (Step.refl ex) (.bl _) (by simpa using h3)⟩
theorem rok_ne {K : PySem.W.Frag} : R2ok (rNeV2 K) (wEq2 true) := by
  intro pa G H x y d e P Q ex hp rx ry h k
  unfold wEq2 at h
  split at h
  · obtain rfl := rep_int rx
    obtain rfl := rep_int ry
    exact .inl ⟨rfl, by rw [dec_V_int]; exact k _ G H _ (Step.refl ex) (.bl _) (by simpa using h)⟩
  · obtain rfl := rep_str rx
    obtain rfl := rep_str ry
    exact .inl ⟨rfl, by rw [dec_V_str]; exact k _ G H _ (Step.refl ex) (.bl _) (by simpa using h)⟩
  · obtain rfl := rep_bl rx
    obtain rfl := rep_bl ry
    exact .inl ⟨rfl, by rw [dec_V_bl]; exact k _ G H _ (Step.refl ex) (.bl _) (by simpa using h)⟩
  · obtain rfl := rep_non rx
    obtain rfl := rep_non ry
    exact .inl ⟨rfl, k _ G H (.bool false) (Step.refl ex) (.bl _) (by simpa using h)⟩
  · obtain ⟨h1, h2, h3⟩ := h
    exact .inr ⟨d, e, rx.dp ex (lay_of_shaped h1), ry.dp ex (lay_of_shaped h2), h1, h2, k _ G H _ (Step.refl ex) (.bl _) (by simpa using h3)⟩
abbrev wEq := wOp (wEq2 false)
abbrev wNe := wOp (wEq2 true)
abbrev wLt := wOp (wI0 fun i j => .bool (decide (i < j)))
abbrev wLe := wOp (wI0 fun i j => .bool (decide (i ≤ j)))
abbrev wGt := wOp (wI0 fun i j => .bool (decide (j < i)))
abbrev wGe := wOp (wI0 fun i j => .bool (decide (j ≤ i)))
/-- is None -/
def isNone : PyData → Bool
  | .none => true
  | _ => false
def wIs2 (neg : Bool) : PyData → PyData → (PyData → Prop) → Prop := fun x y P => match y with
  | .none => P (.bool (isNone x != neg))
  | _ => False
def wIsB2 (neg : Bool) : PyData → PyData → (PyData → Prop) → Prop := fun x y P => match x, y with
  | .bool a, .bool b => P (.bool (decide (a = b) != neg))
  | _, _ => False
theorem rep_isNone {G : Hp} {x : V} {d : PyData} (r : Rep G x d) : decide (x = .non) = isNone d := by
  cases r <;> rfl
theorem rok_isN : R2ok rIsN (wIs2 false) := by
  intro pa G H x y d e P Q ex hp rx ry h k
  unfold wIs2 at h
  split at h
  · obtain rfl := rep_non ry
    refine ⟨rfl, ?_⟩
    rw [rep_isNone rx]
    refine k _ G H _ (Step.refl ex) (.bl _) ?_
    simpa using h
  · exact h.elim
theorem rok_notN : R2ok rNotN (wIs2 true) := by
  intro pa G H x y d e P Q ex hp rx ry h k
  unfold wIs2 at h
  split at h
  · obtain rfl := rep_non ry
    refine ⟨rfl, ?_⟩
    rw [rep_isNone rx]
    refine k _ G H _ (Step.refl ex) (.bl _) ?_
    simpa using h
  · exact h.elim
theorem rok_isB : R2ok rIsB (wIsB2 false) := by
  intro pa G H x y d e P Q ex hp rx ry h k
  unfold wIsB2 at h
  split at h
  · rename_i a b
    obtain rfl := rep_bl rx
    obtain rfl := rep_bl ry
    refine ⟨a, b, rfl, rfl, k _ G H _ (Step.refl ex) (.bl _) ?_⟩
    simpa using h
  · exact h.elim
theorem rok_notB : R2ok rNotB (wIsB2 true) := by
  intro pa G H x y d e P Q ex hp rx ry h k
  unfold wIsB2 at h
  split at h
  · rename_i a b
    obtain rfl := rep_bl rx
    obtain rfl := rep_bl ry
    refine ⟨a, b, rfl, rfl, k _ G H _ (Step.refl ex) (.bl _) ?_⟩
    simpa using h
  · exact h.elim
/-- in a list -/
def wIn2 (neg : Bool) : PyData → PyData → (PyData → Prop) → Prop := fun x y P => match y with
  | .list ds => SeqAt.shaped x = true ∧ SeqAt.shaped (.list ds) = true ∧ P (.bool ((ds.any fun z => PyData.eqv z x) != neg))
  | _ => False
theorem rok_in {K : PySem.W.Frag} : R2ok (rInD K) (wIn2 false) := by
  intro pa G H x y d e P Q ex hp rx ry h k
  unfold wIn2 at h
  split at h
  · obtain ⟨h1, h2, h3⟩ := h
    refine ⟨d, _, rx.dp ex (lay_of_shaped h1), ry.dp ex (lay_of_shaped h2), h1, h2, k _ G H _ (Step.refl ex) (.bl _) ?_⟩
    simpa using h3
  · exact h.elim
theorem rok_notIn {K : PySem.W.Frag} : R2ok (rNotInD K) (wIn2 true) := by
  intro pa G H x y d e P Q ex hp rx ry h k
  unfold wIn2 at h
  split at h
  · obtain ⟨h1, h2, h3⟩ := h
    refine ⟨d, _, rx.dp ex (lay_of_shaped h1), ry.dp ex (lay_of_shaped h2), h1, h2, k _ G H _ (Step.refl ex) (.bl _) ?_⟩
    simpa using h3
  · exact h.elim

section
variable {X : Cx} {a b c : Expr} {ta tb tc : TE} {wa wb wc : WE} {pos : Pos} {op op' : CmpOp} {r r' : R2} {w w' : PyData → PyData → (PyData → Prop) → Prop}
/-- a comparison's rule with its meaning -/
structure VR (X : Cx) (op : CmpOp) (r : R2) (w : PyData → PyData → (PyData → Prop) → Prop) : Prop where
  op : OpR X (compareOp op) r
  ok : R2ok r w
theorem cLt : VR X .Lt (rI0 fun i j => .bl (decide (i < j))) (wI0 fun i j => .bool (decide (i < j))) := ⟨op_lt, rok_B0⟩
theorem cLe : VR X .LtE (rI0 fun i j => .bl (decide (i ≤ j))) (wI0 fun i j => .bool (decide (i ≤ j))) := ⟨op_le, rok_B0⟩
theorem cGt : VR X .Gt (rI0 fun i j => .bl (decide (j < i))) (wI0 fun i j => .bool (decide (j < i))) := ⟨op_gt, rok_B0⟩
theorem cGe : VR X .GtE (rI0 fun i j => .bl (decide (j ≤ i))) (wI0 fun i j => .bool (decide (j ≤ i))) := ⟨op_ge, rok_B0⟩
theorem cEq (hu : X.A.units + 66 < cLine) : VR X .Eq (rEqV2 X.K) (wEq2 false) := ⟨op_eq.or (op_eqD (by omega)), rok_eq⟩
theorem cNe (hu : X.A.units + 66 < cLine) : VR X .NotEq (rNeV2 X.K) (wEq2 true) := ⟨op_ne.or (op_neD (by omega)), rok_ne⟩
theorem cIsN : VR X .Is rIsN (wIs2 false) := ⟨op_isN1, rok_isN⟩
theorem cNotN : VR X .IsNot rNotN (wIs2 true) := ⟨op_notN1, rok_notN⟩
theorem cIsB : VR X .Is rIsB (wIsB2 false) := ⟨op_isBl, rok_isB⟩
theorem cNotB : VR X .IsNot rNotB (wIsB2 true) := ⟨op_notBl, rok_notB⟩
theorem cIn (hu : X.A.units + 66 < cLine) : VR X .In (rInD X.K) (wIn2 false) := ⟨op_inD (by omega), rok_in⟩
theorem cNotIn (hu : X.A.units + 66 < cLine) : VR X .NotIn (rNotInD X.K) (wIn2 true) := ⟨op_notInD (by omega), rok_notIn⟩
theorem vcmp (hr : VR X op r w) (ha : VE X a ta wa) (hb : VE X b tb wb) (hm : behindInMarks op b = false := by first | exact nomark _ | rfl) : VE X (.Compare a [op] [b] pos) (tOp r ta tb) (wOp w wa wb) :=
  ⟨pe_cmpR hr.op ha.pe hb.pe hm, ok_op hr.ok ha.ok hb.ok⟩
/-- a value that is True or False, as a test -/
def wTest (wa : WE) : WC := fun vw P => wa vw fun x => match x with
  | .bool b => P b
  | _ => False
theorem ok_test {t : TE} {w : WE} (h : TEok t w) : TTok (tTest t) (wTest w) := by
  intro pa G H σ vw P Q vi e hw k
  refine h pa G H σ vw _ _ vi e hw fun x G1 H1 d s1 r1 h1 => ?_
  split at h1
  · rename_i c
    obtain rfl := rep_bl r1
    exact ⟨c, rfl, k c G1 H1 s1 h1⟩
  · exact h1.elim
theorem vcmpT (hr : VR X op r w) (ha : VE X a ta wa) (hb : VE X b tb wb) (hm : behindInMarks op b = false := by first | exact nomark _ | rfl) : VC X (.Compare a [op] [b] pos) (tTest (tOp r ta tb)) (wTest (wOp w wa wb)) :=
  ⟨pt_cmpR hr.op ha.pe hb.pe hm, ok_test (ok_op hr.ok ha.ok hb.ok)⟩
/-- a < b < c -/
def wChain (w w' : PyData → PyData → (PyData → Prop) → Prop) (wa wb wc : WE) : WE := fun vw P => wa vw fun x => wb vw fun y => w x y fun z => match z with
  | .bool b => if b = true then wc vw fun u => w' y u P else P (.bool false)
  | _ => False
theorem ok_chain (hr : R2ok r w) (hr' : R2ok r' w') (ha : TEok ta wa) (hb : TEok tb wb) (hc : TEok tc wc) : TEok (tChain r r' ta tb tc) (wChain w w' wa wb wc) := by
  intro pa G H σ vw P Q vi e h k
  refine ha pa G H σ vw _ _ vi e h fun x G1 H1 d s1 r1 h1 => ?_
  refine hb pa G1 H1 σ vw _ _ (vi.step s1) s1.gh h1 fun y G2 H2 d2 s2 r2 h2 => ?_
  have s12 := s1.trans vi.isPot s2
  refine hr pa G2 H2 x y d d2 _ _ s2.gh (vi.step s12).isPot (r1.mono s2.g) r2 h2 fun z G3 H3 d3 s3 r3 h3 => ?_
  split at h3
  · rename_i c
    obtain rfl := rep_bl r3
    refine ⟨c, rfl, ?_⟩
    have s13 := s12.trans vi.isPot s3
    cases c with
    | true =>
      rw [if_pos rfl] at h3 ⊢
      refine hc pa G3 H3 σ vw _ _ (vi.step s13) s3.gh h3 fun u G4 H4 d4 s4 r4 h4 => ?_
      have s14 := s13.trans vi.isPot s4
      refine hr' pa G4 H4 y u d2 d4 P Q s4.gh (vi.step s14).isPot (r2.mono (s3.g.trans s4.g)) r4 h4 fun v G5 H5 d5 s5 r5 h5 => ?_
      exact k v G5 H5 d5 (s14.trans vi.isPot s5) r5 h5
    | false =>
      rw [if_neg Bool.false_ne_true] at h3 ⊢
      exact k _ G3 H3 _ s13 (.bl false) h3
  · exact h3.elim
theorem vchain (hr : VR X op r w) (hr' : VR X op' r' w') (ha : VE X a ta wa) (hb : VE X b tb wb) (hc : VE X c tc wc) (hm : lastMarks [op, op'] [b, c] = false := by with_unfolding_all rfl) :
    VE X (.Compare a [op, op'] [b, c] pos) (tChain r r' ta tb tc) (wChain w w' wa wb wc) := ⟨pe_chain hr.op hr'.op ha.pe hb.pe hc.pe hm, ok_chain hr.ok hr'.ok ha.ok hb.ok hc.ok⟩
theorem vchainT (hr : VR X op r w) (hr' : VR X op' r' w') (ha : VE X a ta wa) (hb : VE X b tb wb) (hc : VE X c tc wc) (hm : lastMarks [op, op'] [b, c] = false := by with_unfolding_all rfl) :
    VC X (.Compare a [op, op'] [b, c] pos) (tTest (tChain r r' ta tb tc)) (wTest (wChain w w' wa wb wc)) := ⟨pt_chain hr.op hr'.op ha.pe hb.pe hc.pe hm, ok_test (ok_chain hr.ok hr'.ok ha.ok hb.ok hc.ok)⟩
end

/-! ### and, or, not; if else -/
section
variable {X : Cx} {a b : Expr} {ta tb : TE} {wa wb : WE} {pos : Pos} {t u : TT} {wt wu : WC} {rest : List Expr}
/-- a value as a test -/
theorem vtest (ha : VE X a ta wa) (he : ∀ whole, isTrue a X.env whole = (do let v ← whole; standAt a.pos; holding [v] (truthy v)) := by intro _; rfl) : VC X a (tTest ta) (wTest wa) := ⟨pt_val ha.pe he, ok_test ha.ok⟩
structure VW (X : Cx) (e : Expr) (tt : TT) (w : WC) : Prop where
  pe : PW X e tt
  ok : TTok tt w
theorem VW.vc {e : Expr} (h : VW X e t wt) : VC X e t wt := ⟨PW.pt h.pe, h.ok⟩
def wAnd (wt wu : WC) : WC := fun vw P => wt vw fun b => if b = true then wu vw P else P false
def wOr (wt wu : WC) : WC := fun vw P => wt vw fun b => if b = true then P true else wu vw P
def wNot (wt : WC) : WC := fun vw P => wt vw fun b => P (!b)
theorem ok_and (h1 : TTok t wt) (h2 : TTok u wu) : TTok (tAnd t u) (wAnd wt wu) := by
  intro pa G H σ vw P Q vi e h k
  refine h1 pa G H σ vw _ _ vi e h fun c G1 H1 s1 q1 => ?_
  cases c with
  | true =>
    rw [if_pos rfl] at q1 ⊢
    exact h2 pa G1 H1 σ vw P Q (vi.step s1) s1.gh q1 fun b G2 H2 s2 q2 => k b G2 H2 (s1.trans vi.isPot s2) q2
  | false =>
    rw [if_neg Bool.false_ne_true] at q1 ⊢
    exact k _ G1 H1 s1 q1
theorem ok_or (h1 : TTok t wt) (h2 : TTok u wu) : TTok (tOr t u) (wOr wt wu) := by
  intro pa G H σ vw P Q vi e h k
  refine h1 pa G H σ vw _ _ vi e h fun c G1 H1 s1 q1 => ?_
  cases c with
  | true =>
    rw [if_pos rfl] at q1 ⊢
    exact k _ G1 H1 s1 q1
  | false =>
    rw [if_neg Bool.false_ne_true] at q1 ⊢
    exact h2 pa G1 H1 σ vw P Q (vi.step s1) s1.gh q1 fun b G2 H2 s2 q2 => k b G2 H2 (s1.trans vi.isPot s2) q2
theorem ok_not (h1 : TTok t wt) : TTok (tNot t) (wNot wt) := fun pa G H σ vw P Q vi e h k => h1 pa G H σ vw _ _ vi e h fun c G1 H1 s1 q1 => k _ G1 H1 s1 q1
theorem wand1 (ha : VC X a t wt) : VW X (.BoolOp .And [a] pos) t wt := ⟨pw_and1 ha.pe, ha.ok⟩
theorem wor1 (ha : VC X a t wt) : VW X (.BoolOp .Or [a] pos) t wt := ⟨pw_or1 ha.pe, ha.ok⟩
theorem wand (ha : VC X a t wt) (hb : VW X (.BoolOp .And (b :: rest) pos) u wu) : VW X (.BoolOp .And (a :: b :: rest) pos) (tAnd t u) (wAnd wt wu) := ⟨pw_and ha.pe hb.pe, ok_and ha.ok hb.ok⟩
theorem wor (ha : VC X a t wt) (hb : VW X (.BoolOp .Or (b :: rest) pos) u wu) : VW X (.BoolOp .Or (a :: b :: rest) pos) (tOr t u) (wOr wt wu) := ⟨pw_or ha.pe hb.pe, ok_or ha.ok hb.ok⟩
theorem vnotT (ha : VC X a t wt) : VC X (.UnaryOp .Not a pos) (tNot t) (wNot wt) := ⟨pt_not ha.pe, ok_not ha.ok⟩
/-- as values -/
def wAndV (wa wb : WE) : WE := fun vw P => wa vw fun x => match x with
  | .bool c => if c = true then wb vw P else P (.bool false)
  | _ => False
def wOrV (wa wb : WE) : WE := fun vw P => wa vw fun x => match x with
  | .bool c => if c = true then P (.bool true) else wb vw P
  | _ => False
def wNotV (wa : WE) : WE := fun vw P => wa vw fun x => match x with
  | .bool c => P (.bool (!c))
  | _ => False
theorem ok_andV (ha : TEok ta wa) (hb : TEok tb wb) : TEok (tAndV ta tb) (wAndV wa wb) := by
  intro pa G H σ vw P Q vi e h k
  refine ha pa G H σ vw _ _ vi e h fun x G1 H1 d s1 r1 h1 => ?_
  split at h1
  · rename_i c
    obtain rfl := rep_bl r1
    refine ⟨c, rfl, ?_⟩
    cases c with
    | true =>
      rw [if_pos rfl] at h1 ⊢
      exact hb pa G1 H1 σ vw P Q (vi.step s1) s1.gh h1 fun v G2 H2 d s2 r2 q2 => k v G2 H2 d (s1.trans vi.isPot s2) r2 q2
    | false =>
      rw [if_neg Bool.false_ne_true] at h1 ⊢
      exact k _ G1 H1 _ s1 (.bl false) h1
  · exact h1.elim
theorem ok_orV (ha : TEok ta wa) (hb : TEok tb wb) : TEok (tOrV ta tb) (wOrV wa wb) := by
  intro pa G H σ vw P Q vi e h k
  refine ha pa G H σ vw _ _ vi e h fun x G1 H1 d s1 r1 h1 => ?_
  split at h1
  · rename_i c
    obtain rfl := rep_bl r1
    refine ⟨c, rfl, ?_⟩
    cases c with
    | true =>
      rw [if_pos rfl] at h1 ⊢
      exact k _ G1 H1 _ s1 (.bl true) h1
    | false =>
      rw [if_neg Bool.false_ne_true] at h1 ⊢
      exact hb pa G1 H1 σ vw P Q (vi.step s1) s1.gh h1 fun v G2 H2 d s2 r2 q2 => k v G2 H2 d (s1.trans vi.isPot s2) r2 q2
  · exact h1.elim
theorem ok_notV (ha : TEok ta wa) : TEok (tNotV ta) (wNotV wa) := by
  intro pa G H σ vw P Q vi e h k
  refine ha pa G H σ vw _ _ vi e h fun x G1 H1 d s1 r1 h1 => ?_
  split at h1
  · rename_i c
    obtain rfl := rep_bl r1
    exact ⟨c, rfl, k _ G1 H1 _ s1 (.bl _) h1⟩
  · exact h1.elim
theorem vone {op : BoolOp} (h : VE X a ta wa) : VE X (.BoolOp op [a] pos) ta wa := ⟨pe_one h.pe, h.ok⟩
theorem vand (ha : VE X a ta wa) (hb : VE X (.BoolOp .And (b :: rest) pos) tb wb) : VE X (.BoolOp .And (a :: b :: rest) pos) (tAndV ta tb) (wAndV wa wb) := ⟨pe_and ha.pe hb.pe, ok_andV ha.ok hb.ok⟩
theorem vor (ha : VE X a ta wa) (hb : VE X (.BoolOp .Or (b :: rest) pos) tb wb) : VE X (.BoolOp .Or (a :: b :: rest) pos) (tOrV ta tb) (wOrV wa wb) := ⟨pe_or ha.pe hb.pe, ok_orV ha.ok hb.ok⟩
theorem vnot (ha : VE X a ta wa) : VE X (.UnaryOp .Not a pos) (tNotV ta) (wNotV wa) := ⟨pe_not ha.pe, ok_notV ha.ok⟩
def wIf (wc : WC) (wa wb : WE) : WE := fun vw P => wc vw fun b => if b = true then wa vw P else wb vw P
theorem ok_if (hc : TTok t wt) (ha : TEok ta wa) (hb : TEok tb wb) : TEok (tIf t ta tb) (wIf wt wa wb) := by
  intro pa G H σ vw P Q vi e h k
  refine hc pa G H σ vw _ _ vi e h fun c G1 H1 s1 h1 => ?_
  cases c with
  | true =>
    rw [if_pos rfl] at h1 ⊢
    exact ha pa G1 H1 σ vw P Q (vi.step s1) s1.gh h1 fun v G2 H2 d s2 r2 q2 => k v G2 H2 d (s1.trans vi.isPot s2) r2 q2
  | false =>
    rw [if_neg Bool.false_ne_true] at h1 ⊢
    exact hb pa G1 H1 σ vw P Q (vi.step s1) s1.gh h1 fun v G2 H2 d s2 r2 q2 => k v G2 H2 d (s1.trans vi.isPot s2) r2 q2
theorem oko_if (hc : TTok t wt) (ha : TOok ta wa) (hb : TOok tb wb) : TOok (tIf t ta tb) (wIf wt wa wb) := by
  intro pa G H σ vw P Q vi e h k
  refine hc pa G H σ vw _ _ vi e h fun c G1 H1 s1 h1 => ?_
  have old : ∀ {a : Addr}, H1 a = none → H a = none := fun {a} n => by
    cases q : H a with
    | none => rfl
    | some o => exact absurd n (s1.ne vi.isPot (by rw [q]; simp))
  cases c with
  | true =>
    rw [if_pos rfl] at h1 ⊢
    exact ha pa G1 H1 σ vw P Q (vi.step s1) s1.gh h1 fun v G2 H2 d F s2 r2 nd fr q2 => k v G2 H2 d F (s1.trans vi.isPot s2) r2 nd (fun a m => ⟨old (fr a m).1, (fr a m).2⟩) q2
  | false =>
    rw [if_neg Bool.false_ne_true] at h1 ⊢
    exact hb pa G1 H1 σ vw P Q (vi.step s1) s1.gh h1 fun v G2 H2 d F s2 r2 nd fr q2 => k v G2 H2 d F (s1.trans vi.isPot s2) r2 nd (fun a m => ⟨old (fr a m).1, (fr a m).2⟩) q2
theorem vif {c : Expr} (hc : VC X c t wt) (ha : VE X a ta wa) (hb : VE X b tb wb) : VE X (.IfExp c a b pos) (tIf t ta tb) (wIf wt wa wb) := ⟨pe_ifExp hc.pe ha.pe hb.pe, ok_if hc.ok ha.ok hb.ok⟩
theorem oif {c : Expr} (hc : VC X c t wt) (ha : VO X a ta wa) (hb : VO X b tb wb) : VO X (.IfExp c a b pos) (tIf t ta tb) (wIf wt wa wb) := ⟨pe_ifExp hc.pe ha.pe hb.pe, oko_if hc.ok ha.ok hb.ok⟩
end

/-! ### a new thing is frozen where it is read -/
theorem ok_of_own {te : TE} {w : WE} (h : TOok te w) : TEok te w := by
  intro pa G H σ vw P Q vi e hw k
  refine h pa G H σ vw P Q vi e hw fun v G' H' d F s o nd fr q => ?_
  have ex : Ex (addF G' H' F) H' := fun a x hx => by
    unfold addF at hx
    split at hx
    · exact hx
    · exact s.gh a x hx
  refine k v (addF G' H' F) H' d ⟨fun a x hx => ?_, s.h, s.p, ex, fun a n m => ?_⟩ (Own.frz F (fun a m => (fr a m).2) o fun a m => m) q
  · have z := s.g a x hx
    unfold addF
    rw [if_neg fun m => by rw [(fr a m).2] at z; cases z]
    exact z
  · unfold addF
    rw [if_neg fun m' => n (fr a m').1]
    exact s.fr a n m
theorem VO.e {X : Cx} {e : Expr} {te : TE} {w : WE} (h : VO X e te w) : VE X e te w := ⟨h.pe, ok_of_own h.ok⟩

/-! ### arguments, displays -/
def wNil : WA := fun _ P => P []
def wCons (wa : WE) (wr : WA) : WA := fun vw P => wa vw fun x => wr vw fun xs => P (x :: xs)
theorem ok_nil : TAok tNil wNil := fun pa G H σ vw P Q vi e h k => k [] G H [] (Step.refl e) .nil h
theorem ok_cons {ta : TE} {tr : TA} {wa : WE} {wr : WA} (ha : TEok ta wa) (hr : TAok tr wr) : TAok (tCons ta tr) (wCons wa wr) := by
  intro pa G H σ vw P Q vi e h k
  refine ha pa G H σ vw _ _ vi e h fun x G1 H1 d s1 r1 h1 => ?_
  refine hr pa G1 H1 σ vw _ _ (vi.step s1) s1.gh h1 fun xs G2 H2 ds s2 r2 h2 => ?_
  exact k (x :: xs) G2 H2 (d :: ds) (s1.trans vi.isPot s2) (.cons (r1.mono s2.g) r2) h2
section
variable {X : Cx} {e : Expr} {es : List Expr} {te : TE} {t : TA} {we : WE} {w : WA} {pos : Pos}
theorem anil : VA X [] tNil wNil := ⟨pa_nil, ok_nil⟩
theorem acons (ha : VE X e te we) (hr : VA X es t w) (hs : starEach (e :: es) X.env = (false, eval e X.env) :: starEach es X.env := by rfl) : VA X (e :: es) (tCons te t) (wCons we w) := ⟨pa_cons ha.pe hr.pe hs, ok_cons ha.ok hr.ok⟩
end
theorem RepA.length {G : Hp} : ∀ {vs : List V} {ds : List PyData}, RepA G vs ds → vs.length = ds.length
  | _, _, .nil => rfl
  | _, _, .cons _ r => by simp [RepA.length r]
def wTup (w : WA) : WE := fun vw P => w vw fun ds => ds.length ≤ 100000 ∧ P (.tuple ds)
def wLst (w : WA) : WE := fun vw P => w vw fun ds => ds.length ≤ 100000 ∧ P (.list ds)
theorem le_line {n : Nat} (h : n ≤ 1000000) : n ≤ sizeLine := Nat.le_trans h (by decide)
theorem lt_line {n : Nat} (h : n < 1000000) : n < sizeLine := Nat.lt_of_lt_of_le h (by decide)
theorem ok_tup {t : TA} {w : WA} (h : TAok t w) : TEok (tTup t) (wTup w) := by
  intro pa G H σ vw P Q vi e hw k
  refine h pa G H σ vw _ _ vi e hw fun vs G1 H1 ds s1 r1 ⟨hl, h1⟩ => ⟨le_line (by rw [r1.length]; omega), fun p hp => ?_⟩
  have s2 := Step.new (o := .tup vs) s1.gh (vi.step s1).isPot hp
  exact k (.ref p) _ _ _ (s1.trans vi.isPot s2) (.tup upd_same (r1.mono s2.g)) h1
/-- the items of a new list that is one's own: each frozen -/
theorem ownA_of {G H : Hp} : ∀ {vs : List V} {ds : List PyData}, RepA G vs ds → (∀ d ∈ ds, isBox d = false) → OwnA G H vs ds []
  | _, _, .nil, _ => .nil
  | _, _, .cons r t, h => .cons (F := []) (F' := []) (.leaf (h _ List.mem_cons_self) r) (ownA_of t fun d m => h d (List.mem_cons_of_mem _ m))
def noBox (ds : List PyData) : Prop := ∀ d ∈ ds, isBox d = false
def wLstO (w : WA) : WE := fun vw P => w vw fun ds => ds.length ≤ 100000 ∧ noBox ds ∧ P (.list ds)
theorem oko_lst {t : TA} {w : WA} (h : TAok t w) : TOok (tLst t) (wLstO w) := by
  intro pa G H σ vw P Q vi e hw k
  refine h pa G H σ vw _ _ vi e hw fun vs G1 H1 ds s1 r1 ⟨hl, nb, h1⟩ => ⟨le_line (by rw [r1.length]; omega), fun p hp => ?_⟩
  have s2 := Step.newO (pa := pa) (o := .lst vs) s1.gh hp
  refine k (.ref p) _ _ _ [p] (s1.trans vi.isPot s2) (.lst upd_same (ownA_of r1 nb)) (by simp) (fun a m => ?_) h1
  obtain rfl := List.mem_singleton.mp m
  refine ⟨?_, s1.gh.back hp⟩
  cases q : H a with
  | none => rfl
  | some o => exact absurd hp (s1.ne vi.isPot (by rw [q]; simp))
theorem ok_lst {t : TA} {w : WA} (h : TAok t w) : TEok (tLst t) (wLst w) := by
  intro pa G H σ vw P Q vi e hw k
  refine h pa G H σ vw _ _ vi e hw fun vs G1 H1 ds s1 r1 ⟨hl, h1⟩ => ⟨le_line (by rw [r1.length]; omega), fun p hp => ?_⟩
  have s2 := Step.new (o := .lst vs) s1.gh (vi.step s1).isPot hp
  exact k (.ref p) _ _ _ (s1.trans vi.isPot s2) (.lst upd_same (r1.mono s2.g)) h1
section
variable {X : Cx} {es : List Expr} {t : TA} {w : WA} {pos : Pos}
theorem vtup {x1} (h : VA X es t w) : VE X (.Tuple es x1 pos) (tTup t) (wTup w) := ⟨pe_tup h.pe, ok_tup h.ok⟩
theorem vlst (h : VA X es t w) : VE X (.List es pos) (tLst t) (wLst w) := ⟨pe_lst h.pe, ok_lst h.ok⟩
theorem olst (h : VA X es t w) : VO X (.List es pos) (tLst t) (wLstO w) := ⟨pe_lst h.pe, oko_lst h.ok⟩
end
end Vl
/-! VlC: subscripts, slices, built-ins by value. -/
namespace Vl
open PySem L2

/-! ### subscripts -/
theorem RepA.get {G : Hp} : ∀ {vs : List V} {ds : List PyData} {j : Nat} {d : PyData}, RepA G vs ds → ds[j]? = some d → ∃ v, vs[j]? = some v ∧ Rep G v d
  | _, _, j, d, .nil, h => by simp at h
  | _, _, 0, d, .cons r _, h => by simp at h; subst h; exact ⟨_, rfl, r⟩
  | _, _, j + 1, d, .cons _ t, h => by
    obtain ⟨v, h1, h2⟩ := RepA.get (j := j) t (by simpa using h)
    exact ⟨v, by simpa using h1, h2⟩
theorem RepA.getV {G : Hp} : ∀ {vs : List V} {ds : List PyData} {j : Nat} {v : V}, RepA G vs ds → vs[j]? = some v → ∃ d, ds[j]? = some d ∧ Rep G v d
  | _, _, j, d, .nil, h => by simp at h
  | _, _, 0, d, .cons r _, h => by simp at h; subst h; exact ⟨_, rfl, r⟩
  | _, _, j + 1, d, .cons _ t, h => by
    obtain ⟨v, h1, h2⟩ := RepA.getV (j := j) t (by simpa using h)
    exact ⟨v, by simpa using h1, h2⟩
theorem RepA.atI {G : Hp} {vs : List V} {ds : List PyData} {i : Int} {d : PyData} (r : RepA G vs ds) (h : L2.atI ds i = some d) : ∃ v, L2.atI vs i = some v ∧ Rep G v d := by
  unfold L2.atI at h ⊢
  rw [r.length]
  cases q : ixN ds.length i with
  | none => rw [q] at h; cases h
  | some j =>
    rw [q] at h
    obtain ⟨v, h1, h2⟩ := r.get (j := j) h
    exact ⟨v, h1, h2⟩
/-- xs[i], of a list or a tuple -/
def wIx2 : PyData → PyData → (PyData → Prop) → Prop := fun x y P => match x, y with
  | .list ds, .int i => match atI ds i with
    | some d => P d
    | none => False
  | .tuple ds, .int i => match atI ds i with
    | some d => P d
    | none => False
  | _, _ => False
theorem rok_ix {K : PySem.W.Frag} : R2ok (rIx K) wIx2 := by
  intro pa G H x y d e P Q ex hp rx ry h k
  unfold wIx2 at h
  split at h
  · rename_i ds i
    split at h
    · rename_i u hu
      obtain rfl := rep_int ry
      obtain ⟨a, vs, rfl, h1, r⟩ := rep_lst rx
      obtain ⟨v, h2, h3⟩ := r.atI hu
      exact .inl ⟨a, vs, i, v, rfl, rfl, SqL.of (ex _ _ h1), h2, k v G H _ (Step.refl ex) h3 h⟩
    · exact h.elim
  · rename_i ds i
    split at h
    · rename_i u hu
      obtain rfl := rep_int ry
      obtain ⟨a, vs, rfl, h1, r⟩ := rep_tup rx
      obtain ⟨v, h2, h3⟩ := r.atI hu
      exact .inr (.inl ⟨a, vs, i, v, rfl, rfl, SqT.of (ex _ _ h1), h2, k v G H _ (Step.refl ex) h3 h⟩)
    · exact h.elim
  · exact h.elim
section
variable {X : Cx} {a b : Expr} {ta tb : TE} {wa wb : WE} {pos : Pos}
theorem vix (ha : VE X a ta wa) (hb : VE X b tb wb) (hs : PlainIx b := by exact fun _ _ => rfl) : VE X (.Subscript a b pos) (tOp (rIx X.K) ta tb) (wOp wIx2 wa wb) := ⟨pe_ix ix_seq ha.pe hb.pe hs, ok_op rok_ix ha.ok hb.ok⟩
end

/-! ### slices -/
def cutD (ds : List PyData) (lo hi : Option Int) : List PyData := (ds.drop (HT.sIx ds.length 0 lo)).take (HT.sIx ds.length ds.length hi - HT.sIx ds.length 0 lo)
theorem RepA.drop' {G : Hp} : ∀ (n : Nat) {vs : List V} {ds : List PyData}, RepA G vs ds → RepA G (vs.drop n) (ds.drop n)
  | 0, _, _, r => r
  | n + 1, _, _, .nil => .nil
  | n + 1, _, _, .cons _ t => RepA.drop' n t
theorem RepA.take {G : Hp} : ∀ (n : Nat) {vs : List V} {ds : List PyData}, RepA G vs ds → RepA G (vs.take n) (ds.take n)
  | 0, _, _, _ => .nil
  | n + 1, _, _, .nil => .nil
  | n + 1, _, _, .cons r t => .cons r (RepA.take n t)
theorem RepA.cut {G : Hp} {vs : List V} {ds : List PyData} (r : RepA G vs ds) (lo hi : Option Int) : RepA G (cutV vs lo hi) (cutD ds lo hi) := by
  unfold cutV cutD
  rw [r.length]
  exact (r.drop' _).take _
theorem RepA.append {G : Hp} : ∀ {vs vs' : List V} {ds ds' : List PyData}, RepA G vs ds → RepA G vs' ds' → RepA G (vs ++ vs') (ds ++ ds')
  | _, _, _, _, .nil, r => r
  | _, _, _, _, .cons h t, r => .cons h (RepA.append t r)
theorem RepA.reverse {G : Hp} : ∀ {vs : List V} {ds : List PyData}, RepA G vs ds → RepA G vs.reverse ds.reverse
  | _, _, .nil => .nil
  | _, _, .cons h t => by
    rw [List.reverse_cons, List.reverse_cons]
    exact (RepA.reverse t).append (.cons h .nil)
/-- a part of a slice -/
abbrev WP := Vw → (Option Int → Prop) → Prop
def TPok (t : TO) (w : WP) : Prop := ∀ (pa : Option Addr) (G H : Hp) (σ : L2.St) (vw : Vw) (P : Option Int → Prop) (Q : Option Int → Hp → Prop), View pa G H σ vw → Ex G H → w vw P →
  (∀ o G' H', Step pa G H G' H' → P o → Q o H') → t σ H Q
structure VP (X : Cx) (e : Option Expr) (t : TO) (w : WP) : Prop where
  pe : PO X e t
  ok : TPok t w
def wNoP : WP := fun _ P => P none
def wSomeP (wa : WE) : WP := fun vw P => wa vw fun x => match x with
  | .int i => P (some i)
  | _ => False
theorem pnone {X : Cx} : VP X none tNoPart wNoP := ⟨po_none, fun pa G H σ vw P Q vi e h k => k none G H (Step.refl e) h⟩
theorem psome {X : Cx} {e : Expr} {te : TE} {we : WE} (h : VE X e te we) : VP X (some e) (tPart te) (wSomeP we) := ⟨po_some h.pe, by
  intro pa G H σ vw P Q vi e hw k
  refine h.ok pa G H σ vw _ _ vi e hw fun v G1 H1 d s1 r1 h1 => ?_
  split at h1
  · rename_i i
    obtain rfl := rep_int r1
    exact ⟨i, rfl, k _ G1 H1 s1 h1⟩
  · exact h1.elim⟩
/-- by values: a list's slice is a new list, a tuple's a tuple -/
def rSlV (K : PySem.W.Frag) : V → Option Int → Option Int → Hp → VK → Prop := fun x lo hi H Q => rSlL K x lo hi H Q ∨ rSlA K x lo hi H Q
theorem cutV_whole {vs : List V} {lo hi : Option Int} (h : HT.sIx vs.length 0 lo = 0 ∧ HT.sIx vs.length vs.length hi = vs.length) : cutV vs lo hi = vs := by
  unfold cutV
  rw [h.1, h.2]
  simp
theorem cutD_whole {ds : List PyData} {lo hi : Option Int} (h : HT.sIx ds.length 0 lo = 0 ∧ HT.sIx ds.length ds.length hi = ds.length) : cutD ds lo hi = ds := by
  unfold cutD
  rw [h.1, h.2]
  simp
def wSl (wa : WE) (wl wh : WP) : WE := fun vw P => wa vw fun x => wl vw fun lo => wh vw fun hi => match x with
  | .list ds => P (.list (cutD ds lo hi))
  | .tuple ds => P (.tuple (cutD ds lo hi))
  | _ => False
theorem ok_sl {K : PySem.W.Frag} {te : TE} {tl th : TO} {we : WE} {wl wh : WP} (h : TEok te we) (hl : TPok tl wl) (hh : TPok th wh) : TEok (tSl (rSlV K) te tl th) (wSl we wl wh) := by
  intro pa G H σ vw P Q vi e hw k
  refine h pa G H σ vw _ _ vi e hw fun x G1 H1 d s1 r1 h1 => ?_
  refine hl pa G1 H1 σ vw _ _ (vi.step s1) s1.gh h1 fun lo G2 H2 s2 h2 => ?_
  have s12 := s1.trans vi.isPot s2
  refine hh pa G2 H2 σ vw _ _ (vi.step s12) s2.gh h2 fun hi G3 H3 s3 h3 => ?_
  have s13 := s12.trans vi.isPot s3
  have r3 := r1.mono (s2.g.trans s3.g)
  split at h3
  · rename_i ds
    obtain ⟨a, vs, rfl, q, r⟩ := rep_lst r3
    refine .inl ⟨a, vs, rfl, SqL.of (s3.gh _ _ q), fun p hp => ?_⟩
    have s4 := Step.new (o := .lst (cutV vs lo hi)) s3.gh (vi.step s13).isPot hp
    exact k _ _ _ _ (s13.trans vi.isPot s4) (.lst upd_same ((r.cut lo hi).mono s4.g)) h3
  · rename_i ds
    obtain ⟨a, vs, rfl, q, r⟩ := rep_tup r3
    refine .inr ⟨a, vs, rfl, SqT.of (s3.gh _ _ q), fun hw => ?_, fun hw p hp => ?_⟩
    · rw [cutD_whole (by rw [← r.length]; exact hw)] at h3
      exact k _ _ _ _ s13 r3 h3
    · have s4 := Step.new (o := .tup (cutV vs lo hi)) s3.gh (vi.step s13).isPot hp
      exact k _ _ _ _ (s13.trans vi.isPot s4) (.tup upd_same ((r.cut lo hi).mono s4.g)) h3
  · exact h3.elim
def wRev (wa : WE) : WE := fun vw P => wa vw fun x => match x with
  | .list ds => P (.list ds.reverse)
  | _ => False
theorem ok_rev {K : PySem.W.Frag} {te : TE} {we : WE} (h : TEok te we) : TEok (tRevL K te) (wRev we) := by
  intro pa G H σ vw P Q vi e hw k
  refine h pa G H σ vw _ _ vi e hw fun x G1 H1 d s1 r1 h1 => ?_
  split at h1
  · rename_i ds
    obtain ⟨a, vs, rfl, q, r⟩ := rep_lst r1
    refine ⟨a, vs, rfl, SqL.of (s1.gh _ _ q), fun p hp => ?_⟩
    have s4 := Step.new (o := .lst vs.reverse) s1.gh (vi.step s1).isPot hp
    exact k _ _ _ _ (s1.trans vi.isPot s4) (.lst upd_same (r.reverse.mono s4.g)) h1
  · exact h1.elim
section
variable {X : Cx} {e : Expr} {te : TE} {we : WE} {lo hi : Option Expr} {tl th : TO} {wl wh : WP} {p2 pos : Pos}
theorem vsl (he : VE X e te we) (hl : VP X lo tl wl) (hh : VP X hi th wh) : VE X (.Subscript e (.Slice lo hi none p2) pos) (tSl (rSlV X.K) te tl th) (wSl we wl wh) := ⟨pe_slice (sl_list.or sl_tupA) he.pe hl.pe hh.pe, ok_sl he.ok hl.ok hh.ok⟩
theorem vrev {k : Nat} {p1 p2 p3 : Pos} (he : VE X e te we) : VE X (.Subscript e (.Slice none none (some (.UnaryOp .USub (.Constant (.int 1) k p1) p2)) p3) pos) (tRevL X.K te) (wRev we) := ⟨pe_revL he.pe, ok_rev he.ok⟩
end
/-- the new list as one's own: its items hold no box -/
theorem own_new {pa : Option Addr} {G H G1 H1 : Hp} {p : Addr} {vs : List V} {ds : List PyData} (hp0 : ∀ a, pa = some a → IsPot H a) (s : Step pa G H G1 H1) (hp : H1 p = none) (r : RepA G1 vs ds) (nb : noBox ds) :
    ∃ F, Step pa G H G1 (upd H1 p (.lst vs)) ∧ Own G1 (upd H1 p (.lst vs)) (.ref p) (.list ds) F ∧ F.Nodup ∧ ∀ a ∈ F, H a = none ∧ G1 a = none := by
  refine ⟨[p], s.trans hp0 (Step.newO s.gh hp), .lst upd_same (ownA_of r nb), by simp, fun a m => ?_⟩
  obtain rfl := List.mem_singleton.mp m
  refine ⟨?_, s.gh.back hp⟩
  cases q : H a with
  | none => rfl
  | some o => exact absurd hp (s.ne hp0 (by rw [q]; simp))
theorem noBox_cut {ds : List PyData} (h : noBox ds) (lo hi : Option Int) : noBox (cutD ds lo hi) := fun d m => h d (List.mem_of_mem_drop (List.mem_of_mem_take m))
def wSlO (wa : WE) (wl wh : WP) : WE := fun vw P => wa vw fun x => wl vw fun lo => wh vw fun hi => match x with
  | .list ds => noBox ds ∧ P (.list (cutD ds lo hi))
  | _ => False
theorem oko_sl {K : PySem.W.Frag} {te : TE} {tl th : TO} {we : WE} {wl wh : WP} (h : TEok te we) (hl : TPok tl wl) (hh : TPok th wh) : TOok (tSl (rSlV K) te tl th) (wSlO we wl wh) := by
  intro pa G H σ vw P Q vi e hw k
  refine h pa G H σ vw _ _ vi e hw fun x G1 H1 d s1 r1 h1 => ?_
  refine hl pa G1 H1 σ vw _ _ (vi.step s1) s1.gh h1 fun lo G2 H2 s2 h2 => ?_
  have s12 := s1.trans vi.isPot s2
  refine hh pa G2 H2 σ vw _ _ (vi.step s12) s2.gh h2 fun hi G3 H3 s3 h3 => ?_
  have s13 := s12.trans vi.isPot s3
  have r3 := r1.mono (s2.g.trans s3.g)
  split at h3
  · rename_i ds
    obtain ⟨a, vs, rfl, q, r⟩ := rep_lst r3
    refine .inl ⟨a, vs, rfl, SqL.of (s3.gh _ _ q), fun p hp => ?_⟩
    obtain ⟨F, st, o, nd, fr⟩ := own_new vi.isPot s13 hp (r.cut lo hi) (noBox_cut h3.1 lo hi)
    exact k _ _ _ _ F st o nd fr h3.2
  · exact h3.elim
theorem osl {X : Cx} {e : Expr} {te : TE} {we : WE} {lo hi : Option Expr} {tl th : TO} {wl wh : WP} {p2 pos : Pos} (he : VE X e te we) (hl : VP X lo tl wl) (hh : VP X hi th wh) : VO X (.Subscript e (.Slice lo hi none p2) pos) (tSl (rSlV X.K) te tl th) (wSlO we wl wh) :=
  ⟨pe_slice (sl_list.or sl_tupA) he.pe hl.pe hh.pe, oko_sl he.ok hl.ok hh.ok⟩

/-! ### + of lists and tuples, * of lists -/
def wCat2 : PyData → PyData → (PyData → Prop) → Prop := fun x y P => match x, y with
  | .list ds, .list es => ds.length + es.length ≤ 1000000 ∧ P (.list (ds ++ es))
  | .tuple ds, .tuple es => ds.length + es.length ≤ 1000000 ∧ P (.tuple (ds ++ es))
  | _, _ => False
def rCatV (K : PySem.W.Frag) : R2 := fun x y H Q => rCat x y H Q ∨ rCatA K x y H Q
theorem rok_cat {K : PySem.W.Frag} : R2ok (rCatV K) wCat2 := by
  intro pa G H x y d e P Q ex hp rx ry h k
  unfold wCat2 at h
  split at h
  · rename_i ds es
    obtain ⟨a, vs, rfl, q, r⟩ := rep_lst rx
    obtain ⟨b, us, rfl, q', r'⟩ := rep_lst ry
    refine .inl ⟨a, b, vs, us, rfl, rfl, ex _ _ q, ex _ _ q', le_line (by rw [r.length, r'.length]; exact h.1), fun p hp' => ?_⟩
    have s4 := Step.new (o := .lst (vs ++ us)) ex hp hp'
    exact k _ _ _ _ s4 (.lst upd_same ((r.append r').mono s4.g)) h.2
  · rename_i ds es
    obtain ⟨a, vs, rfl, q, r⟩ := rep_tup rx
    obtain ⟨b, us, rfl, q', r'⟩ := rep_tup ry
    refine .inr ⟨a, b, vs, us, rfl, rfl, SqT.of (ex _ _ q), SqT.of (ex _ _ q'), le_line (by rw [r.length, r'.length]; exact h.1), fun e1 => ?_, fun e1 e2 => ?_, fun e1 e2 p hp' => ?_⟩
    · subst e1
      cases r
      exact k _ _ _ _ (Step.refl ex) ry h.2
    · subst e2
      cases r'
      have z := h.2
      rw [List.append_nil] at z
      exact k _ _ _ _ (Step.refl ex) rx z
    · have s4 := Step.new (o := .tup (vs ++ us)) ex hp hp'
      exact k _ _ _ _ s4 (.tup upd_same ((r.append r').mono s4.g)) h.2
  · exact h.elim
def wCatO (wa wb : WE) : WE := fun vw P => wa vw fun x => wb vw fun y => match x, y with
  | .list ds, .list es => ds.length + es.length ≤ 1000000 ∧ noBox (ds ++ es) ∧ P (.list (ds ++ es))
  | _, _ => False
theorem oko_cat {K : PySem.W.Frag} {ta tb : TE} {wa wb : WE} (ha : TEok ta wa) (hb : TEok tb wb) : TOok (tOp (rCatV K) ta tb) (wCatO wa wb) := by
  intro pa G H σ vw P Q vi e h k
  refine ha pa G H σ vw _ _ vi e h fun x G1 H1 d s1 r1 h1 => ?_
  refine hb pa G1 H1 σ vw _ _ (vi.step s1) s1.gh h1 fun y G2 H2 d2 s2 r2 h2 => ?_
  have s12 := s1.trans vi.isPot s2
  have r1' := r1.mono s2.g
  split at h2
  · rename_i ds es
    obtain ⟨a, vs, rfl, q, r⟩ := rep_lst r1'
    obtain ⟨b, us, rfl, q', r'⟩ := rep_lst r2
    refine .inl ⟨a, b, vs, us, rfl, rfl, s2.gh _ _ q, s2.gh _ _ q', le_line (by rw [r.length, r'.length]; exact h2.1), fun p hp' => ?_⟩
    obtain ⟨F, st, o, nd, fr⟩ := own_new vi.isPot s12 hp' (r.append r') h2.2.1
    exact k _ _ _ _ F st o nd fr h2.2.2
  · exact h2.elim
section
variable {X : Cx} {a b : Expr} {ta tb : TE} {wa wb : WE} {pos : Pos}
theorem vcat (ha : VE X a ta wa) (hb : VE X b tb wb) : VE X (.BinOp a .Add b pos) (tOp (rCatV X.K) ta tb) (wOp wCat2 wa wb) := ⟨pe_op (op_cat.or op_catA) ha.pe hb.pe, ok_op rok_cat ha.ok hb.ok⟩
theorem ocat (ha : VE X a ta wa) (hb : VE X b tb wb) : VO X (.BinOp a .Add b pos) (tOp (rCatV X.K) ta tb) (wCatO wa wb) := ⟨pe_op (op_cat.or op_catA) ha.pe hb.pe, oko_cat ha.ok hb.ok⟩
end
theorem RepA.rep {G : Hp} {vs : List V} {ds : List PyData} (r : RepA G vs ds) : ∀ n : Nat, RepA G (List.replicate n vs).flatten (List.replicate n ds).flatten
  | 0 => .nil
  | n + 1 => by
    rw [List.replicate_succ, List.replicate_succ, List.flatten_cons, List.flatten_cons]
    exact r.append (RepA.rep r n)
/-- xs * n -/
def wRepO (wa wb : WE) : WE := fun vw P => wa vw fun x => wb vw fun y => match x, y with
  | .list ds, .int n => (noBox ds ∧ n < 1000000 ∧ -1000000 < n ∧ ds.length * n.toNat ≤ 1000000) ∧ P (.list (List.replicate n.toNat ds).flatten)
  | _, _ => False
theorem oko_rep {ta tb : TE} {wa wb : WE} (ha : TEok ta wa) (hb : TEok tb wb) : TOok (tOp rRep ta tb) (wRepO wa wb) := by
  intro pa G H σ vw P Q vi e h k
  refine ha pa G H σ vw _ _ vi e h fun x G1 H1 d s1 r1 h1 => ?_
  refine hb pa G1 H1 σ vw _ _ (vi.step s1) s1.gh h1 fun y G2 H2 d2 s2 r2 h2 => ?_
  have s12 := s1.trans vi.isPot s2
  have r1' := r1.mono s2.g
  split at h2
  · rename_i ds n
    obtain ⟨a, vs, rfl, q, r⟩ := rep_lst r1'
    obtain rfl := rep_int r2
    obtain ⟨⟨nb, n1, n2, hl⟩, h3⟩ := h2
    refine ⟨a, n, vs, rfl, rfl, s2.gh _ _ q, by omega, by omega, le_line (by rw [r.length]; exact hl), fun p hp' => ?_⟩
    obtain ⟨F, st, o, nd, fr⟩ := own_new vi.isPot s12 hp' (r.rep n.toNat) (fun d m => by
      obtain ⟨l, hl, hd⟩ := List.mem_flatten.mp m
      rw [List.eq_of_mem_replicate hl] at hd
      exact nb d hd)
    exact k _ _ _ _ F st o nd fr h3
  · exact h2.elim
theorem orep {X : Cx} {a b : Expr} {ta tb : TE} {wa wb : WE} {pos : Pos} (ha : VE X a ta wa) (hb : VE X b tb wb) : VO X (.BinOp a .Mult b pos) (tOp rRep ta tb) (wRepO wa wb) := ⟨pe_op op_rep ha.pe hb.pe, oko_rep ha.ok hb.ok⟩

/-! ### built-ins called -/
def C1ok (r : List V → Hp → VK → Prop) (w : List PyData → (PyData → Prop) → Prop) : Prop := ∀ (pa : Option Addr) (G H : Hp) (vs : List V) (ds : List PyData) (P : PyData → Prop) (Q : VK), Ex G H → (∀ a, pa = some a → IsPot H a) → RepA G vs ds → w ds P →
  (∀ v G' H' d, Step pa G H G' H' → Rep G' v d → P d → Q v H') → r vs H Q
def CO1ok (r : List V → Hp → VK → Prop) (w : List PyData → (PyData → Prop) → Prop) : Prop := ∀ (pa : Option Addr) (G H : Hp) (vs : List V) (ds : List PyData) (P : PyData → Prop) (Q : VK), Ex G H → (∀ a, pa = some a → IsPot H a) → RepA G vs ds → w ds P →
  (∀ v G' H' d F, Step pa G H G' H' → Own G' H' v d F → F.Nodup → (∀ a ∈ F, H a = none ∧ G' a = none) → P d → Q v H') → r vs H Q
structure CR1 (X : Cx) (f : Value) (r : List V → Hp → VK → Prop) (w : List PyData → (PyData → Prop) → Prop) : Prop where
  cr : CallR X f r
  ok : C1ok r w
structure CO1 (X : Cx) (f : Value) (r : List V → Hp → VK → Prop) (w : List PyData → (PyData → Prop) → Prop) : Prop where
  cr : CallR X f r
  ok : CO1ok r w
def wCall (w : List PyData → (PyData → Prop) → Prop) (wa : WA) : WE := fun vw P => wa vw fun ds => w ds P
theorem ok_call1 {r : List V → Hp → VK → Prop} {w : List PyData → (PyData → Prop) → Prop} {t : TA} {wa : WA} (hr : C1ok r w) (ha : TAok t wa) : TEok (tCB r t) (wCall w wa) := by
  intro pa G H σ vw P Q vi e h k
  refine ha pa G H σ vw _ _ vi e h fun vs G1 H1 ds s1 r1 h1 => ?_
  exact hr pa G1 H1 vs ds P Q s1.gh (vi.step s1).isPot r1 h1 fun v G2 H2 d s2 r2 h2 => k v G2 H2 d (s1.trans vi.isPot s2) r2 h2
theorem oko_call1 {r : List V → Hp → VK → Prop} {w : List PyData → (PyData → Prop) → Prop} {t : TA} {wa : WA} (hr : CO1ok r w) (ha : TAok t wa) : TOok (tCB r t) (wCall w wa) := by
  intro pa G H σ vw P Q vi e h k
  refine ha pa G H σ vw _ _ vi e h fun vs G1 H1 ds s1 r1 h1 => ?_
  refine hr pa G1 H1 vs ds P Q s1.gh (vi.step s1).isPot r1 h1 fun v G2 H2 d F s2 r2 nd fr h2 => k v G2 H2 d F (s1.trans vi.isPot s2) r2 nd (fun a m => ⟨?_, (fr a m).2⟩) h2
  cases q : H a with
  | none => rfl
  | some o => exact absurd (fr a m).1 (s1.ne vi.isPot (by rw [q]; simp))
section
variable {X : Cx} {x : Str} {p pos : Pos} {e : Expr} {es : List Expr} {t : TA} {wa : WA} {id T : String} {r : List V → Hp → VK → Prop} {w : List PyData → (PyData → Prop) → Prop}
theorem vcb (hc : CR1 X (.builtin id) r w) (hg : Gl X x) (hm : X.mg x = none) (hv : bootBuiltins x = some (.builtin id)) (ha : VA X (e :: es) t wa) (hn : x ≠ "__name__" := by decide) (hdb : (x == ("__debug__" : Str)) = false := by decide)
    (he : starEach (e :: es) X.env = (false, eval e X.env) :: starEach es X.env := by rfl) (hpl : (backTo pos (starEach es X.env)).any (·.1) = false := by rfl) : VE X (.Call (.Name x p) (e :: es) [] pos) (tCB r t) (wCall w wa) :=
  ⟨pe_callB hc.cr hg hm hv ha.pe hn hdb he hpl, ok_call1 hc.ok ha.ok⟩
theorem ocb (hc : CO1 X (.builtin id) r w) (hg : Gl X x) (hm : X.mg x = none) (hv : bootBuiltins x = some (.builtin id)) (ha : VA X (e :: es) t wa) (hn : x ≠ "__name__" := by decide) (hdb : (x == ("__debug__" : Str)) = false := by decide)
    (he : starEach (e :: es) X.env = (false, eval e X.env) :: starEach es X.env := by rfl) (hpl : (backTo pos (starEach es X.env)).any (·.1) = false := by rfl) : VO X (.Call (.Name x p) (e :: es) [] pos) (tCB r t) (wCall w wa) :=
  ⟨pe_callB hc.cr hg hm hv ha.pe hn hdb he hpl, oko_call1 hc.ok ha.ok⟩
theorem vct (hc : CR1 X (.type T) r w) (hg : Gl X x) (hm : X.mg x = none) (hv : bootBuiltins x = some (.type T)) (ha : VA X (e :: es) t wa) (hn : x ≠ "__name__" := by decide) (hdb : (x == ("__debug__" : Str)) = false := by decide)
    (he : starEach (e :: es) X.env = (false, eval e X.env) :: starEach es X.env := by rfl) (hpl : (backTo pos (starEach es X.env)).any (·.1) = false := by rfl) : VE X (.Call (.Name x p) (e :: es) [] pos) (tCB r t) (wCall w wa) :=
  ⟨pe_callTy hc.cr hg hm hv ha.pe hn hdb he hpl, ok_call1 hc.ok ha.ok⟩
theorem oct (hc : CO1 X (.type T) r w) (hg : Gl X x) (hm : X.mg x = none) (hv : bootBuiltins x = some (.type T)) (ha : VA X (e :: es) t wa) (hn : x ≠ "__name__" := by decide) (hdb : (x == ("__debug__" : Str)) = false := by decide)
    (he : starEach (e :: es) X.env = (false, eval e X.env) :: starEach es X.env := by rfl) (hpl : (backTo pos (starEach es X.env)).any (·.1) = false := by rfl) : VO X (.Call (.Name x p) (e :: es) [] pos) (tCB r t) (wCall w wa) :=
  ⟨pe_callTy hc.cr hg hm hv ha.pe hn hdb he hpl, oko_call1 hc.ok ha.ok⟩
end
theorem repA1 {G : Hp} {vs : List V} {d : PyData} (r : RepA G vs [d]) : ∃ v, vs = [v] ∧ Rep G v d := by
  cases r with
  | cons h t => cases t; exact ⟨_, rfl, h⟩
theorem repA2 {G : Hp} {vs : List V} {d e : PyData} (r : RepA G vs [d, e]) : ∃ v u, vs = [v, u] ∧ Rep G v d ∧ Rep G u e := by
  cases r with
  | cons h t => cases t with
    | cons h' t' => cases t'; exact ⟨_, _, rfl, h, h'⟩
/-! abs, max, min, int, len -/
def wAbs : List PyData → (PyData → Prop) → Prop := fun ds P => match ds with
  | [.int i] => P (.int (if i < 0 then -i else i))
  | _ => False
def wMax2 : List PyData → (PyData → Prop) → Prop := fun ds P => match ds with
  | [.int i, .int j] => P (.int (max i j))
  | _ => False
def wMin2 : List PyData → (PyData → Prop) → Prop := fun ds P => match ds with
  | [.int i, .int j] => P (.int (min i j))
  | _ => False
def wInt1 : List PyData → (PyData → Prop) → Prop := fun ds P => match ds with
  | [.int i] => P (.int i)
  | [.bool b] => P (.int (if b then 1 else 0))
  | _ => False
def wLen : List PyData → (PyData → Prop) → Prop := fun ds P => match ds with
  | [.list xs] => P (.int xs.length)
  | [.tuple xs] => P (.int xs.length)
  | _ => False
section
variable {X : Cx}
theorem cAbs : CR1 X (.builtin "abs") (fun xs H Q => ∃ i, xs = [.int i] ∧ Q (.int (if i < 0 then -i else i)) H) wAbs := ⟨call_abs, by
  intro pa G H vs ds P Q ex hp r h k
  unfold wAbs at h
  split at h
  · obtain ⟨v, rfl, r1⟩ := repA1 r
    obtain rfl := rep_int r1
    exact ⟨_, rfl, k _ G H _ (Step.refl ex) (.int _) h⟩
  · exact h.elim⟩
theorem max_if {i j : Int} : (if j > i then j else i) = max i j := by split <;> omega
theorem min_if {i j : Int} : (if j < i then j else i) = min i j := by split <;> omega
theorem cMax2 (hc : X.calm = true) : CR1 X (.builtin "max") (fun xs H Q => ∃ i j, xs = [.int i, .int j] ∧ Q (.int (if j > i then j else i)) H) wMax2 := ⟨call_max2 hc, by
  intro pa G H vs ds P Q ex hp r h k
  unfold wMax2 at h
  split at h
  · obtain ⟨v, u, rfl, r1, r2⟩ := repA2 r
    obtain rfl := rep_int r1
    obtain rfl := rep_int r2
    exact ⟨_, _, rfl, by rw [max_if]; exact k _ G H _ (Step.refl ex) (.int _) h⟩
  · exact h.elim⟩
theorem cMin2 (hc : X.calm = true) : CR1 X (.builtin "min") (fun xs H Q => ∃ i j, xs = [.int i, .int j] ∧ Q (.int (if j < i then j else i)) H) wMin2 := ⟨call_min2 hc, by
  intro pa G H vs ds P Q ex hp r h k
  unfold wMin2 at h
  split at h
  · obtain ⟨v, u, rfl, r1, r2⟩ := repA2 r
    obtain rfl := rep_int r1
    obtain rfl := rep_int r2
    exact ⟨_, _, rfl, by rw [min_if]; exact k _ G H _ (Step.refl ex) (.int _) h⟩
  · exact h.elim⟩
theorem cInt1 : CR1 X (.type "int") (fun xs H Q => (∃ i, xs = [.int i] ∧ Q (.int i) H) ∨ ∃ k, xs = [.bl k] ∧ Q (.int (if k then 1 else 0)) H) wInt1 := ⟨call_int1, by
  intro pa G H vs ds P Q ex hp r h k
  unfold wInt1 at h
  split at h
  · obtain ⟨v, rfl, r1⟩ := repA1 r
    obtain rfl := rep_int r1
    exact .inl ⟨_, rfl, k _ G H _ (Step.refl ex) (.int _) h⟩
  · obtain ⟨v, rfl, r1⟩ := repA1 r
    obtain rfl := rep_bl r1
    exact .inr ⟨_, rfl, k _ G H _ (Step.refl ex) (.int _) h⟩
  · exact h.elim⟩
def rLenV (K : PySem.W.Frag) : List V → Hp → VK → Prop := fun xs H Q => ∃ p ys, xs = [.ref p] ∧ (SqL K H p ys ∨ SqT K H p ys) ∧ Q (.int ys.length) H
theorem cLen : CR1 X (.builtin "len") (rLenV X.K) wLen := ⟨call_len_seq, by
  intro pa G H vs ds P Q ex hp r h k
  unfold wLen at h
  split at h
  · obtain ⟨v, rfl, r1⟩ := repA1 r
    obtain ⟨a, us, rfl, q, r⟩ := rep_lst r1
    exact ⟨a, us, rfl, .inl (SqL.of (ex _ _ q)), by rw [r.length]; exact k _ G H _ (Step.refl ex) (.int _) h⟩
  · obtain ⟨v, rfl, r1⟩ := repA1 r
    obtain ⟨a, us, rfl, q, r⟩ := rep_tup r1
    exact ⟨a, us, rfl, .inr (SqT.of (ex _ _ q)), by rw [r.length]; exact k _ G H _ (Step.refl ex) (.int _) h⟩
  · exact h.elim⟩
end

/-! lists of ints, of truth values -/
def intsOf : List PyData → Option (List Int)
  | [] => some []
  | .int i :: r => (intsOf r).map (i :: ·)
  | _ => none
def blsOf : List PyData → Option (List Bool)
  | [] => some []
  | .bool i :: r => (blsOf r).map (i :: ·)
  | _ => none
theorem intsOf_map (ns : List Int) : intsOf (ns.map .int) = some ns := by
  induction ns with
  | nil => rfl
  | cons n ns ih => simp [intsOf, ih]
theorem blsOf_map (ns : List Bool) : blsOf (ns.map .bool) = some ns := by
  induction ns with
  | nil => rfl
  | cons n ns ih => simp [blsOf, ih]
theorem intsOf_some : ∀ {ds : List PyData} {ns : List Int}, intsOf ds = some ns → ds = ns.map .int
  | [], ns, h => by cases h; rfl
  | .int i :: r, ns, h => by
    unfold intsOf at h
    cases q : intsOf r with
    | none => rw [q] at h; cases h
    | some ms =>
      rw [q] at h
      cases h
      rw [intsOf_some q]
      rfl
  | .none :: _, _, h => by cases h
  | .bool _ :: _, _, h => by cases h
  | .str _ :: _, _, h => by cases h
  | .list _ :: _, _, h => by cases h
  | .tuple _ :: _, _, h => by cases h
  | .dict _ :: _, _, h => by cases h
theorem blsOf_some : ∀ {ds : List PyData} {ns : List Bool}, blsOf ds = some ns → ds = ns.map .bool
  | [], ns, h => by cases h; rfl
  | .bool i :: r, ns, h => by
    unfold blsOf at h
    cases q : blsOf r with
    | none => rw [q] at h; cases h
    | some ms =>
      rw [q] at h
      cases h
      rw [blsOf_some q]
      rfl
  | .none :: _, _, h => by cases h
  | .int _ :: _, _, h => by cases h
  | .str _ :: _, _, h => by cases h
  | .list _ :: _, _, h => by cases h
  | .tuple _ :: _, _, h => by cases h
  | .dict _ :: _, _, h => by cases h
theorem RepA.ints {G : Hp} : ∀ {ns : List Int} {vs : List V}, RepA G vs (ns.map .int) → vs = ns.map V.int
  | [], _, r => by cases r; rfl
  | n :: ns, _, r => by
    cases r with
    | cons h t => rw [rep_int h, RepA.ints t]; rfl
theorem RepA.bls {G : Hp} : ∀ {ns : List Bool} {vs : List V}, RepA G vs (ns.map .bool) → vs = ns.map V.bl
  | [], _, r => by cases r; rfl
  | n :: ns, _, r => by
    cases r with
    | cons h t => rw [rep_bl h, RepA.bls t]; rfl
theorem repA_ints {G : Hp} : ∀ (ns : List Int), RepA G (ns.map V.int) (ns.map .int)
  | [] => .nil
  | n :: ns => .cons (.int n) (repA_ints ns)
theorem noBox_ints (ns : List Int) : noBox (ns.map .int) := fun d m => by
  obtain ⟨n, _, rfl⟩ := List.mem_map.mp m
  rfl
def wSum : List PyData → (PyData → Prop) → Prop := fun ds P => match ds with
  | [.list xs] => match intsOf xs with
    | some ns => P (.int ns.sum)
    | none => False
  | _ => False
def wAll : List PyData → (PyData → Prop) → Prop := fun ds P => match ds with
  | [.list xs] => match blsOf xs with
    | some ns => P (.bool (ns.all id))
    | none => False
  | _ => False
def wAny : List PyData → (PyData → Prop) → Prop := fun ds P => match ds with
  | [.list xs] => match blsOf xs with
    | some ns => P (.bool (ns.any id))
    | none => False
  | _ => False
section
variable {X : Cx}
theorem cSum (hc : X.calm = true) : CR1 X (.builtin "sum") (rSum X.K) wSum := ⟨cr_sum hc, by
  intro pa G H vs ds P Q ex hp r h k
  unfold wSum at h
  split at h
  · split at h
    · rename_i hn
      obtain ⟨v, rfl, r1⟩ := repA1 r
      obtain ⟨a, us, rfl, q, r⟩ := rep_lst r1
      rw [intsOf_some hn] at r
      rw [r.ints] at q
      exact ⟨a, _, rfl, SqL.of (ex _ _ q), k _ G H _ (Step.refl ex) (.int _) h⟩
    · exact h.elim
  · exact h.elim⟩
theorem cAll (hc : X.calm = true) : CR1 X (.builtin "all") (rAll X.K) wAll := ⟨cr_all hc, by
  intro pa G H vs ds P Q ex hp r h k
  unfold wAll at h
  split at h
  · split at h
    · rename_i hn
      obtain ⟨v, rfl, r1⟩ := repA1 r
      obtain ⟨a, us, rfl, q, r⟩ := rep_lst r1
      rw [blsOf_some hn] at r
      rw [r.bls] at q
      exact ⟨a, _, rfl, SqL.of (ex _ _ q), k _ G H _ (Step.refl ex) (.bl _) h⟩
    · exact h.elim
  · exact h.elim⟩
theorem cAny (hc : X.calm = true) : CR1 X (.builtin "any") (rAny X.K) wAny := ⟨cr_any hc, by
  intro pa G H vs ds P Q ex hp r h k
  unfold wAny at h
  split at h
  · split at h
    · rename_i hn
      obtain ⟨v, rfl, r1⟩ := repA1 r
      obtain ⟨a, us, rfl, q, r⟩ := rep_lst r1
      rw [blsOf_some hn] at r
      rw [r.bls] at q
      exact ⟨a, _, rfl, SqL.of (ex _ _ q), k _ G H _ (Step.refl ex) (.bl _) h⟩
    · exact h.elim
  · exact h.elim⟩
/-- sorted, of ints -/
def wSorted : List PyData → (PyData → Prop) → Prop := fun ds P => match ds with
  | [.list xs] => match intsOf xs with
    | some ns => ∀ ms : List Int, ms.Perm ns → ms.Pairwise (· ≤ ·) → P (.list (ms.map .int))
    | none => False
  | _ => False
theorem coSorted : CO1 X (.builtin "sorted") (rSortedI X.K) wSorted := ⟨cr_sortedI, by
  intro pa G H vs ds P Q ex hp r h k
  unfold wSorted at h
  split at h
  · split at h
    · rename_i hn
      obtain ⟨v, rfl, r1⟩ := repA1 r
      obtain ⟨a, us, rfl, q, r⟩ := rep_lst r1
      rw [intsOf_some hn] at r
      rw [r.ints] at q
      refine ⟨a, _, rfl, SqL.of (ex _ _ q), fun ms p h1 h2 hp' => ?_⟩
      obtain ⟨F, st, o, nd, fr⟩ := own_new hp (Step.refl ex) hp' (repA_ints ms) (noBox_ints ms)
      exact k _ _ _ _ F st o nd fr (h ms h1 h2)
    · exact h.elim
  · exact h.elim⟩
/-- list(xs), tuple(xs) -/
def wList1 : List PyData → (PyData → Prop) → Prop := fun ds P => match ds with
  | [.list xs] => noBox xs ∧ P (.list xs)
  | [.tuple xs] => noBox xs ∧ P (.list xs)
  | _ => False
def wTuple1 : List PyData → (PyData → Prop) → Prop := fun ds P => match ds with
  | [.list xs] => P (.tuple xs)
  | [.tuple xs] => P (.tuple xs)
  | _ => False
theorem coList : CO1 X (.type "list") (fun xs H Q => ∃ p ys, xs = [.ref p] ∧ (SqL X.K H p ys ∨ SqT X.K H p ys) ∧ ∀ l, H l = none → Q (.ref l) (upd H l (.lst ys))) wList1 := ⟨call_list_of, by
  intro pa G H vs ds P Q ex hp r h k
  unfold wList1 at h
  split at h
  · obtain ⟨v, rfl, r1⟩ := repA1 r
    obtain ⟨a, us, rfl, q, r⟩ := rep_lst r1
    refine ⟨a, _, rfl, .inl (SqL.of (ex _ _ q)), fun p hp' => ?_⟩
    obtain ⟨F, st, o, nd, fr⟩ := own_new hp (Step.refl ex) hp' r h.1
    exact k _ _ _ _ F st o nd fr h.2
  · obtain ⟨v, rfl, r1⟩ := repA1 r
    obtain ⟨a, us, rfl, q, r⟩ := rep_tup r1
    refine ⟨a, _, rfl, .inr (SqT.of (ex _ _ q)), fun p hp' => ?_⟩
    obtain ⟨F, st, o, nd, fr⟩ := own_new hp (Step.refl ex) hp' r h.1
    exact k _ _ _ _ F st o nd fr h.2
  · exact h.elim⟩
def wListF : List PyData → (PyData → Prop) → Prop := fun ds P => match ds with
  | [.list xs] => P (.list xs)
  | [.tuple xs] => P (.list xs)
  | _ => False
theorem cList : CR1 X (.type "list") (fun xs H Q => ∃ p ys, xs = [.ref p] ∧ (SqL X.K H p ys ∨ SqT X.K H p ys) ∧ ∀ l, H l = none → Q (.ref l) (upd H l (.lst ys))) wListF := ⟨call_list_of, by
  intro pa G H vs ds P Q ex hp r h k
  unfold wListF at h
  split at h
  · obtain ⟨v, rfl, r1⟩ := repA1 r
    obtain ⟨a, us, rfl, q, r⟩ := rep_lst r1
    refine ⟨a, _, rfl, .inl (SqL.of (ex _ _ q)), fun p hp' => ?_⟩
    have s4 := Step.new (o := .lst us) ex hp hp'
    exact k _ _ _ _ s4 (.lst upd_same (r.mono s4.g)) h
  · obtain ⟨v, rfl, r1⟩ := repA1 r
    obtain ⟨a, us, rfl, q, r⟩ := rep_tup r1
    refine ⟨a, _, rfl, .inr (SqT.of (ex _ _ q)), fun p hp' => ?_⟩
    have s4 := Step.new (o := .lst us) ex hp hp'
    exact k _ _ _ _ s4 (.lst upd_same (r.mono s4.g)) h
  · exact h.elim⟩
theorem cTuple : CR1 X (.type "tuple") (fun xs H Q => ∃ p ys, xs = [.ref p] ∧ ((SqL X.K H p ys ∧ ∀ l, H l = none → Q (.ref l) (upd H l (.tup ys))) ∨ (SqT X.K H p ys ∧ Q (.ref p) H))) wTuple1 := ⟨call_tuple_of, by
  intro pa G H vs ds P Q ex hp r h k
  unfold wTuple1 at h
  split at h
  · obtain ⟨v, rfl, r1⟩ := repA1 r
    obtain ⟨a, us, rfl, q, r⟩ := rep_lst r1
    refine ⟨a, _, rfl, .inl ⟨SqL.of (ex _ _ q), fun p hp' => ?_⟩⟩
    have s4 := Step.new (o := .tup us) ex hp hp'
    exact k _ _ _ _ s4 (.tup upd_same (r.mono s4.g)) h
  · obtain ⟨v, rfl, r1⟩ := repA1 r
    obtain ⟨a, us, rfl, q, r'⟩ := rep_tup r1
    exact ⟨a, _, rfl, .inr ⟨SqT.of (ex _ _ q), k _ _ _ _ (Step.refl ex) r1 h⟩⟩
  · exact h.elim⟩
end
end Vl
/-! VlD: defs and their calls, walks, comprehensions, repr. -/
namespace Vl
open PySem PySem.Spec PyProof.Rows L2

/-! ### a def's promise where no repr is under way -/
structure FnG (P : Program) (w : World) (K : PySem.W.Frag) (mg : Str → Option Value) (base : Heap) (k : Nat) (f : Addr) (fd : FuncData) (ps : List Str) (sp : Sp) : Prop where
  len : ∀ vs H Q E, sp vs H Q E → vs.length = ps.length
  run : ∀ (A : Around) (outer : List Env) (s : Shared) (H : Hp) (args : Args) (us : List Value) (vs : List V) (Q : VK) (E : XK), A.guards = some [] → Room k A → Env0 P w K mg base A outer s H → BindsTo s fd args (ps.zip us) → Vals vs us → sp vs H Q E →
    codeAny (model P w) A (.call (.ref f) args) (CR CX0 outer P w H s Q E) s
/-- the body of a def, its reading: from FnScope and the term -/
theorem FnG.body {P : Program} {w : World} {K : PySem.W.Frag} {mg : Str → Option Value} {base : Heap} {x qual : Str} {st : Stmt} {f : Addr} {fd : FuncData} {N ps : List Str} {k : Nat} {sp : Sp} (F : Fun K x qual st f fd) (S : FnScope N ps (defScope st))
    (len : ∀ vs H Q E, sp vs H Q E → vs.length = ps.length)
    (hb : ∀ (cdv : Value) (A : Around) (outer : List Env) (s : Shared) (H : Hp) (vs : List V) (Q : VK) (E : XK), A.guards = some [] → Room k (A.deeper (envOfC qual (defScope st) s.heap.objs.size f cdv)) → sp vs H Q E →
      ∃ t, PSs (cxOf CX0 P w K mg base N qual (defScope st) f cdv A outer s H E).nox (defBody st) t ∧ t { nx := fun _ H' => Q .non H', rt := Q } (start N vs) H) : FnG P w K mg base (k + 1) f fd ps sp := by
  obtain ⟨oc, od, kV, doc, pm, an, cdv, ct, osl, rfl, lk, hcd⟩ := F.ex
  refine ⟨len, fun A outer s H args us vs Q E hg hr e0 hbi r hsp => ?_⟩
  have hl := len _ _ _ _ hsp
  have kx : K.In s.heap := e0.mod.kin.keeps fun b o e => (e0.bs b o e).1
  have nl : s.heap.NoLimit := e0.mod.nolimit.keeps fun b o e => (e0.bs b o e).1
  have hk : ∀ y ∈ ps.zip us, (defScope st).names.lookup y.1 = some .local ∨ ((defScope st).names.lookup y.1 = some .cell ∧ ((cellsFrom (s.heap.objs.size + 1) (defScope st).names []).lookup y.1).isSome = true) := fun y hy => by
    rcases S.par y.1 (List.of_mem_zip hy).1 with q | q
    · exact .inl q
    · exact .inr ⟨q, PySem.W.cellsFrom_some _ _ _ (.inl q)⟩
  refine codeAny_call_function hr.depth (kx _ _ lk) rfl S.co S.gen rfl (PySem.W.codeRec_of kx hcd) (hbi _ _ _ _ (wpAny_newFunctionEnv_cells S.kind hk fun env he s1 x => ?_))
  subst he
  refine ⟨nl.keeps x.toInCall.keep, codeAny_func ?_⟩
  obtain ⟨t, ht, hq⟩ := hb cdv A outer s H vs Q E hg (hr.deeper _) hsp
  have I := inv_start (CX := CX0) (E := E) S hr.hd e0 hl r x
  have fin : ∀ {σ' : L2.St} {H' : Hp} {v : V} {u : Value} {s' : Shared}, Inv (cxOf CX0 P w K mg base N qual (defScope st) f cdv A outer s H E) [] σ' H' s' → RelV v u → Q v H' → CE outer P w H s Q u s' :=
    fun {σ' H' v u s'} J rv q => ⟨v, H', J.os, J.bare, J.base, J.hok, rv, q⟩
  refine wpAny_mono (ht.nox.run [] s1 (start N vs) H _ I hq) (fun fl s' hs => ?_) fun e s' hs => hs
  cases fl with
  | ret u => obtain ⟨v, σ', H', J, rv, q⟩ := hs; exact fin J rv q
  | next => obtain ⟨σ', H', J, q⟩ := hs; exact fin (v := V.non) (u := Value.none) J rfl q
  | brk => obtain ⟨_, _, _, q⟩ := hs; exact False.elim q
  | cont => obtain ⟨_, _, _, q⟩ := hs; exact False.elim q

/-! ### a def's call -/
def tG (sp : Sp) (dvs : List V) (t : TA) : TE := fun σ H Q => t σ H fun vs H1 => sp (vs ++ dvs) H1 Q E0
def tGK (sp : Sp) (gV : List V → List V → List V) (t tk : TA) : TE := fun σ H Q => t σ H fun vs H1 => tk σ H1 fun zs H2 => sp (gV vs zs) H2 Q E0
section
variable {X : Cx} {k : Nat} {f : Addr} {fd : FuncData} {ps ks : List Str} {sp : Sp} {dvs : List V} {ds : List Value} {x : Str} {p pos : Pos} {e : Expr} {es : List Expr} {kws : List Keyword} {t tk : TA} {g : List Value → List Value → List Value} {gV : List V → List V → List V}
theorem run_g {pins : List (Addr × Obj)} {σ : L2.St} {H : Hp} {s : Shared} {Q : VK} {args : Args} {us : List Value} {vs : List V} (F : FnG X.prog X.w X.K X.mg X.base k f fd ps sp) (hgu : X.A.guards = some []) (hr : Room k X.A)
    (I : Inv X pins σ H s) (hb : BindsTo s fd args (ps.zip us)) (r : Vals vs us) (h : sp vs H Q E0) : codeAny (model X.prog X.w) X.A (.call (.ref f) args) (fun r s' => match r with | .ok (.ret u) => EP X pins σ Q u s' | .ok _ => False | .error e => X.xe e s') s := by
  refine codeAny_mono (F.run X.A X.stack s H args us vs Q E0 hgu hr I.env0 hb r h) fun r s' hq => ?_
  cases r with
  | error e => exact False.elim hq
  | ok fl =>
    cases fl with
    | ret u => exact I.after hq
    | next => exact False.elim hq
    | brk => exact False.elim hq
    | cont => exact False.elim hq
theorem call_run {pins : List (Addr × Obj)} {σ : L2.St} {s : Shared} {Q : VK} {us : List Value} {kw : List (Str × Value)} (h : codeAny (model X.prog X.w) X.A (.call (.ref f) ⟨us, kw⟩) (fun r s' => match r with | .ok (.ret u) => EP X pins σ Q u s' | .ok _ => False | .error e => X.xe e s') s) :
    wpAny (model X.prog X.w) X.A (call (.ref f) us kw) (EP X pins σ Q) X.xe s := by
  refine wpAny_call (codeAny_mono h fun r s' hq => ?_)
  cases r with
  | error e => exact hq
  | ok fl =>
    cases fl with
    | ret u => exact hq
    | next => exact False.elim hq
    | brk => exact False.elim hq
    | cont => exact False.elim hq
theorem pe_g (F : FnG X.prog X.w X.K X.mg X.base k f fd ps sp) (hgu : X.A.guards = some []) (hr : Room k X.A) (hg : Gl X x) (hm : X.mg x = some (.ref f)) (hk : PySem.W.keepIn X.K (.ref f) = true) (hb : Binds X.K fd ps ds) (hd : Vals dvs ds)
    (ha : PA X (e :: es) t) (hdb : (x == ("__debug__" : Str)) = false := by decide) (he : starEach (e :: es) X.env = (false, eval e X.env) :: starEach es X.env := by rfl) (hpl : (backTo pos (starEach es X.env)).any (·.1) = false := by rfl) :
    PE X (.Call (.Name x p) (e :: es) [] pos) (tG sp dvs t) := by
  refine ⟨fun pins s σ H Q I h => ?_⟩
  refine wpAny_Call_Name_kw (ld_glob I hg hm ?_ hdb)
  refine PySem.W.callWith_K (h₀ := X.base) I.ok.mod.kin hk (thn (ha.run pos pins s σ H _ I h) fun us s1 ⟨vs, H1, I1, r, q⟩ => ⟨I1.kIn, ?_⟩) he hpl
  have r2 : Vals (vs ++ dvs) (us ++ ds) := r.append hd
  exact call_run (run_g F hgu hr I1 (hb s1 us I1.kIn (by rw [← r2.length]; exact F.len _ _ _ _ q)) r2 q)
theorem pe_g0 (F : FnG X.prog X.w X.K X.mg X.base k f fd ps sp) (hgu : X.A.guards = some []) (hr : Room k X.A) (hg : Gl X x) (hm : X.mg x = some (.ref f)) (hk : PySem.W.keepIn X.K (.ref f) = true) (hb : Binds X.K fd ps ds) (hd : Vals dvs ds) (hdb : (x == ("__debug__" : Str)) = false := by decide) :
    PE X (.Call (.Name x p) [] [] pos) (tG sp dvs tNil) := by
  refine ⟨fun pins s σ H Q I h => ?_⟩
  refine wpAny_Call_Name_kw (ld_glob I hg hm ?_ hdb)
  refine PySem.W.callWith_K0 I.kIn hk ?_
  have r2 : Vals ([] ++ dvs) ([] ++ ds) := hd
  exact call_run (run_g (us := [] ++ ds) F hgu hr I (hb s [] I.kIn (by rw [← r2.length]; exact F.len _ _ _ _ h)) r2 h)
end
/-- a def's meaning: of the arguments' data, what is promised of the answer -/
abbrev WF := List PyData → (Slot → Prop) → Prop
def spF (S : WF) : Sp := fun vs H Q _ => ∃ (G : Hp) (ds : List PyData) (P : Slot → Prop), Ex G H ∧ RepA G vs ds ∧ S ds P ∧
  ∀ v G' H' r F, Step none G H G' H' → HoldsS G' H' v r F → F.Nodup → (∀ a ∈ F, H a = none ∧ G' a = none) → P r → Q v H'
/-- the first argument is the pot -/
def spP (S : WF) : Sp := fun vs H Q _ => ∃ (a : Addr) (us : List V) (G : Hp) (ds : List PyData) (P : Slot → Prop), vs = .ref a :: us ∧ IsPot H a ∧ G a = none ∧ Ex G H ∧ RepA G us ds ∧ S ds P ∧
  ∀ v G' H' r F, Step (some a) G H G' H' → HoldsS G' H' v r F → F.Nodup → (∀ x ∈ F, H x = none ∧ G' x = none) → P r → Q v H'
/-- the answer read: frozen -/
theorem frz_res {pa : Option Addr} {G H G' H' : Hp} {v : V} {r : Slot} {F : List Addr} (s : Step pa G H G' H') (h : HoldsS G' H' v r F) (fr : ∀ a ∈ F, H a = none ∧ G' a = none) : ∃ G2, Step pa G H G2 H' ∧ Rep G2 v r.d := by
  cases r with
  | v d => exact ⟨G', s, h.1⟩
  | o d =>
    have o : Own G' H' v d F := h
    refine ⟨addF G' H' F, ⟨fun a x hx => ?_, s.h, s.p, fun a x hx => ?_, fun a n m => ?_⟩, Own.frz F (fun a m => (fr a m).2) o fun a m => m⟩
    · have z := s.g a x hx
      unfold addF
      rw [if_neg fun m => by rw [(fr a m).2] at z; cases z]
      exact z
    · unfold addF at hx
      split at hx
      · exact hx
      · exact s.gh a x hx
    · unfold addF
      rw [if_neg fun m' => n (fr a m').1]
      exact s.fr a n m
def wFn (S : WF) (dd : List PyData) (wa : WA) : WE := fun vw P => wa vw fun ds => S (ds ++ dd) fun r => P r.d
def wFnO (S : WF) (dd : List PyData) (wa : WA) : WE := fun vw P => wa vw fun ds => S (ds ++ dd) fun r => match r with
  | .o d => P d
  | .v _ => False
def wFnP (S : WF) (dd : List PyData) (wa : WA) : WE := fun vw P => vw.p = true ∧ wa vw fun ds => S (ds ++ dd) fun r => P r.d
def wFnPO (S : WF) (dd : List PyData) (wa : WA) : WE := fun vw P => vw.p = true ∧ wa vw fun ds => S (ds ++ dd) fun r => match r with
  | .o d => P d
  | .v _ => False
theorem none_of_ne {H H1 : Hp} {a : Addr} (h : H a ≠ none → H1 a ≠ none) (n : H1 a = none) : H a = none := by
  cases q : H a with
  | none => rfl
  | some o => exact absurd n (h (by rw [q]; simp))
section
variable {S : WF} {dvs : List V} {dd : List PyData} {t tk : TA} {wa wk : WA}
theorem ok_fn (hd : ∀ G : Hp, RepA G dvs dd) (ha : TAok t wa) : TEok (tG (spF S) dvs t) (wFn S dd wa) := by
  intro pa G H σ vw P Q vi e h k
  refine ha pa G H σ vw _ _ vi e h fun vs G1 H1 ds s1 r1 h1 => ⟨G1, ds ++ dd, _, s1.gh, r1.append (hd G1), h1, fun v G' H' r F s o nd fr q => ?_⟩
  obtain ⟨G2, s2, r2⟩ := frz_res s.none o fr
  exact k v G2 H' r.d (s1.trans vi.isPot s2) r2 q
theorem oko_fn (hd : ∀ G : Hp, RepA G dvs dd) (ha : TAok t wa) : TOok (tG (spF S) dvs t) (wFnO S dd wa) := by
  intro pa G H σ vw P Q vi e h k
  refine ha pa G H σ vw _ _ vi e h fun vs G1 H1 ds s1 r1 h1 => ⟨G1, ds ++ dd, _, s1.gh, r1.append (hd G1), h1, fun v G' H' r F s o nd fr q => ?_⟩
  cases r with
  | v d => exact False.elim q
  | o d => exact k v G' H' d F (s1.trans vi.isPot s.none) o nd (fun a m => ⟨none_of_ne (s1.ne vi.isPot) (fr a m).1, (fr a m).2⟩) q
theorem pot_of {pa : Option Addr} {G H : Hp} {σ : L2.St} {vw : Vw} (vi : View pa G H σ vw) (h : vw.p = true) : ∃ a, pa = some a ∧ σ[0]? = some (some (.ref a)) ∧ IsPot H a ∧ G a = none := by
  cases pa with
  | none => exact absurd rfl (vi.pt h)
  | some a => exact ⟨a, rfl, vi.pot a rfl⟩
theorem ok_fnP (hd : ∀ G : Hp, RepA G dvs dd) (ha : TAok t wa) : TEok (tG (spP S) dvs (tCons (tVar 0) t)) (wFnP S dd wa) := by
  intro pa G H σ vw P Q vi e ⟨hp, h⟩ k
  obtain ⟨a, rfl, h0, hpot, hg⟩ := pot_of vi hp
  refine ⟨.ref a, h0, ?_⟩
  refine ha (some a) G H σ vw _ _ vi e h fun vs G1 H1 ds s1 r1 h1 => ⟨a, vs ++ dvs, G1, ds ++ dd, _, rfl, s1.p a rfl hpot, s1.fr a hpot.ne hg, s1.gh, r1.append (hd G1), h1, fun v G' H' r F s o nd fr q => ?_⟩
  obtain ⟨G2, s2, r2⟩ := frz_res s o fr
  exact k v G2 H' r.d (s1.trans vi.isPot s2) r2 q
theorem oko_fnP (hd : ∀ G : Hp, RepA G dvs dd) (ha : TAok t wa) : TOok (tG (spP S) dvs (tCons (tVar 0) t)) (wFnPO S dd wa) := by
  intro pa G H σ vw P Q vi e ⟨hp, h⟩ k
  obtain ⟨a, rfl, h0, hpot, hg⟩ := pot_of vi hp
  refine ⟨.ref a, h0, ?_⟩
  refine ha (some a) G H σ vw _ _ vi e h fun vs G1 H1 ds s1 r1 h1 => ⟨a, vs ++ dvs, G1, ds ++ dd, _, rfl, s1.p a rfl hpot, s1.fr a hpot.ne hg, s1.gh, r1.append (hd G1), h1, fun v G' H' r F s o nd fr q => ?_⟩
  cases r with
  | v d => exact False.elim q
  | o d => exact k v G' H' d F (s1.trans vi.isPot s) o nd (fun a m => ⟨none_of_ne (s1.ne vi.isPot) (fr a m).1, (fr a m).2⟩) q
end
/-- keywords' values -/
structure VK' (X : Cx) (kws : List Keyword) (ta : TA) (w : WA) : Prop where
  pe : PK X kws ta
  ok : TAok ta w
section
variable {X : Cx} {e : Expr} {kws : List Keyword} {te : TE} {t : TA} {we : WE} {w : WA} {kpos : Pos} {nm : Option Str}
theorem knil : VK' X [] tNil wNil := ⟨pk_nil, ok_nil⟩
theorem kcons (ha : VE X e te we) (hr : VK' X kws t w) : VK' X (⟨nm, e, kpos⟩ :: kws) (tCons te t) (wCons we w) := ⟨pk_cons ha.pe hr.pe, ok_cons ha.ok hr.ok⟩
end
/-! ### keywords: the parameters' order out of the written one -/
def perm {α : Type} (l : List α) (idx : List Nat) : List α := idx.filterMap fun i => l[i]?
theorem vals_perm {vs : List V} {us : List Value} (r : Vals vs us) : ∀ idx : List Nat, Vals (perm vs idx) (perm us idx)
  | [] => .nil
  | i :: idx => by
    unfold perm
    rw [List.filterMap_cons, List.filterMap_cons]
    cases q : vs[i]? with
    | none =>
      rw [r.none_of q]
      exact vals_perm r idx
    | some v =>
      obtain ⟨u, h1, h2⟩ := r.get q
      rw [h1]
      exact .cons h2 (vals_perm r idx)
theorem repA_perm {G : Hp} {vs : List V} {ds : List PyData} (r : RepA G vs ds) : ∀ idx : List Nat, RepA G (perm vs idx) (perm ds idx)
  | [] => .nil
  | i :: idx => by
    unfold perm
    rw [List.filterMap_cons, List.filterMap_cons]
    cases q : vs[i]? with
    | none =>
      have : ds[i]? = none := by
        rw [List.getElem?_eq_none_iff] at q ⊢
        rw [← r.length]; exact q
      rw [this]
      exact repA_perm r idx
    | some v =>
      obtain ⟨u, h1, h2⟩ := r.getV q
      rw [h1]
      exact .cons h2 (repA_perm r idx)
def KwOk (x : Str) (st : Stmt) (n : Nat) (ks ps : List Str) (idx : List Nat) : Prop := ∀ (kV doc pm : Value) (an : Option Addr) (cdv ct : Value) (us ws : List Value), us.length = n → ws.length = ks.length →
  bindArgs (PySem.W.fnOf x x (defArgs st) (defBody st) (defScope st) .none kV doc pm an cdv ct) ⟨us, ks.zip ws⟩ = pure (ps.zip (perm (us ++ ws) idx))
def PosOk (x : Str) (st : Stmt) (ps : List Str) : Prop := ∀ (kV doc pm : Value) (an : Option Addr) (cdv ct : Value) (us : List Value), us.length = ps.length →
  bindArgs (PySem.W.fnOf x x (defArgs st) (defBody st) (defScope st) .none kV doc pm an cdv ct) ⟨us, []⟩ = pure (ps.zip us)
/-- a def as its callers know it: where it stands, how it binds, what it promises; lv: its level -/
structure DefG (P : Program) (w : World) (K : PySem.W.Frag) (mg : Str → Option Value) (base : Heap) (lv : Nat) (x : Str) (st : Stmt) (ps : List Str) (sp : Sp) : Prop where
  ex : ∃ (f : Addr) (fd : FuncData), FnG P w K mg base lv f fd ps sp ∧ mg x = some (.ref f) ∧ PySem.W.keepIn K (.ref f) = true ∧ Fun K x x st f fd ∧ Binds K fd ps []
abbrev DG (X : Cx) (lv : Nat) (x : Str) (st : Stmt) (ps : List Str) (sp : Sp) : Prop := DefG X.prog X.w X.K X.mg X.base lv x st ps sp
theorem kbinds_of {K : PySem.W.Frag} {x : Str} {st : Stmt} {f : Addr} {fd : FuncData} {ps ks : List Str} {n : Nat} {idx : List Nat} (F : Fun K x x st f fd) (h : KwOk x st n ks ps idx) (s : Shared) (us ws : List Value) (h1 : us.length = n) (h2 : ws.length = ks.length) :
    BindsTo s fd ⟨us, ks.zip ws⟩ (ps.zip (perm (us ++ ws) idx)) := by
  obtain ⟨oc, od, kV, doc, pm, an, cdv, ct, osl, rfl, lk, hcd⟩ := F.ex
  exact .of_eq (h kV doc pm an cdv ct us ws h1 h2)
section
variable {X : Cx} {lv : Nat} {st : Stmt} {ps ks : List Str} {S : WF} {x : Str} {p pos : Pos} {e : Expr} {es : List Expr} {kws : List Keyword} {t tk : TA} {wa wk : WA} {sp : Sp}
theorem vfn (D : DG X lv x st ps (spF S)) (hgu : X.A.guards = some []) (hr : Room lv X.A) (hg : Gl X x) (ha : VA X (e :: es) t wa)
    (hdb : (x == ("__debug__" : Str)) = false := by decide) (he : starEach (e :: es) X.env = (false, eval e X.env) :: starEach es X.env := by rfl) (hpl : (backTo pos (starEach es X.env)).any (·.1) = false := by rfl) :
    VE X (.Call (.Name x p) (e :: es) [] pos) (tG (spF S) [] t) (wFn S [] wa) := by
  obtain ⟨f, fd, F, hm, hk, _, hb⟩ := D.ex
  exact ⟨pe_g F hgu hr hg hm hk hb .nil ha.pe hdb he hpl, ok_fn (fun _ => .nil) ha.ok⟩
theorem ofn (D : DG X lv x st ps (spF S)) (hgu : X.A.guards = some []) (hr : Room lv X.A) (hg : Gl X x) (ha : VA X (e :: es) t wa)
    (hdb : (x == ("__debug__" : Str)) = false := by decide) (he : starEach (e :: es) X.env = (false, eval e X.env) :: starEach es X.env := by rfl) (hpl : (backTo pos (starEach es X.env)).any (·.1) = false := by rfl) :
    VO X (.Call (.Name x p) (e :: es) [] pos) (tG (spF S) [] t) (wFnO S [] wa) := by
  obtain ⟨f, fd, F, hm, hk, _, hb⟩ := D.ex
  exact ⟨pe_g F hgu hr hg hm hk hb .nil ha.pe hdb he hpl, oko_fn (fun _ => .nil) ha.ok⟩
theorem vfn0 (D : DG X lv x st ps (spF S)) (hgu : X.A.guards = some []) (hr : Room lv X.A) (hg : Gl X x) (hdb : (x == ("__debug__" : Str)) = false := by decide) : VE X (.Call (.Name x p) [] [] pos) (tG (spF S) [] tNil) (wFn S [] wNil) := by
  obtain ⟨f, fd, F, hm, hk, _, hb⟩ := D.ex
  exact ⟨pe_g0 F hgu hr hg hm hk hb .nil hdb, ok_fn (fun _ => .nil) ok_nil⟩
theorem ofn0 (D : DG X lv x st ps (spF S)) (hgu : X.A.guards = some []) (hr : Room lv X.A) (hg : Gl X x) (hdb : (x == ("__debug__" : Str)) = false := by decide) : VO X (.Call (.Name x p) [] [] pos) (tG (spF S) [] tNil) (wFnO S [] wNil) := by
  obtain ⟨f, fd, F, hm, hk, _, hb⟩ := D.ex
  exact ⟨pe_g0 F hgu hr hg hm hk hb .nil hdb, oko_fn (fun _ => .nil) ok_nil⟩
/-- the pot handed on -/
theorem vfnP {y : Str} {py : Pos} (D : DG X lv x st ps (spP S)) (hgu : X.A.guards = some []) (hr : Room lv X.A) (hg : Gl X x) (hv : PE X (.Name y py) (tVar 0)) (ha : VA X es t wa)
    (hdb : (x == ("__debug__" : Str)) = false := by decide) (he : starEach (.Name y py :: es) X.env = (false, eval (.Name y py) X.env) :: starEach es X.env := by rfl) (hpl : (backTo pos (starEach es X.env)).any (·.1) = false := by rfl) :
    VE X (.Call (.Name x p) (.Name y py :: es) [] pos) (tG (spP S) [] (tCons (tVar 0) t)) (wFnP S [] wa) := by
  obtain ⟨f, fd, F, hm, hk, _, hb⟩ := D.ex
  exact ⟨pe_g F hgu hr hg hm hk hb .nil (pa_cons hv ha.pe he) hdb he hpl, ok_fnP (fun _ => .nil) ha.ok⟩
theorem ofnP {y : Str} {py : Pos} (D : DG X lv x st ps (spP S)) (hgu : X.A.guards = some []) (hr : Room lv X.A) (hg : Gl X x) (hv : PE X (.Name y py) (tVar 0)) (ha : VA X es t wa)
    (hdb : (x == ("__debug__" : Str)) = false := by decide) (he : starEach (.Name y py :: es) X.env = (false, eval (.Name y py) X.env) :: starEach es X.env := by rfl) (hpl : (backTo pos (starEach es X.env)).any (·.1) = false := by rfl) :
    VO X (.Call (.Name x p) (.Name y py :: es) [] pos) (tG (spP S) [] (tCons (tVar 0) t)) (wFnPO S [] wa) := by
  obtain ⟨f, fd, F, hm, hk, _, hb⟩ := D.ex
  exact ⟨pe_g F hgu hr hg hm hk hb .nil (pa_cons hv ha.pe he) hdb he hpl, oko_fnP (fun _ => .nil) ha.ok⟩
/-- f(x = e, ..): n positional ones ahead, then keywords: idx puts them in the parameters' order -/
def tGw (sp : Sp) (n m : Nat) (idx : List Nat) (t tk : TA) : TE := fun σ H Q => t σ H fun vs H1 => tk σ H1 fun zs H2 => vs.length = n ∧ zs.length = m ∧ sp (perm (vs ++ zs) idx) H2 Q E0
def wFnK (S : WF) (n m : Nat) (idx : List Nat) (wa wk : WA) : WE := fun vw P => wa vw fun ds => wk vw fun es => ds.length = n ∧ es.length = m ∧ S (perm (ds ++ es) idx) fun r => P r.d
def wFnKO (S : WF) (n m : Nat) (idx : List Nat) (wa wk : WA) : WE := fun vw P => wa vw fun ds => wk vw fun es => ds.length = n ∧ es.length = m ∧ S (perm (ds ++ es) idx) fun r => match r with
  | .o d => P d
  | .v _ => False
theorem ok_fnK {n m : Nat} {idx : List Nat} (ha : TAok t wa) (hk : TAok tk wk) : TEok (tGw (spF S) n m idx t tk) (wFnK S n m idx wa wk) := by
  intro pa G H σ vw P Q vi e h k
  refine ha pa G H σ vw _ _ vi e h fun vs G1 H1 ds s1 r1 h1 => ?_
  refine hk pa G1 H1 σ vw _ _ (vi.step s1) s1.gh h1 fun zs G2 H2 es s2 r2 ⟨l1, l2, h2⟩ => ⟨by rw [r1.length]; exact l1, by rw [r2.length]; exact l2, G2, _, _, s2.gh, repA_perm ((r1.mono s2.g).append r2) idx, h2, fun v G' H' r F s o nd fr q => ?_⟩
  obtain ⟨G3, s3, r3⟩ := frz_res s.none o fr
  exact k v G3 H' r.d ((s1.trans vi.isPot s2).trans vi.isPot s3) r3 q
theorem oko_fnK {n m : Nat} {idx : List Nat} (ha : TAok t wa) (hk : TAok tk wk) : TOok (tGw (spF S) n m idx t tk) (wFnKO S n m idx wa wk) := by
  intro pa G H σ vw P Q vi e h k
  refine ha pa G H σ vw _ _ vi e h fun vs G1 H1 ds s1 r1 h1 => ?_
  refine hk pa G1 H1 σ vw _ _ (vi.step s1) s1.gh h1 fun zs G2 H2 es s2 r2 ⟨l1, l2, h2⟩ => ⟨by rw [r1.length]; exact l1, by rw [r2.length]; exact l2, G2, _, _, s2.gh, repA_perm ((r1.mono s2.g).append r2) idx, h2, fun v G' H' r F s o nd fr q => ?_⟩
  have s12 := s1.trans vi.isPot s2
  cases r with
  | v d => exact False.elim q
  | o d => exact k v G' H' d F (s12.trans vi.isPot s.none) o nd (fun a m => ⟨none_of_ne (s12.ne vi.isPot) (fr a m).1, (fr a m).2⟩) q
theorem pe_gw0 {f : Addr} {fd : FuncData} {idx : List Nat} (F : FnG X.prog X.w X.K X.mg X.base lv f fd ps sp) (hgu : X.A.guards = some []) (hr : Room lv X.A) (hg : Gl X x) (hm : X.mg x = some (.ref f)) (hk : PySem.W.keepIn X.K (.ref f) = true) (F2 : Fun X.K x x st f fd) (hb : KwOk x st 0 ks ps idx) (hkw : PK X kws tk)
    (hall : (backToKw pos (keywordEach kws X.env)).all (·.1.isSome) = true) (hks : (backToKw pos (keywordEach kws X.env)).filterMap (·.1) = ks) (hdb : (x == ("__debug__" : Str)) = false)
    (hpl : ((backTo pos (starEach [] X.env)).any (·.1) || (backToKw pos (keywordEach kws X.env)).any (·.1.isNone)) = false) :
    PE X (.Call (.Name x p) [] kws pos) (tGw sp 0 ks.length idx tNil tk) := by
  refine ⟨fun pins s σ H Q I h => ?_⟩
  refine wpAny_Call_Name_kw (ld_glob I hg hm ?_ hdb)
  refine PySem.W.callWith_KW0 (h₀ := X.base) I.ok.mod.kin hk hall (thn (hkw.run pos pins s σ H _ I h) fun ws s2 ⟨zs, H2, I2, rz, _, l2, q2⟩ => ⟨I2.kIn, ?_⟩) hpl
  rw [hks]
  exact call_run (run_g F hgu hr I2 (kbinds_of F2 hb s2 [] ws rfl (by rw [← rz.length]; exact l2)) (vals_perm rz idx) q2)
theorem pe_gw {f : Addr} {fd : FuncData} {n : Nat} {idx : List Nat} (F : FnG X.prog X.w X.K X.mg X.base lv f fd ps sp) (hgu : X.A.guards = some []) (hr : Room lv X.A) (hg : Gl X x) (hm : X.mg x = some (.ref f)) (hk : PySem.W.keepIn X.K (.ref f) = true) (F2 : Fun X.K x x st f fd) (hb : KwOk x st n ks ps idx) (ha : PA X (e :: es) t) (hkw : PK X kws tk)
    (hall : (backToKw pos (keywordEach kws X.env)).all (·.1.isSome) = true) (hks : (backToKw pos (keywordEach kws X.env)).filterMap (·.1) = ks) (hdb : (x == ("__debug__" : Str)) = false) (he : starEach (e :: es) X.env = (false, eval e X.env) :: starEach es X.env)
    (hpl : ((backTo pos (starEach (e :: es) X.env)).any (·.1) || (backToKw pos (keywordEach kws X.env)).any (·.1.isNone)) = false) :
    PE X (.Call (.Name x p) (e :: es) kws pos) (tGw sp n ks.length idx t tk) := by
  refine ⟨fun pins s σ H Q I h => ?_⟩
  refine wpAny_Call_Name_kw (ld_glob I hg hm ?_ hdb)
  refine PySem.W.callWith_KW (h₀ := X.base) I.ok.mod.kin hk hall (thn (ha.run pos pins s σ H _ I h) fun us s1 ⟨vs, H1, I1, r, q⟩ => ?_) hpl he
  refine thn (hkw.run pos pins s1 σ H1 _ I1 q) fun ws s2 ⟨zs, H2, I2, rz, l1, l2, q2⟩ => ⟨I2.kIn, ?_⟩
  rw [hks]
  exact call_run (run_g F hgu hr I2 (kbinds_of F2 hb s2 us ws (by rw [← r.length]; exact l1) (by rw [← rz.length]; exact l2)) (vals_perm (r.append rz) idx) q2)
theorem vfnK0 {idx : List Nat} (D : DG X lv x st ps (spF S)) (hb : KwOk x st 0 ks ps idx) (hgu : X.A.guards = some []) (hr : Room lv X.A) (hg : Gl X x) (hkw : VK' X kws tk wk)
    (hall : (backToKw pos (keywordEach kws X.env)).all (·.1.isSome) = true := by rfl) (hks : (backToKw pos (keywordEach kws X.env)).filterMap (·.1) = ks := by rfl) (hdb : (x == ("__debug__" : Str)) = false := by decide)
    (hpl : ((backTo pos (starEach [] X.env)).any (·.1) || (backToKw pos (keywordEach kws X.env)).any (·.1.isNone)) = false := by rfl) :
    VE X (.Call (.Name x p) [] kws pos) (tGw (spF S) 0 ks.length idx tNil tk) (wFnK S 0 ks.length idx wNil wk) := by
  obtain ⟨f, fd, F, hm, hk, F2, _⟩ := D.ex
  exact ⟨pe_gw0 F hgu hr hg hm hk F2 hb hkw.pe hall hks hdb hpl, ok_fnK ok_nil hkw.ok⟩
theorem vfnK {n : Nat} {idx : List Nat} (D : DG X lv x st ps (spF S)) (hb : KwOk x st n ks ps idx) (hgu : X.A.guards = some []) (hr : Room lv X.A) (hg : Gl X x) (ha : VA X (e :: es) t wa) (hkw : VK' X kws tk wk)
    (hall : (backToKw pos (keywordEach kws X.env)).all (·.1.isSome) = true := by rfl) (hks : (backToKw pos (keywordEach kws X.env)).filterMap (·.1) = ks := by rfl) (hdb : (x == ("__debug__" : Str)) = false := by decide)
    (he : starEach (e :: es) X.env = (false, eval e X.env) :: starEach es X.env := by rfl)
    (hpl : ((backTo pos (starEach (e :: es) X.env)).any (·.1) || (backToKw pos (keywordEach kws X.env)).any (·.1.isNone)) = false := by rfl) :
    VE X (.Call (.Name x p) (e :: es) kws pos) (tGw (spF S) n ks.length idx t tk) (wFnK S n ks.length idx wa wk) := by
  obtain ⟨f, fd, F, hm, hk, F2, _⟩ := D.ex
  exact ⟨pe_gw F hgu hr hg hm hk F2 hb ha.pe hkw.pe hall hks hdb he hpl, ok_fnK ha.ok hkw.ok⟩
end

/-! ### repr -/
mutual
theorem Dp.showHas {K : PySem.W.Frag} {H : Hp} : ∀ {v : V} {d : PyData}, Dp K H v d → d.hasDict = false
  | _, _, .non => rfl
  | _, _, .bl _ => rfl
  | _, _, .int _ => rfl
  | _, _, .str _ => rfl
  | _, _, .lst _ r => by unfold PyData.hasDict; exact DpAll.showHas r
  | _, _, .tup _ r => by unfold PyData.hasDict; exact DpAll.showHas r
theorem DpAll.showHas {K : PySem.W.Frag} {H : Hp} : ∀ {vs : List V} {ds : List PyData}, DpAll K H vs ds → PyData.hasDictAll ds = false
  | _, _, .nil => rfl
  | _, _, .cons h r => by unfold PyData.hasDictAll; rw [Dp.showHas h, DpAll.showHas r]; rfl
end
end Vl
/-! VlE: repr, what a loop walks, comprehensions. -/
namespace Vl
open PySem PySem.Spec PyProof.Rows L2

/-! ### repr -/
structure ShowOk (d : PyData) : Prop where
  s : d.showable = true
  l : d.canLay0 = true
  dp : d.depth ≤ 60
  len : d.shown.length ≤ sizeLine
def rRepr (K : PySem.W.Frag) : List V → Hp → VK → Prop := fun vs H Q => ∃ (a : Addr) (d : PyData), vs = [.ref a] ∧ Dp K H (.ref a) d ∧ ShowOk d ∧ Q (.str d.shown) H
theorem call_reprD {X : Cx} (hg : X.A.guards = some []) (hu : X.A.units + 66 < cLine) : CallR X (.builtin "repr") (rRepr X.K) := by
  intro pins s σ H vs us Q I r h
  obtain ⟨a, d, rfl, hd, ok, q⟩ := h
  rw [Vals.ref1 r]
  obtain ⟨as, rd⟩ := Dp.reads I d _ _ hd rfl
  have hdp := ok.dp
  refine repr_of_reads' rd ok.s (PyData.noDict_hsm (Dp.showHas hd)) hg (by omega) (fun _ _ e => e) (fun h' u tk hk => ?_) ok.len
  exact ⟨.str d.shown, H, I.kept (t' := tk) hk, ⟨u, rfl⟩, q⟩
def isSeq : PyData → Bool
  | .list _ => true
  | .tuple _ => true
  | _ => false
def wRepr : List PyData → (PyData → Prop) → Prop := fun ds P => match ds with
  | [d] => isSeq d = true ∧ ShowOk d ∧ P (.str d.shown)
  | _ => False
theorem cRepr {X : Cx} (hg : X.A.guards = some []) (hu : X.A.units + 66 < cLine) : CR1 X (.builtin "repr") (rRepr X.K) wRepr := ⟨call_reprD hg hu, by
  intro pa G H vs ds P Q ex hp r h k
  unfold wRepr at h
  split at h
  · rename_i d
    obtain ⟨v, rfl, r1⟩ := repA1 r
    obtain ⟨hs, ok, q⟩ := h
    obtain ⟨a, rfl⟩ : ∃ a, v = .ref a := by
      cases d with
      | list xs => obtain ⟨a, _, e, _⟩ := rep_lst r1; exact ⟨a, e⟩
      | tuple xs => obtain ⟨a, _, e, _⟩ := rep_tup r1; exact ⟨a, e⟩
      | _ => simp [isSeq] at hs
    exact ⟨a, d, rfl, r1.dp ex ok.l, ok, k _ G H _ (Step.refl ex) (.str _) q⟩
  · exact h.elim⟩

/-! ### what a loop walks, by value -/
def WalkD (J : It) (G : Hp) (ds : List PyData) : Prop := ∃ (Gc : Hp → Prop) (Y : Nat → Hp → V → Hp → Prop), L2.Walk J ds.length Gc Y ∧ (∀ H, Ex G H → Gc H) ∧
  ∀ (i : Nat) (H : Hp) (x : V) (H' G1 : Hp), i < ds.length → Y i H x H' → Ex G G1 → Ex G1 H → ∃ (G2 : Hp) (d : PyData), Step none G1 H G2 H' ∧ ds[i]? = some d ∧ Rep G2 x d
def TIok (wi : TI) (w : WA) : Prop := ∀ (pa : Option Addr) (G H : Hp) (σ : L2.St) (vw : Vw) (P : List PyData → Prop) (R : It → Hp → Prop), View pa G H σ vw → Ex G H → w vw P →
  (∀ J G' H' ds, Step pa G H G' H' → WalkD J G' ds → P ds → R J H') → wi σ H R
structure VI (X : Cx) (tg iter : Expr) (wi : TI) (w : WA) : Prop where
  pe : PI X tg iter wi
  ok : TIok wi w
theorem walkD_at {J : It} {G : Hp} {vs : List V} {ds : List PyData} {Gc : Hp → Prop} (w : L2.Walk J vs.length Gc (YAt vs)) (g : ∀ H, Ex G H → Gc H) (r : RepA G vs ds) : WalkD J G ds := by
  refine ⟨Gc, YAt vs, by rw [← r.length]; exact w, g, fun i H x H' G1 hi y e1 e2 => ?_⟩
  obtain ⟨e, hx⟩ := y
  rw [e]
  obtain ⟨d, h1, h2⟩ := r.getV hx
  exact ⟨G1, d, Step.refl e2, h1, h2.mono e1⟩
theorem walkD_pair {J : It} {G : Hp} {n : Nat} {f g : Nat → Option V} {ds : List PyData} {Gc : Hp → Prop} (w : L2.Walk J n Gc (YPair f g)) (hn : n = ds.length) (hg : ∀ H, Ex G H → Gc H)
    (h : ∀ i x y, i < n → f i = some x → g i = some y → ∃ d e, ds[i]? = some (.tuple [d, e]) ∧ Rep G x d ∧ Rep G y e) : WalkD J G ds := by
  subst hn
  refine ⟨Gc, _, w, hg, fun i H v H' G1 hi y e1 e2 => ?_⟩
  obtain ⟨T, x, u, rfl, hT, rfl, h1, h2⟩ := y
  obtain ⟨d, e, q, r1, r2⟩ := h i x u hi h1 h2
  have s := Step.new (pa := none) (o := .tup [x, u]) e2 (fun _ z => by cases z) hT
  exact ⟨_, _, s, q, .tup upd_same (.cons (r1.mono (e1.trans s.g)) (.cons (r2.mono (e1.trans s.g)) .nil))⟩
/-- a list or a tuple -/
def iSeq (K : PySem.W.Frag) (tl : TE) : TI := fun σ H R => tl σ H fun x H1 => ∃ a, x = .ref a ∧ (((∃ xs, SqL K H1 a xs) ∧ R (Itl K a) H1) ∨ ((∃ xs, SqT K H1 a xs) ∧ R (Itt K a) H1))
theorem pi_seq {X : Cx} {tg l : Expr} {tl : TE} (hl : PE X l tl) : PI X tg l (iSeq X.K tl) := by
  refine ⟨fun pins s σ H R I h => ?_⟩
  refine thn (hl.run pins s σ H _ I h) fun v s1 ⟨x, H1, I1, r1, a, e, q1⟩ => ?_
  subst e
  cases r1
  have new : ∀ b ∈ [s1.heap.objs.size], FpOk X pins H1 b := fun b hb => by
    obtain rfl := List.mem_singleton.mp hb
    exact I1.fpOk (Nat.le_refl _) (I1.hok.fresh (Nat.le_refl _))
  rcases q1 with ⟨⟨xs, hq⟩, q⟩ | ⟨⟨xs, hq⟩, q⟩
  · obtain ⟨its, rv, p, hz⟩ := I1.list hq
    exact wpAny_pyIter_list p.isList ⟨s1.heap.objs.size, [s1.heap.objs.size], _, _, H1, rfl, I1.kept (t' := s1.toks) fun b o e => Heap.get?_push_of_some _ e, turn_list a _, ⟨_, Heap.get?_push_size _ rfl, rfl, rfl⟩, new, q⟩
  · obtain ⟨its, rv, p, hz⟩ := I1.tuple hq
    exact wpAny_pyIter_tuple (show s1.heap.IsTuple a its.toArray from p) ⟨s1.heap.objs.size, [s1.heap.objs.size], _, _, H1, rfl, I1.kept (t' := s1.toks) fun b o e => Heap.get?_push_of_some _ e, turn_tuple a _, ⟨_, Heap.get?_push_size _ rfl, rfl, rfl⟩, new, q⟩
def wSeq (we : WE) : WA := fun vw P => we vw fun x => match x with
  | .list ds => P ds
  | .tuple ds => P ds
  | _ => False
theorem ok_seq {K : PySem.W.Frag} {te : TE} {we : WE} (h : TEok te we) : TIok (iSeq K te) (wSeq we) := by
  intro pa G H σ vw P R vi e hw k
  refine h pa G H σ vw _ _ vi e hw fun x G1 H1 d s1 r1 h1 => ?_
  split at h1
  · rename_i ds
    obtain ⟨a, vs, rfl, q, r⟩ := rep_lst r1
    exact ⟨a, rfl, .inl ⟨⟨vs, SqL.of (s1.gh _ _ q)⟩, k _ G1 H1 ds s1 (walkD_at walk_list (fun H e => SqL.of (e _ _ q)) r) h1⟩⟩
  · rename_i ds
    obtain ⟨a, vs, rfl, q, r⟩ := rep_tup r1
    exact ⟨a, rfl, .inr ⟨⟨vs, SqT.of (s1.gh _ _ q)⟩, k _ G1 H1 ds s1 (walkD_at walk_tup (fun H e => SqT.of (e _ _ q)) r) h1⟩⟩
  · exact h1.elim
theorem iseq {X : Cx} {tg l : Expr} {tl : TE} {we : WE} (h : VE X l tl we) : VI X tg l (iSeq X.K tl) (wSeq we) := ⟨pi_seq h.pe, ok_seq h.ok⟩
/-- range -/
def rangeD (lo : Int) (n : Nat) : List PyData := (List.range n).map fun i : Nat => .int (lo + (i : Int))
theorem rangeD_length (lo : Int) (n : Nat) : (rangeD lo n).length = n := by simp [rangeD]
theorem rangeD_get {lo : Int} {n i : Nat} (h : i < n) : (rangeD lo n)[i]? = some (.int (lo + (i : Int))) := by simp [rangeD, h]
theorem walkD_range {G : Hp} {lo : Int} {n : Nat} : WalkD (Itr lo n) G (rangeD lo n) := by
  refine ⟨_, _, by rw [rangeD_length]; exact walk_range, fun _ _ => trivial, fun i H x H' G1 hi y e1 e2 => ?_⟩
  obtain ⟨rfl, rfl⟩ := y
  rw [rangeD_length] at hi
  exact ⟨G1, _, Step.refl e2, rangeD_get hi, .int _⟩
def wRng1 (wa : WA) : WA := fun vw P => wa vw fun ds => match ds with
  | [.int j] => (-(2 ^ 62) ≤ j ∧ j < 2 ^ 62) ∧ P (rangeD 0 j.toNat)
  | _ => False
def wRng2 (wa : WA) : WA := fun vw P => wa vw fun ds => match ds with
  | [.int i, .int j] => (-(2 ^ 62) ≤ i ∧ i < 2 ^ 62 ∧ -(2 ^ 62) ≤ j ∧ j < 2 ^ 62) ∧ P (rangeD i (j - i).toNat)
  | _ => False
theorem ok_rng1 {t : TA} {wa : WA} (h : TAok t wa) : TIok (iRng1 t) (wRng1 wa) := by
  intro pa G H σ vw P R vi e hw k
  refine h pa G H σ vw _ _ vi e hw fun vs G1 H1 ds s1 r1 h1 => ?_
  split at h1
  · obtain ⟨v, rfl, r2⟩ := repA1 r1
    obtain rfl := rep_int r2
    exact ⟨_, rfl, h1.1.1, h1.1.2, k _ G1 H1 _ s1 walkD_range h1.2⟩
  · exact h1.elim
theorem ok_rng2 {t : TA} {wa : WA} (h : TAok t wa) : TIok (iRng2 t) (wRng2 wa) := by
  intro pa G H σ vw P R vi e hw k
  refine h pa G H σ vw _ _ vi e hw fun vs G1 H1 ds s1 r1 h1 => ?_
  split at h1
  · obtain ⟨v, u, rfl, r2, r3⟩ := repA2 r1
    obtain rfl := rep_int r2
    obtain rfl := rep_int r3
    exact ⟨_, _, rfl, h1.1, k _ G1 H1 _ s1 walkD_range h1.2⟩
  · exact h1.elim
section
variable {X : Cx} {tg a b : Expr} {ta : TA} {wa : WA} {p pos : Pos}
theorem irng1 (hg : Gl X "range") (hm : X.mg "range" = none) (ha : VA X [a] ta wa) (hs : starEach [a] X.env = [(false, eval a X.env)] := by rfl) : VI X tg (.Call (.Name "range" p) [a] [] pos) (iRng1 ta) (wRng1 wa) := ⟨pi_range1 hg hm ha.pe hs, ok_rng1 ha.ok⟩
theorem irng2 (hg : Gl X "range") (hm : X.mg "range" = none) (ha : VA X [a, b] ta wa) (hs : starEach [a, b] X.env = [(false, eval a X.env), (false, eval b X.env)] := by rfl) (hs2 : starEach [b] X.env = [(false, eval b X.env)] := by rfl) :
    VI X tg (.Call (.Name "range" p) [a, b] [] pos) (iRng2 ta) (wRng2 wa) := ⟨pi_range2 hg hm ha.pe hs hs2, ok_rng2 ha.ok⟩
end
/-- range(a, b, c), c positive -/
def rangeC (lo c : Int) (n : Nat) : List PyData := (List.range n).map fun i : Nat => .int (lo + (i : Int) * c)
theorem walkD_rangeC {G : Hp} {lo c : Int} {n : Nat} : WalkD (Itc lo c n) G (rangeC lo c n) := by
  refine ⟨_, _, by unfold rangeC; rw [List.length_map, List.length_range]; exact walk_rangeC, fun _ _ => trivial, fun i H x H' G1 hi y e1 e2 => ?_⟩
  obtain ⟨rfl, rfl⟩ := y
  unfold rangeC at hi ⊢
  rw [List.length_map, List.length_range] at hi
  exact ⟨G1, _, Step.refl e2, by simp [hi], .int _⟩
def wRng3 (wa : WA) : WA := fun vw P => wa vw fun ds => match ds with
  | [.int i, .int j, .int c] => ∃ n, RgC i j c n ∧ P (rangeC i c n)
  | _ => False
theorem ok_rng3 {t : TA} {wa : WA} (h : TAok t wa) : TIok (iRng3 t) (wRng3 wa) := by
  intro pa G H σ vw P R vi e hw k
  refine h pa G H σ vw _ _ vi e hw fun vs G1 H1 ds s1 r1 h1 => ?_
  split at h1
  · cases r1 with
    | cons a1 t1 =>
      obtain ⟨v, u, rfl, r2, r3⟩ := repA2 t1
      obtain rfl := rep_int a1
      obtain rfl := rep_int r2
      obtain rfl := rep_int r3
      obtain ⟨n, hc, q⟩ := h1
      exact ⟨_, _, _, n, rfl, hc, k _ G1 H1 _ s1 walkD_rangeC q⟩
  · exact h1.elim
theorem irng3 {X : Cx} {tg a b c : Expr} {ta : TA} {wa : WA} {p pos : Pos} (hg : Gl X "range") (hm : X.mg "range" = none) (ha : VA X [a, b, c] ta wa) (hs : starEach [a, b, c] X.env = (false, eval a X.env) :: starEach [b, c] X.env := by rfl) (hpl : (backTo pos (starEach [b, c] X.env)).any (·.1) = false := by rfl) :
    VI X tg (.Call (.Name "range" p) [a, b, c] [] pos) (iRng3 ta) (wRng3 wa) := ⟨pi_range3 hg hm ha.pe hs hpl, ok_rng3 ha.ok⟩
/-- enumerate, zip -/
def enumD (ds : List PyData) : List PyData := ds.zipIdx.map fun p => .tuple [.int (p.2 : Nat), p.1]
def zipD (ds es : List PyData) : List PyData := List.zipWith (fun d e => .tuple [d, e]) ds es
def wEnum (wa : WA) : WA := fun vw P => wa vw fun ds => match ds with
  | [.list xs] => P (enumD xs)
  | _ => False
def wZip (wa : WA) : WA := fun vw P => wa vw fun ds => match ds with
  | [.list xs, .list ys] => P (zipD xs ys)
  | [.tuple xs, .tuple ys] => P (zipD xs ys)
  | _ => False
theorem ok_enum {K : PySem.W.Frag} {t : TA} {wa : WA} (h : TAok t wa) : TIok (iEnum K t) (wEnum wa) := by
  intro pa G H σ vw P R vi e hw k
  refine h pa G H σ vw _ _ vi e hw fun vs G1 H1 ds s1 r1 h1 => ?_
  split at h1
  · rename_i xs
    obtain ⟨v, rfl, r2⟩ := repA1 r1
    obtain ⟨a, vs, rfl, q, r⟩ := rep_lst r2
    refine ⟨a, vs, rfl, SqL.of (s1.gh _ _ q), k _ G1 H1 _ s1 (walkD_pair walk_enum (by rw [enumD, List.length_map, List.length_zipIdx]; exact r.length) (fun H e => SqL.of (e _ _ q)) fun i x y hi e1 e2 => ?_) h1⟩
    obtain ⟨d, h2, h3⟩ := r.getV e2
    cases e1
    exact ⟨.int (i : Nat), d, by simp [enumD, h2], .int _, h3⟩
  · exact h1.elim
theorem zip_at {G : Hp} {vs us : List V} {xs ys : List PyData} (r : RepA G vs xs) (r' : RepA G us ys) {i : Nat} {x y : V} (e1 : vs[i]? = some x) (e2 : us[i]? = some y) : ∃ d e, (zipD xs ys)[i]? = some (.tuple [d, e]) ∧ Rep G x d ∧ Rep G y e := by
  obtain ⟨d, h2, h3⟩ := r.getV e1
  obtain ⟨e, h4, h5⟩ := r'.getV e2
  exact ⟨d, e, by simp [zipD, List.getElem?_zipWith, h2, h4], h3, h5⟩
theorem walk_zipT' {K : PySem.W.Frag} {a b : Addr} {xs ys : List V} {n : Nat} (hn : n = min xs.length ys.length) : L2.Walk (RZ.ItzT K a b) n (fun H => SqT K H a xs ∧ SqT K H b ys) (YPair (fun i => xs[i]?) (fun i => ys[i]?)) := by
  subst hn
  refine ⟨fun i _ hi q => ?_, fun _ q => ⟨xs, ys, q.1, q.2, by omega⟩, fun i H v H' _ q y => ?_⟩
  · have h1 : i < xs.length := by omega
    have h2 : i < ys.length := by omega
    exact ⟨xs, ys, xs[i], ys[i], q.1, q.2, by simp [h1], by simp [h2]⟩
  · obtain ⟨T, x, z, h1, h2, h3, h4, h5⟩ := y
    exact ⟨T, x, z, h1, h2, h3, h4 xs q.1, h5 ys q.2⟩
theorem ok_zip {K : PySem.W.Frag} {t : TA} {wa : WA} (h : TAok t wa) : TIok (RZ.iZipA K t) (wZip wa) := by
  intro pa G H σ vw P R vi e hw k
  refine h pa G H σ vw _ _ vi e hw fun vs G1 H1 ds s1 r1 h1 => ?_
  split at h1
  · rename_i xs ys
    obtain ⟨v, u, rfl, r2, r3⟩ := repA2 r1
    obtain ⟨a, vs, rfl, q, r⟩ := rep_lst r2
    obtain ⟨b, us, rfl, q', r'⟩ := rep_lst r3
    exact ⟨a, b, vs, us, rfl, .inl ⟨SqL.of (s1.gh _ _ q), SqL.of (s1.gh _ _ q'), k _ G1 H1 _ s1 (walkD_pair (walk_zip rfl) (by simp [zipD, r.length, r'.length]) (fun H e => ⟨SqL.of (e _ _ q), SqL.of (e _ _ q')⟩) fun i x y hi e1 e2 => zip_at r r' e1 e2) h1⟩⟩
  · rename_i xs ys
    obtain ⟨v, u, rfl, r2, r3⟩ := repA2 r1
    obtain ⟨a, vs, rfl, q, r⟩ := rep_tup r2
    obtain ⟨b, us, rfl, q', r'⟩ := rep_tup r3
    exact ⟨a, b, vs, us, rfl, .inr ⟨SqT.of (s1.gh _ _ q), SqT.of (s1.gh _ _ q'), k _ G1 H1 _ s1 (walkD_pair (walk_zipT' rfl) (by simp [zipD, r.length, r'.length]) (fun H e => ⟨SqT.of (e _ _ q), SqT.of (e _ _ q')⟩) fun i x y hi e1 e2 => zip_at r r' e1 e2) h1⟩⟩
  · exact h1.elim
section
variable {X : Cx} {e e2 : Expr} {ta : TA} {wa : WA} {p pos tpos : Pos} {elts : List Expr} {kk : Nat}
theorem ienum (hg : Gl X "enumerate") (hm : X.mg "enumerate" = none) (ha : VA X [e] ta wa) (hs : starEach [e] X.env = [(false, eval e X.env)] := by rfl) :
    VI X (.Tuple elts kk tpos) (.Call (.Name "enumerate" p) [e] [] pos) (iEnum X.K ta) (wEnum wa) := ⟨pi_enum hg hm ha.pe hs, ok_enum ha.ok⟩
theorem izip (hg : Gl X "zip") (hm : X.mg "zip" = none) (ha : VA X [e, e2] ta wa) (hs : starEach [e, e2] X.env = (false, eval e X.env) :: starEach [e2] X.env := by rfl) (hpl : (backTo pos (starEach [e2] X.env)).any (·.1) = false := by rfl) :
    VI X (.Tuple elts kk tpos) (.Call (.Name "zip" p) [e, e2] [] pos) (RZ.iZipA X.K ta) (wZip wa) := ⟨RZ.pi_zipA hg hm ha.pe hs hpl, ok_zip ha.ok⟩
end

/-! ### a comprehension's target, over views -/
abbrev WGv := PyData → Vw → (Vw → Prop) → Prop
def Vw.set (vw : Vw) (i : Nat) (d : PyData) : Vw := ⟨vw.p, vw.l.set i (some d)⟩
def TGv (vs : List Nat) (g : TG) (wg : WGv) : Prop := ∀ (pa : Option Addr) (G H : Hp) (σ : L2.St) (vw : Vw) (d : PyData) (v : V) (Q : L2.St → Hp → Prop) (Qd : Vw → Prop), View pa G H σ vw → Ex G H → Rep G v d → wg d vw Qd →
  (∀ σ' vw', View pa G H σ' vw' → wipe σ' vs = wipe σ vs → Qd vw' → Q σ' H) → g v σ H Q
theorem View.set {pa : Option Addr} {G H : Hp} {σ : L2.St} {vw : Vw} {i : Nat} {v : V} {d : PyData} (w : View pa G H σ vw) (r : Rep G v d) (h0 : i ≠ 0) : View pa G H (σ.set i (some v)) (vw.set i d) := by
  refine ⟨fun j e h => ?_, w.pt, by simp [Vw.set, w.len], fun a ha => ?_⟩
  · have h' : (vw.l.set i (some d))[j]? = some (some e) := h
    by_cases z : j = i
    · subst z
      by_cases hl : j < vw.l.length
      · rw [List.getElem?_set_self hl] at h'
        cases h'
        exact ⟨v, List.getElem?_set_self (by rw [← w.len]; exact hl), r⟩
      · rw [List.getElem?_eq_none (by simpa using hl)] at h'
        cases h'
    · rw [List.getElem?_set_ne (Ne.symm z)] at h'
      rw [List.getElem?_set_ne (Ne.symm z)]
      exact w.vals j e h'
  · obtain ⟨h1, h2, h3⟩ := w.pot a ha
    exact ⟨by rw [List.getElem?_set_ne h0]; exact h1, h2, h3⟩
theorem wipe_set {σ : L2.St} {i : Nat} {x : Option V} : ∀ {vs : List Nat}, i ∈ vs → wipe (σ.set i x) vs = wipe σ vs
  | v :: vs, h => by
    unfold wipe
    by_cases z : i ∈ vs
    · rw [wipe_set z]
    · have e : i = v := by
        rcases List.mem_cons.mp h with e | e
        · exact e
        · exact absurd e z
      subst e
      have : ∀ (ws : List Nat), i ∉ ws → wipe (σ.set i x) ws = (wipe σ ws).set i x := by
        intro ws
        induction ws with
        | nil => intro _; rfl
        | cons w ws ih =>
          intro hn
          unfold wipe
          rw [ih fun m => hn (List.mem_cons_of_mem _ m), List.set_comm _ _ fun e => hn (by rw [e]; exact List.mem_cons_self)]
      rw [this vs z, List.set_set]
/-- the view without the comprehension's own names -/
def wipeW (vw : Vw) (vs : List Nat) : Vw := ⟨vw.p, vs.foldr (fun v l => l.set v none) vw.l⟩
theorem wipeW_get {l : List (Option PyData)} {i : Nat} {d : PyData} : ∀ {vs : List Nat}, (vs.foldr (fun v l => l.set v none) l)[i]? = some (some d) → l[i]? = some (some d) ∧ i ∉ vs
  | [], h => ⟨h, by simp⟩
  | v :: vs, h => by
    rw [List.foldr_cons] at h
    by_cases z : i = v
    · subst z
      by_cases hl : i < (vs.foldr (fun v l => l.set v none) l).length
      · rw [List.getElem?_set_self hl] at h; cases h
      · rw [List.getElem?_eq_none (by simpa using hl)] at h; cases h
    · rw [List.getElem?_set_ne (Ne.symm z)] at h
      obtain ⟨h1, h2⟩ := wipeW_get h
      exact ⟨h1, fun m => (List.mem_cons.mp m).elim z h2⟩
theorem wipeW_len {l : List (Option PyData)} : ∀ vs : List Nat, (vs.foldr (fun v l => l.set v none) l).length = l.length
  | [] => rfl
  | v :: vs => by rw [List.foldr_cons, List.length_set, wipeW_len vs]
theorem View.wipe {pa : Option Addr} {G H : Hp} {σ : L2.St} {vw : Vw} (w : View pa G H σ vw) (vs : List Nat) (h0 : 0 ∉ vs) : View pa G H (L2.wipe σ vs) (wipeW vw vs) := by
  refine ⟨fun j e h => ?_, w.pt, ?_, fun a ha => ?_⟩
  · obtain ⟨h1, h2⟩ := wipeW_get h
    obtain ⟨v, h3, r⟩ := w.vals j e h1
    exact ⟨v, by rw [wipe_out h2]; exact h3, r⟩
  · rw [wipe_length, ← w.len]; exact wipeW_len vs
  · obtain ⟨h1, h2, h3⟩ := w.pot a ha
    exact ⟨by rw [wipe_out h0]; exact h1, h2, h3⟩
def gvN (i : Nat) : WGv := fun d vw Q => Q (vw.set i d)
theorem tgv_name {vs : List Nat} {i : Nat} (h0 : i ≠ 0) (hm : i ∈ vs) : TGv vs (gName i) (gvN i) :=
  fun pa G H σ vw d v Q Qd vi e r h k => k _ _ (vi.set r h0) (wipe_set hm) h
/-- a pair, a triple of names -/
def gvT : List Nat → WGv := fun is d vw Q => match d with
  | .tuple ds => ds.length = is.length ∧ Q ((is.zip ds).foldl (fun w p => w.set p.1 p.2) vw)
  | _ => False
def gNames : List Nat → TGs
  | [] => gNil
  | i :: is => gCons (gName i) (gNames is)
theorem tgs_names {vs : List Nat} : ∀ (is : List Nat), (∀ i ∈ is, i ≠ 0 ∧ i ∈ vs) → ∀ (pa : Option Addr) (G H : Hp) (σ : L2.St) (vw : Vw) (ds : List PyData) (us : List V) (Q : L2.St → Hp → Prop) (Qd : Vw → Prop), View pa G H σ vw → RepA G us ds → ds.length = is.length →
    Qd ((is.zip ds).foldl (fun w p => w.set p.1 p.2) vw) → (∀ σ' vw', View pa G H σ' vw' → L2.wipe σ' vs = L2.wipe σ vs → Qd vw' → Q σ' H) → gNames is us σ H Q
  | [], _, pa, G, H, σ, vw, ds, us, Q, Qd, vi, r, hl, h, k => by
    obtain rfl : ds = [] := List.length_eq_zero_iff.mp hl
    cases r
    exact ⟨rfl, k σ vw vi rfl h⟩
  | i :: is, hi, pa, G, H, σ, vw, d :: ds, us, Q, Qd, vi, r, hl, h, k => by
    cases r with
    | cons r1 rs =>
      obtain ⟨h0, hm⟩ := hi i List.mem_cons_self
      refine ⟨_, _, rfl, ?_⟩
      refine tgs_names is (fun j m => hi j (List.mem_cons_of_mem _ m)) pa G H _ (vw.set i d) ds _ Q Qd (vi.set r1 h0) rs (by simpa using hl) h fun σ' vw' vi' hw hq => k σ' vw' vi' ?_ hq
      rw [hw, wipe_set hm]
  | i :: is, hi, pa, G, H, σ, vw, [], us, Q, Qd, vi, r, hl, h, k => by simp at hl
theorem tgv_tup {K : PySem.W.Frag} {vs is : List Nat} (hi : ∀ i ∈ is, i ≠ 0 ∧ i ∈ vs) : TGv vs (gTup K is.length (gNames is)) (gvT is) := by
  intro pa G H σ vw d v Q Qd vi e r h k
  unfold gvT at h
  split at h
  · obtain ⟨a, us, rfl, q, r'⟩ := rep_tup r
    exact ⟨a, us, rfl, SqT.of (e _ _ q), by rw [r'.length]; exact h.1, tgs_names is hi pa G H σ vw _ us Q Qd vi r' h.1 h.2 k⟩
  · exact h.elim
theorem wipe_wipe (σ : L2.St) : ∀ vs : List Nat, L2.wipe (L2.wipe σ vs) vs = L2.wipe σ vs := by
  have key : ∀ (us vs : List Nat) (τ : L2.St), (∀ u ∈ us, u ∈ vs) → L2.wipe (L2.wipe τ us) vs = L2.wipe τ vs := by
    intro us
    induction us with
    | nil => intro vs τ _; rfl
    | cons u us ih =>
      intro vs τ h
      show L2.wipe ((L2.wipe τ us).set u none) vs = _
      rw [wipe_set (h u List.mem_cons_self)]
      exact ih vs τ fun w m => h w (List.mem_cons_of_mem _ m)
  exact fun vs => key vs vs σ fun _ m => m
/-- a comprehension's tests -/
def wYes : WC := fun _ P => P true
theorem ok_yes : TTok tYes wYes := fun pa G H σ vw P Q vi e h k => k true G H (Step.refl e) h
/-- one turn behind another -/
def lcGo (wg : WGv) (wt : WC) (we : WE) (vw : Vw) : List PyData → List PyData → (List PyData → Prop) → Prop
  | [], acc, P => P acc
  | d :: ds, acc, P => wg d vw fun vw1 => wt vw1 fun b => if b = true then we vw1 fun r => acc.length < 1000000 ∧ lcGo wg wt we vw ds (acc ++ [r]) P else lcGo wg wt we vw ds acc P
def wLc (wi : WA) (wg : WGv) (wt : WC) (we : WE) (vs : List Nat) : WE := fun vw P => wi vw fun ds => lcGo wg wt we (wipeW vw vs) ds [] fun rs => P (.list rs)
def wLcO (wi : WA) (wg : WGv) (wt : WC) (we : WE) (vs : List Nat) : WE := fun vw P => wi vw fun ds => lcGo wg wt we (wipeW vw vs) ds [] fun rs => noBox rs ∧ P (.list rs)
theorem stepMutO {pa : Option Addr} {G1 H1 G H : Hp} {D : Addr} {o : HO} (hp : ∀ a, pa = some a → IsPot H1 a) (s : Step pa G1 H1 G H) (hD : H1 D = none) (hG : G D = none) : Step pa G1 H1 G (upd H D o) where
  g := s.g
  h := fun a u n e => by rw [upd_ne (ne_of_none e hD)]; exact s.h a u n e
  p := fun a e i => by
    obtain ⟨x, y, q, r⟩ := s.p a e i
    refine ⟨x, y, ?_, r⟩
    rw [upd_ne fun z => i.ne (by rw [z]; exact hD)]
    exact q
  gh := fun a u e => by rw [upd_ne (ne_of_none e hG)]; exact s.gh a u e
  fr := s.fr
theorem lc_run {wi : TI} {wiD : WA} {g : TG} {tt : TT} {te : TE} {wg : WGv} {wt : WC} {we : WE} {vs : List Nat} (h0 : 0 ∉ vs) (hi : TIok wi wiD) (hg : TGv vs g wg) (ht : TTok tt wt) (he : TEok te we)
    (pa : Option Addr) (G H : Hp) (σ : L2.St) (vw : Vw) (P : List PyData → Prop) (Q : VK) (vi : View pa G H σ vw) (e : Ex G H) (hw : wiD vw fun ds => lcGo wg wt we (wipeW vw vs) ds [] P)
    (k : ∀ D us G1 H1 G2 H2 rs, Step pa G H G1 H1 → H1 D = none → Step pa G1 H1 G2 H2 → G2 D = none → H2 D = some (.lst us) → RepA G2 us rs → P rs → Q (.ref D) H2) : tLc wi g tt te vs σ H Q := by
  refine hi pa G H σ vw _ _ vi e hw fun J G1 H1 ds s1 wd h1 D hD => ?_
  obtain ⟨Gc, Y, wk, hGc, hY⟩ := wd
  have vi1 := vi.step s1
  refine lc_it wk (fun i H2 => ∃ G2 us acc, Step pa G1 H1 G2 H2 ∧ G2 D = none ∧ H2 D = some (.lst us) ∧ RepA G2 us acc ∧ lcGo wg wt we (wipeW vw vs) (ds.drop i) acc P) ?_ ?_ ?_ ?_
  · exact ⟨G1, [], [], Step.newO s1.gh hD, s1.gh.back hD, upd_same, .nil, h1⟩
  · rintro i H2 _ ⟨G2, us, acc, s2, _, _, _, _⟩
    exact hGc H2 fun a o q => s2.gh a o (s2.g a o q)
  · rintro i x H2 H3 hlt ⟨G2, us, acc, s2, gD, hD2, ra, go⟩ y
    obtain ⟨G3, d, s3, hd, rx⟩ := hY i H2 x H3 G2 hlt y s2.g s2.gh
    have s13 : Step pa G1 H1 G3 H3 := s2.trans vi1.isPot s3.none
    have vi3 := vi1.step s13
    have go' : lcGo wg wt we (wipeW vw vs) (d :: ds.drop (i + 1)) acc P := by
      rw [List.drop_eq_getElem_cons (h := hlt)] at go
      have : ds[i] = d := by
        rw [List.getElem?_eq_getElem hlt] at hd
        exact Option.some.inj hd
      rw [this] at go
      exact go
    have keepD : ∀ {G4 H4 : Hp}, Step pa G3 H3 G4 H4 → G4 D = none ∧ H4 D = some (.lst us) := fun {G4 H4} s4 => by
      have hn : H2 D ≠ none := by rw [hD2]; simp
      have g3 : G3 D = none := s3.fr D hn gD
      have h3 : H3 D = some (.lst us) := s3.h D _ (by simp) hD2
      refine ⟨s4.fr D (by rw [h3]; simp) g3, s4.h D _ (fun z => ?_) h3⟩
      exact (vi1.isPot D z.symm).ne hD
    refine hg pa G3 H3 _ _ d x _ _ (vi3.wipe vs h0) s3.gh rx go' fun σ' vw' vi' hwp q => ⟨hwp.trans (wipe_wipe σ vs), ?_⟩
    refine ht pa G3 H3 σ' vw' _ _ vi' s3.gh q fun b G4 H4 s4 q4 => ?_
    have s14 := s13.trans vi1.isPot s4
    cases b with
    | true =>
      rw [if_pos rfl] at q4 ⊢
      refine he pa G4 H4 σ' vw' _ _ (vi'.step s4) s4.gh q4 fun v G5 H5 r s5 rv q5 => ?_
      have s35 := s4.trans vi'.isPot s5
      obtain ⟨g5, h5⟩ := keepD s35
      have s15 := s13.trans vi1.isPot s35
      refine ⟨us, h5, lt_line (by rw [ra.length]; exact q5.1), G5, us ++ [v], acc ++ [r], stepMutO vi1.isPot s15 hD g5, g5, upd_same, (ra.mono (s3.g.trans s35.g)).append (.cons rv .nil), q5.2⟩
    | false =>
      rw [if_neg Bool.false_ne_true] at q4 ⊢
      obtain ⟨g4, h4⟩ := keepD s4
      exact ⟨G4, us, acc, s14, g4, h4, ra.mono (s3.g.trans s4.g), q4⟩
  · rintro H2 ⟨G2, us, acc, s2, gD, hD2, ra, go⟩
    rw [List.drop_length] at go
    exact k D us G1 H1 G2 H2 acc s1 hD s2 gD hD2 ra go
theorem ok_lc {wi : TI} {wiD : WA} {g : TG} {tt : TT} {te : TE} {wg : WGv} {wt : WC} {we : WE} {vs : List Nat} (h0 : 0 ∉ vs) (hi : TIok wi wiD) (hg : TGv vs g wg) (ht : TTok tt wt) (he : TEok te we) : TEok (tLc wi g tt te vs) (wLc wiD wg wt we vs) := by
  intro pa G H σ vw P Q vi e hw k
  refine lc_run h0 hi hg ht he pa G H σ vw _ Q vi e hw fun D us G1 H1 G2 H2 rs s1 hD s2 gD hD2 ra q => ?_
  have s12 := s1.trans vi.isPot s2
  have hD0 : H D = none := none_of_ne (s1.ne vi.isPot) hD
  have s3 : Step pa G H (upd G2 D (.lst us)) H2 := ⟨fun a o q => by
      have z := s12.g a o q
      rw [upd_ne (ne_of_none z gD)]; exact z, s12.h, s12.p, fun a o q => by
      by_cases z : a = D
      · subst z; rw [upd_same] at q; cases q; exact hD2
      · rw [upd_ne z] at q; exact s12.gh a o q, fun a n m => by
      rw [upd_ne fun z => n (by rw [z]; exact hD0)]
      exact s12.fr a n m⟩
  exact k _ _ H2 _ s3 (.lst upd_same (ra.mono (Ex.new gD))) q
theorem oko_lc {wi : TI} {wiD : WA} {g : TG} {tt : TT} {te : TE} {wg : WGv} {wt : WC} {we : WE} {vs : List Nat} (h0 : 0 ∉ vs) (hi : TIok wi wiD) (hg : TGv vs g wg) (ht : TTok tt wt) (he : TEok te we) : TOok (tLc wi g tt te vs) (wLcO wiD wg wt we vs) := by
  intro pa G H σ vw P Q vi e hw k
  refine lc_run h0 hi hg ht he pa G H σ vw _ Q vi e hw fun D us G1 H1 G2 H2 rs s1 hD s2 gD hD2 ra q => ?_
  have s12 := s1.trans vi.isPot s2
  refine k _ G2 H2 _ [D] s12 (.lst hD2 (ownA_of ra q.1)) (by simp) (fun a m => ?_) q.2
  obtain rfl := List.mem_singleton.mp m
  exact ⟨none_of_ne (s1.ne vi.isPot) hD, gD⟩
/-- the parts of a comprehension, in its block -/
abbrev Blk (X : Cx) (scope : Scope) (s : Shared) (H : Hp) (C : Addr) (cl : List (Str × Addr)) (fp : List Addr) : Cx := X.blk s H scope (compEnvC scope cl C X.env) fp
section
variable {X : Cx} {elt tg iter : Expr} {ifs : List Expr} {scope : Scope} {own : List (Str × Nat)} {pos : Pos} {wi : TI} {wiD : WA} {g : TG} {tt : TT} {te : TE} {wg : WGv} {wt : WC} {we : WE}
structure VG (X : Cx) (tg : Expr) (vs : List Nat) (g : TG) (wg : WGv) : Prop where
  pe : PG X tg g
  ok : TGv vs g wg
structure VTs (X : Cx) (ifs : List Expr) (tt : TT) (wt : WC) : Prop where
  pe : PTs X ifs tt
  ok : TTok tt wt
theorem tsnil : VTs X [] tYes wYes := ⟨pts_nil, ok_yes⟩
theorem tsone {c : Expr} (h : VC X c tt wt) : VTs X [c] tt wt := ⟨pts_one h.pe, h.ok⟩
theorem vgN {i : Nat} {x : Str} {vs : List Nat} {p : Pos} (hN : X.N.Nodup) (h0 : i ≠ 0 := by decide) (hm : i ∈ vs := by decide) (hi : X.N[i]? = some x := by rfl) (hx : Loc X.env.scope x := by exact Or.inl rfl) (hf : X.fn x = true ∨ X.env.scope.names.lookup x = some .local := by first | exact .inl rfl | exact .inr rfl) : VG X (.Name x p) vs (gName i) (gvN i) :=
  ⟨pg_name hN hi hx hf, tgv_name h0 hm⟩
theorem vlc (h0 : 0 ∉ own.map (·.2)) (hc : X.calm = true) (hN : X.N.Nodup) (hi : VI X tg iter wi wiD) (ok : BlkOk X.N X.env.scope scope own)
    (hg : ∀ s H C cl fp, VG (Blk X scope s H C cl fp) tg (own.map (·.2)) g wg) (ht : ∀ s H C cl fp, VTs (Blk X scope s H C cl fp) ifs tt wt) (he : ∀ s H C cl fp, VE (Blk X scope s H C cl fp) elt te we)
    (hs : ∀ x, foldedSetIterable iter X.env x = pure x := by intro _; rfl) : VE X (.ListComp elt [⟨tg, iter, ifs, 0⟩] scope pos) (tLc wi g tt te (own.map (·.2))) (wLc wiD wg wt we (own.map (·.2))) :=
  ⟨pe_lc hc hN hi.pe ok (fun s H C cl fp => (hg s H C cl fp).pe) (fun s H C cl fp => (ht s H C cl fp).pe) (fun s H C cl fp => (he s H C cl fp).pe) hs,
    ok_lc h0 hi.ok (hg X.s_0 X.H_0 0 [] []).ok (ht X.s_0 X.H_0 0 [] []).ok (he X.s_0 X.H_0 0 [] []).ok⟩
theorem olc (h0 : 0 ∉ own.map (·.2)) (hc : X.calm = true) (hN : X.N.Nodup) (hi : VI X tg iter wi wiD) (ok : BlkOk X.N X.env.scope scope own)
    (hg : ∀ s H C cl fp, VG (Blk X scope s H C cl fp) tg (own.map (·.2)) g wg) (ht : ∀ s H C cl fp, VTs (Blk X scope s H C cl fp) ifs tt wt) (he : ∀ s H C cl fp, VE (Blk X scope s H C cl fp) elt te we)
    (hs : ∀ x, foldedSetIterable iter X.env x = pure x := by intro _; rfl) : VO X (.ListComp elt [⟨tg, iter, ifs, 0⟩] scope pos) (tLc wi g tt te (own.map (·.2))) (wLcO wiD wg wt we (own.map (·.2))) :=
  ⟨pe_lc hc hN hi.pe ok (fun s H C cl fp => (hg s H C cl fp).pe) (fun s H C cl fp => (ht s H C cl fp).pe) (fun s H C cl fp => (he s H C cl fp).pe) hs,
    oko_lc h0 hi.ok (hg X.s_0 X.H_0 0 [] []).ok (ht X.s_0 X.H_0 0 [] []).ok (he X.s_0 X.H_0 0 [] []).ok⟩
end
/-- tuples of names as a target -/
structure VGs (X : Cx) (es : List Expr) (is : List Nat) : Prop where
  pe : PGs X es (gNames is)
theorem gsnil {X : Cx} : VGs X [] [] := ⟨pgs_nil⟩
theorem gscons {X : Cx} {i : Nat} {x : Str} {p : Pos} {es : List Expr} {is : List Nat} (hN : X.N.Nodup) (hr : VGs X es is) (hi : X.N[i]? = some x := by rfl) (hx : Loc X.env.scope x := by first | exact Or.inl rfl | exact Or.inr rfl) (hf : X.fn x = true ∨ X.env.scope.names.lookup x = some .local := by first | exact .inl rfl | exact .inr rfl)
    (hs : (assignEach (.Name x p :: es) X.env).map (·.2) = assign (.Name x p) X.env :: (assignEach es X.env).map (·.2) := by rfl) : VGs X (.Name x p :: es) (i :: is) := ⟨pgs_cons (pg_name hN hi hx hf) hr.pe hs⟩
theorem vgT {X : Cx} {es : List Expr} {is vs : List Nat} {k : Nat} {pos : Pos} (hc : X.calm = true) (h : VGs X es is) (hv : ∀ i ∈ is, i ≠ 0 ∧ i ∈ vs := by decide) (hn : (assignEach es X.env).length = is.length := by rfl) (hst : (assignEach es X.env).findIdx? (·.1) = none := by rfl) :
    VG X (.Tuple es k pos) vs (gTup X.K is.length (gNames is)) (gvT is) := ⟨pg_tup hc h.pe hn hst, tgv_tup hv⟩
end Vl
/-! VlF: statements by value. -/
namespace Vl
open PySem PySem.Spec PyProof.Rows L2

/-! ### the slots seen -/
def oB : Option Slot → Option PyData
  | none => none
  | some s => some s.d
def oF : Option Slot → Option PyData
  | some (.v d) => some d
  | _ => none
def vBl : List (Option Slot) → List (Option PyData)
  | [] => []
  | s :: l => oB s :: vBl l
def vFl : List (Option Slot) → List (Option PyData)
  | [] => []
  | s :: l => oF s :: vFl l
/-- all, the owned ones lent; the frozen ones alone -/
def vB (ρ : Env') : Vw := ⟨ρ.p, vBl ρ.l⟩
def vF (ρ : Env') : Vw := ⟨ρ.p, vFl ρ.l⟩
theorem vBl_map : ∀ l : List (Option Slot), vBl l = l.map oB
  | [] => rfl
  | s :: l => by show oB s :: vBl l = oB s :: l.map oB; rw [vBl_map l]
theorem vFl_map : ∀ l : List (Option Slot), vFl l = l.map oF
  | [] => rfl
  | s :: l => by show oF s :: vFl l = oF s :: l.map oF; rw [vFl_map l]
theorem vBl_get {l : List (Option Slot)} {i : Nat} {d : PyData} (h : (vBl l)[i]? = some (some d)) : ∃ s, l[i]? = some (some s) ∧ s.d = d := by
  rw [vBl_map, List.getElem?_map] at h
  cases e : l[i]? with
  | none => rw [e] at h; cases h
  | some x =>
    rw [e] at h
    cases x with
    | none => cases Option.some.inj h
    | some s => exact ⟨s, rfl, Option.some.inj (Option.some.inj h)⟩
theorem vFl_get {l : List (Option Slot)} {i : Nat} {d : PyData} (h : (vFl l)[i]? = some (some d)) : l[i]? = some (some (.v d)) := by
  rw [vFl_map, List.getElem?_map] at h
  cases e : l[i]? with
  | none => rw [e] at h; cases h
  | some x =>
    rw [e] at h
    cases x with
    | none => cases Option.some.inj h
    | some s =>
      cases s with
      | v d' => rw [show d' = d from Option.some.inj (Option.some.inj h)]
      | o d' => cases Option.some.inj h
theorem vBl_len (l : List (Option Slot)) : (vBl l).length = l.length := by rw [vBl_map, List.length_map]
theorem vFl_len (l : List (Option Slot)) : (vFl l).length = l.length := by rw [vFl_map, List.length_map]
theorem SimL.get {G H : Hp} {σ : List (Option V)} {ρ : List (Option Slot)} {F : List Addr} {i : Nat} {s : Slot} (h : SimL G H σ ρ F) (e : ρ[i]? = some (some s)) : ∃ v Fi, σ[i]? = some (some v) ∧ HoldsS G H v s Fi ∧ ∀ a ∈ Fi, a ∈ F := by
  obtain ⟨Fi, Fr, p, h1, _, _⟩ := SimL.focus i h (List.getElem?_eq_some_iff.mp e).1
  obtain ⟨v, h2, h3⟩ := h1 s e
  exact ⟨v, Fi, h2, h3, fun a m => p.mem_iff.mpr (List.mem_append_left _ m)⟩
section
variable {pa : Option Addr} {G0 B G H G' H' : Hp} {σ : L2.St} {ρ : Env'} {F : List Addr}
theorem Sim.viewF (S : Sim pa G0 B G H σ ρ F) : View pa G H σ (vF ρ) := by
  refine ⟨fun i d e => ?_, S.pt.mp, by show (vFl ρ.l).length = _; rw [vFl_len, S.sl.length], fun a e => let ⟨h1, h2, h3, _⟩ := S.pot a e; ⟨h1, h2, h3⟩⟩
  obtain ⟨v, Fi, h1, h2, _⟩ := S.sl.get (vFl_get e)
  exact ⟨v, h1, h2.1⟩
theorem Sim.viewB (S : Sim pa G0 B G H σ ρ F) : View pa (addF G H F) H σ (vB ρ) := by
  refine ⟨fun i d e => ?_, S.pt.mp, by show (vBl ρ.l).length = _; rw [vBl_len, S.sl.length], fun a e => let ⟨h1, h2, h3, _⟩ := S.pot a e; ⟨h1, h2, by unfold addF; rw [if_neg fun m => (S.fr a m).2.2 e.symm]; exact h3⟩⟩
  obtain ⟨s, h1, h2⟩ := vBl_get e
  obtain ⟨v, Fi, h3, h4, h5⟩ := S.sl.get h1
  refine ⟨v, h3, ?_⟩
  subst h2
  cases s with
  | v d => exact Rep.mono (fun a o h => by unfold addF; rw [if_neg fun m => by rw [(S.fr a m).2.1] at h; cases h]; exact h) h4.1
  | o d => exact Own.frz F (fun a m => (S.fr a m).2.1) (show Own G H v d Fi from h4) h5
theorem Sim.stay (S : Sim pa G0 B G H σ ρ F) (h : ∀ a o, some a ≠ pa → H a = some o → H' a = some o) : Stay F H H' := fun a m => by
  have hn := S.ne m
  cases q : H a with
  | none => exact absurd q hn
  | some o => exact h a o (S.fr a m).2.2 q
theorem Sim.evB (S : Sim pa G0 B G H σ ρ F) (s : Step pa (addF G H F) H G' H') : Sim pa G0 B (subF G' F) H' σ ρ F := by
  have eG : Ex G (subF G' F) := fun a o h => by
    have nm : a ∉ F := fun m => by rw [(S.fr a m).2.1] at h; cases h
    unfold subF
    rw [if_neg nm]
    exact s.g a o (by unfold addF; rw [if_neg nm]; exact h)
  refine ⟨S.sl.mono eG (S.stay s.h), S.pt, S.gg.trans eG, fun a o h => ?_, fun a o h => ?_, fun a n e => ?_, S.nd, fun a m => ⟨(S.fr a m).1, by unfold subF; rw [if_pos m], (S.fr a m).2.2⟩, fun a e => ?_⟩
  · unfold subF at h
    split at h
    · cases h
    · exact s.gh a o h
  · by_cases z : some a = pa
    · rw [(S.pot a z.symm).2.2.2] at h; cases h
    · exact s.h a o z (S.bh a o h)
  · unfold subF
    split
    · rfl
    · refine s.fr a ?_ ?_
      · cases q : B a with
        | none => exact absurd q n
        | some o => rw [S.bh a o q]; simp
      · unfold addF
        rw [if_neg fun m => n (S.fr a m).1]
        exact S.gb a n e
  · obtain ⟨h1, h2, h3, h4⟩ := S.pot a e
    refine ⟨h1, s.p a e h2, ?_, h4⟩
    unfold subF
    split
    · rfl
    · refine s.fr a h2.ne ?_
      unfold addF
      rw [if_neg fun m => (S.fr a m).2.2 e.symm]
      exact h3
theorem Sim.evF (S : Sim pa G0 B G H σ ρ F) (s : Step pa G H G' H') : Sim pa G0 B G' H' σ ρ F := by
  refine ⟨S.sl.mono s.g (S.stay s.h), S.pt, S.gg.trans s.g, s.gh, fun a o h => ?_, fun a n e => ?_, S.nd, fun a m => ⟨(S.fr a m).1, s.fr a (S.ne m) (S.fr a m).2.1, (S.fr a m).2.2⟩, fun a e => ?_⟩
  · by_cases z : some a = pa
    · rw [(S.pot a z.symm).2.2.2] at h; cases h
    · exact s.h a o z (S.bh a o h)
  · refine s.fr a ?_ (S.gb a n e)
    cases q : B a with
    | none => exact absurd q n
    | some o => rw [S.bh a o q]; simp
  · obtain ⟨h1, h2, h3, h4⟩ := S.pot a e
    exact ⟨h1, s.p a e h2, s.fr a h2.ne h3, h4⟩
/-- what is told at F does not lean on tuples -/
theorem Sim.noTup (S : Sim pa G0 B G H σ ρ F) (s : Step pa (addF G H F) H G' H') : ∀ a ∈ F, ∀ xs, G' a ≠ some (.tup xs) := fun a m xs e => by
  have h : H' a = some (.tup xs) := s.gh a _ e
  rw [S.stay s.h a m] at h
  rcases S.sl.at a m with ⟨_, z⟩ | ⟨_, z⟩ <;> · rw [z] at h; cases h
/-- a slot is stored: a value with its own things, at F2 -/
theorem Sim.put' (S : Sim pa G0 B G H σ ρ F) {i : Nat} {v : V} {s : Slot} {F2 : List Addr} (h0 : i ≠ 0) (h : HoldsS G H v s F2) (nd : F2.Nodup) (fr : ∀ a ∈ F2, B a = none ∧ G a = none ∧ some a ≠ pa) (ap : ∀ a ∈ F2, a ∉ F) :
    ∃ F', Sim pa G0 B G H (σ.set i (some v)) ⟨ρ.p, ρ.l.set i (some s)⟩ F' ∧ ∀ a ∈ F', a ∈ F2 ∨ a ∈ F := by
  by_cases hl : i < ρ.l.length
  · obtain ⟨Fi, Fr, p, _, h2, _⟩ := SimL.focus i S.sl hl
    obtain ⟨F', q, p'⟩ := h2 G H v s F2 (Ex.refl G) (fun _ _ => rfl) h
    have ndF : (Fi ++ Fr).Nodup := p.nodup_iff.mp S.nd
    have mem : ∀ a, a ∈ F' → a ∈ F2 ∨ a ∈ Fr := fun a m => List.mem_append.mp (p'.mem_iff.mp m)
    have sub : ∀ a, a ∈ Fr → a ∈ F := fun a m => p.mem_iff.mpr (List.mem_append_right _ m)
    refine ⟨F', ⟨q, S.pt, S.gg, S.gh, S.bh, S.gb, p'.nodup_iff.mpr (List.nodup_append.mpr ⟨nd, (List.nodup_append.mp ndF).2.1, fun a m b m' e => ap a m (by rw [e]; exact sub b m')⟩), fun a m => ?_, fun a e => ?_⟩, fun a m => (mem a m).imp (fun z => z) (sub a)⟩
    · rcases mem a m with m | m
      · exact fr a m
      · exact S.fr a (sub a m)
    · obtain ⟨h1, h2, h3, h4⟩ := S.pot a e
      exact ⟨by rw [List.getElem?_set_ne h0]; exact h1, h2, h3, h4⟩
  · refine ⟨F, ?_, fun a m => .inr m⟩
    have e1 : σ.set i (some v) = σ := List.set_eq_of_length_le (by rw [S.sl.length]; omega)
    have e2 : ρ.l.set i (some s) = ρ.l := List.set_eq_of_length_le (by omega)
    rw [e1, e2]
    exact S
theorem Sim.put (S : Sim pa G0 B G H σ ρ F) {i : Nat} {v : V} {s : Slot} {F2 : List Addr} (h0 : i ≠ 0) (h : HoldsS G H v s F2) (nd : F2.Nodup) (fr : ∀ a ∈ F2, B a = none ∧ G a = none ∧ some a ≠ pa) (ap : ∀ a ∈ F2, a ∉ F) :
    ∃ F', Sim pa G0 B G H (σ.set i (some v)) ⟨ρ.p, ρ.l.set i (some s)⟩ F' := let ⟨F', S', _⟩ := S.put' h0 h nd fr ap; ⟨F', S'⟩
/-- what one has read is forgotten -/
theorem Sim.forget (S : Sim pa G0 B G H σ ρ F) (i : Nat) : ∃ F', Sim pa G0 B G H σ ⟨ρ.p, ρ.l.set i none⟩ F' := by
  by_cases hl : i < ρ.l.length
  · obtain ⟨Fi, Fr, p, _, _, h3⟩ := SimL.focus i S.sl hl
    obtain ⟨F', q, p'⟩ := h3 G H (Ex.refl G) (fun _ _ => rfl)
    have sub : ∀ a, a ∈ Fr → a ∈ F := fun a m => p.mem_iff.mpr (List.mem_append_right _ m)
    refine ⟨F', q, S.pt, S.gg, S.gh, S.bh, S.gb, p'.nodup_iff.mpr (List.nodup_append.mp (p.nodup_iff.mp S.nd)).2.1, fun a m => S.fr a (sub a (p'.mem_iff.mp m)), S.pot⟩
  · have e2 : ρ.l.set i none = ρ.l := List.set_eq_of_length_le (by omega)
    rw [e2]
    exact ⟨F, S⟩
/-- an owned slot is frozen -/
theorem Sim.freeze (S : Sim pa G0 B G H σ ρ F) {i : Nat} {d : PyData} (e : ρ.l[i]? = some (some (.o d))) : ∃ G1 F', Sim pa G0 B G1 H σ ⟨ρ.p, ρ.l.set i (some (.v d))⟩ F' := by
  obtain ⟨Fi, Fr, p, h1, h2, _⟩ := SimL.focus i S.sl (List.getElem?_eq_some_iff.mp e).1
  obtain ⟨v, hv, o⟩ := h1 _ e
  have ndF : (Fi ++ Fr).Nodup := p.nodup_iff.mp S.nd
  have sub : ∀ a, a ∈ Fr → a ∈ F := fun a m => p.mem_iff.mpr (List.mem_append_right _ m)
  have subi : ∀ a, a ∈ Fi → a ∈ F := fun a m => p.mem_iff.mpr (List.mem_append_left _ m)
  have eG : Ex G (addF G H Fi) := fun a u h => by
    unfold addF
    rw [if_neg fun m => by rw [(S.fr a (subi a m)).2.1] at h; cases h]
    exact h
  obtain ⟨F', q, p'⟩ := h2 (addF G H Fi) H v (.v d) [] eG (fun _ _ => rfl) ⟨Own.frz Fi (fun a m => (S.fr a (subi a m)).2.1) (show Own G H v d Fi from o) fun a m => m, rfl⟩
  have e1 : σ.set i (some v) = σ := by
    apply List.ext_getElem?
    intro j
    by_cases z : i = j
    · subst z
      rw [List.getElem?_set_self (List.getElem?_eq_some_iff.mp hv).1, hv]
    · rw [List.getElem?_set_ne z]
  rw [e1] at q
  refine ⟨_, F', q, S.pt, S.gg.trans eG, fun a u h => ?_, S.bh, fun a n z => ?_, p'.nodup_iff.mpr (List.nodup_append.mp ndF).2.1, fun a m => ?_, fun a z => ?_⟩
  · unfold addF at h
    split at h
    · exact h
    · exact S.gh a u h
  · unfold addF
    rw [if_neg fun m => n (S.fr a (subi a m)).1]
    exact S.gb a n z
  · have mr := p'.mem_iff.mp m
    refine ⟨(S.fr a (sub a mr)).1, ?_, (S.fr a (sub a mr)).2.2⟩
    unfold addF
    rw [if_neg fun mi => (List.nodup_append.mp ndF).2.2 a mi a mr rfl]
    exact (S.fr a (sub a mr)).2.1
  · obtain ⟨h1, h2, h3, h4⟩ := S.pot a z
    refine ⟨h1, h2, ?_, h4⟩
    unfold addF
    rw [if_neg fun mi => (S.fr a (subi a mi)).2.2 z.symm]
    exact h3
/-- another base -/
theorem Sim.base (S : Sim pa G0 B G H σ ρ F) : Sim pa G B G H σ ρ F := ⟨S.sl, S.pt, Ex.refl G, S.gh, S.bh, fun _ _ e => e, S.nd, S.fr, S.pot⟩
theorem Sim.back {G1 : Hp} {σ1 : L2.St} {H1 : Hp} {ρ1 : Env'} {F1 : List Addr} (S1 : Sim pa G0 B G1 H1 σ1 ρ1 F1) (S : Sim pa G1 B G H σ ρ F) : Sim pa G0 B G H σ ρ F :=
  ⟨S.sl, S.pt, S1.gg.trans S.gg, S.gh, S.bh, fun a n e => S.gb a n (S1.gb a n e), S.nd, S.fr, S.pot⟩
end

/-! ### statements -/
structure DV where
  nx : Env' → Prop
  rt : Slot → Prop
  bk : Env' → Prop := fun _ => False
  ct : Env' → Prop := fun _ => False
structure SimR (pa : Option Addr) (G0 B G H : Hp) (v : V) (r : Slot) (F : List Addr) : Prop where
  hr : HoldsS G H v r F
  gg : Ex G0 G
  gh : Ex G H
  bh : Ex B H
  gb : ∀ a, B a ≠ none → G0 a = none → G a = none
  nd : F.Nodup
  fr : ∀ a ∈ F, B a = none ∧ G a = none ∧ some a ≠ pa
  pot : ∀ a, pa = some a → IsPot H a ∧ G a = none ∧ B a = none
structure Link (pa : Option Addr) (G0 B : Hp) (D : Ends) (E : DV) : Prop where
  nx : ∀ G H σ ρ F, Sim pa G0 B G H σ ρ F → E.nx ρ → D.nx σ H
  rt : ∀ G H v r F, SimR pa G0 B G H v r F → E.rt r → D.rt v H
  bk : ∀ G H σ ρ F, Sim pa G0 B G H σ ρ F → E.bk ρ → D.bk σ H
  ct : ∀ G H σ ρ F, Sim pa G0 B G H σ ρ F → E.ct ρ → D.ct σ H
abbrev WS := DV → Env' → Prop
def TSok (t : TS) (w : WS) : Prop := ∀ (pa : Option Addr) (G0 B : Hp) (D : Ends) (E : DV), Link pa G0 B D E → ∀ (G H : Hp) (σ : L2.St) (ρ : Env') (F : List Addr), Sim pa G0 B G H σ ρ F → w E ρ → t D σ H
structure VS (X : Cx) (st : Stmt) (t : TS) (w : WS) : Prop where
  ps : PS X st t
  ok : TSok t w
structure VSs (X : Cx) (st : List Stmt) (t : TS) (w : WS) : Prop where
  ps : PSs X st t
  ok : TSok t w
def Env'.set (ρ : Env') (i : Nat) (s : Slot) : Env' := ⟨ρ.p, ρ.l.set i (some s)⟩

/-! blocks -/
def wNext : WS := fun E ρ => E.nx ρ
def wSeqS (a b : WS) : WS := fun E ρ => a { E with nx := b E } ρ
theorem tok_next : TSok tNext wNext := fun pa G0 B D E L G H σ ρ F S h => L.nx G H σ ρ F S h
theorem tok_seq {t u : TS} {a b : WS} (h1 : TSok t a) (h2 : TSok u b) : TSok (tSeq t u) (wSeqS a b) := fun pa G0 B D E L G H σ ρ F S h =>
  h1 pa G0 B { D with nx := u D } { E with nx := b E } ⟨fun G' H' σ' ρ' F' S' q => h2 pa G0 B D E L G' H' σ' ρ' F' S' q, L.rt, L.bk, L.ct⟩ G H σ ρ F S h
section
variable {X : Cx} {st : Stmt} {rest : List Stmt} {t u : TS} {a b : WS} {e : Expr} {te : TE} {we : WE} {pos : Pos}
theorem ssnil : VSs X [] tNext wNext := ⟨pss_nil, tok_next⟩
theorem sscons (h1 : VS X st t a) (h2 : VSs X rest u b) : VSs X (st :: rest) (tSeq t u) (wSeqS a b) := ⟨pss_cons h1.ps h2.ps, tok_seq h1.ok h2.ok⟩
theorem ssone (h1 : VS X st t a) : VSs X [st] t a := ⟨pss_one h1.ps, h1.ok⟩
/-- freeze the slot i ahead -/
def wFz (i : Nat) (w : WS) : WS := fun E ρ => match ρ.l[i]? with
  | some (some (.o d)) => w E (ρ.set i (.v d))
  | some (some (.v _)) => w E ρ
  | _ => False
theorem tok_fz {i : Nat} (h : TSok t a) : TSok t (wFz i a) := by
  intro pa G0 B D E L G H σ ρ F S q
  unfold wFz at q
  split at q
  · rename_i d hd
    obtain ⟨G1, F1, S1⟩ := S.freeze hd
    exact h pa G0 B D E L G1 H σ _ F1 S1 q
  · exact h pa G0 B D E L G H σ ρ F S q
  · exact q.elim
theorem sfz (i : Nat) (h : VS X st t a) : VS X st t (wFz i a) := ⟨h.ps, tok_fz h.ok⟩
/-- forget the slot i ahead -/
def wDrp (i : Nat) (w : WS) : WS := fun E ρ => w E ⟨ρ.p, ρ.l.set i none⟩
theorem tok_drp {i : Nat} (h : TSok t a) : TSok t (wDrp i a) := fun pa G0 B D E L G H σ ρ F S q =>
  let ⟨F1, S1⟩ := S.forget i
  h pa G0 B D E L G H σ _ F1 S1 q
theorem spass : VS X (.Pass pos) tNext wNext := ⟨ps_pass, tok_next⟩
def wBrk : WS := fun E ρ => E.bk ρ
def wCtn : WS := fun E ρ => E.ct ρ
theorem sbreak : VS X (.Break pos) tBreak wBrk := ⟨ps_break, fun pa G0 B D E L G H σ ρ F S h => L.bk G H σ ρ F S h⟩
theorem scont : VS X (.Continue pos) tCont wCtn := ⟨ps_continue, fun pa G0 B D E L G H σ ρ F S h => L.ct G H σ ρ F S h⟩
def wNever : WS := fun _ _ => False
theorem snever : VS X st tNever wNever := ⟨ps_never, fun pa G0 B D E L G H σ ρ F S h => h.elim⟩
theorem ssnever {sts : List Stmt} : VSs X sts tNever wNever := ⟨pss_never, fun pa G0 B D E L G H σ ρ F S h => h.elim⟩

/-! an expression alone -/
def wDropS (we : WE) : WS := fun E ρ => we (vB ρ) fun _ => E.nx ρ
theorem tok_drop (h : TEok te we) : TSok (tDrop te) (wDropS we) := fun pa G0 B D E L G H σ ρ F S q =>
  h pa (addF G H F) H σ (vB ρ) _ _ S.viewB S.ex q fun v G' H' d s r q => L.nx _ H' σ ρ F (S.evB s) q
theorem sexpr (h : VE X e te we) (hs : swapsWith e none pos.line X.env = pure false := by rfl) : VS X (.Expr e pos) (tDrop te) (wDropS we) := ⟨ps_expr h.pe hs, tok_drop h.ok⟩

/-! return -/
def wRet (we : WE) : WS := fun E ρ => we (vB ρ) fun d => E.rt (.v d)
def wRetO (we : WE) : WS := fun E ρ => we (vB ρ) fun d => E.rt (.o d)
def wRetN (i : Nat) : WS := fun E ρ => match ρ.l[i]? with
  | some (some s) => E.rt s
  | _ => False
def wRetNone : WS := fun E _ => E.rt (.v .none)
theorem Sim.ret {pa : Option Addr} {G0 B G H G' H' : Hp} {σ : L2.St} {ρ : Env'} {F : List Addr} {v : V} {r : Slot} {F2 : List Addr} (S : Sim pa G0 B G H σ ρ F) (s : Step pa (addF G H F) H G' H') (h : HoldsS G' H' v r F2) (nd : F2.Nodup) (fr : ∀ a ∈ F2, H a = none ∧ G' a = none) :
    SimR pa G0 B G' H' v r F2 := by
  refine ⟨h, fun a o q => ?_, s.gh, fun a o q => ?_, fun a n e => ?_, nd, fun a m => ⟨?_, (fr a m).2, fun z => (S.pot a z.symm).2.1.ne (fr a m).1⟩, fun a e => ?_⟩
  · have z := S.gg a o q
    exact s.g a o (by unfold addF; rw [if_neg fun m => by rw [(S.fr a m).2.1] at z; cases z]; exact z)
  · by_cases z : some a = pa
    · rw [(S.pot a z.symm).2.2.2] at q; cases q
    · exact s.h a o z (S.bh a o q)
  · refine s.fr a ?_ ?_
    · cases q : B a with
      | none => exact absurd q n
      | some o => rw [S.bh a o q]; simp
    · unfold addF
      rw [if_neg fun m => n (S.fr a m).1]
      exact S.gb a n e
  · cases q : B a with
    | none => rfl
    | some o => have z := S.bh a o q; rw [(fr a m).1] at z; cases z
  · obtain ⟨h1, h2, h3, h4⟩ := S.pot a e
    refine ⟨s.p a e h2, s.fr a h2.ne ?_, h4⟩
    unfold addF
    rw [if_neg fun m => (S.fr a m).2.2 e.symm]
    exact h3
theorem tok_ret (h : TEok te we) : TSok (tRet te) (wRet we) := fun pa G0 B D E L G H σ ρ F S q =>
  h pa (addF G H F) H σ (vB ρ) _ _ S.viewB S.ex q fun v G' H' d s r q => L.rt G' H' v (.v d) [] (S.ret s ⟨r, rfl⟩ List.nodup_nil fun a m => nomatch m) q
theorem tok_retO (h : TOok te we) : TSok (tRet te) (wRetO we) := fun pa G0 B D E L G H σ ρ F S q =>
  h pa (addF G H F) H σ (vB ρ) _ _ S.viewB S.ex q fun v G' H' d F2 s r nd fr q => L.rt G' H' v (.o d) F2 (S.ret s r nd fr) q
theorem tok_retN {i : Nat} : TSok (tRet (tVar i)) (wRetN i) := by
  intro pa G0 B D E L G H σ ρ F S q
  unfold wRetN at q
  split at q
  · rename_i s hs
    obtain ⟨Fi, Fr, p, h4, _, _⟩ := SimL.focus i S.sl (List.getElem?_eq_some_iff.mp hs).1
    obtain ⟨v, h1, h2⟩ := h4 _ hs
    exact ⟨v, h1, L.rt G H v s Fi ⟨h2, S.gg, S.gh, S.bh, S.gb, (List.nodup_append.mp (p.nodup_iff.mp S.nd)).1, fun a m => S.fr a (p.mem_iff.mpr (List.mem_append_left _ m)), fun a e => let ⟨_, x, y, z⟩ := S.pot a e; ⟨x, y, z⟩⟩ q⟩
  · exact q.elim
theorem tok_retNone : TSok tRetN wRetNone := fun pa G0 B D E L G H σ ρ F S q => L.rt G H .non (.v .none) [] ⟨⟨.non, rfl⟩, S.gg, S.gh, S.bh, S.gb, List.nodup_nil, (fun a m => nomatch m), fun a e => let ⟨_, x, y, z⟩ := S.pot a e; ⟨x, y, z⟩⟩ q
theorem sret (h : VE X e te we) : VS X (.Return (some e) pos) (tRet te) (wRet we) := ⟨ps_ret h.pe, tok_ret h.ok⟩
theorem sretO (h : VO X e te we) : VS X (.Return (some e) pos) (tRet te) (wRetO we) := ⟨ps_ret h.pe, tok_retO h.ok⟩
theorem sretN (i : Nat) {x : Str} {p : Pos} (h : PE X (.Name x p) (tVar i)) : VS X (.Return (some (.Name x p)) pos) (tRet (tVar i)) (wRetN i) := ⟨ps_ret h, tok_retN⟩
theorem sretNone : VS X (.Return none pos) tRetN wRetNone := ⟨ps_retN, tok_retNone⟩

/-! if -/
def wIfS (wc : WC) (a b : WS) : WS := fun E ρ => wc (vB ρ) fun k => if k = true then a E ρ else b E ρ
theorem tok_if {tc : TT} {wc : WC} (hc : TTok tc wc) (h1 : TSok t a) (h2 : TSok u b) : TSok (tIfS tc t u) (wIfS wc a b) := fun pa G0 B D E L G H σ ρ F S q =>
  hc pa (addF G H F) H σ (vB ρ) _ _ S.viewB S.ex q fun k G' H' s q => by
    cases k with
    | true =>
      rw [if_pos rfl] at q ⊢
      exact h1 pa G0 B D E L _ H' σ ρ F (S.evB s) q
    | false =>
      rw [if_neg Bool.false_ne_true] at q ⊢
      exact h2 pa G0 B D E L _ H' σ ρ F (S.evB s) q
theorem sif {c : Expr} {sa sb : List Stmt} {tc : TT} {wc : WC} (hc : VC X c tc wc) (h1 : VSs X sa t a) (h2 : VSs X sb u b) : VS X (.If c sa sb pos) (tIfS tc t u) (wIfS wc a b) := ⟨ps_if hc.pe h1.ps h2.ps, tok_if hc.ok h1.ok h2.ok⟩

/-! name = e -/
/-- lent, the answer without lists; from frozen ones alone; a new thing of one's own -/
def wAsg (i : Nat) (we : WE) : WS := fun E ρ => we (vB ρ) fun d => lf d = true ∧ E.nx (ρ.set i (.v d))
def wAsgF (i : Nat) (we : WE) : WS := fun E ρ => we (vF ρ) fun d => E.nx (ρ.set i (.v d))
def wAsgO (i : Nat) (we : WE) : WS := fun E ρ => we (vB ρ) fun d => olf d = true ∧ E.nx (ρ.set i (.o d))
def wAsgOF (i : Nat) (we : WE) : WS := fun E ρ => we (vF ρ) fun d => E.nx (ρ.set i (.o d))
theorem tok_asg {i : Nat} (h0 : i ≠ 0) (h : TEok te we) : TSok (tAsg te (gName i)) (wAsg i we) := fun pa G0 B D E L G H σ ρ F S q =>
  h pa (addF G H F) H σ (vB ρ) _ _ S.viewB S.ex q fun v G' H' d s r q => by
    obtain ⟨F', S'⟩ := (S.evB s).put h0 (s := .v d) (v := v) (F2 := []) ⟨r.drop (S.noTup s) q.1, rfl⟩ List.nodup_nil (fun a m => nomatch m) (fun a m => nomatch m)
    exact L.nx _ H' _ _ F' S' q.2
theorem tok_asgF {i : Nat} (h0 : i ≠ 0) (h : TEok te we) : TSok (tAsg te (gName i)) (wAsgF i we) := fun pa G0 B D E L G H σ ρ F S q =>
  h pa G H σ (vF ρ) _ _ S.viewF S.gh q fun v G' H' d s r q => by
    obtain ⟨F', S'⟩ := (S.evF s).put h0 (s := .v d) (v := v) (F2 := []) ⟨r, rfl⟩ List.nodup_nil (fun a m => nomatch m) (fun a m => nomatch m)
    exact L.nx _ H' _ _ F' S' q
theorem Sim.new {pa : Option Addr} {G0 B G H : Hp} {σ : L2.St} {ρ : Env'} {F : List Addr} (S : Sim pa G0 B G H σ ρ F) {a : Addr} (n : H a = none) : B a = none ∧ some a ≠ pa ∧ a ∉ F :=
  ⟨(by
    cases q : B a with
    | none => rfl
    | some o => have z := S.bh a o q; rw [n] at z; cases z), (fun z => (S.pot a z.symm).2.1.ne n), fun m => S.ne m n⟩
theorem tok_asgO {i : Nat} (h0 : i ≠ 0) (h : TOok te we) : TSok (tAsg te (gName i)) (wAsgO i we) := fun pa G0 B D E L G H σ ρ F S q =>
  h pa (addF G H F) H σ (vB ρ) _ _ S.viewB S.ex q fun v G' H' d F2 s r nd fr q => by
    obtain ⟨F', S'⟩ := (S.evB s).put h0 (s := .o d) (v := v) (F2 := F2) (show Own _ _ _ _ _ from r.drop (S.noTup s) q.1) nd (fun a m => ⟨(S.new (fr a m).1).1, by
      unfold subF
      split
      · rfl
      · exact (fr a m).2, (S.new (fr a m).1).2.1⟩) (fun a m => (S.new (fr a m).1).2.2)
    exact L.nx _ H' _ _ F' S' q.2
theorem tok_asgOF {i : Nat} (h0 : i ≠ 0) (h : TOok te we) : TSok (tAsg te (gName i)) (wAsgOF i we) := fun pa G0 B D E L G H σ ρ F S q =>
  h pa G H σ (vF ρ) _ _ S.viewF S.gh q fun v G' H' d F2 s r nd fr q => by
    obtain ⟨F', S'⟩ := (S.evF s).put h0 (s := .o d) (v := v) (F2 := F2) (show Own _ _ _ _ _ from r) nd (fun a m => ⟨(S.new (fr a m).1).1, (fr a m).2, (S.new (fr a m).1).2.1⟩) (fun a m => (S.new (fr a m).1).2.2)
    exact L.nx _ H' _ _ F' S' q
section
variable {i : Nat} {x : Str} {p : Pos}
theorem sasg (hN : X.N.Nodup) (h : VE X e te we) (h0 : i ≠ 0 := by decide) (hi : X.N[i]? = some x := by rfl) (hx : Loc X.env.scope x := by first | exact Or.inl rfl | exact Or.inr rfl) (hs : swapsWith e (some (.Name x p)) pos.line X.env = pure false := by rfl) (hf : X.fn x = true ∨ X.env.scope.names.lookup x = some .local := by first | exact .inl rfl | exact .inr rfl) :
    VS X (.Assign [.Name x p] e pos) (tAsg te (gName i)) (wAsg i we) := ⟨ps_set hN hi hx h.pe hs hf, tok_asg h0 h.ok⟩
theorem sasgF (hN : X.N.Nodup) (h : VE X e te we) (h0 : i ≠ 0 := by decide) (hi : X.N[i]? = some x := by rfl) (hx : Loc X.env.scope x := by first | exact Or.inl rfl | exact Or.inr rfl) (hs : swapsWith e (some (.Name x p)) pos.line X.env = pure false := by rfl) (hf : X.fn x = true ∨ X.env.scope.names.lookup x = some .local := by first | exact .inl rfl | exact .inr rfl) :
    VS X (.Assign [.Name x p] e pos) (tAsg te (gName i)) (wAsgF i we) := ⟨ps_set hN hi hx h.pe hs hf, tok_asgF h0 h.ok⟩
theorem sasgO (hN : X.N.Nodup) (h : VO X e te we) (h0 : i ≠ 0 := by decide) (hi : X.N[i]? = some x := by rfl) (hx : Loc X.env.scope x := by first | exact Or.inl rfl | exact Or.inr rfl) (hs : swapsWith e (some (.Name x p)) pos.line X.env = pure false := by rfl) (hf : X.fn x = true ∨ X.env.scope.names.lookup x = some .local := by first | exact .inl rfl | exact .inr rfl) :
    VS X (.Assign [.Name x p] e pos) (tAsg te (gName i)) (wAsgO i we) := ⟨ps_set hN hi hx h.pe hs hf, tok_asgO h0 h.ok⟩
theorem sasgOF (hN : X.N.Nodup) (h : VO X e te we) (h0 : i ≠ 0 := by decide) (hi : X.N[i]? = some x := by rfl) (hx : Loc X.env.scope x := by first | exact Or.inl rfl | exact Or.inr rfl) (hs : swapsWith e (some (.Name x p)) pos.line X.env = pure false := by rfl) (hf : X.fn x = true ∨ X.env.scope.names.lookup x = some .local := by first | exact .inl rfl | exact .inr rfl) :
    VS X (.Assign [.Name x p] e pos) (tAsg te (gName i)) (wAsgOF i we) := ⟨ps_set hN hi hx h.pe hs hf, tok_asgOF h0 h.ok⟩
end
/-! name = [.. for ..] on one line -/
section
variable {elt tg iter : Expr} {ifs : List Expr} {scope : Scope} {own : List (Str × Nat)} {cpos : Pos} {wi : TI} {wiD : WA} {g : TG} {tt : TT} {te' : TE} {wg : WGv} {wt : WC} {we' : WE} {i : Nat} {y : Str} {py : Pos}
theorem ps_lcs (hc : X.calm = true) (hN : X.N.Nodup) (hy : X.N[i]? = some y) (hyl : X.env.scope.names.lookup y = some .local) (hsw : swapsWith (.ListComp elt [⟨tg, iter, ifs, 0⟩] scope cpos) (some (.Name y py)) pos.line X.env = pure true) (hi : VI X tg iter wi wiD) (ok : BlkOk X.N X.env.scope scope own)
    (hg : ∀ s H C cl fp, VG (Blk X scope s H C cl fp) tg (own.map (·.2)) g wg) (ht : ∀ s H C cl fp, VTs (Blk X scope s H C cl fp) ifs tt wt) (he : ∀ s H C cl fp, VE (Blk X scope s H C cl fp) elt te' we')
    (hs : ∀ x, foldedSetIterable iter X.env x = pure x) : PS X (.Assign [.Name y py] (.ListComp elt [⟨tg, iter, ifs, 0⟩] scope cpos) pos) (tAsg (tLc wi g tt te' (own.map (·.2))) (gName i)) :=
  ps_setLc hc hN hy hyl hsw hi.pe ok (fun s H C cl fp => (hg s H C cl fp).pe) (fun s H C cl fp => (ht s H C cl fp).pe) (fun s H C cl fp => (he s H C cl fp).pe) hs
theorem slc (h0 : i ≠ 0) (hv : 0 ∉ own.map (·.2)) (hc : X.calm = true) (hN : X.N.Nodup) (hy : X.N[i]? = some y) (hyl : X.env.scope.names.lookup y = some .local) (hsw : swapsWith (.ListComp elt [⟨tg, iter, ifs, 0⟩] scope cpos) (some (.Name y py)) pos.line X.env = pure true) (hi : VI X tg iter wi wiD) (ok : BlkOk X.N X.env.scope scope own)
    (hg : ∀ s H C cl fp, VG (Blk X scope s H C cl fp) tg (own.map (·.2)) g wg) (ht : ∀ s H C cl fp, VTs (Blk X scope s H C cl fp) ifs tt wt) (he : ∀ s H C cl fp, VE (Blk X scope s H C cl fp) elt te' we')
    (hs : ∀ x, foldedSetIterable iter X.env x = pure x := by intro _; rfl) : VS X (.Assign [.Name y py] (.ListComp elt [⟨tg, iter, ifs, 0⟩] scope cpos) pos) (tAsg (tLc wi g tt te' (own.map (·.2))) (gName i)) (wAsgO i (wLcO wiD wg wt we' (own.map (·.2)))) :=
  ⟨ps_lcs hc hN hy hyl hsw hi ok hg ht he hs, tok_asgO h0 (oko_lc hv hi.ok (hg X.s_0 X.H_0 0 [] []).ok (ht X.s_0 X.H_0 0 [] []).ok (he X.s_0 X.H_0 0 [] []).ok)⟩
theorem slcF (h0 : i ≠ 0) (hv : 0 ∉ own.map (·.2)) (hc : X.calm = true) (hN : X.N.Nodup) (hy : X.N[i]? = some y) (hyl : X.env.scope.names.lookup y = some .local) (hsw : swapsWith (.ListComp elt [⟨tg, iter, ifs, 0⟩] scope cpos) (some (.Name y py)) pos.line X.env = pure true) (hi : VI X tg iter wi wiD) (ok : BlkOk X.N X.env.scope scope own)
    (hg : ∀ s H C cl fp, VG (Blk X scope s H C cl fp) tg (own.map (·.2)) g wg) (ht : ∀ s H C cl fp, VTs (Blk X scope s H C cl fp) ifs tt wt) (he : ∀ s H C cl fp, VE (Blk X scope s H C cl fp) elt te' we')
    (hs : ∀ x, foldedSetIterable iter X.env x = pure x := by intro _; rfl) : VS X (.Assign [.Name y py] (.ListComp elt [⟨tg, iter, ifs, 0⟩] scope cpos) pos) (tAsg (tLc wi g tt te' (own.map (·.2))) (gName i)) (wAsgF i (wLc wiD wg wt we' (own.map (·.2)))) :=
  ⟨ps_lcs hc hN hy hyl hsw hi ok hg ht he hs, tok_asgF h0 (ok_lc hv hi.ok (hg X.s_0 X.H_0 0 [] []).ok (ht X.s_0 X.H_0 0 [] []).ok (he X.s_0 X.H_0 0 [] []).ok)⟩
end

/-! several names at once: each value frozen or new -/
inductive HoldsA (G H : Hp) : List V → List Slot → List Addr → Prop
  | nil : HoldsA G H [] [] []
  | cons {v : V} {vs : List V} {s : Slot} {ss : List Slot} {F F' : List Addr} : HoldsS G H v s F → HoldsA G H vs ss F' → HoldsA G H (v :: vs) (s :: ss) (F ++ F')
theorem HoldsA.mono {G G' H H' : Hp} (e : Ex G G') : ∀ {vs : List V} {ss : List Slot} {F : List Addr}, HoldsA G H vs ss F → Stay F H H' → HoldsA G' H' vs ss F
  | _, _, _, .nil, _ => .nil
  | _, _, _, .cons h r, s => .cons (h.mono e fun a m => s a (List.mem_append_left _ m)) (HoldsA.mono e r fun a m => s a (List.mem_append_right _ m))
abbrev WX := Vw → (List Slot → Prop) → Prop
def TXok (t : TA) (w : WX) : Prop := ∀ (pa : Option Addr) (G H : Hp) (σ : L2.St) (vw : Vw) (P : List Slot → Prop) (Q : List V → Hp → Prop), View pa G H σ vw → Ex G H → w vw P →
  (∀ vs G' H' ss F, Step pa G H G' H' → HoldsA G' H' vs ss F → F.Nodup → (∀ a ∈ F, H a = none ∧ G' a = none) → P ss → Q vs H') → t σ H Q
structure VX (X : Cx) (es : List Expr) (t : TA) (w : WX) : Prop where
  pe : PA X es t
  ok : TXok t w
def wXnil : WX := fun _ P => P []
def wXv (we : WE) (wr : WX) : WX := fun vw P => we vw fun d => wr vw fun ss => P (.v d :: ss)
def wXo (we : WE) (wr : WX) : WX := fun vw P => we vw fun d => wr vw fun ss => P (.o d :: ss)
theorem xok_nil : TXok tNil wXnil := fun pa G H σ vw P Q vi e h k => k [] G H [] [] (Step.refl e) .nil List.nodup_nil (fun a m => nomatch m) h
theorem xok_v {ta : TA} {wr : WX} (h1 : TEok te we) (h2 : TXok ta wr) : TXok (tCons te ta) (wXv we wr) := by
  intro pa G H σ vw P Q vi e h k
  refine h1 pa G H σ vw _ _ vi e h fun v G1 H1 d s1 r1 q1 => ?_
  refine h2 pa G1 H1 σ vw _ _ (vi.step s1) s1.gh q1 fun vs G2 H2 ss F s2 r2 nd fr q2 => ?_
  exact k (v :: vs) G2 H2 (.v d :: ss) ([] ++ F) (s1.trans vi.isPot s2) (.cons ⟨r1.mono s2.g, rfl⟩ r2) nd (fun a m => ⟨none_of_ne (s1.ne vi.isPot) (fr a m).1, (fr a m).2⟩) q2
theorem xok_o {ta : TA} {wr : WX} (h1 : TOok te we) (h2 : TXok ta wr) : TXok (tCons te ta) (wXo we wr) := by
  intro pa G H σ vw P Q vi e h k
  refine h1 pa G H σ vw _ _ vi e h fun v G1 H1 d F1 s1 r1 nd1 fr1 q1 => ?_
  refine h2 pa G1 H1 σ vw _ _ (vi.step s1) s1.gh q1 fun vs G2 H2 ss F s2 r2 nd fr q2 => ?_
  have ne1 : ∀ a ∈ F1, H1 a ≠ none := fun a m => by
    rcases Own.at r1 a m with ⟨_, z⟩ | ⟨_, z⟩ <;> · rw [z]; simp
  have st : Stay F1 H1 H2 := fun a m => by
    cases z : H1 a with
    | none => exact absurd z (ne1 a m)
    | some o => exact s2.h a o (fun y => (vi.isPot a y.symm).ne (fr1 a m).1) z
  refine k (v :: vs) G2 H2 (.o d :: ss) (F1 ++ F) (s1.trans vi.isPot s2) (.cons (show Own G2 H2 v d F1 from r1.mono s2.g st) r2) (List.nodup_append.mpr ⟨nd1, nd, fun a m b m' z => ?_⟩) (fun a m => ?_) q2
  · rw [z] at m
    exact ne1 b m (fr b m').1
  · rcases List.mem_append.mp m with m | m
    · exact ⟨(fr1 a m).1, s2.fr a (ne1 a m) (fr1 a m).2⟩
    · exact ⟨none_of_ne (s1.ne vi.isPot) (fr a m).1, (fr a m).2⟩
section
variable {es : List Expr} {ta : TA} {wr : WX}
theorem xnil : VX X [] tNil wXnil := ⟨pa_nil, xok_nil⟩
theorem xv (h : VE X e te we) (hr : VX X es ta wr) (hs : starEach (e :: es) X.env = (false, eval e X.env) :: starEach es X.env := by rfl) : VX X (e :: es) (tCons te ta) (wXv we wr) := ⟨pa_cons h.pe hr.pe hs, xok_v h.ok hr.ok⟩
theorem xo (h : VO X e te we) (hr : VX X es ta wr) (hs : starEach (e :: es) X.env = (false, eval e X.env) :: starEach es X.env := by rfl) : VX X (e :: es) (tCons te ta) (wXo we wr) := ⟨pa_cons h.pe hr.pe hs, xok_o h.ok hr.ok⟩
end
def slf : Slot → Bool
  | .v d => lf d
  | .o d => olf d
theorem HoldsS.drop {G H : Hp} {F0 : List Addr} (t : ∀ a ∈ F0, ∀ xs, G a ≠ some (.tup xs)) {v : V} {s : Slot} {F : List Addr} (h : HoldsS G H v s F) (l : slf s = true) : HoldsS (subF G F0) H v s F := by
  cases s with
  | v d => exact ⟨h.1.drop t l, h.2⟩
  | o d => exact Own.drop t (show Own G H v d F from h) l
theorem HoldsA.drop {G H : Hp} {F0 : List Addr} (t : ∀ a ∈ F0, ∀ xs, G a ≠ some (.tup xs)) : ∀ {vs : List V} {ss : List Slot} {F : List Addr}, HoldsA G H vs ss F → ss.all slf = true → HoldsA (subF G F0) H vs ss F
  | _, _, _, .nil, _ => .nil
  | _, _, _, .cons h r, l => by
    simp only [List.all_cons, Bool.and_eq_true] at l
    exact .cons (h.drop t l.1) (HoldsA.drop t r l.2)
/-- stored one after another -/
def putAll (ρ : Env') : List Nat → List Slot → Env'
  | i :: is, s :: ss => putAll (ρ.set i s) is ss
  | _, _ => ρ
def setAll (σ : L2.St) : List Nat → List V → L2.St
  | i :: is, v :: vs => setAll (σ.set i (some v)) is vs
  | _, _ => σ
theorem Sim.putAll {pa : Option Addr} {G0 B G H : Hp} : ∀ {is : List Nat} {vs : List V} {ss : List Slot} {F2 : List Addr} {σ : L2.St} {ρ : Env'} {F : List Addr}, Sim pa G0 B G H σ ρ F → (∀ i ∈ is, i ≠ 0) → HoldsA G H vs ss F2 → F2.Nodup → (∀ a ∈ F2, B a = none ∧ G a = none ∧ some a ≠ pa) → (∀ a ∈ F2, a ∉ F) →
    ∃ F', Sim pa G0 B G H (setAll σ is vs) (Vl.putAll ρ is ss) F'
  | [], _, _, _, σ, ρ, F, S, _, _, _, _, _ => ⟨F, by cases ‹List V› <;> cases ‹List Slot› <;> exact S⟩
  | i :: is, _, _, _, σ, ρ, F, S, _, .nil, _, _, _ => ⟨F, S⟩
  | i :: is, _, _, _, σ, ρ, F, S, h0, .cons (F := F1) (F' := F2) h r, nd, fr, ap => by
    obtain ⟨n1, n2, n3⟩ := List.nodup_append.mp nd
    obtain ⟨F', S', hF'⟩ := S.put' (h0 i List.mem_cons_self) h n1 (fun a m => fr a (List.mem_append_left _ m)) (fun a m => ap a (List.mem_append_left _ m))
    have z := Sim.putAll S' (fun j m => h0 j (List.mem_cons_of_mem _ m)) r n2 (fun a m => fr a (List.mem_append_right _ m)) (fun a m m' => by
      rcases hF' a m' with z | z
      · exact n3 a z a m rfl
      · exact ap a (List.mem_append_right _ m) z)
    exact z
def wPar (is : List Nat) (wx : WX) : WS := fun E ρ => wx (vB ρ) fun ss => ss.length = is.length ∧ ss.all slf = true ∧ E.nx (putAll ρ is ss)
def wParF (is : List Nat) (wx : WX) : WS := fun E ρ => wx (vF ρ) fun ss => ss.length = is.length ∧ E.nx (putAll ρ is ss)
end
end Vl
/-! VlG: several names, loops, stores into what is owned; a def by its body. -/
namespace Vl
open PySem PySem.Spec PyProof.Rows L2

/-! ### several names at once -/
theorem HoldsA.len {G H : Hp} : ∀ {vs : List V} {ss : List Slot} {F : List Addr}, HoldsA G H vs ss F → vs.length = ss.length
  | _, _, _, .nil => rfl
  | _, _, _, .cons _ r => by simp [HoldsA.len r]
theorem par_run {t : TA} {wx : WX} {is : List Nat} (h0 : ∀ i ∈ is, i ≠ 0) (h : TXok t wx) {pa : Option Addr} {G0 B : Hp} {D : Ends} {E : DV} (L : Link pa G0 B D E) {G H : Hp} {σ : L2.St} {ρ : Env'} {F : List Addr} (S : Sim pa G0 B G H σ ρ F) (q : wPar is wx E ρ)
    {Q : List V → Hp → Prop} (k : ∀ vs H1, vs.length = is.length → D.nx (setAll σ is vs) H1 → Q vs H1) : t σ H Q :=
  h pa (addF G H F) H σ (vB ρ) _ _ S.viewB S.ex q fun vs G' H' ss F2 s r nd fr q => by
    obtain ⟨q1, q2, q3⟩ := q
    obtain ⟨F', S'⟩ := Sim.putAll (S.evB s) h0 (r.drop (S.noTup s) q2) nd (fun a m => ⟨(S.new (fr a m).1).1, by
      unfold subF
      split
      · rfl
      · exact (fr a m).2, (S.new (fr a m).1).2.1⟩) (fun a m => (S.new (fr a m).1).2.2)
    exact k vs H' (r.len.trans q1) (L.nx _ H' _ _ F' S' q3)
theorem parF_run {t : TA} {wx : WX} {is : List Nat} (h0 : ∀ i ∈ is, i ≠ 0) (h : TXok t wx) {pa : Option Addr} {G0 B : Hp} {D : Ends} {E : DV} (L : Link pa G0 B D E) {G H : Hp} {σ : L2.St} {ρ : Env'} {F : List Addr} (S : Sim pa G0 B G H σ ρ F) (q : wParF is wx E ρ)
    {Q : List V → Hp → Prop} (k : ∀ vs H1, vs.length = is.length → D.nx (setAll σ is vs) H1 → Q vs H1) : t σ H Q :=
  h pa G H σ (vF ρ) _ _ S.viewF S.gh q fun vs G' H' ss F2 s r nd fr q => by
    obtain ⟨q1, q3⟩ := q
    obtain ⟨F', S'⟩ := Sim.putAll (S.evF s) h0 r nd (fun a m => ⟨(S.new (fr a m).1).1, (fr a m).2, (S.new (fr a m).1).2.1⟩) (fun a m => (S.new (fr a m).1).2.2)
    exact k vs H' (r.len.trans q1) (L.nx _ H' _ _ F' S' q3)
theorem two_of {α : Type} {l : List α} (h : l.length = 2) : ∃ a b, l = [a, b] := by
  match l, h with
  | [a, b], _ => exact ⟨a, b, rfl⟩
theorem three_of {α : Type} {l : List α} (h : l.length = 3) : ∃ a b c, l = [a, b, c] := by
  match l, h with
  | [a, b, c], _ => exact ⟨a, b, c, rfl⟩
theorem tok_par2 {t : TA} {wx : WX} {i j : Nat} (h0 : i ≠ 0) (h1 : j ≠ 0) (h : TXok t wx) : TSok (tPar i j t) (wPar [i, j] wx) := fun pa G0 B D E L G H σ ρ F S q =>
  par_run (by simp [h0, h1]) h L S q fun vs H1 hl hq => by
    obtain ⟨v, w, rfl⟩ := two_of hl
    exact ⟨v, w, rfl, hq⟩
theorem tok_par2F {t : TA} {wx : WX} {i j : Nat} (h0 : i ≠ 0) (h1 : j ≠ 0) (h : TXok t wx) : TSok (tPar i j t) (wParF [i, j] wx) := fun pa G0 B D E L G H σ ρ F S q =>
  parF_run (by simp [h0, h1]) h L S q fun vs H1 hl hq => by
    obtain ⟨v, w, rfl⟩ := two_of hl
    exact ⟨v, w, rfl, hq⟩
theorem tok_par3 {t : TA} {wx : WX} {i j l : Nat} (h0 : i ≠ 0) (h1 : j ≠ 0) (h2 : l ≠ 0) (h : TXok t wx) : TSok (tPar3 i j l t) (wPar [i, j, l] wx) := fun pa G0 B D E L G H σ ρ F S q =>
  par_run (by simp [h0, h1, h2]) h L S q fun vs H1 hl hq => by
    obtain ⟨u, v, w, rfl⟩ := three_of hl
    exact ⟨u, v, w, rfl, hq⟩
theorem tok_par3F {t : TA} {wx : WX} {i j l : Nat} (h0 : i ≠ 0) (h1 : j ≠ 0) (h2 : l ≠ 0) (h : TXok t wx) : TSok (tPar3 i j l t) (wParF [i, j, l] wx) := fun pa G0 B D E L G H σ ρ F S q =>
  parF_run (by simp [h0, h1, h2]) h L S q fun vs H1 hl hq => by
    obtain ⟨u, v, w, rfl⟩ := three_of hl
    exact ⟨u, v, w, rfl, hq⟩
section
variable {X : Cx} {i j l : Nat} {x y z : Str} {a b c : Expr} {t : TA} {wx : WX} {px py pz pt pos : Pos} {kt k2 : Nat} {pt2 : Pos}
theorem spar2 (hc : X.calm = true) (hN : X.N.Nodup) (ha : VX X [a, b] t wx) (h0 : i ≠ 0 := by decide) (h1 : j ≠ 0 := by decide) (hi : X.N[i]? = some x := by rfl) (hj : X.N[j]? = some y := by rfl) (hij : i ≠ j := by decide) (hx : X.env.scope.names.lookup x = some .local := by rfl) (hy : X.env.scope.names.lookup y = some .local := by rfl)
    (hw : swappedStores [.Tuple [.Name x px, .Name y py] kt pt] (.Tuple [a, b] k2 pt2) X.env = pure (some [x, y]) := by rfl) (hs : swapsWithSole [.Tuple [.Name x px, .Name y py] kt pt] (.Tuple [a, b] k2 pt2) pos.line X.env = pure false := by rfl) :
    VS X (.Assign [.Tuple [.Name x px, .Name y py] kt pt] (.Tuple [a, b] k2 pt2) pos) (tPar i j t) (wPar [i, j] wx) := ⟨ps_par hc hN hi hj hij hx hy ha.pe hw hs, tok_par2 h0 h1 ha.ok⟩
theorem spar2F (hc : X.calm = true) (hN : X.N.Nodup) (ha : VX X [a, b] t wx) (h0 : i ≠ 0 := by decide) (h1 : j ≠ 0 := by decide) (hi : X.N[i]? = some x := by rfl) (hj : X.N[j]? = some y := by rfl) (hij : i ≠ j := by decide) (hx : X.env.scope.names.lookup x = some .local := by rfl) (hy : X.env.scope.names.lookup y = some .local := by rfl)
    (hw : swappedStores [.Tuple [.Name x px, .Name y py] kt pt] (.Tuple [a, b] k2 pt2) X.env = pure (some [x, y]) := by rfl) (hs : swapsWithSole [.Tuple [.Name x px, .Name y py] kt pt] (.Tuple [a, b] k2 pt2) pos.line X.env = pure false := by rfl) :
    VS X (.Assign [.Tuple [.Name x px, .Name y py] kt pt] (.Tuple [a, b] k2 pt2) pos) (tPar i j t) (wParF [i, j] wx) := ⟨ps_par hc hN hi hj hij hx hy ha.pe hw hs, tok_par2F h0 h1 ha.ok⟩
theorem spar3 (hc : X.calm = true) (hN : X.N.Nodup) (ha : VX X [a, b, c] t wx) (h0 : i ≠ 0 := by decide) (h1 : j ≠ 0 := by decide) (h2 : l ≠ 0 := by decide) (hi : X.N[i]? = some x := by rfl) (hj : X.N[j]? = some y := by rfl) (hl : X.N[l]? = some z := by rfl) (hij : i ≠ j := by decide) (hil : i ≠ l := by decide) (hjl : j ≠ l := by decide)
    (hx : X.env.scope.names.lookup x = some .local := by rfl) (hy : X.env.scope.names.lookup y = some .local := by rfl) (hz : X.env.scope.names.lookup z = some .local := by rfl)
    (hw : swappedStores [.Tuple [.Name x px, .Name y py, .Name z pz] kt pt] (.Tuple [a, b, c] k2 pt2) X.env = pure (some [x, y, z]) := by rfl) (hs : swapsWithSole [.Tuple [.Name x px, .Name y py, .Name z pz] kt pt] (.Tuple [a, b, c] k2 pt2) pos.line X.env = pure false := by rfl) :
    VS X (.Assign [.Tuple [.Name x px, .Name y py, .Name z pz] kt pt] (.Tuple [a, b, c] k2 pt2) pos) (tPar3 i j l t) (wPar [i, j, l] wx) := ⟨ps_par3 hc hN hi hj hl hij hil hjl hx hy hz ha.pe hw hs, tok_par3 h0 h1 h2 ha.ok⟩
theorem spar3F (hc : X.calm = true) (hN : X.N.Nodup) (ha : VX X [a, b, c] t wx) (h0 : i ≠ 0 := by decide) (h1 : j ≠ 0 := by decide) (h2 : l ≠ 0 := by decide) (hi : X.N[i]? = some x := by rfl) (hj : X.N[j]? = some y := by rfl) (hl : X.N[l]? = some z := by rfl) (hij : i ≠ j := by decide) (hil : i ≠ l := by decide) (hjl : j ≠ l := by decide)
    (hx : X.env.scope.names.lookup x = some .local := by rfl) (hy : X.env.scope.names.lookup y = some .local := by rfl) (hz : X.env.scope.names.lookup z = some .local := by rfl)
    (hw : swappedStores [.Tuple [.Name x px, .Name y py, .Name z pz] kt pt] (.Tuple [a, b, c] k2 pt2) X.env = pure (some [x, y, z]) := by rfl) (hs : swapsWithSole [.Tuple [.Name x px, .Name y py, .Name z pz] kt pt] (.Tuple [a, b, c] k2 pt2) pos.line X.env = pure false := by rfl) :
    VS X (.Assign [.Tuple [.Name x px, .Name y py, .Name z pz] kt pt] (.Tuple [a, b, c] k2 pt2) pos) (tPar3 i j l t) (wParF [i, j, l] wx) := ⟨ps_par3 hc hN hi hj hl hij hil hjl hx hy hz ha.pe hw hs, tok_par3F h0 h1 h2 ha.ok⟩
end

/-! ### targets of a loop, of a tuple -/
abbrev WG := PyData → Env' → (Env' → Prop) → Prop
def TGs' (g : TG) (wg : WG) : Prop := ∀ (pa : Option Addr) (G0 B G H : Hp) (σ : L2.St) (ρ : Env') (F : List Addr) (v : V) (d : PyData) (Q : L2.St → Hp → Prop) (Qd : Env' → Prop), Sim pa G0 B G H σ ρ F → Rep G v d → wg d ρ Qd →
  (∀ σ' ρ' F', Sim pa G0 B G H σ' ρ' F' → Qd ρ' → Q σ' H) → g v σ H Q
structure ST (X : Cx) (tg : Expr) (g : TG) (wg : WG) : Prop where
  pe : PG X tg g
  ok : TGs' g wg
def wgN (i : Nat) : WG := fun d ρ Q => Q (ρ.set i (.v d))
def wgT (is : List Nat) : WG := fun d ρ Q => match d with
  | .tuple ds => ds.length = is.length ∧ Q (putAll ρ is (ds.map .v))
  | _ => False
theorem tgs_name {i : Nat} (h0 : i ≠ 0) : TGs' (gName i) (wgN i) := fun pa G0 B G H σ ρ F v d Q Qd S r h k => by
  obtain ⟨F', S'⟩ := S.put h0 (s := .v d) (v := v) (F2 := []) ⟨r, rfl⟩ List.nodup_nil (fun a m => nomatch m) (fun a m => nomatch m)
  exact k _ _ F' S' h
theorem tgs_many : ∀ (is : List Nat), (∀ i ∈ is, i ≠ 0) → ∀ (pa : Option Addr) (G0 B G H : Hp) (σ : L2.St) (ρ : Env') (F : List Addr) (us : List V) (ds : List PyData) (Q : L2.St → Hp → Prop) (Qd : Env' → Prop), Sim pa G0 B G H σ ρ F → RepA G us ds → ds.length = is.length → Qd (putAll ρ is (ds.map .v)) →
    (∀ σ' ρ' F', Sim pa G0 B G H σ' ρ' F' → Qd ρ' → Q σ' H) → gNames is us σ H Q
  | [], _, pa, G0, B, G, H, σ, ρ, F, us, ds, Q, Qd, S, r, hl, h, k => by
    obtain rfl : ds = [] := List.length_eq_zero_iff.mp hl
    cases r
    exact ⟨rfl, k σ ρ F S h⟩
  | i :: is, hi, pa, G0, B, G, H, σ, ρ, F, us, d :: ds, Q, Qd, S, r, hl, h, k => by
    cases r with
    | cons r1 rs =>
      obtain ⟨F', S'⟩ := S.put (hi i List.mem_cons_self) (s := .v d) (F2 := []) ⟨r1, rfl⟩ List.nodup_nil (fun a m => nomatch m) (fun a m => nomatch m)
      exact ⟨_, _, rfl, tgs_many is (fun j m => hi j (List.mem_cons_of_mem _ m)) pa G0 B G H _ _ F' _ ds Q Qd S' rs (by simpa using hl) h k⟩
  | i :: is, hi, pa, G0, B, G, H, σ, ρ, F, us, [], Q, Qd, S, r, hl, h, k => by simp at hl
theorem tgs_tup {K : PySem.W.Frag} {is : List Nat} (hi : ∀ i ∈ is, i ≠ 0) : TGs' (gTup K is.length (gNames is)) (wgT is) := by
  intro pa G0 B G H σ ρ F v d Q Qd S r h k
  unfold wgT at h
  split at h
  · obtain ⟨a, us, rfl, q, r'⟩ := rep_tup r
    exact ⟨a, us, rfl, SqT.of (S.gh _ _ q), by rw [r'.length]; exact h.1, tgs_many is hi pa G0 B G H σ ρ F us _ Q Qd S r' h.1 h.2 k⟩
  · exact h.elim
section
variable {X : Cx}
theorem stN {i : Nat} {x : Str} {p : Pos} (hN : X.N.Nodup) (h0 : i ≠ 0 := by decide) (hi : X.N[i]? = some x := by rfl) (hx : Loc X.env.scope x := by first | exact Or.inl rfl | exact Or.inr rfl) (hf : X.fn x = true ∨ X.env.scope.names.lookup x = some .local := by first | exact .inl rfl | exact .inr rfl) : ST X (.Name x p) (gName i) (wgN i) :=
  ⟨pg_name hN hi hx hf, tgs_name h0⟩
theorem stT {es : List Expr} {is : List Nat} {k : Nat} {pos : Pos} (hc : X.calm = true) (h : VGs X es is) (hv : ∀ i ∈ is, i ≠ 0 := by decide) (hn : (assignEach es X.env).length = is.length := by rfl) (hst : (assignEach es X.env).findIdx? (·.1) = none := by rfl) :
    ST X (.Tuple es k pos) (gTup X.K is.length (gNames is)) (wgT is) := ⟨pg_tup hc h.pe hn hst, tgs_tup hv⟩
end
/-- a, b = e: from frozen ones alone; lent, the answer without lists -/
def wAsgTF (wg : WG) (we : WE) : WS := fun E ρ => we (vF ρ) fun d => wg d ρ E.nx
def wAsgT (wg : WG) (we : WE) : WS := fun E ρ => we (vB ρ) fun d => lf d = true ∧ wg d ρ E.nx
theorem tok_asgTF {te : TE} {we : WE} {g : TG} {wg : WG} (h : TEok te we) (hg : TGs' g wg) : TSok (tAsg te g) (wAsgTF wg we) := fun pa G0 B D E L G H σ ρ F S q =>
  h pa G H σ (vF ρ) _ _ S.viewF S.gh q fun v G' H' d s r q => hg pa G0 B G' H' σ ρ F v d D.nx E.nx (S.evF s) r q fun σ' ρ' F' S' q' => L.nx G' H' σ' ρ' F' S' q'
theorem tok_asgT {te : TE} {we : WE} {g : TG} {wg : WG} (h : TEok te we) (hg : TGs' g wg) : TSok (tAsg te g) (wAsgT wg we) := fun pa G0 B D E L G H σ ρ F S q =>
  h pa (addF G H F) H σ (vB ρ) _ _ S.viewB S.ex q fun v G' H' d s r q => hg pa G0 B _ H' σ ρ F v d D.nx E.nx (S.evB s) (r.drop (S.noTup s) q.1) q.2 fun σ' ρ' F' S' q' => L.nx _ H' σ' ρ' F' S' q'
section
variable {X : Cx} {e tg : Expr} {te : TE} {we : WE} {g : TG} {wg : WG} {pos : Pos}
theorem sasgTF (h : VE X e te we) (hg : ST X tg g wg) (hs : swapsWithSole [tg] e pos.line X.env = pure false := by rfl) (hw : swappedStores [tg] e X.env = pure none := by rfl) (h1 : (assignEach [tg] X.env).map (·.2) = [assign tg X.env] := by rfl) : VS X (.Assign [tg] e pos) (tAsg te g) (wAsgTF wg we) := ⟨ps_asg h.pe hg.pe hs hw h1, tok_asgTF h.ok hg.ok⟩
theorem sasgT (h : VE X e te we) (hg : ST X tg g wg) (hs : swapsWithSole [tg] e pos.line X.env = pure false := by rfl) (hw : swappedStores [tg] e X.env = pure none := by rfl) (h1 : (assignEach [tg] X.env).map (·.2) = [assign tg X.env] := by rfl) : VS X (.Assign [tg] e pos) (tAsg te g) (wAsgT wg we) := ⟨ps_asg h.pe hg.pe hs hw h1, tok_asgT h.ok hg.ok⟩
end

/-! ### while -/
def wWhile (wc : WC) (wb : WS) : WS := fun E ρ => ∃ I : Nat → Env' → Prop, (∃ m, I m ρ) ∧ ∀ m ρ, I m ρ → wc (vB ρ) fun b => if b = true then wb { E with nx := fun ρ' => ∃ m', m' < m ∧ I m' ρ', ct := fun ρ' => ∃ m', m' < m ∧ I m' ρ', bk := E.nx } ρ else E.nx ρ
theorem tok_while {c : TT} {tb : TS} {wc : WC} {wb : WS} (hc : TTok c wc) (hb : TSok tb wb) : TSok (tWhile c tb) (wWhile wc wb) := by
  intro pa G0 B D E L G H σ ρ F S ⟨I, ⟨m0, i0⟩, turn⟩
  refine ⟨fun m σ H => ∃ G ρ F, Sim pa G0 B G H σ ρ F ∧ I m ρ, ⟨m0, G, ρ, F, S, i0⟩, ?_⟩
  rintro m σ1 H1 ⟨G1, ρ1, F1, S1, i1⟩
  refine hc pa (addF G1 H1 F1) H1 σ1 (vB ρ1) _ _ S1.viewB S1.ex (turn m ρ1 i1) fun b G' H' s q => ?_
  have S2 := S1.evB s
  cases b with
  | true =>
    rw [if_pos rfl] at q ⊢
    refine ⟨fun σ' H' => ∃ G ρ F, Sim pa G0 B G H' σ' ρ F ∧ ∃ m', m' < m ∧ I m' ρ, ?_, ?_⟩
    · rintro σ' H2 ⟨G2, ρ2, F2, S3, m', hm, i2⟩
      exact ⟨m', hm, G2, ρ2, F2, S3, i2⟩
    · exact hb pa G0 B { D with nx := fun σ' H' => ∃ G ρ F, Sim pa G0 B G H' σ' ρ F ∧ ∃ m', m' < m ∧ I m' ρ, ct := fun σ' H' => ∃ G ρ F, Sim pa G0 B G H' σ' ρ F ∧ ∃ m', m' < m ∧ I m' ρ, bk := D.nx } { E with nx := fun ρ' => ∃ m', m' < m ∧ I m' ρ', ct := fun ρ' => ∃ m', m' < m ∧ I m' ρ', bk := E.nx } ⟨fun G2 H2 σ2 ρ2 F2 S3 q3 => ⟨G2, ρ2, F2, S3, q3⟩, L.rt, fun G2 H2 σ2 ρ2 F2 S3 q3 => L.nx G2 H2 σ2 ρ2 F2 S3 q3, fun G2 H2 σ2 ρ2 F2 S3 q3 => ⟨G2, ρ2, F2, S3, q3⟩⟩ _ H' σ1 ρ1 F1 S2 q
  | false =>
    rw [if_neg Bool.false_ne_true] at q ⊢
    exact L.nx _ H' σ1 ρ1 F1 S2 q
theorem swhile {X : Cx} {c : Expr} {body : List Stmt} {tc : TT} {tb : TS} {wc : WC} {wb : WS} {pos : Pos} (hp : PassesOwn (model X.prog X.w) X.A X.env X.xe) (hc : VC X c tc wc) (hb : VSs X body tb wb) : VS X (.While c body [] pos) (tWhile tc tb) (wWhile wc wb) := ⟨ps_while hp hc.pe hb.ps, tok_while hc.ok hb.ok⟩

/-! ### for -/
def forInv (wg : WG) (wb : WS) (E : DV) (ds : List PyData) (ρ : Env') : Prop := ∃ I : Nat → Env' → Prop, I 0 ρ ∧
  (∀ i ρ d, ds[i]? = some d → I i ρ → wg d ρ fun ρ1 => wb { E with nx := I (i + 1), ct := I (i + 1), bk := E.nx } ρ1) ∧ ∀ ρ, I ds.length ρ → E.nx ρ
def forGo (wg : WG) (wb : WS) (E : DV) : List PyData → Env' → Prop
  | [], ρ => E.nx ρ
  | d :: ds, ρ => wg d ρ fun ρ1 => wb { E with nx := forGo wg wb E ds, ct := forGo wg wb E ds, bk := E.nx } ρ1
theorem forGo_inv {wg : WG} {wb : WS} {E : DV} {ds : List PyData} {ρ : Env'} (h : forGo wg wb E ds ρ) : forInv wg wb E ds ρ := by
  refine ⟨fun i ρ => forGo wg wb E (ds.drop i) ρ, h, fun i ρ d hd q => ?_, fun ρ q => ?_⟩
  · have hl := (List.getElem?_eq_some_iff.mp hd).1
    have q' : forGo wg wb E (ds.drop i) ρ := q
    rw [List.drop_eq_getElem_cons hl, (List.getElem?_eq_some_iff.mp hd).2] at q'
    exact q'
  · have q' : forGo wg wb E (ds.drop ds.length) ρ := q
    rw [List.drop_length] at q'
    exact q'
def wFor (wi : WA) (wg : WG) (wb : WS) : WS := fun E ρ => wi (vF ρ) fun ds => forInv wg wb E ds ρ
theorem Link.base {pa : Option Addr} {G0 B : Hp} {D : Ends} {E : DV} {G H : Hp} {σ : L2.St} {ρ : Env'} {F : List Addr} (S : Sim pa G0 B G H σ ρ F) (L : Link pa G0 B D E) : Link pa G B D E :=
  ⟨fun G' H' σ' ρ' F' S' q => L.nx G' H' σ' ρ' F' (S.back S') q, fun G' H' v r F' S' q => L.rt G' H' v r F' ⟨S'.hr, S.gg.trans S'.gg, S'.gh, S'.bh, fun a n e => S'.gb a n (S.gb a n e), S'.nd, S'.fr, S'.pot⟩ q,
    fun G' H' σ' ρ' F' S' q => L.bk G' H' σ' ρ' F' (S.back S') q, fun G' H' σ' ρ' F' S' q => L.ct G' H' σ' ρ' F' (S.back S') q⟩
theorem for_run {wi : TI} {g : TG} {tb : TS} {wg : WG} {wb : WS} (hg : TGs' g wg) (hb : TSok tb wb) {pa : Option Addr} {G0 B : Hp} {D : Ends} {E : DV} (L : Link pa G0 B D E) {G H : Hp} {σ : L2.St} {ρ : Env'} {F : List Addr} (S : Sim pa G0 B G H σ ρ F) {J : It} {ds : List PyData} (wd : WalkD J G ds) (q : forInv wg wb E ds ρ) :
    ∃ W : Nat → Nat → L2.St → Hp → Prop, (∃ m, W 0 m σ H) ∧ ∀ i m σ H, W i m σ H →
      (J.stop i H ∧ D.nx σ H) ∨ (J.go i H ∧ ∃ N : L2.St → Hp → Prop, (∀ σ' H', N σ' H' → ∃ m', m' < m ∧ W (i + 1) m' σ' H') ∧ ∀ x H', J.yld i H x H' → g x σ H' fun σ2 H2 => tb { D with nx := N, ct := N, bk := D.nx } σ2 H2) := by
  obtain ⟨Gc, Y, wk, hGc, hY⟩ := wd
  obtain ⟨I, i0, turn, fin⟩ := q
  have LB := Link.base S L
  refine for_it wk (fun i σ' H' => ∃ G' ρ' F', Sim pa G B G' H' σ' ρ' F' ∧ I i ρ') ⟨G, ρ, F, S.base, i0⟩ ?_ ?_ ?_
  · rintro i σ' H' _ ⟨G', ρ', F', S', _⟩
    exact hGc H' fun a o h => S'.gh a o (S'.gg a o h)
  · rintro i x σ' H1 H2 hlt ⟨G', ρ', F', S', go⟩ y
    obtain ⟨G2, d, s2, hd, rx⟩ := hY i H1 x H2 G' hlt y S'.gg S'.gh
    have S2 := S'.evF s2.none
    refine hg pa G B G2 H2 σ' ρ' F' x d _ _ S2 rx (turn i ρ' d hd go) fun σ3 ρ3 F3 S3 q3 => ?_
    exact hb pa G B { D with nx := fun σ' H' => ∃ G' ρ' F', Sim pa G B G' H' σ' ρ' F' ∧ I (i + 1) ρ', ct := fun σ' H' => ∃ G' ρ' F', Sim pa G B G' H' σ' ρ' F' ∧ I (i + 1) ρ', bk := D.nx } { E with nx := I (i + 1), ct := I (i + 1), bk := E.nx } ⟨fun G4 H4 σ4 ρ4 F4 S4 q4 => ⟨G4, ρ4, F4, S4, q4⟩, LB.rt, fun G4 H4 σ4 ρ4 F4 S4 q4 => LB.nx G4 H4 σ4 ρ4 F4 S4 q4, fun G4 H4 σ4 ρ4 F4 S4 q4 => ⟨G4, ρ4, F4, S4, q4⟩⟩ G2 H2 σ3 ρ3 F3 S3 q3
  · rintro σ' H' ⟨G', ρ', F', S', go⟩
    exact LB.nx G' H' σ' ρ' F' S' (fin ρ' go)
theorem tok_for {wi : TI} {wiD : WA} {g : TG} {tb : TS} {wg : WG} {wb : WS} (hi : TIok wi wiD) (hg : TGs' g wg) (hb : TSok tb wb) : TSok (tFor wi g tb) (wFor wiD wg wb) := fun pa G0 B D E L G H σ ρ F S q =>
  hi pa G H σ (vF ρ) _ _ S.viewF S.gh q fun J G' H' ds s wd q => for_run (wi := wi) hg hb L (S.evF s) wd q
theorem sfor {X : Cx} {tg iter : Expr} {body : List Stmt} {wi : TI} {wiD : WA} {g : TG} {tb : TS} {wg : WG} {wb : WS} {pos : Pos} (hp : PassesOwn (model X.prog X.w) X.A X.env X.xe) (hc : X.calm = true) (hi : VI X tg iter wi wiD) (hg : ST X tg g wg) (hb : VSs X body tb wb)
    (hs : ∀ x, foldedSetIterable iter X.env x = pure x := by intro _; rfl) : VS X (.For tg iter body [] pos) (tFor wi g tb) (wFor wiD wg wb) := ⟨ps_for hp hc hi.pe hg.pe hb.ps hs, tok_for hi.ok hg.ok hb.ok⟩

/-! ### stores into what is owned -/
theorem Sim.mut {pa : Option Addr} {G0 B G H : Hp} {σ : L2.St} {ρ : Env'} {F : List Addr} (S : Sim pa G0 B G H σ ρ F) {i : Nat} {d : PyData} (e : ρ.l[i]? = some (some (.o d))) :
    ∃ v Fi, σ[i]? = some (some v) ∧ Own G H v d Fi ∧ Fi.Nodup ∧ (∀ a ∈ Fi, a ∈ F) ∧ ∀ (H2 : Hp) (d' : PyData) (Fi' : List Addr), Own G H2 v d' Fi' → Fi'.Nodup → (∀ b, b ∉ Fi → H b ≠ none → H2 b = H b) →
      (∀ b ∈ Fi', b ∈ Fi ∨ (b ∉ F ∧ B b = none ∧ G b = none ∧ some b ≠ pa)) → ∃ F', Sim pa G0 B G H2 σ ⟨ρ.p, ρ.l.set i (some (.o d'))⟩ F' := by
  obtain ⟨Fi, Fr, p, h1, h2, _⟩ := SimL.focus i S.sl (List.getElem?_eq_some_iff.mp e).1
  obtain ⟨v, hv, o⟩ := h1 _ e
  have ndF : (Fi ++ Fr).Nodup := p.nodup_iff.mp S.nd
  obtain ⟨nd1, nd2, nd3⟩ := List.nodup_append.mp ndF
  have sub : ∀ a, a ∈ Fr → a ∈ F := fun a m => p.mem_iff.mpr (List.mem_append_right _ m)
  have subi : ∀ a, a ∈ Fi → a ∈ F := fun a m => p.mem_iff.mpr (List.mem_append_left _ m)
  refine ⟨v, Fi, hv, (show Own G H v d Fi from o), nd1, subi, fun H2 d' Fi' o' nd' st nw => ?_⟩
  have stR : Stay Fr H H2 := fun a m => st a (fun m' => nd3 a m' a m rfl) (S.ne (sub a m))
  obtain ⟨F', q, p'⟩ := h2 G H2 v (.o d') Fi' (Ex.refl G) stR (show HoldsS G H2 v (.o d') Fi' from o')
  have e1 : σ.set i (some v) = σ := by
    apply List.ext_getElem?
    intro j
    by_cases z : i = j
    · subst z
      rw [List.getElem?_set_self (List.getElem?_eq_some_iff.mp hv).1, hv]
    · rw [List.getElem?_set_ne z]
  rw [e1] at q
  have out : ∀ b o, G b = some o → b ∉ Fi := fun b o h m => by rw [(S.fr b (subi b m)).2.1] at h; cases h
  refine ⟨F', q, S.pt, S.gg, fun b o h => ?_, fun b o h => ?_, S.gb, p'.nodup_iff.mpr (List.nodup_append.mpr ⟨nd', nd2, fun a m b m' z => ?_⟩), fun a m => ?_, fun a z => ?_⟩
  · have hh := S.gh b o h
    rw [st b (out b o h) (by rw [hh]; simp)]
    exact hh
  · have hh := S.bh b o h
    rw [st b (fun m => by rw [(S.fr b (subi b m)).1] at h; cases h) (by rw [hh]; simp)]
    exact hh
  · subst z
    rcases nw a m with y | y
    · exact nd3 a y a m' rfl
    · exact y.1 (sub a m')
  · rcases List.mem_append.mp (p'.mem_iff.mp m) with y | y
    · rcases nw a y with z | z
      · exact S.fr a (subi a z)
      · exact z.2
    · exact S.fr a (sub a y)
  · obtain ⟨y1, y2, y3, y4⟩ := S.pot a z
    obtain ⟨u, w, hu, hr⟩ := y2
    refine ⟨y1, ⟨u, w, ?_, hr⟩, y3, y4⟩
    rw [st a (fun m => (S.fr a (subi a m)).2.2 z.symm) (by rw [hu]; simp)]
    exact hu
/-- an owned list's own object is changed, its items' things as they were -/
theorem own_list {G H : Hp} {v : V} {ds : List PyData} {F : List Addr} (o : Own G H v (.list ds) F) : ∃ a vs Ft, v = .ref a ∧ F = a :: Ft ∧ H a = some (.lst vs) ∧ OwnA G H vs ds Ft := by
  cases o with
  | leaf b r => simp [isBox] at b
  | lst h r => exact ⟨_, _, _, rfl, rfl, h, r⟩
theorem own_box {G H : Hp} {v : V} {d : PyData} {F : List Addr} (b : isBox d = false) (o : Own G H v d F) : F = [] ∧ Rep G v d := by
  cases o with
  | leaf _ r => exact ⟨rfl, r⟩
  | lst h r => simp [isBox] at b
  | dic h k r => simp [isBox, dicD] at b
theorem lf_box {d : PyData} (h : lf d = true) : isBox d = false := by cases d <;> simp_all [lf, isBox]
theorem OwnA.len {G H : Hp} : ∀ {vs : List V} {ds : List PyData} {F : List Addr}, OwnA G H vs ds F → vs.length = ds.length
  | _, _, _, .nil => rfl
  | _, _, _, .cons _ r => by simp [OwnA.len r]
theorem OwnA.append {G H : Hp} : ∀ {vs us : List V} {ds es : List PyData} {F F' : List Addr}, OwnA G H vs ds F → OwnA G H us es F' → OwnA G H (vs ++ us) (ds ++ es) (F ++ F')
  | _, _, _, _, _, _, .nil, r => r
  | _, _, _, _, _, _, .cons h t, r => by
    rw [List.append_assoc]
    exact .cons h (OwnA.append t r)
theorem OwnA.single {G H : Hp} {v : V} {d : PyData} {F : List Addr} (h : Own G H v d F) : OwnA G H [v] [d] F := by
  have := OwnA.cons h .nil
  rwa [List.append_nil] at this
theorem OwnA.lfs' {G H : Hp} : ∀ {vs : List V} {ds : List PyData}, RepA G vs ds → lfs ds = true → OwnA G H vs ds []
  | _, _, .nil, _ => .nil
  | _, _, .cons r t, l => by
    simp only [lfs, Bool.and_eq_true] at l
    exact .cons (F := []) (F' := []) (.leaf (lf_box l.1) r) (OwnA.lfs' t l.2)
/-- x.append(e), x.extend(e) -/
def wApp (i : Nat) (we : WE) : WS := fun E ρ => match ρ.l[i]? with
  | some (some (.o (.list ds))) => we (vB ρ) fun d => lf d = true ∧ ds.length < 1000000 ∧ E.nx (ρ.set i (.o (.list (ds ++ [d]))))
  | _ => False
def wAppO (i : Nat) (we : WE) : WS := fun E ρ => match ρ.l[i]? with
  | some (some (.o (.list ds))) => we (vB ρ) fun d => olf d = true ∧ ds.length < 1000000 ∧ E.nx (ρ.set i (.o (.list (ds ++ [d]))))
  | _ => False
def wExt (i : Nat) (we : WE) : WS := fun E ρ => match ρ.l[i]? with
  | some (some (.o (.list ds))) => we (vB ρ) fun d => match d with
    | .list es => lfs es = true ∧ ds.length + es.length ≤ 1000000 ∧ E.nx (ρ.set i (.o (.list (ds ++ es))))
    | _ => False
  | _ => False
def tMApp (K : PySem.W.Frag) (i : Nat) (te : TE) : TS := tDrop (tBM K "list" rAppend (tVar i) (tCons te tNil))
def tMExt (K : PySem.W.Frag) (i : Nat) (te : TE) : TS := tDrop (tBM K "list" rExtend (tVar i) (tCons te tNil))
theorem Sim.at {pa : Option Addr} {G0 B G H : Hp} {σ : L2.St} {ρ : Env'} {F : List Addr} (S : Sim pa G0 B G H σ ρ F) {i : Nat} {ds : List PyData} (e : ρ.l[i]? = some (some (.o (.list ds)))) : ∃ a vs, σ[i]? = some (some (.ref a)) ∧ H a = some (.lst vs) := by
  obtain ⟨v, Fi, hv, o, _⟩ := S.mut e
  obtain ⟨a, vs, Ft, rfl, _, h, _⟩ := own_list o
  exact ⟨a, vs, hv, h⟩
/-- the items behind: new ones at Fn -/
theorem Sim.grow {pa : Option Addr} {G0 B G H : Hp} {σ : L2.St} {ρ : Env'} {F : List Addr} (S : Sim pa G0 B G H σ ρ F) {i : Nat} {ds es : List PyData} {us : List V} {Fn : List Addr} {a : Addr} (e : ρ.l[i]? = some (some (.o (.list ds)))) (hv : σ[i]? = some (some (.ref a)))
    (hn : OwnA G H us es Fn) (nd : Fn.Nodup) (fr : ∀ b ∈ Fn, b ∉ F ∧ B b = none ∧ G b = none ∧ some b ≠ pa) : ∃ vs, H a = some (.lst vs) ∧ vs.length = ds.length ∧ ∃ F', Sim pa G0 B G (upd H a (.lst (vs ++ us))) σ (ρ.set i (.o (.list (ds ++ es)))) F' := by
  obtain ⟨v1, Fi, hv1, o, nd1, sub, put⟩ := S.mut e
  rw [hv] at hv1
  obtain rfl := Option.some.inj (Option.some.inj hv1)
  obtain ⟨b, vs, Ft, eb, rfl, hb, oa⟩ := own_list o
  cases eb
  have nat := (List.nodup_cons.mp nd1).1
  have nfn : a ∉ Fn := fun m => (fr a m).1 (sub a List.mem_cons_self)
  refine ⟨vs, hb, oa.len, put (upd H a (.lst (vs ++ us))) (.list (ds ++ es)) (a :: (Ft ++ Fn)) (.lst upd_same ((OwnA.mono (Ex.refl _) oa fun c m => upd_ne fun z => nat (by rw [← z]; exact m)).append (OwnA.mono (Ex.refl _) hn fun c m => upd_ne fun z => nfn (by rw [← z]; exact m)))) ?_ ?_ ?_⟩
  · refine List.nodup_cons.mpr ⟨fun m => ?_, List.nodup_append.mpr ⟨(List.nodup_cons.mp nd1).2, nd, fun x mx y my z => ?_⟩⟩
    · rcases List.mem_append.mp m with y | y
      · exact nat y
      · exact nfn y
    · subst z
      exact (fr x my).1 (sub x (List.mem_cons_of_mem _ mx))
  · exact fun c m _ => upd_ne fun z => m (by rw [z]; exact List.mem_cons_self)
  · intro c m
    rcases List.mem_cons.mp m with z | m
    · exact .inl (by rw [z]; exact List.mem_cons_self)
    · rcases List.mem_append.mp m with y | y
      · exact .inl (List.mem_cons_of_mem _ y)
      · exact .inr (fr c y)
theorem tok_app {K : PySem.W.Frag} {i : Nat} {te : TE} {we : WE} (h : TEok te we) : TSok (tMApp K i te) (wApp i we) := by
  intro pa G0 B D E L G H σ ρ F S q
  unfold wApp at q
  split at q
  · rename_i ds e0
    obtain ⟨a, vs0, hv, ha⟩ := S.at e0
    refine ⟨.ref a, hv, .inl ⟨rfl, vs0, SqL.of ha⟩, ?_⟩
    refine h pa (addF G H F) H σ (vB ρ) _ _ S.viewB S.ex q fun v G' H' d s r ⟨hl, hlen, q⟩ => ?_
    obtain ⟨vs, hb, e1, F', S2⟩ := (S.evB s).grow e0 hv (.single (.leaf (lf_box hl) (r.drop (S.noTup s) hl))) List.nodup_nil (fun b m => nomatch m)
    exact ⟨a, vs, v, rfl, rfl, hb, lt_line (by rw [e1]; exact hlen), L.nx _ _ _ _ F' S2 q⟩
  · exact q.elim
theorem new_of {pa : Option Addr} {G0 B G H G' : Hp} {σ : L2.St} {ρ : Env'} {F F2 : List Addr} (S : Sim pa G0 B G H σ ρ F) (fr : ∀ a ∈ F2, H a = none ∧ G' a = none) : ∀ b ∈ F2, b ∉ F ∧ B b = none ∧ subF G' F b = none ∧ some b ≠ pa := fun b m =>
  ⟨(S.new (fr b m).1).2.2, (S.new (fr b m).1).1, by
    unfold subF
    split
    · rfl
    · exact (fr b m).2, (S.new (fr b m).1).2.1⟩
theorem tok_appO {K : PySem.W.Frag} {i : Nat} {te : TE} {we : WE} (h : TOok te we) : TSok (tMApp K i te) (wAppO i we) := by
  intro pa G0 B D E L G H σ ρ F S q
  unfold wAppO at q
  split at q
  · rename_i ds e0
    obtain ⟨a, vs0, hv, ha⟩ := S.at e0
    refine ⟨.ref a, hv, .inl ⟨rfl, vs0, SqL.of ha⟩, ?_⟩
    refine h pa (addF G H F) H σ (vB ρ) _ _ S.viewB S.ex q fun v G' H' d F2 s r nd fr ⟨hl, hlen, q⟩ => ?_
    obtain ⟨vs, hb, e1, F', S2⟩ := (S.evB s).grow e0 hv (.single (r.drop (S.noTup s) hl)) nd (new_of S fr)
    exact ⟨a, vs, v, rfl, rfl, hb, lt_line (by rw [e1]; exact hlen), L.nx _ _ _ _ F' S2 q⟩
  · exact q.elim
theorem RepA.dropA {G : Hp} {F : List Addr} (t : ∀ a ∈ F, ∀ xs, G a ≠ some (.tup xs)) {vs : List V} {ds : List PyData} (r : RepA G vs ds) (l : lfs ds = true) : OwnA (subF G F) G vs ds [] → RepA (subF G F) vs ds := fun _ => r.drop t l
theorem tok_ext {K : PySem.W.Frag} {i : Nat} {te : TE} {we : WE} (h : TEok te we) : TSok (tMExt K i te) (wExt i we) := by
  intro pa G0 B D E L G H σ ρ F S q
  unfold wExt at q
  split at q
  · rename_i ds e0
    obtain ⟨a, vs0, hv, ha⟩ := S.at e0
    refine ⟨.ref a, hv, .inl ⟨rfl, vs0, SqL.of ha⟩, ?_⟩
    refine h pa (addF G H F) H σ (vB ρ) _ _ S.viewB S.ex q fun v G' H' d s r q => ?_
    split at q
    · rename_i es
      obtain ⟨hl, hlen, q⟩ := q
      obtain ⟨b, us, rfl, hb, ru⟩ := rep_lst r
      obtain ⟨vs, hb', e1, F', S2⟩ := (S.evB s).grow e0 hv (OwnA.lfs' (ru.drop (S.noTup s) hl) hl) List.nodup_nil (fun b m => nomatch m)
      exact ⟨a, b, vs, us, rfl, rfl, hb', s.gh _ _ hb, le_line (by rw [e1, ru.length]; exact hlen), L.nx _ _ _ _ F' S2 q⟩
    · exact q.elim
  · exact q.elim
section
variable {X : Cx} {i : Nat} {x : Str} {e : Expr} {te : TE} {we : WE} {px apos cpos pos : Pos}
theorem sapp (hv : PE X (.Name x px) (tVar i)) (h : VE X e te we) (hp : PE X (.Call (.Attribute (.Name x px) "append" apos) [e] [] cpos) (tBM X.K "list" rAppend (tVar i) (tCons te tNil))) (hs : swapsWith (.Call (.Attribute (.Name x px) "append" apos) [e] [] cpos) none pos.line X.env = pure false := by rfl) :
    VS X (.Expr (.Call (.Attribute (.Name x px) "append" apos) [e] [] cpos) pos) (tMApp X.K i te) (wApp i we) := ⟨ps_expr hp hs, tok_app h.ok⟩
theorem sappO (hv : PE X (.Name x px) (tVar i)) (h : VO X e te we) (hp : PE X (.Call (.Attribute (.Name x px) "append" apos) [e] [] cpos) (tBM X.K "list" rAppend (tVar i) (tCons te tNil))) (hs : swapsWith (.Call (.Attribute (.Name x px) "append" apos) [e] [] cpos) none pos.line X.env = pure false := by rfl) :
    VS X (.Expr (.Call (.Attribute (.Name x px) "append" apos) [e] [] cpos) pos) (tMApp X.K i te) (wAppO i we) := ⟨ps_expr hp hs, tok_appO h.ok⟩
theorem sext (hv : PE X (.Name x px) (tVar i)) (h : VE X e te we) (hp : PE X (.Call (.Attribute (.Name x px) "extend" apos) [e] [] cpos) (tBM X.K "list" rExtend (tVar i) (tCons te tNil))) (hs : swapsWith (.Call (.Attribute (.Name x px) "extend" apos) [e] [] cpos) none pos.line X.env = pure false := by rfl) :
    VS X (.Expr (.Call (.Attribute (.Name x px) "extend" apos) [e] [] cpos) pos) (tMExt X.K i te) (wExt i we) := ⟨ps_expr hp hs, tok_ext h.ok⟩
end

/-! ### a def by its body -/
/-- the slots at the entry -/
def env0 (p : Bool) (n : Nat) (ds : List PyData) : Env' := ⟨p, (if p then [none] else []) ++ ds.map (fun d => some (.v d)) ++ List.replicate (n - ds.length - (if p then 1 else 0)) none⟩
theorem simL_start {G H : Hp} : ∀ {vs : List V} {ds : List PyData} (n : Nat), RepA G vs ds → SimL G H (vs.map some ++ List.replicate n none) (ds.map (fun d => some (.v d)) ++ List.replicate n none) []
  | _, _, n, .nil => by
    simp only [List.map_nil, List.nil_append]
    induction n with
    | zero => exact .nil
    | succ n ih => exact .skip ih
  | _, _, n, .cons r t => .cons (F1 := []) (F2 := []) ⟨r, rfl⟩ (simL_start n t)
theorem fn_body {P : Program} {w : World} {K : PySem.W.Frag} {mg : Str → Option Value} {base : Heap} {x qual : Str} {st : Stmt} {f : Addr} {fd : FuncData} {N ps : List Str} {k : Nat} {S : WF} (F : Fun K x qual st f fd) (Sc : FnScope N ps (defScope st)) (hl : ∀ ds P, S ds P → ds.length = ps.length)
    (hb : ∀ cdv A outer s H E, (cxOf CX0 P w K mg base N qual (defScope st) f cdv A outer s H E).nox.A.guards = some [] → Room k (cxOf CX0 P w K mg base N qual (defScope st) f cdv A outer s H E).nox.A →
      ∃ t ws, VSs (cxOf CX0 P w K mg base N qual (defScope st) f cdv A outer s H E).nox (defBody st) t ws ∧ ∀ ds Q, S ds Q → ws { nx := fun _ => Q (.v .none), rt := Q } (env0 false N.length ds)) : FnG P w K mg base (k + 1) f fd ps (spF S) := by
  refine FnG.body F Sc (fun vs H Q E h => ?_) fun cdv A outer s H vs Q E hg hr h => ?_
  · obtain ⟨G, ds, P, _, r, hs, _⟩ := h
    rw [r.length]
    exact hl ds P hs
  · obtain ⟨G, ds, P', ex, r, hs, k'⟩ := h
    obtain ⟨t, ws, hv, hw⟩ := hb cdv A outer s H E hg hr
    refine ⟨t, hv.ps, ?_⟩
    have e1 : L2.start N vs = vs.map some ++ List.replicate (N.length - ds.length) none := by unfold L2.start; rw [r.length]
    have S0 : Sim none G H G H (L2.start N vs) (env0 false N.length ds) [] := by
      refine ⟨?_, by simp [env0], Ex.refl G, ex, Ex.refl H, fun _ _ e => e, List.nodup_nil, fun a m => (nomatch m), fun a e => (by cases e)⟩
      rw [e1]
      have := simL_start (H := H) (N.length - ds.length) r
      simpa [env0] using this
    refine hv.ok none G H _ { nx := fun _ => P' (.v .none), rt := P' } ⟨fun G' H' σ ρ F' S' q => ?_, fun G' H' v r F' S' q => ?_, fun _ _ _ _ _ _ q => q.elim, fun _ _ _ _ _ _ q => q.elim⟩ G H _ _ [] S0 (hw ds P' hs)
    · exact k' .non G' H' (.v .none) [] ⟨S'.gg, fun a o _ e => S'.bh a o e, fun a e => (by cases e), S'.gh, fun a n e => S'.gb a n e⟩ ⟨.non, rfl⟩ List.nodup_nil (fun a m => nomatch m) q
    · exact k' v G' H' r F' ⟨S'.gg, fun a o _ e => S'.bh a o e, fun a e => (by cases e), S'.gh, fun a n e => S'.gb a n e⟩ S'.hr S'.nd (fun a m => ⟨(S'.fr a m).1, (S'.fr a m).2.1⟩) q
end Vl
/-! VlH: isinstance, dicts, sorted(d.items()), stores at places, the pot. -/
namespace Vl
open PySem PySem.Spec PyProof.Rows L2

/-! ### isinstance(x, T) -/
def kTy : PyData → String
  | .none => "NoneType"
  | .bool _ => "bool"
  | .int _ => "int"
  | .str _ => "str"
  | .list _ => "list"
  | .tuple _ => "tuple"
  | .dict _ => "dict"
def seven : List String := ["NoneType", "bool", "int", "str", "list", "tuple", "dict"]
theorem rep_ty {K : PySem.W.Frag} {G H : Hp} {v : V} {d : PyData} (e : Ex G H) (r : Rep G v d) : TyX K H v (.type (kTy d)) ∧ kTy d ∈ seven := by
  cases r with
  | non => exact ⟨.base .non, (show "NoneType" ∈ seven by decide)⟩
  | bl b => exact ⟨.base (.bl b), (show "bool" ∈ seven by decide)⟩
  | int i => exact ⟨.base (.int i), (show "int" ∈ seven by decide)⟩
  | str x => exact ⟨.base (.str x), (show "str" ∈ seven by decide)⟩
  | lst h _ => exact ⟨.base (.lst (e _ _ h)), (show "list" ∈ seven by decide)⟩
  | tup h _ => exact ⟨.base (.tup (e _ _ h)), (show "tuple" ∈ seven by decide)⟩
  | dic h _ _ => exact ⟨.base (.dK (e _ _ h)), (show "dict" ∈ seven by decide)⟩
def isT (T : String) (d : PyData) : Bool := (kitB (kTy d) T).getD false
def wIsi (T : String) (wa : WE) : WE := fun vw P => wa vw fun d => P (.bool (isT T d))
theorem ok_isi {K : PySem.W.Frag} {T : String} {ta : TE} {wa : WE} (ha : TEok ta wa) (hT : (seven.all fun t => (kitB t T).isSome) = true) : TEok (tCB (rIsi K) (tCons ta (tCons (tC (.ty T)) tNil))) (wIsi T wa) := by
  intro pa G H σ vw P Q vi e h k
  refine ha pa G H σ vw _ _ vi e h fun v G1 H1 d s1 r1 h1 => ?_
  obtain ⟨t1, t2⟩ := rep_ty (K := K) s1.gh r1
  have hs := List.all_eq_true.mp hT _ t2
  obtain ⟨b, hb⟩ := Option.isSome_iff_exists.mp hs
  have hd : isT T d = b := by unfold isT; rw [hb]; rfl
  rw [hd] at h1
  exact ⟨v, .ty T, .type (kTy d), .type T, b, rfl, .ty T, t1, kit_ty hb, k _ G1 H1 _ s1 (.bl b) h1⟩
@[simp] theorem isT_int_NoneType : isT "int" .none = false := by show (kitB "NoneType" "int").getD false = false; decide +kernel
@[simp] theorem isT_int_bool {b} : isT "int" (.bool b) = true := by show (kitB "bool" "int").getD false = true; decide +kernel
@[simp] theorem isT_int_int {b} : isT "int" (.int b) = true := by show (kitB "int" "int").getD false = true; decide +kernel
@[simp] theorem isT_int_str {b} : isT "int" (.str b) = false := by show (kitB "str" "int").getD false = false; decide +kernel
@[simp] theorem isT_int_list {b} : isT "int" (.list b) = false := by show (kitB "list" "int").getD false = false; decide +kernel
@[simp] theorem isT_int_tuple {b} : isT "int" (.tuple b) = false := by show (kitB "tuple" "int").getD false = false; decide +kernel
@[simp] theorem isT_int_dict {b} : isT "int" (.dict b) = false := by show (kitB "dict" "int").getD false = false; decide +kernel
@[simp] theorem isT_bool_NoneType : isT "bool" .none = false := by show (kitB "NoneType" "bool").getD false = false; decide +kernel
@[simp] theorem isT_bool_bool {b} : isT "bool" (.bool b) = true := by show (kitB "bool" "bool").getD false = true; decide +kernel
@[simp] theorem isT_bool_int {b} : isT "bool" (.int b) = false := by show (kitB "int" "bool").getD false = false; decide +kernel
@[simp] theorem isT_bool_str {b} : isT "bool" (.str b) = false := by show (kitB "str" "bool").getD false = false; decide +kernel
@[simp] theorem isT_bool_list {b} : isT "bool" (.list b) = false := by show (kitB "list" "bool").getD false = false; decide +kernel
@[simp] theorem isT_bool_tuple {b} : isT "bool" (.tuple b) = false := by show (kitB "tuple" "bool").getD false = false; decide +kernel
@[simp] theorem isT_bool_dict {b} : isT "bool" (.dict b) = false := by show (kitB "dict" "bool").getD false = false; decide +kernel
@[simp] theorem isT_str_NoneType : isT "str" .none = false := by show (kitB "NoneType" "str").getD false = false; decide +kernel
@[simp] theorem isT_str_bool {b} : isT "str" (.bool b) = false := by show (kitB "bool" "str").getD false = false; decide +kernel
@[simp] theorem isT_str_int {b} : isT "str" (.int b) = false := by show (kitB "int" "str").getD false = false; decide +kernel
@[simp] theorem isT_str_str {b} : isT "str" (.str b) = true := by show (kitB "str" "str").getD false = true; decide +kernel
@[simp] theorem isT_str_list {b} : isT "str" (.list b) = false := by show (kitB "list" "str").getD false = false; decide +kernel
@[simp] theorem isT_str_tuple {b} : isT "str" (.tuple b) = false := by show (kitB "tuple" "str").getD false = false; decide +kernel
@[simp] theorem isT_str_dict {b} : isT "str" (.dict b) = false := by show (kitB "dict" "str").getD false = false; decide +kernel
@[simp] theorem isT_list_NoneType : isT "list" .none = false := by show (kitB "NoneType" "list").getD false = false; decide +kernel
@[simp] theorem isT_list_bool {b} : isT "list" (.bool b) = false := by show (kitB "bool" "list").getD false = false; decide +kernel
@[simp] theorem isT_list_int {b} : isT "list" (.int b) = false := by show (kitB "int" "list").getD false = false; decide +kernel
@[simp] theorem isT_list_str {b} : isT "list" (.str b) = false := by show (kitB "str" "list").getD false = false; decide +kernel
@[simp] theorem isT_list_list {b} : isT "list" (.list b) = true := by show (kitB "list" "list").getD false = true; decide +kernel
@[simp] theorem isT_list_tuple {b} : isT "list" (.tuple b) = false := by show (kitB "tuple" "list").getD false = false; decide +kernel
@[simp] theorem isT_list_dict {b} : isT "list" (.dict b) = false := by show (kitB "dict" "list").getD false = false; decide +kernel
@[simp] theorem isT_tuple_NoneType : isT "tuple" .none = false := by show (kitB "NoneType" "tuple").getD false = false; decide +kernel
@[simp] theorem isT_tuple_bool {b} : isT "tuple" (.bool b) = false := by show (kitB "bool" "tuple").getD false = false; decide +kernel
@[simp] theorem isT_tuple_int {b} : isT "tuple" (.int b) = false := by show (kitB "int" "tuple").getD false = false; decide +kernel
@[simp] theorem isT_tuple_str {b} : isT "tuple" (.str b) = false := by show (kitB "str" "tuple").getD false = false; decide +kernel
@[simp] theorem isT_tuple_list {b} : isT "tuple" (.list b) = false := by show (kitB "list" "tuple").getD false = false; decide +kernel
@[simp] theorem isT_tuple_tuple {b} : isT "tuple" (.tuple b) = true := by show (kitB "tuple" "tuple").getD false = true; decide +kernel
@[simp] theorem isT_tuple_dict {b} : isT "tuple" (.dict b) = false := by show (kitB "dict" "tuple").getD false = false; decide +kernel
@[simp] theorem isT_dict_NoneType : isT "dict" .none = false := by show (kitB "NoneType" "dict").getD false = false; decide +kernel
@[simp] theorem isT_dict_bool {b} : isT "dict" (.bool b) = false := by show (kitB "bool" "dict").getD false = false; decide +kernel
@[simp] theorem isT_dict_int {b} : isT "dict" (.int b) = false := by show (kitB "int" "dict").getD false = false; decide +kernel
@[simp] theorem isT_dict_str {b} : isT "dict" (.str b) = false := by show (kitB "str" "dict").getD false = false; decide +kernel
@[simp] theorem isT_dict_list {b} : isT "dict" (.list b) = false := by show (kitB "list" "dict").getD false = false; decide +kernel
@[simp] theorem isT_dict_tuple {b} : isT "dict" (.tuple b) = false := by show (kitB "tuple" "dict").getD false = false; decide +kernel
@[simp] theorem isT_dict_dict {b} : isT "dict" (.dict b) = true := by show (kitB "dict" "dict").getD false = true; decide +kernel
section
variable {X : Cx} {T : String} {a : Expr} {x : Str} {ta : TE} {wa : WE} {p1 p2 pos : Pos}
theorem visi (hm : X.mg "isinstance" = none) (hg : Gl X "isinstance") (hg2 : Gl X x) (hm2 : X.mg x = none) (hv2 : bootBuiltins x = some (.type T)) (ha : VE X a ta wa) (hT : (seven.all fun t => (kitB t T).isSome) = true := by decide +kernel) (hn : x ≠ "__name__" := by decide) (hd : (x == ("__debug__" : Str)) = false := by decide)
    (hs : starEach [a, .Name x p2] X.env = (false, eval a X.env) :: starEach [.Name x p2] X.env := by rfl) (hs2 : starEach [.Name x p2] X.env = (false, eval (.Name x p2) X.env) :: starEach [] X.env := by rfl) (hpl : (backTo pos (starEach [.Name x p2] X.env)).any (·.1) = false := by rfl) :
    VE X (.Call (.Name "isinstance" p1) [a, .Name x p2] [] pos) (tCB (rIsi X.K) (tCons ta (tCons (tC (.ty T)) tNil))) (wIsi T wa) :=
  ⟨pe_callB call_isi hg hm (by rfl) (pa_cons ha.pe (pa_cons (pe_bltn hg2 hm2 hv2 rfl hn hd) pa_nil hs2) hs) (by decide) (by decide) hs hpl, ok_isi ha.ok hT⟩
end

/-! ### dicts whose keys are ints or texts -/
def valD (es : List (Key × PyData)) (k : Key) : Option PyData := (es.find? fun p => decide (p.1 = k)).map (·.2)
def putD (es : List (Key × PyData)) (k : Key) (d : PyData) : List (Key × PyData) :=
  if (es.any fun p => decide (p.1 = k)) = true then es.map (fun p => if p.1 = k then (p.1, d) else p) else es ++ [(k, d)]
theorem rep_keyV {G : Hp} {v : V} {k : Key} (r : Rep G v (keyD k)) : v = kV k := by
  cases k with
  | inl i => exact rep_int r
  | inr x => exact rep_str r
theorem keyD_inj {k l : Key} (h : keyD k = keyD l) : k = l := by
  cases k <;> cases l <;> simp_all [keyD]
theorem dicD_inj {es fs : List (Key × PyData)} (h : dicD es = dicD fs) : es = fs := by
  simp only [dicD, PyData.dict.injEq] at h
  induction es generalizing fs with
  | nil => cases fs with
    | nil => rfl
    | cons p fs => simp at h
  | cons q es ih => cases fs with
    | nil => simp at h
    | cons p fs =>
      simp only [List.map_cons, List.cons.injEq, Prod.mk.injEq] at h
      obtain ⟨⟨h1, h2⟩, h3⟩ := h
      rw [ih h3, Prod.ext (keyD_inj h1) h2]
theorem rep_dic {G : Hp} {v : V} {es : List (Key × PyData)} (r : Rep G v (dicD es)) : ∃ a kvs, v = .ref a ∧ G a = some (.dK kvs) ∧ kvs.map (·.1) = es.map (·.1) ∧ RepA G (kvs.map (·.2)) (es.map (·.2)) := by
  generalize hd : dicD es = d at r
  cases r with
  | dic h k q => obtain rfl := dicD_inj hd; exact ⟨_, _, rfl, h, k, q⟩
  | _ => simp [dicD] at hd
theorem val_rep {G : Hp} (k : Key) : ∀ {kvs : List (Key × V)} {es : List (Key × PyData)}, kvs.map (·.1) = es.map (·.1) → RepA G (kvs.map (·.2)) (es.map (·.2)) →
    (valD es k = none ∧ valV kvs k = none) ∨ ∃ d v, valD es k = some d ∧ valV kvs k = some v ∧ Rep G v d
  | [], [], _, _ => .inl ⟨rfl, rfl⟩
  | [], _ :: _, h, _ => by simp at h
  | _ :: _, [], h, _ => by simp at h
  | p :: kvs, q :: es, h, r => by
    simp only [List.map_cons, List.cons.injEq] at h
    cases r with
    | cons r1 rs =>
      by_cases e : q.1 = k
      · refine .inr ⟨q.2, p.2, ?_, ?_, r1⟩
        · simp [valD, e]
        · exact valV_pos (h.1.trans e)
      · have e2 : ¬ p.1 = k := fun z => e (h.1.symm.trans z)
        rw [valV_neg e2]
        have : valD (q :: es) k = valD es k := by simp [valD, List.find?_cons, e]
        rw [this]
        exact val_rep k h.2 rs
/-- d.get(k, x) -/
def wDget2 (wd wk wx : WE) : WE := fun vw P => wd vw fun d => ∃ es, d = dicD es ∧ wk vw fun kd => wx vw fun x => ∃ k, kd = keyD k ∧ P ((valD es k).getD x)
/-- k in d, not in d -/
def wDin (neg : Bool) (wk wd : WE) : WE := fun vw P => wk vw fun kd => wd vw fun d => ∃ es k, d = dicD es ∧ kd = keyD k ∧ P (.bool ((valD es k).isSome != neg))
/-- d[k], there -/
def wDget (wd wk : WE) : WE := fun vw P => wd vw fun d => wk vw fun kd => ∃ es k v, d = dicD es ∧ kd = keyD k ∧ valD es k = some v ∧ P v
theorem ok_dget2 {td tk tx : TE} {wd wk wx : WE} (hd : TEok td wd) (hk : TEok tk wk) (hx : TEok tx wx) : TEok (tDGet2 td tk tx) (wDget2 wd wk wx) := by
  intro pa G H σ vw P Q vi e h k
  refine hd pa G H σ vw _ _ vi e h fun v G1 H1 d s1 r1 h1 => ?_
  obtain ⟨es, rfl, h1⟩ := h1
  obtain ⟨a, kvs, rfl, ha, hkk, hr⟩ := rep_dic r1
  refine ⟨a, rfl, .inl ⟨kvs, .inl (s1.gh _ _ ha)⟩, ?_⟩
  refine hk pa G1 H1 σ vw _ _ (vi.step s1) s1.gh h1 fun y G2 H2 kd s2 r2 h2 => ?_
  have s12 := s1.trans vi.isPot s2
  refine hx pa G2 H2 σ vw _ _ (vi.step s12) s2.gh h2 fun z G3 H3 xd s3 r3 h3 => ?_
  obtain ⟨kk, rfl, h3⟩ := h3
  obtain rfl := rep_keyV r2
  have s13 := s12.trans vi.isPot s3
  have s23 := s2.g.trans s3.g
  refine ⟨_, DGet.k (s3.gh _ _ (s23 _ _ ha)), ?_⟩
  rcases val_rep kk hkk hr with ⟨e1, e2⟩ | ⟨d', v', e1, e2, rv⟩
  · rw [e1] at h3
    rw [e2]
    exact k z G3 H3 xd s13 r3 h3
  · rw [e1] at h3
    rw [e2]
    exact k v' G3 H3 d' s13 (rv.mono s23) h3
theorem ok_din {neg : Bool} {td tk : TE} {wd wk : WE} {tt : TE} (htt : tt = if neg then tDNotIn tk td else tDIn tk td) (hk : TEok tk wk) (hd : TEok td wd) : TEok tt (wDin neg wk wd) := by
  intro pa G H σ vw P Q vi e h k
  subst htt
  have main : ∀ (R : V → V → Hp → Prop), (∀ y x H2, (∃ a o, x = .ref a ∧ DGet H2 a y o ∧ Q (.bl (o.isSome != neg)) H2) → R y x H2) → tk σ H fun y H1 => td σ H1 fun x H2 => R y x H2 := by
    intro R hR
    refine hk pa G H σ vw _ _ vi e h fun y G1 H1 kd s1 r1 h1 => ?_
    refine hd pa G1 H1 σ vw _ _ (vi.step s1) s1.gh h1 fun x G2 H2 d s2 r2 h2 => ?_
    obtain ⟨es, kk, rfl, rfl, h2⟩ := h2
    obtain rfl := rep_keyV r1
    obtain ⟨a, kvs, rfl, ha, hkk, hr⟩ := rep_dic r2
    refine hR _ _ _ ⟨a, _, rfl, DGet.k (s2.gh _ _ ha), ?_⟩
    have s12 := s1.trans vi.isPot s2
    rcases val_rep kk hkk hr with ⟨e1, e2⟩ | ⟨d', v', e1, e2, rv⟩
    · rw [e1] at h2
      rw [e2]
      exact k _ G2 H2 _ s12 (.bl _) h2
    · rw [e1] at h2
      rw [e2]
      exact k _ G2 H2 _ s12 (.bl _) h2
  cases neg with
  | true =>
    rw [if_pos rfl]
    refine main _ fun y x H2 ⟨a, o, h1, h2, h3⟩ => ⟨a, o, h1, h2, ?_⟩
    cases o <;> exact h3
  | false =>
    rw [if_neg Bool.false_ne_true]
    refine main _ fun y x H2 ⟨a, o, h1, h2, h3⟩ => ⟨a, o, h1, h2, ?_⟩
    cases o <;> exact h3
theorem ok_dget {td tk : TE} {wd wk : WE} (hd : TEok td wd) (hk : TEok tk wk) : TEok (tDGet td tk) (wDget wd wk) := by
  intro pa G H σ vw P Q vi e h k
  refine hd pa G H σ vw _ _ vi e h fun x G1 H1 d s1 r1 h1 => ?_
  refine hk pa G1 H1 σ vw _ _ (vi.step s1) s1.gh h1 fun y G2 H2 kd s2 r2 h2 => ?_
  obtain ⟨es, kk, v, rfl, rfl, ev, h2⟩ := h2
  obtain rfl := rep_keyV r2
  obtain ⟨a, kvs, rfl, ha, hkk, hr⟩ := rep_dic r1
  rcases val_rep kk hkk hr with ⟨e1, e2⟩ | ⟨d', v', e1, e2, rv⟩
  · rw [e1] at ev; cases ev
  · rw [e1] at ev
    obtain rfl := Option.some.inj ev
    have g := DGet.k (k := kk) (s2.gh _ _ (s2.g _ _ ha))
    rw [e2] at g
    exact ⟨a, v', rfl, g, k v' G2 H2 d' (s1.trans vi.isPot s2) (rv.mono s2.g) h2⟩
section
variable {X : Cx} {o i f : Expr} {td ti tx : TE} {wd wi wx : WE} {apos cpos pos : Pos}
theorem vdget2 (hu : X.A.units + 66 < cLine) (ho : VE X o td wd) (hi : VE X i ti wi) (hf : VE X f tx wx) (m : M2 X o "get" apos i f cpos) : VE X (.Call (.Attribute o "get" apos) [i, f] [] cpos) (tDGet2 td ti tx) (wDget2 wd wi wx) :=
  ⟨pe_dget2 (by omega) ho.pe hi.pe hf.pe m, ok_dget2 ho.ok hi.ok hf.ok⟩
theorem vdin (hu : X.A.units + 66 < cLine) (hi : VE X i ti wi) (ho : VE X o td wd) (hm : behindInMarks .In o = false := by rfl) : VE X (.Compare i [.In] [o] pos) (tDIn ti td) (wDin false wi wd) := ⟨pe_cmp (pc_din (by omega) hi.pe ho.pe) hm, ok_din (neg := false) rfl hi.ok ho.ok⟩
theorem vdnotin (hu : X.A.units + 66 < cLine) (hi : VE X i ti wi) (ho : VE X o td wd) (hm : behindInMarks .NotIn o = false := by rfl) : VE X (.Compare i [.NotIn] [o] pos) (tDNotIn ti td) (wDin true wi wd) := ⟨pe_cmp (pc_dnotin (by omega) hi.pe ho.pe) hm, ok_din (neg := true) rfl hi.ok ho.ok⟩
theorem vdinT (hu : X.A.units + 66 < cLine) (hi : VE X i ti wi) (ho : VE X o td wd) (hm : behindInMarks .In o = false := by rfl) : VC X (.Compare i [.In] [o] pos) (tTest (tDIn ti td)) (wTest (wDin false wi wd)) := ⟨pt_cmp (pc_din (by omega) hi.pe ho.pe) hm, ok_test (ok_din (neg := false) rfl hi.ok ho.ok)⟩
theorem vdnotinT (hu : X.A.units + 66 < cLine) (hi : VE X i ti wi) (ho : VE X o td wd) (hm : behindInMarks .NotIn o = false := by rfl) : VC X (.Compare i [.NotIn] [o] pos) (tTest (tDNotIn ti td)) (wTest (wDin true wi wd)) := ⟨pt_cmp (pc_dnotin (by omega) hi.pe ho.pe) hm, ok_test (ok_din (neg := true) rfl hi.ok ho.ok)⟩
theorem vdget (hu : X.A.units + 66 < cLine) (ho : VE X o td wd) (hi : VE X i ti wi) (hs : NoSl i := by exact fun _ _ => rfl) : VE X (.Subscript o i pos) (tDGet td ti) (wDget wd wi) := ⟨pe_dget (by omega) ho.pe hi.pe hs, ok_dget ho.ok hi.ok⟩
end
/-- {} -/
def wDnew : WE := fun _ P => P (dicD [])
theorem odnew {X : Cx} {pos : Pos} : VO X (.Dict [] [] pos) tDNewK wDnew := ⟨pe_dnewK, by
  intro pa G H σ vw P Q vi e h k p hp
  refine k (.ref p) G _ (dicD []) [p] (Step.newO e hp) (.dic (kvs := []) (es := []) upd_same rfl .nil) (by simp) (fun a m => ?_) h
  obtain rfl := List.mem_singleton.mp m
  exact ⟨hp, e.back hp⟩⟩

/-! ### stores at places -/
theorem OwnA.set {G H : Hp} {v : V} {d : PyData} (n : Own G H v d []) : ∀ {vs : List V} {ds : List PyData} {F : List Addr}, OwnA G H vs ds F → ∀ j : Nat, ∃ F', OwnA G H (vs.set j v) (ds.set j d) F' ∧ F'.Sublist F
  | _, _, _, .nil, _ => ⟨[], .nil, .refl _⟩
  | _, _, _, .cons (F := F1) (F' := F2) h r, 0 => ⟨[] ++ F2, .cons n r, List.sublist_append_right _ _⟩
  | _, _, _, .cons (F := F1) (F' := F2) h r, j + 1 => by
    obtain ⟨F', q, s⟩ := OwnA.set n r j
    exact ⟨F1 ++ F', .cons h q, s.append_left _⟩
theorem OwnA.putM {G H : Hp} {v : V} {d : PyData} (n : Own G H v d []) (k : Key) : ∀ {kvs : List (Key × V)} {es : List (Key × PyData)} {F : List Addr}, kvs.map (·.1) = es.map (·.1) → OwnA G H (kvs.map (·.2)) (es.map (·.2)) F →
    ∃ F', OwnA G H ((kvs.map fun p => if p.1 = k then (p.1, v) else p).map (·.2)) ((es.map fun p => if p.1 = k then (p.1, d) else p).map (·.2)) F' ∧ F'.Sublist F
  | [], [], _, _, .nil => ⟨[], .nil, .refl _⟩
  | [], _ :: _, _, h, _ => by simp at h
  | _ :: _, [], _, h, _ => by simp at h
  | p :: kvs, q :: es, F, h, r => by
    simp only [List.map_cons, List.cons.injEq] at h
    simp only [List.map_cons] at r ⊢
    cases r with
    | cons h1 rs =>
      rename_i F1 F2
      obtain ⟨F', o, s⟩ := OwnA.putM n k h.2 rs
      by_cases e : q.1 = k
      · have e2 : p.1 = k := h.1.trans e
        rw [if_pos e, if_pos e2]
        exact ⟨[] ++ F', .cons n o, s.trans (List.sublist_append_right _ _)⟩
      · have e2 : ¬ p.1 = k := fun z => e (h.1.symm.trans z)
        rw [if_neg e, if_neg e2]
        exact ⟨F1 ++ F', .cons h1 o, s.append_left _⟩
theorem keys_any {k : Key} {kvs : List (Key × V)} {es : List (Key × PyData)} (h : kvs.map (·.1) = es.map (·.1)) : (kvs.any fun p => decide (p.1 = k)) = es.any fun p => decide (p.1 = k) := by
  have e1 : (kvs.any fun p => decide (p.1 = k)) = (kvs.map (·.1)).any fun x => decide (x = k) := by rw [List.any_map]; rfl
  have e2 : (es.any fun p => decide (p.1 = k)) = (es.map (·.1)).any fun x => decide (x = k) := by rw [List.any_map]; rfl
  rw [e1, e2, h]
theorem keys_putM {α : Type} {k : Key} (v : α) (kvs : List (Key × α)) : (kvs.map fun p => if p.1 = k then (p.1, v) else p).map (·.1) = kvs.map (·.1) := by
  rw [List.map_map]
  refine List.map_congr_left fun p _ => ?_
  show (if p.1 = k then (p.1, v) else p).1 = p.1
  split <;> rfl
theorem own_put {G H : Hp} {v : V} {d : PyData} (n : Own G H v d []) (k : Key) {kvs : List (Key × V)} {es : List (Key × PyData)} {F : List Addr} (h : kvs.map (·.1) = es.map (·.1)) (r : OwnA G H (kvs.map (·.2)) (es.map (·.2)) F) :
    (putK kvs k v).map (·.1) = (putD es k d).map (·.1) ∧ ∃ F', OwnA G H ((putK kvs k v).map (·.2)) ((putD es k d).map (·.2)) F' ∧ F'.Sublist F := by
  unfold putK putD
  rw [keys_any h]
  split
  · refine ⟨by rw [keys_putM, keys_putM, h], OwnA.putM n k h r⟩
  · rw [List.map_append, List.map_append, List.map_append, List.map_append, h]
    refine ⟨rfl, F ++ [], r.append (OwnA.single n), ?_⟩
    rw [List.append_nil]
    exact .refl _
/-- xs[i] = e, xs an owned list -/
def wSetL (i : Nat) (wk we : WE) : WS := fun E ρ => match ρ.l[i]? with
  | some (some (.o (.list ds))) => we (vB ρ) fun d => lf d = true ∧ wk (vB ρ) fun kd => match kd with
    | .int n => match ixN ds.length n with
      | some j => E.nx (ρ.set i (.o (.list (ds.set j d))))
      | none => False
    | _ => False
  | _ => False
/-- d[k] = e, d an owned dict -/
def wDput (i : Nat) (wk we : WE) : WS := fun E ρ => ∃ es, ρ.l[i]? = some (some (.o (dicD es))) ∧ we (vB ρ) fun d => lf d = true ∧ wk (vB ρ) fun kd => ∃ k, kd = keyD k ∧ es.length < 1000000 ∧ E.nx (ρ.set i (.o (dicD (putD es k d))))
theorem own_dic {G H : Hp} {v : V} {es : List (Key × PyData)} {F : List Addr} (o : Own G H v (dicD es) F) : ∃ a kvs Ft, v = .ref a ∧ F = a :: Ft ∧ H a = some (.dK kvs) ∧ kvs.map (·.1) = es.map (·.1) ∧ OwnA G H (kvs.map (·.2)) (es.map (·.2)) Ft := by
  generalize hd : dicD es = d at o
  cases o with
  | leaf b _ => subst hd; simp [isBox, dicD] at b
  | dic h k q => obtain rfl := dicD_inj hd; exact ⟨_, _, _, rfl, rfl, h, k, q⟩
  | _ => simp [dicD] at hd
theorem tok_setL {i : Nat} {tk te : TE} {wk we : WE} (hk : TEok tk wk) (he : TEok te we) : TSok (tAsg te (gSub (tVar i) tk rSetL)) (wSetL i wk we) := by
  intro pa G0 B D E L G H σ ρ F S q
  unfold wSetL at q
  split at q
  · rename_i ds e0
    refine he pa (addF G H F) H σ (vB ρ) _ _ S.viewB S.ex q fun v G' H' d s r ⟨hl, q⟩ => ?_
    have S1 := S.evB s
    have r1 := r.drop (S.noTup s) hl
    obtain ⟨a, vs0, hv, ha⟩ := S1.at e0
    refine ⟨.ref a, hv, ?_⟩
    refine hk pa _ H' σ (vB ρ) _ _ S1.viewB S1.ex q fun kv G2 H2 kd s2 r2 q => ?_
    split at q
    · rename_i n
      split at q
      · rename_i j hj
        obtain rfl := rep_int r2
        have S2 := S1.evB s2
        obtain ⟨v1, Fi, hv1, o, nd1, sub, put⟩ := S2.mut e0
        rw [hv] at hv1
        obtain rfl := Option.some.inj (Option.some.inj hv1)
        obtain ⟨b, vs, Ft, eb, rfl, hb, oa⟩ := own_list o
        cases eb
        have gx : Ex (subF G' F) (subF G2 F) := fun x u hx => by
          have nm : x ∉ F := fun m => by unfold subF at hx; rw [if_pos m] at hx; cases hx
          unfold subF
          rw [if_neg nm]
          exact s2.g x u (by unfold addF; rw [if_neg nm]; exact hx)
        obtain ⟨F', o', sl⟩ := OwnA.set (Own.leaf (H := H2) (lf_box hl) (r1.mono gx)) oa j
        have nat := (List.nodup_cons.mp nd1).1
        obtain ⟨F3, S3⟩ := put (upd H2 a (.lst (vs.set j v))) (.list (ds.set j d)) (a :: F') (.lst upd_same (OwnA.mono (Ex.refl _) o' fun c m => upd_ne fun z => nat (by rw [← z]; exact sl.subset m))) (List.nodup_cons.mpr ⟨fun m => nat (sl.subset m), sl.nodup (List.nodup_cons.mp nd1).2⟩) (fun c m _ => upd_ne fun z => m (by rw [z]; exact List.mem_cons_self)) (fun c m => by
          rcases List.mem_cons.mp m with z | m
          · exact .inl (by rw [z]; exact List.mem_cons_self)
          · exact .inl (List.mem_cons_of_mem _ (sl.subset m)))
        exact ⟨a, vs, n, j, rfl, rfl, hb, by rw [oa.len]; exact hj, L.nx _ _ _ _ F3 S3 q⟩
      · exact q.elim
    · exact q.elim
  · exact q.elim
theorem tok_dput {i : Nat} {tk te : TE} {wk we : WE} (hk : TEok tk wk) (he : TEok te we) : TSok (sDPut (tVar i) tk te) (wDput i wk we) := by
  intro pa G0 B D E L G H σ ρ F S q
  obtain ⟨es, e0, q⟩ := q
  refine he pa (addF G H F) H σ (vB ρ) _ _ S.viewB S.ex q fun v G' H' d s r ⟨hl, q⟩ => ?_
  have S1 := S.evB s
  have r1 := r.drop (S.noTup s) hl
  obtain ⟨v0, _, hv, o0, _, _, _⟩ := S1.mut e0
  obtain ⟨a, _, _, rfl, _, _, _, _⟩ := own_dic o0
  refine ⟨.ref a, hv, ?_⟩
  refine hk pa _ H' σ (vB ρ) _ _ S1.viewB S1.ex q fun kv G2 H2 kd s2 r2 q => ?_
  obtain ⟨k, rfl, hlen, q⟩ := q
  obtain rfl := rep_keyV r2
  have S2 := S1.evB s2
  obtain ⟨v1, Fi, hv1, o, nd1, sub, put⟩ := S2.mut e0
  rw [hv] at hv1
  obtain rfl := Option.some.inj (Option.some.inj hv1)
  obtain ⟨b, kvs, Ft, eb, rfl, hb, hkk, oa⟩ := own_dic o
  cases eb
  have gx : Ex (subF G' F) (subF G2 F) := fun x u hx => by
    have nm : x ∉ F := fun m => by unfold subF at hx; rw [if_pos m] at hx; cases hx
    unfold subF
    rw [if_neg nm]
    exact s2.g x u (by unfold addF; rw [if_neg nm]; exact hx)
  obtain ⟨ek, F', o', sl⟩ := own_put (Own.leaf (H := H2) (lf_box hl) (r1.mono gx)) k hkk oa
  have nat := (List.nodup_cons.mp nd1).1
  obtain ⟨F3, S3⟩ := put (upd H2 a (.dK (putK kvs k v))) (dicD (putD es k d)) (a :: F') (.dic upd_same ek (OwnA.mono (Ex.refl _) o' fun c m => upd_ne fun z => nat (by rw [← z]; exact sl.subset m))) (List.nodup_cons.mpr ⟨fun m => nat (sl.subset m), sl.nodup (List.nodup_cons.mp nd1).2⟩) (fun c m _ => upd_ne fun z => m (by rw [z]; exact List.mem_cons_self)) (fun c m => by
    rcases List.mem_cons.mp m with z | m
    · exact .inl (by rw [z]; exact List.mem_cons_self)
    · exact .inl (List.mem_cons_of_mem _ (sl.subset m)))
  have hlen' : kvs.length < 1000000 := by
    have : (kvs.map (·.1)).length = (es.map (·.1)).length := by rw [hkk]
    rw [List.length_map, List.length_map] at this
    omega
  exact ⟨a, _, rfl, DPut.k hb (lt_line hlen'), L.nx _ _ _ _ F3 S3 q⟩
section
variable {X : Cx} {i : Nat} {x : Str} {e k : Expr} {te tk : TE} {we wk : WE} {px spos pos : Pos}
theorem ssetL (hv : PE X (.Name x px) (tVar i)) (hk : VE X k tk wk) (he : VE X e te we) (hs : swapsWithSole [.Subscript (.Name x px) k spos] e pos.line X.env = pure false := by rfl) (hw : swappedStores [.Subscript (.Name x px) k spos] e X.env = pure none := by rfl)
    (h1 : (assignEach [.Subscript (.Name x px) k spos] X.env).map (·.2) = [assign (.Subscript (.Name x px) k spos) X.env] := by rfl)
    (ha : ∀ v, assign (.Subscript (.Name x px) k spos) X.env v = (do
      let ov ← holding [v] (eval (.Name x px) X.env)
      let iv ← holding [v, ov] (eval k X.env)
      standAt spos
      holding [v, ov, iv] (setItem ov iv v)
      release [v, ov, iv] []) := by intro _; rfl) : VS X (.Assign [.Subscript (.Name x px) k spos] e pos) (tAsg te (gSub (tVar i) tk rSetL)) (wSetL i wk we) := ⟨ps_asg he.pe (pg_sub hv hk.pe set_list ha) hs hw h1, tok_setL hk.ok he.ok⟩
theorem sdput (hu : X.A.units + 66 < cLine) (hv : PE X (.Name x px) (tVar i)) (hk : VE X k tk wk) (he : VE X e te we) (hs : swapsWith e (some (.Subscript (.Name x px) k spos)) pos.line X.env = pure false := by rfl) :
    VS X (.Assign [.Subscript (.Name x px) k spos] e pos) (sDPut (tVar i) tk te) (wDput i wk we) := ⟨ps_dput (by omega) hv hk.pe he.pe hs, tok_dput hk.ok he.ok⟩
end

/-! ### sorted(d.items()), keys and values ints -/
section
open SrtO PySem.W
theorem inv_many {X : Cx} {pins : List (Addr × Obj)} {σ : L2.St} {H H' : Hp} {s : Shared} {h' : Heap} {tk : Nat} (I : Inv X pins σ H s) (kp : ∀ b o, s.heap.get? b = some o → h'.get? b = some o) (ex : Ex H H')
    (nw : ∀ b u, H' b = some u → H b = some u ∨ (s.heap.get? b = none ∧ ObjOk X.prog X.w H' h' b u)) : Inv X pins σ H' { s with heap := h', toks := tk } := by
  have un : Un (frs X.stack) [] H H' s.heap h' := by
    refine ⟨fun b o q _ _ _ => kp b o q, fun b o q _ _ _ => ⟨o.slots, kp b o q⟩, fun b o q n _ => ?_, fun b o q _ => ⟨o, kp b o q⟩, fun b xs q => ex b _ q, fun b o u q => ex b _ q, fun b ps q => ⟨#[], by rw [ex b _ q]; simp⟩⟩
    cases z : H' b with
    | none => rfl
    | some u =>
      rcases nw b u z with y | y
      · rw [n] at y; cases y
      · rw [y.1] at q; cases q
  refine I.call' (ch := []) rfl un (fun b u z => ?_) I.bare fun b z => by simp at z
  rcases nw b u z with y | y
  · exact (I.hok b u y).stay (fun c v _ q => kp c v q) (fun c q => ex c _ q) fun c xs q => ex c _ q
  · exact y.2
/-- the pair that stands behind a value -/
def twoAt (h : Heap) : Value → Int × Int
  | .ref a => match h.get? a with
    | some o => match o.data with
      | .seq arr _ => match arr.toList with
        | [.int i _, .int j _] => (i, j)
        | _ => (0, 0)
      | _ => (0, 0)
    | none => (0, 0)
  | _ => (0, 0)
theorem twoAt_of {h : Heap} {a : Addr} {o : Obj} {i j : Int} {t u : Tok} {n : Nat} (e : h.get? a = some o) (d : o.data = .seq #[.int i t, .int j u] n) : twoAt h (.ref a) = (i, j) := by
  simp only [twoAt, e, d]
theorem items_srt {prog : Program} {w : World} {A : Around} {E : Value → Shared → Prop} {s : Shared} {r d : Addr} {kvs : List (Key × Value)} {ep : Nat} {Q : Value → Shared → Prop} (hh : A.handled = none) (hv : s.heap.IsItemsView r d) (hm : s.heap.DictAt (mixKind prog w) d kvs ep) (hn : kvs.length ≤ sizeLine)
    (hi : ∀ p ∈ kvs, ∃ i j t, p.1 = Sum.inl i ∧ p.2 = .int j t)
    (h : ∀ (h' : Heap) (tk : Nat) (dd : Addr) (as : List Addr) (out : List Value) (k : Value → Int × Int), (∀ b o, s.heap.get? b = some o → h'.get? b = some o) → as.length = kvs.length → KdxG (mixKind prog w) kvs s.heap.objs.size h' as → (∀ (j : Nat) (a : Addr) (p : Int × Int) (t : Tok), as[j]? = some a → kvs[j]? = some (Sum.inl p.1, .int p.2 t) → k (.ref a) = p) →
      Srtd (fun v u => lexB (k v) (k u)) out → Stb (fun v u => lexB (k v) (k u)) out (as.map Value.ref) → s.heap.get? dd = none → (∀ H, HOk prog w H s.heap → H dd = none) → dd ∉ as → (∃ n, h'.get? dd = some (seqObj "list" out.toArray n)) → Q (.ref dd) { s with heap := h', toks := tk }) :
    wpAny (model prog w) A (call (.builtin "sorted") [.ref r]) Q E s := by
  refine Calls.call_function_entry kind_sorted plain_sorted entry_sorted (args_sorted1 _) (?_ : wpAny _ _ (Builtin.«sorted» _) _ _ s)
  unfold Builtin.«sorted»
  refine wpAny_bind (m := checkCount "sorted" 1 1 _) (wpAny_pure (wpAny_bind (kdx_collect hh hv hm hn fun h1 tk as k1 hl G => ?_)))
  have hp : ∀ v ∈ as.map Value.ref, Srt.IsPair h1 v (twoAt h1 v).1 (twoAt h1 v).2 := fun v hv => by
    obtain ⟨a, ha, rfl⟩ := List.mem_map.mp hv
    obtain ⟨j, hj⟩ := List.mem_iff_getElem?.mp ha
    obtain ⟨key, kk, x, e1, e2, e3⟩ := G.pairs j a hj
    obtain ⟨i, jj, t, f1, f2⟩ := hi _ (List.mem_of_getElem? e1)
    simp only at f1 f2
    subst f1 f2
    obtain ⟨t', rfl⟩ := (show ∃ t', key = Value.int i t' from relV_key (k := Sum.inl i) e2)
    rw [twoAt_of e3 rfl]
    exact ⟨a, _, t', t, _, rfl, e3, rfl, rfl⟩
  have hlen : (as.map Value.ref).length ≤ sizeLine := by rw [List.length_map, hl]; exact hn
  refine wpAny_bind (wpAny_newList (?_ : wpAny _ _ _ _ _ { s with heap := h1.push (seqObj "list" (as.map Value.ref).toArray 0), toks := tk }) hlen)
  have hoL : (h1.push (seqObj "list" (as.map Value.ref).toArray 0)).get? h1.objs.size = some (seqObj "list" (as.map Value.ref).toArray 0) := Heap.get?_push_size _ rfl
  have old : ∀ b o, h1.get? b = some o → b ≠ h1.objs.size ∧ (h1.push (seqObj "list" (as.map Value.ref).toArray 0)).get? b = some o := fun b o q => ⟨Nat.ne_of_lt (Heap.lt_size q), Heap.get?_push_of_some _ q⟩
  have no1 : h1.get? h1.objs.size = none := by
    cases q : h1.get? h1.objs.size with
    | none => rfl
    | some o => exact absurd (Heap.lt_size q) (Nat.lt_irrefl _)
  have sz : s.heap.get? h1.objs.size = none := by
    cases q : s.heap.get? h1.objs.size with
    | none => rfl
    | some o => rw [k1 _ _ q] at no1; cases no1
  have lst : ∀ out : List Value, Srtd (fun v u => lexB (twoAt h1 v) (twoAt h1 u)) out → Stb (fun v u => lexB (twoAt h1 v) (twoAt h1 u)) out (as.map Value.ref) → Q (.ref h1.objs.size) { s with heap := sortedHeap (h1.push (seqObj "list" (as.map Value.ref).toArray 0)) h1.objs.size (as.map Value.ref) out.toArray, toks := tk } := fun out hs hb => by
    have so : ∀ b o, h1.get? b = some o → (sortedHeap (h1.push (seqObj "list" (as.map Value.ref).toArray 0)) h1.objs.size (as.map Value.ref) out.toArray).get? b = some o := fun b o q => by
      rw [sortedHeap_old (old b o q).1 (Heap.lt_size (old b o q).2)]
      exact (old b o q).2
    refine h _ tk h1.objs.size as out (twoAt h1) (fun b o q => so b o (k1 b o q)) hl ⟨G.rise, G.above, fun j a hj => ?_⟩ (fun j a p t hj hk => ?_) hs hb sz (fun H ok => (ok.kept k1).fresh (Nat.le_refl _)) (fun m => Nat.lt_irrefl _ (G.there m)) (sortedHeap_at hoL)
    · obtain ⟨key, kk, x, e1, e2, e3⟩ := G.pairs j a hj
      exact ⟨key, kk, x, e1, e2, so a _ e3⟩
    · obtain ⟨key, kk, x, e1, e2, e3⟩ := G.pairs j a hj
      rw [hk] at e1
      cases e1
      obtain ⟨t', rfl⟩ := (show ∃ t', key = Value.int p.1 t' from relV_key (k := Sum.inl p.1) e2)
      rw [twoAt_of e3 rfl]
  refine wpAny_bind (wpAny_holding (wpAny_call_entry slot_list_sort ⟨_, hoL, rfl⟩ entry_list_sort (list_sort_ord (swo_lex (twoAt h1)) hoL hlen (fun h2 => pairs_sortableO (by omega) (fun v hm => (hp v hm).keeps fun b o e _ => (old b o e).2) fun o e => ?_) fun out hs hb => ⟨_, rfl, ?_⟩) (args_list_sort _)))
  · have e' : some o = some (seqObj "list" (as.map Value.ref).toArray 0) := e.symm.trans hoL
    cases e'
    intro c
    exact absurd (Value.type.inj c) (by decide)
  · exact wpAny_pure ⟨_, rfl, lst out hs hb⟩
end

def lexLe (p q : Int × Int) : Prop := p.1 < q.1 ∨ (p.1 = q.1 ∧ p.2 ≤ q.2)
def pairsK (kvs : List (Int × Int)) : List (Key × V) := kvs.map fun p => (Sum.inl p.1, V.int p.2)
def rSrtItems : V → Hp → VK → Prop := fun x H Q => ∃ (d : Addr) (kvs : List (Int × Int)), x = .ref d ∧ H d = some (.dK (pairsK kvs)) ∧
  ∀ (H' : Hp) (p : Addr) (ts : List Addr) (ys : List (Int × Int)), Ex H H' → H p = none → (∀ t ∈ ts, H t = none) → p ∉ ts → H' p = some (.lst (ts.map V.ref)) → Paired (fun (t : Addr) (q : Int × Int) => H' t = some (.tup [.int q.1, .int q.2])) ts ys → ys.Perm kvs → ys.Pairwise lexLe → Q (.ref p) H'
def tSrtItems (te : TE) : TE := fun σ H Q => te σ H fun x H1 => rSrtItems x H1 Q
def adr : Value → Addr
  | .ref a => a
  | _ => 0
theorem adr_map {as : List Addr} {out : List Value} (h : out.Perm (as.map Value.ref)) : out = (out.map adr).map Value.ref ∧ (out.map adr).Perm as := by
  refine ⟨?_, ?_⟩
  · rw [List.map_map]
    symm
    refine (List.map_congr_left fun v hv => ?_).trans (List.map_id _)
    obtain ⟨a, _, rfl⟩ := List.mem_map.mp (h.mem_iff.mp hv)
    rfl
  · have z := h.map adr
    rw [List.map_map] at z
    exact z.trans (List.Perm.of_eq ((List.map_congr_left fun a _ => rfl).trans (List.map_id as)))
theorem paired_map {α β : Type} {F : α → β → Prop} {f : α → β} : ∀ {l : List α}, (∀ a ∈ l, F a (f a)) → Paired F l (l.map f)
  | [], _ => .nil
  | a :: l, h => .cons (h a List.mem_cons_self) (paired_map fun b m => h b (List.mem_cons_of_mem _ m))
theorem lexB_le {p q : Int × Int} (h : SrtO.lexB q p = false) : lexLe p q := by
  have := SrtO.lexB_no.mp h
  unfold lexLe
  omega
theorem kv_ints : ∀ {kvs : List (Int × Int)} {vs : List (Key × Value)}, KV (pairsK kvs) vs → ∀ (j : Nat) (x : Key × Value), vs[j]? = some x → ∃ p t, kvs[j]? = some p ∧ x = (Sum.inl p.1, .int p.2 t)
  | [], _, .nil, j, x, h => by simp at h
  | p :: kvs, _, .cons (b := y) r t, 0, x, h => by
    simp at h
    subst h
    obtain ⟨e1, t', e2⟩ := r
    refine ⟨p, t', rfl, Prod.ext e1.symm e2⟩
  | p :: kvs, _, .cons r t, j + 1, x, h => by
    obtain ⟨q, t', e1, e2⟩ := kv_ints t j x (by simpa using h)
    exact ⟨q, t', by simpa using e1, e2⟩
section
variable {X : Cx} {e : Expr} {te : TE} {p apos cpos pos : Pos}
theorem pe_srtItems (hc : X.calm = true) (he : PE X e te) (hg : Gl X "sorted") (hm : X.mg "sorted" = none) (hbase : attributeBase e "items" X.env (eval e X.env) = eval e X.env := by rfl) (hline : (apos.endLine == cpos.line) = true := by rfl)
    (hs : starEach [.Call (.Attribute e "items" apos) [] [] cpos] X.env = (false, eval (.Call (.Attribute e "items" apos) [] [] cpos) X.env) :: starEach [] X.env := by rfl) :
    PE X (.Call (.Name "sorted" p) [.Call (.Attribute e "items" apos) [] [] cpos] [] pos) (tSrtItems te) := by
  refine ⟨fun pins s σ H Q I hq => wpAny_Call_Name_kw (ld_blt I hg hm (by rfl) (Calls.callWith_builtin (by rw [hs]; rfl) (Calls.evalArgs_plain ?_)))⟩
  refine Calls.spliced_cons (wpAny_Call_method (T := "dict") (id := "dict.items") hbase rfl hline F.plainAttrs_dict F.slot_dict_items F.type_dict_items (thn (he.run pins s σ H _ I hq) fun u s1 ⟨x, H1, I1, rx, d, kvs, ex, hd, q⟩ => ?_))
  subst ex
  obtain rfl : u = Value.ref d := rx
  obtain ⟨hz, hs0, vs, kv, hdo⟩ := I1.hok d _ hd
  obtain ⟨ep, hat⟩ := hdo.dictAt
  have lk : (pairsK kvs).length = vs.length := Paired.length kv
  have I2 : Inv X pins σ H1 { s1 with heap := s1.heap.push { cls := .type "dict_items", data := .fields #[.ref d] } } := I1.kept (t' := s1.toks) fun b ob q => Heap.get?_push_of_some _ q
  refine ⟨hdo.typeIs, hdo.mapOf.noDict, (?_ : wpAny _ _ (callWith cpos (.builtin "dict.items") [.ref d] [] []) _ X.xe s1)⟩
  refine method_meetsIn F.slot_dict_items F.entry_dict_items rfl (PySem.evalArgs_none ⟨rfl, hdo.typeIs, F.args_dict_items_1 _, _, meets_dict_items (mixKind X.prog X.w) d hs0, ⟨vs, hdo⟩, Calls.spliced_nil ?_⟩)
  refine items_srt (kvs := vs) (ep := ep) (I1.ok.hd hc) ⟨_, Heap.get?_push_size _ rfl, rfl, rfl⟩ (hat.push _) (by omega) (fun x hx => ?_) fun h' tk dd as out k k1 hl G hk ss sb hd0 hdH hdn hdd => ?_
  · obtain ⟨j, hj⟩ := List.mem_iff_getElem?.mp hx
    obtain ⟨pp, t, _, rfl⟩ := kv_ints kv j x hj
    exact ⟨pp.1, pp.2, t, rfl, rfl⟩
  · obtain ⟨o1, o2⟩ := adr_map sb.perm
    have newA : ∀ a ∈ as, H1 a = none ∧ (s1.heap.push { cls := .type "dict_items", data := .fields #[.ref d] }).get? a = none := fun a m => by
      have z := G.above a m
      refine ⟨I2.hok.fresh (Nat.le_of_lt z), ?_⟩
      cases w : (s1.heap.push { cls := .type "dict_items", data := .fields #[.ref d] }).get? a with
      | none => rfl
      | some o => exact absurd (Heap.lt_size w) (Nat.not_lt.mpr (Nat.le_of_lt z))
    have newD : H1 dd = none := hdH H1 I2.hok
    let H' : Hp := fun b => if b = dd then some (.lst ((out.map adr).map V.ref)) else if b ∈ as then some (.tup [.int (k (.ref b)).1, .int (k (.ref b)).2]) else H1 b
    have ex : Ex H1 H' := fun b o hb => by
      show (if b = dd then _ else if b ∈ as then _ else H1 b) = _
      rw [if_neg fun z => (by rw [z, newD] at hb; cases hb), if_neg fun m => (by rw [(newA b m).1] at hb; cases hb)]
      exact hb
    have atA : ∀ b ∈ as, H' b = some (.tup [.int (k (.ref b)).1, .int (k (.ref b)).2]) := fun b m => by
      show (if b = dd then _ else if b ∈ as then _ else H1 b) = _
      rw [if_neg fun z => hdn (by rw [← z]; exact m), if_pos m]
    have I3 : Inv X pins σ H' { s1 with heap := h', toks := tk } := by
      refine inv_many (s := { s1 with heap := s1.heap.push { cls := .type "dict_items", data := .fields #[.ref d] } }) I2 k1 ex fun b u z => ?_
      have z' : (if b = dd then some (HO.lst ((out.map adr).map V.ref)) else if b ∈ as then some (.tup [.int (k (.ref b)).1, .int (k (.ref b)).2]) else H1 b) = some u := z
      by_cases hb : b = dd
      · rw [if_pos hb] at z'
        cases z'
        refine .inr ⟨by rw [hb]; exact hd0, ?_⟩
        obtain ⟨n, hn⟩ := hdd
        refine ⟨?_, out, n, ?_, by rw [hb]; exact hn⟩
        · rw [List.length_map, List.length_map, sb.perm.length_eq, List.length_map, hl, ← lk]
          exact hz
        · have vr : ∀ l : List Addr, Vals (l.map V.ref) (l.map Value.ref) := fun l => LiI.vals_refs l
          have := vr (out.map adr)
          rwa [← o1] at this
      · rw [if_neg hb] at z'
        by_cases m : b ∈ as
        · rw [if_pos m] at z'
          cases z'
          refine .inr ⟨(newA b m).2, ?_⟩
          obtain ⟨j, hj⟩ := List.mem_iff_getElem?.mp m
          obtain ⟨key, kk, x, e1, e2, e3⟩ := G.pairs j b hj
          obtain ⟨pp, t, ek, ee⟩ := kv_ints kv j _ e1
          simp only [Prod.mk.injEq] at ee
          obtain ⟨rfl, rfl⟩ := ee
          obtain ⟨t', rfl⟩ := (show ∃ t', key = Value.int pp.1 t' from relV_key (k := Sum.inl pp.1) e2)
          rw [hk j b pp t hj e1]
          exact ⟨by show 2 ≤ sizeLine; decide, [.int pp.1 t', .int pp.2 t], .cons ⟨_, rfl⟩ (.cons ⟨_, rfl⟩ .nil), ⟨_, e3, rfl, _, rfl⟩⟩
        · rw [if_neg m] at z'
          exact .inl z'
    refine ⟨.ref dd, H', I3, rfl, q H' dd (out.map adr) ((out.map adr).map fun a => k (.ref a)) ex newD (fun t m => (newA t (o2.mem_iff.mp m)).1) (fun m => hdn (o2.mem_iff.mp m)) (if_pos rfl) (paired_map fun a m => atA a (o2.mem_iff.mp m)) ?_ ?_⟩
    · refine (o2.map _).trans (List.Perm.of_eq ?_)
      refine List.ext_getElem? fun j => ?_
      rw [List.getElem?_map]
      cases hj : as[j]? with
      | none =>
        have : kvs[j]? = none := by
          rw [List.getElem?_eq_none_iff] at hj ⊢
          have : kvs.length = (pairsK kvs).length := by simp [pairsK]
          omega
        rw [this]; rfl
      | some a =>
        obtain ⟨key, kk, x, e1, e2, e3⟩ := G.pairs j a hj
        obtain ⟨pp, t, ek, ee⟩ := kv_ints kv j _ e1
        rw [ee] at e1
        rw [ek, Option.map_some, hk j a pp t hj e1]
    · have : (out.map adr).map (fun a => k (.ref a)) = out.map k := by
        conv => rhs; rw [o1]
        rw [List.map_map, List.map_map, List.map_map]
        rfl
      rw [this, List.pairwise_map]
      exact ss.imp fun h => lexB_le h
/-- sorted(d.items()): a new list of new pairs -/
def wSrtItems (wd : WE) : WE := fun vw P => wd vw fun d => ∃ es : List (Int × Int), d = dicD (es.map fun p => (Sum.inl p.1, .int p.2)) ∧ ∀ ys : List (Int × Int), ys.Perm es → ys.Pairwise lexLe → P (.list (ys.map fun p => .tuple [.int p.1, .int p.2]))
theorem ints_rep {G : Hp} : ∀ {kvs : List (Key × V)} {es : List (Int × Int)}, kvs.map (·.1) = (es.map fun p => ((Sum.inl p.1 : Key), PyData.int p.2)).map (·.1) → RepA G (kvs.map (·.2)) ((es.map fun p => ((Sum.inl p.1 : Key), PyData.int p.2)).map (·.2)) → kvs = pairsK es
  | [], [], _, _ => rfl
  | [], _ :: _, h, _ => by simp at h
  | _ :: _, [], h, _ => by simp at h
  | p :: kvs, q :: es, h, r => by
    simp only [List.map_cons, List.cons.injEq] at h
    cases r with
    | cons r1 rs =>
      rw [ints_rep h.2 rs]
      show p :: pairsK es = (Sum.inl q.1, V.int q.2) :: pairsK es
      rw [show p = (Sum.inl q.1, V.int q.2) from Prod.ext h.1 (rep_int r1)]
theorem ownA_pairs {G H' : Hp} : ∀ {ts : List Addr} {ys : List (Int × Int)}, Paired (fun (t : Addr) (q : Int × Int) => H' t = some (.tup [.int q.1, .int q.2])) ts ys → (∀ t ∈ ts, G t = H' t) → OwnA G H' (ts.map V.ref) (ys.map fun p => .tuple [.int p.1, .int p.2]) []
  | _, _, .nil, _ => .nil
  | _, _, .cons (a := t) (b := q) h r, e => by
    have h0 : Own G H' (.ref t) (.tuple [.int q.1, .int q.2]) [] := .leaf rfl (.tup ((e t List.mem_cons_self).trans h) (.cons (.int _) (.cons (.int _) .nil)))
    exact .cons (F := []) (F' := []) h0 (ownA_pairs r fun t m => e t (List.mem_cons_of_mem _ m))
theorem oko_srtItems {wd : WE} (hd : TEok te wd) : TOok (tSrtItems te) (wSrtItems wd) := by
  intro pa G H σ vw P Q vi e h k
  refine hd pa G H σ vw _ _ vi e h fun x G1 H1 d s1 r1 h1 => ?_
  obtain ⟨es, rfl, h1⟩ := h1
  obtain ⟨a, kvs, rfl, ha, hk, hr⟩ := rep_dic r1
  rw [ints_rep hk hr] at ha
  refine ⟨a, es, rfl, s1.gh _ _ ha, fun H' p ts ys ex np nt nin hp pr pm pw => ?_⟩
  let G' : Hp := fun b => if b ∈ ts then H' b else G1 b
  have gn : ∀ t ∈ ts, G1 t = none := fun t m => s1.gh.back (nt t m)
  have s2 : Step pa G1 H1 G' H' := by
    refine ⟨fun b o hb => ?_, fun b o _ hb => ex b o hb, fun b z i => ?_, fun b o hb => ?_, fun b n z => ?_⟩
    · show (if b ∈ ts then _ else _) = _
      rw [if_neg fun m => by rw [gn b m] at hb; cases hb]
      exact hb
    · obtain ⟨x, y, q, r⟩ := i
      exact ⟨x, y, ex _ _ q, r⟩
    · have hb' : (if b ∈ ts then H' b else G1 b) = some o := hb
      split at hb'
      · exact hb'
      · exact ex _ _ (s1.gh _ _ hb')
    · show (if b ∈ ts then _ else _) = _
      rw [if_neg fun m => n (nt b m)]
      exact z
  have s := s1.trans vi.isPot s2
  refine k (.ref p) G' H' _ [p] s (.lst hp (ownA_pairs pr fun t m => if_pos m)) (by simp) (fun b m => ?_) (h1 ys pm pw)
  obtain rfl := List.mem_singleton.mp m
  refine ⟨none_of_ne (s1.ne vi.isPot) np, ?_⟩
  show (if b ∈ ts then _ else _) = _
  rw [if_neg nin]
  exact s1.gh.back np
theorem osrtItems {wd : WE} (hc : X.calm = true) (he : VE X e te wd) (hg : Gl X "sorted") (hm : X.mg "sorted" = none) (hbase : attributeBase e "items" X.env (eval e X.env) = eval e X.env := by rfl) (hline : (apos.endLine == cpos.line) = true := by rfl)
    (hs : starEach [.Call (.Attribute e "items" apos) [] [] cpos] X.env = (false, eval (.Call (.Attribute e "items" apos) [] [] cpos) X.env) :: starEach [] X.env := by rfl) :
    VO X (.Call (.Name "sorted" p) [.Call (.Attribute e "items" apos) [] [] cpos] [] pos) (tSrtItems te) (wSrtItems wd) := ⟨pe_srtItems hc he.pe hg hm hbase hline hs, oko_srtItems he.ok⟩
end
end Vl
/-! VlI: the pot. -/
namespace Vl
open PySem PySem.Spec PyProof.Rows L2

theorem fn_bodyP {P : Program} {w : World} {K : PySem.W.Frag} {mg : Str → Option Value} {base : Heap} {x qual : Str} {st : Stmt} {f : Addr} {fd : FuncData} {N ps : List Str} {k : Nat} {S : WF} (F : Fun K x qual st f fd) (Sc : FnScope N ps (defScope st)) (hl : ∀ ds P, S ds P → ds.length + 1 = ps.length)
    (hb : ∀ cdv A outer s H E, (cxOf CX0 P w K mg base N qual (defScope st) f cdv A outer s H E).nox.A.guards = some [] → Room k (cxOf CX0 P w K mg base N qual (defScope st) f cdv A outer s H E).nox.A →
      ∃ t ws, VSs (cxOf CX0 P w K mg base N qual (defScope st) f cdv A outer s H E).nox (defBody st) t ws ∧ ∀ ds Q, S ds Q → ws { nx := fun _ => Q (.v .none), rt := Q } (env0 true N.length ds)) : FnG P w K mg base (k + 1) f fd ps (spP S) := by
  refine FnG.body F Sc (fun vs H Q E h => ?_) fun cdv A outer s H vs Q E hg hr h => ?_
  · obtain ⟨a, us, G, ds, P, rfl, _, _, _, r, hs, _⟩ := h
    rw [List.length_cons, r.length]
    exact hl ds P hs
  · obtain ⟨a, us, G, ds, P', rfl, hp, hga, ex, r, hs, k'⟩ := h
    obtain ⟨t, ws, hv, hw⟩ := hb cdv A outer s H E hg hr
    refine ⟨t, hv.ps, ?_⟩
    have e1 : L2.start N (.ref a :: us) = some (.ref a) :: (us.map some ++ List.replicate (N.length - ds.length - 1) none) := by
      unfold L2.start
      rw [List.map_cons, List.cons_append, List.length_cons, r.length, Nat.sub_add_eq]
    let B : Hp := fun b => if b = a then none else H b
    have S0 : Sim (some a) G B G H (L2.start N (.ref a :: us)) (env0 true N.length ds) [] := by
      refine ⟨?_, by simp [env0], Ex.refl G, ex, fun b o hb => ?_, fun _ _ e => e, List.nodup_nil, fun a m => (nomatch m), fun b e => ?_⟩
      · rw [e1]
        have := SimL.skip (x := some (.ref a)) (simL_start (H := H) (N.length - ds.length - 1) r)
        simpa [env0] using this
      · have hb' : (if b = a then none else H b) = some o := hb
        split at hb'
        · cases hb'
        · exact hb'
      · cases e
        exact ⟨by rw [e1]; rfl, hp, hga, if_pos rfl⟩
    have fin : ∀ {G' H' : Hp}, Ex G G' → Ex B H' → (∀ b, B b ≠ none → G b = none → G' b = none) → Ex G' H' → (∀ b, some a = some b → IsPot H' b ∧ G' b = none) → Step (some a) G H G' H' := fun {G' H'} gg bh gb gh pt => by
      refine ⟨gg, fun b o n e => bh b o ?_, fun b e i => ?_, gh, fun b n e => ?_⟩
      · show (if b = a then none else H b) = _
        rw [if_neg fun z => n (by rw [z])]
        exact e
      · exact (pt b e).1
      · by_cases z : b = a
        · exact (pt b (by rw [z])).2
        · refine gb b ?_ e
          show (if b = a then none else H b) ≠ none
          rw [if_neg z]
          exact n
    have nw : ∀ {b : Addr}, B b = none → some b ≠ some a → H b = none := fun {b} h n => by
      have h' : (if b = a then none else H b) = none := h
      rw [if_neg fun z => n (by rw [z])] at h'
      exact h'
    refine hv.ok (some a) G B _ { nx := fun _ => P' (.v .none), rt := P' } ⟨fun G' H' σ ρ F' S' q => ?_, fun G' H' v r F' S' q => ?_, fun _ _ _ _ _ _ q => q.elim, fun _ _ _ _ _ _ q => q.elim⟩ G H _ _ [] S0 (hw ds P' hs)
    · exact k' .non G' H' (.v .none) [] (fin S'.gg S'.bh S'.gb S'.gh fun b e => let ⟨_, x, y, _⟩ := S'.pot b e; ⟨x, y⟩) ⟨.non, rfl⟩ List.nodup_nil (fun a m => nomatch m) q
    · exact k' v G' H' r F' (fin S'.gg S'.bh S'.gb S'.gh fun b e => let ⟨x, y, _⟩ := S'.pot b e; ⟨x, y⟩) S'.hr S'.nd (fun b m => ⟨nw (S'.fr b m).1 (S'.fr b m).2.2, (S'.fr b m).2.1⟩) q

/-! a call on a pot that is just made: f(g(..)) -/
def potD (d : PyData) : Prop := ∃ x y : Int, d = .list [.int x, .int y] ∧ 0 ≤ x ∧ 0 ≤ y ∧ y < 2147483648
def wFnNew (S : WF) (wo : WE) : WE := fun vw P => wo vw fun d => potD d ∧ S [] fun r => P r.d
theorem ok_fnNew {S : WF} {te : TE} {wo : WE} (ho : TOok te wo) : TEok (tG (spP S) [] (tCons te tNil)) (wFnNew S wo) := by
  intro pa G H σ vw P Q vi e h k
  refine ho pa G H σ vw _ _ vi e h fun v G1 H1 d F s1 o nd fr h1 => ?_
  obtain ⟨⟨x, y, rfl, h2, h3, h4⟩, hS⟩ := h1
  obtain ⟨a, vs, Ft, rfl, rfl, ha, oa⟩ := own_list o
  have hva : vs = [.int x, .int y] := by
    cases oa with
    | cons o1 r1 => cases r1 with
      | cons o2 r2 => cases r2 with
        | nil => rw [rep_int (own_box rfl o1).2, rep_int (own_box rfl o2).2]
  subst hva
  have fra := fr a List.mem_cons_self
  refine ⟨a, [], G1, [], _, rfl, ⟨x, y, ha, h2, h3, h4⟩, fra.2, s1.gh, .nil, hS, fun v G' H' r F' s o' nd' fr' q => ?_⟩
  have s12 : Step pa G H G' H' := by
    refine ⟨s1.g.trans s.g, fun b u n hb => ?_, fun b z i => ?_, s.gh, fun b n z => ?_⟩
    · refine s.h b u (fun z => ?_) (s1.h b u n hb)
      cases z
      rw [fra.1] at hb; cases hb
    · have i1 := s1.p b z i
      obtain ⟨x', y', q', r'⟩ := i1
      exact ⟨x', y', s.h b _ (fun w => by cases w; exact i.ne fra.1) q', r'⟩
    · exact s.fr b (s1.ne vi.isPot n) (s1.fr b n z)
  obtain ⟨G2, s2, r2⟩ := frz_res s12 o' (fun b m => ⟨none_of_ne (s1.ne vi.isPot) (fr' b m).1, (fr' b m).2⟩)
  exact k v G2 H' r.d s2 r2 q
theorem vfnNew {X : Cx} {lv : Nat} {st : Stmt} {ps : List Str} {S : WF} {x : Str} {p pos : Pos} {e : Expr} {te : TE} {wo : WE} (D : DG X lv x st ps (spP S)) (hgu : X.A.guards = some []) (hr : Room lv X.A) (hg : Gl X x) (ha : VO X e te wo)
    (hdb : (x == ("__debug__" : Str)) = false := by decide) (he : starEach [e] X.env = (false, eval e X.env) :: starEach [] X.env := by rfl) (hpl : (backTo pos (starEach [] X.env)).any (·.1) = false := by rfl) :
    VE X (.Call (.Name x p) [e] [] pos) (tG (spP S) [] (tCons te tNil)) (wFnNew S wo) := by
  obtain ⟨f, fd, F, hm, hk, _, hb⟩ := D.ex
  exact ⟨pe_g F hgu hr hg hm hk hb .nil (pa_cons ha.pe pa_nil he) hdb he hpl, ok_fnNew ha.ok⟩

/-! a draw -/
def sDraw : WF := fun ds P => ∃ m : Int, ds = [.int m] ∧ 0 < m ∧ m < 2147483648 ∧ ∀ i : Int, 0 ≤ i → i < m → P (.v (.int i))
end Vl
/-! VlJ: the law's own end; helpers. -/
namespace Vl
open PySem PySem.Spec PyProof.Rows L2

theorem huOf {k : Nat} {A : Around} (r : Room k A) : A.units + 66 < cLine := by
  have := r.un
  omega
def blkB (N : List Str) (sc scope : Scope) (own : List (Str × Nat)) : Bool :=
  decide (scope.kind = .function) && (scope.names.all fun y => decide (scope.names.lookup y.1 = some y.2)) && (own.all fun p => decide (N[p.2]? = some p.1)) &&
  (scope.names.all fun y => !decide (y.2 = .free) || decide (sc.names.lookup y.1 = some .cell) || decide (sc.names.lookup y.1 = some .free)) &&
  (scope.names.all fun y => !(decide (y.2 = .local) || decide (y.2 = .cell)) || decide (y.1 ∈ own.map (·.1)) || decide (y.1 ∉ N))
theorem blk_ok {N : List Str} {sc scope : Scope} {own : List (Str × Nat)} (h : blkB N sc scope own = true) : BlkOk N sc scope own := by
  unfold blkB at h
  simp only [Bool.and_eq_true, List.all_eq_true, decide_eq_true_eq, Bool.or_eq_true, Bool.not_eq_true', decide_eq_false_iff_not] at h
  obtain ⟨⟨⟨⟨h1, h2⟩, h3⟩, h4⟩, h5⟩ := h
  refine ⟨h1, h2, h3, fun y m e => ?_, fun y m e => ?_⟩
  · rcases h4 y m with (z | z) | z
    · exact absurd e z
    · exact .inl z
    · exact .inr z
  · rcases h5 y m with (z | z) | z
    · rcases e with e | e
      · rw [e] at z; simp at z
      · rw [e] at z; simp at z
    · exact .inl z
    · exact .inr z

/-! ### the law, at the top's end -/
def scrH (K : PySem.W.Frag) (a : Addr) (ob : Obj) (ns : List Int) : Hp := fun b => if b = a ∧ K.lookup a = none then some (.frz ob (.lst (ns.map V.int))) else none
theorem scrH_at {K : PySem.W.Frag} {a b : Addr} {ob : Obj} {ns : List Int} {u : HO} (h : scrH K a ob ns b = some u) : b = a ∧ K.lookup a = none ∧ u = .frz ob (.lst (ns.map V.int)) := by
  unfold scrH at h
  split at h
  · rename_i q
    exact ⟨q.1, q.2, (Option.some.inj h).symm⟩
  · cases h
/-- law's promise: it is handed a list of at most 63 ints -/
def spLaw (K : PySem.W.Frag) : Sp := fun vs H Q _ => ∃ (a : Addr) (ns : List Int), vs = [.ref a] ∧ SqL K H a (ns.map V.int) ∧ ns.length ≤ 63 ∧ ∀ H', Q (.bl true) H'
theorem walkG {l : PySem.W.OpenLaw} {k : Nat} {q : Program} {loose : List Str} {XP : (Str → Option Value) → Heap → Prop} {YP : World → Heap → Prop} {d : DefRec} {K : Params → PySem.W.Frag} (hn : l.most = some 63) (hdf : d.params.defaults = []) (hr : Room k callerA)
    (hY : ∀ (w : World) (h : Heap), YP w h → (K w.params).In h)
    (F : ∀ (w : World) (mg : Str → Option Value) (fa : Addr) (h : Heap), (K w.params).In h → h.Ns mainGlobals mg → mg d.name = some (.ref fa) →
      ∃ fd : FuncData, (∀ (s : Shared) (v : Value), BindsTo s fd ⟨[v], []⟩ [("script", v)]) ∧ ∀ base : Heap, (K w.params).In base → base.Ns mainGlobals mg → FnG l.prog w (K w.params) mg base k fa fd ["script"] (spLaw (K w.params))) :
    PySem.W.WalkO q loose XP YP l.row.toRowW d [] (fun f vs => PySem.call f vs) := by
  refine Att.attach_call hn hdf fun w s0 s1 mg mb fa o pm cd doc a vs ns G Y ho hd hcd hmg hobj hints hlen hgen => ?_
  have KX := hY w _ Y
  obtain ⟨fd, hb, hF⟩ := F w mg fa _ KX G.T.g hmg
  have rv : Vals (ns.map V.int) vs := vals_ints hints
  have lv : vs.length = ns.length := hints.length
  have l63 : ns.length ≤ sizeLine := Nat.le_trans hlen (by decide)
  generalize hob : ({ cls := .type "list", data := .seq vs.toArray } : Obj) = ob at hobj
  -- what is hidden is no dict, and K's own things are not hidden
  have free : ∀ {b : Addr} {u : Obj}, s1.heap.get? b = some u → (b = a → u.data ≠ ob.data ∨ (K w.params).lookup a ≠ none) → scrH (K w.params) a ob ns b = none := fun {b u} e n => by
    cases z : scrH (K w.params) a ob ns b with
    | none => rfl
    | some v =>
      obtain ⟨rfl, z2, _⟩ := scrH_at z
      rw [hobj] at e
      cases e
      rcases n rfl with y | y
      · exact absurd rfl y
      · exact absurd z2 y
  have ns1 : ∀ {b : Addr} {m : Str → Option Value}, s1.heap.Ns b m → (hidT s1.heap (scrH (K w.params) a ob ns)).Ns b m := fun {b m} x => by
    obtain ⟨u, es, ep, e, dd, r⟩ := x
    refine ⟨u, es, ep, hidT_get e (free e fun _ => .inl fun z => ?_), dd, r⟩
    rw [← hob] at z
    have y : Data.dict es ep = Data.seq vs.toArray _ := dd.symm.trans z
    cases y
  have kIn : (K w.params).In (hidT s1.heap (scrH (K w.params) a ob ns)) := fun b u e => hidT_get (KX b u e) (free (KX b u e) fun z => .inr (by rw [← z, e]; simp))
  have md : Mod (K w.params) mg (hidT s1.heap (scrH (K w.params) a ob ns)) := by
    obtain ⟨mc, h1, h2⟩ := G.T.nolimit
    exact ⟨kIn, ns1 G.T.g, ⟨mb, ns1 G.T.b, G.T.builtins⟩, mc, ns1 h1, h2⟩
  have okH : HOk l.prog w (scrH (K w.params) a ob ns) s1.heap := fun b u z => by
    obtain ⟨rfl, _, rfl⟩ := scrH_at z
    refine ⟨hobj, by rw [List.length_map]; exact l63, vs, 0, rv, ?_⟩
    rw [hobj, ← hob]
  have env : Env0 l.prog w (K w.params) mg (hidT s1.heap (scrH (K w.params) a ob ns)) callerA [] s1 (scrH (K w.params) a ob ns) :=
    ⟨rfl, md, fun b u e => of_hidT e, Nat.le_of_eq (hidT_size _ _), trivial, fun b m => absurd (show b ∈ ([] : List Addr) from m) (by simp), okH, .of_eq hgen⟩
  have sq : SqL (K w.params) (scrH (K w.params) a ob ns) a (ns.map V.int) := by
    cases hk : (K w.params).lookup a with
    | none => exact .inl (.inr ⟨ob, if_pos ⟨rfl, hk⟩⟩)
    | some u =>
      have e := KX a u hk
      rw [hobj] at e
      cases e
      subst hob
      exact .inr ⟨_, vs.toArray, _, hk, rfl, rfl, rfl, by rw [List.size_toArray, lv]; exact l63, by simpa using rv⟩
  have run := (hF _ kIn (ns1 G.T.g)).run callerA [] s1 (scrH (K w.params) a ob ns) ⟨[.ref a], []⟩ [.ref a] [.ref a] (fun v _ => v = .bl true) (fun _ _ _ => False) rfl hr env (hb s1 (.ref a)) (.cons rfl .nil) ⟨a, ns, rfl, sq, hlen, fun _ => rfl⟩
  refine codeAny_mono run fun r s' h => ?_
  match r, h with
  | .ok (.ret u), h =>
    obtain ⟨v, H', os, bare, un, okE, ru, qv⟩ := h
    obtain rfl : v = .bl true := qv
    obtain rfl : u = Value.bool true := ru
    refine ⟨rfl, PySem.OldK.of_keep fun b u e => ?_, os, bare⟩
    cases z : scrH (K w.params) a ob ns b with
    | none => exact un.keep b u e z (fun y => absurd (show b ∈ ([] : List Addr) from y) (by simp)) (by simp)
    | some x =>
      obtain ⟨rfl, z2, rfl⟩ := scrH_at z
      have z3 := un.frzs b ob _ z
      obtain ⟨e2, _⟩ := okE b _ z3
      rw [hobj] at e
      cases e
      exact e2
end Vl
/-! VlK: the same rules with the written part by itself (a block's parts must not hang on the block). -/
namespace Vl
open PySem PySem.Spec PyProof.Rows L2
section
variable {X : Cx} {a b e e2 o tg l : Expr} {ta tb te tl td : TE} {t : TA} {wa wb we : WE} {wx : WA} {lo hi : Option Expr} {t1 th : TO} {wl wh : WP} {p p1 p2 p3 pos tpos : Pos} (K : PySem.W.Frag)
theorem cEqK (hu : X.A.units + 66 < cLine) (hK : X.K = K := by rfl) : VR X .Eq (rEqV2 K) (wEq2 false) := by
  subst hK
  exact cEq hu
theorem cNeK (hu : X.A.units + 66 < cLine) (hK : X.K = K := by rfl) : VR X .NotEq (rNeV2 K) (wEq2 true) := by
  subst hK
  exact cNe hu
theorem cInK (hu : X.A.units + 66 < cLine) (hK : X.K = K := by rfl) : VR X .In (rInD K) (wIn2 false) := by
  subst hK
  exact cIn hu
theorem cNotInK (hu : X.A.units + 66 < cLine) (hK : X.K = K := by rfl) : VR X .NotIn (rNotInD K) (wIn2 true) := by
  subst hK
  exact cNotIn hu
theorem vixK (ha : VE X a ta wa) (hb : VE X b tb wb) (hs : PlainIx b := by exact fun _ _ => rfl) (hK : X.K = K := by rfl) : VE X (.Subscript a b pos) (tOp (rIx K) ta tb) (wOp wIx2 wa wb) := by
  subst hK
  exact vix ha hb hs
theorem vslK (he : VE X e te we) (hl : VP X lo t1 wl) (hh : VP X hi th wh) (hK : X.K = K := by rfl) : VE X (.Subscript e (.Slice lo hi none p2) pos) (tSl (rSlV K) te t1 th) (wSl we wl wh) := by
  subst hK
  exact vsl he hl hh
theorem oslK (he : VE X e te we) (hl : VP X lo t1 wl) (hh : VP X hi th wh) (hK : X.K = K := by rfl) : VO X (.Subscript e (.Slice lo hi none p2) pos) (tSl (rSlV K) te t1 th) (wSlO we wl wh) := by
  subst hK
  exact osl he hl hh
theorem vrevK {k : Nat} (he : VE X e te we) (hK : X.K = K := by rfl) : VE X (.Subscript e (.Slice none none (some (.UnaryOp .USub (.Constant (.int 1) k p1) p2)) p3) pos) (tRevL K te) (wRev we) := by
  subst hK
  exact vrev he
theorem vcatK (ha : VE X a ta wa) (hb : VE X b tb wb) (hK : X.K = K := by rfl) : VE X (.BinOp a .Add b pos) (tOp (rCatV K) ta tb) (wOp wCat2 wa wb) := by
  subst hK
  exact vcat ha hb
theorem ocatK (ha : VE X a ta wa) (hb : VE X b tb wb) (hK : X.K = K := by rfl) : VO X (.BinOp a .Add b pos) (tOp (rCatV K) ta tb) (wCatO wa wb) := by
  subst hK
  exact ocat ha hb
theorem cLenK (hK : X.K = K := by rfl) : CR1 X (.builtin "len") (rLenV K) wLen := by
  subst hK
  exact cLen
theorem cSumK (hc : X.calm = true) (hK : X.K = K := by rfl) : CR1 X (.builtin "sum") (rSum K) wSum := by
  subst hK
  exact cSum hc
theorem cAllK (hc : X.calm = true) (hK : X.K = K := by rfl) : CR1 X (.builtin "all") (rAll K) wAll := by
  subst hK
  exact cAll hc
theorem cAnyK (hc : X.calm = true) (hK : X.K = K := by rfl) : CR1 X (.builtin "any") (rAny K) wAny := by
  subst hK
  exact cAny hc
theorem coSortedK (hK : X.K = K := by rfl) : CO1 X (.builtin "sorted") (rSortedI K) wSorted := by
  subst hK
  exact coSorted
theorem coListK (hK : X.K = K := by rfl) : CO1 X (.type "list") (fun xs H Q => ∃ p ys, xs = [.ref p] ∧ (SqL K H p ys ∨ SqT K H p ys) ∧ ∀ l, H l = none → Q (.ref l) (upd H l (.lst ys))) wList1 := by
  subst hK
  exact coList
theorem cListK (hK : X.K = K := by rfl) : CR1 X (.type "list") (fun xs H Q => ∃ p ys, xs = [.ref p] ∧ (SqL K H p ys ∨ SqT K H p ys) ∧ ∀ l, H l = none → Q (.ref l) (upd H l (.lst ys))) wListF := by
  subst hK
  exact cList
theorem cTupleK (hK : X.K = K := by rfl) : CR1 X (.type "tuple") (fun xs H Q => ∃ p ys, xs = [.ref p] ∧ ((SqL K H p ys ∧ ∀ l, H l = none → Q (.ref l) (upd H l (.tup ys))) ∨ (SqT K H p ys ∧ Q (.ref p) H))) wTuple1 := by
  subst hK
  exact cTuple
theorem cReprK (hg : X.A.guards = some []) (hu : X.A.units + 66 < cLine) (hK : X.K = K := by rfl) : CR1 X (.builtin "repr") (rRepr K) wRepr := by
  subst hK
  exact cRepr hg hu
theorem iseqK (h : VE X l tl we) (hK : X.K = K := by rfl) : VI X tg l (iSeq K tl) (wSeq we) := by
  subst hK
  exact iseq h
theorem ienumK {elts : List Expr} {kk : Nat} (hg : Gl X "enumerate") (hm : X.mg "enumerate" = none) (ha : VA X [e] t wx) (hs : starEach [e] X.env = [(false, eval e X.env)] := by rfl) (hK : X.K = K := by rfl) : VI X (.Tuple elts kk tpos) (.Call (.Name "enumerate" p) [e] [] pos) (iEnum K t) (wEnum wx) := by
  subst hK
  exact ienum hg hm ha hs
theorem izipK {elts : List Expr} {kk : Nat} (hg : Gl X "zip") (hm : X.mg "zip" = none) (ha : VA X [e, e2] t wx) (hs : starEach [e, e2] X.env = (false, eval e X.env) :: starEach [e2] X.env := by rfl) (hpl : (backTo pos (starEach [e2] X.env)).any (·.1) = false := by rfl) (hK : X.K = K := by rfl) : VI X (.Tuple elts kk tpos) (.Call (.Name "zip" p) [e, e2] [] pos) (RZ.iZipA K t) (wZip wx) := by
  subst hK
  exact izip hg hm ha hs hpl
theorem vgTK {es : List Expr} {is vs : List Nat} {k : Nat} (hc : X.calm = true) (h : VGs X es is) (hv : ∀ i ∈ is, i ≠ 0 ∧ i ∈ vs := by decide) (hn : (assignEach es X.env).length = is.length := by rfl) (hst : (assignEach es X.env).findIdx? (·.1) = none := by rfl) (hK : X.K = K := by rfl) : VG X (.Tuple es k pos) vs (gTup K is.length (gNames is)) (gvT is) := by
  subst hK
  exact vgT hc h hv hn hst
theorem visiK {T : String} {x : Str} (hm : X.mg "isinstance" = none) (hg : Gl X "isinstance") (hg2 : Gl X x) (hm2 : X.mg x = none) (hv2 : bootBuiltins x = some (.type T)) (ha : VE X a ta wa) (hT : (seven.all fun t => (kitB t T).isSome) = true := by decide +kernel) (hn : x ≠ "__name__" := by decide) (hd : (x == ("__debug__" : Str)) = false := by decide)
    (hs : starEach [a, .Name x p2] X.env = (false, eval a X.env) :: starEach [.Name x p2] X.env := by rfl) (hs2 : starEach [.Name x p2] X.env = (false, eval (.Name x p2) X.env) :: starEach [] X.env := by rfl) (hpl : (backTo pos (starEach [.Name x p2] X.env)).any (·.1) = false := by rfl) (hK : X.K = K := by rfl) : VE X (.Call (.Name "isinstance" p1) [a, .Name x p2] [] pos) (tCB (rIsi K) (tCons ta (tCons (tC (.ty T)) tNil))) (wIsi T wa) := by
  subst hK
  exact visi hm hg hg2 hm2 hv2 ha hT hn hd hs hs2 hpl
end
end Vl
/-! PmA: plain numbers: factorings into primes, the free count. -/
namespace Pm
/-- prime -/
def IsP (p : Nat) : Prop := 2 ≤ p ∧ ∀ d, 2 ≤ d → d ∣ p → p ≤ d
theorem IsP.cop {p d : Nat} (hp : IsP p) (h : ¬ p ∣ d) : Nat.Coprime p d := by
  have h1 : Nat.gcd p d ∣ p := Nat.gcd_dvd_left p d
  have h2 : Nat.gcd p d ∣ d := Nat.gcd_dvd_right p d
  have h3 : 0 < Nat.gcd p d := Nat.gcd_pos_of_pos_left _ (by have := hp.1; omega)
  refine Nat.le_antisymm ?_ h3
  refine Nat.not_lt.mp fun z => ?_
  have h4 := hp.2 _ z h1
  have h5 := Nat.le_of_dvd (by have := hp.1; omega) h1
  have h6 : Nat.gcd p d = p := by omega
  rw [h6] at h2
  exact h h2
theorem IsP.mul {p a b : Nat} (hp : IsP p) (h : p ∣ a * b) : p ∣ a ∨ p ∣ b := by
  by_cases ha : p ∣ a
  · exact .inl ha
  · exact .inr (Nat.Coprime.dvd_of_dvd_mul_left (hp.cop ha) h)
theorem IsP.pow {p a : Nat} (hp : IsP p) : ∀ {e : Nat}, p ∣ a ^ e → p ∣ a
  | 0, h => by
    have := Nat.le_of_dvd (by simp) h
    have := hp.1
    simp at *
    omega
  | e + 1, h => by
    rw [Nat.pow_succ] at h
    rcases hp.mul h with q | q
    · exact IsP.pow hp q
    · exact q
theorem IsP.two : IsP 2 := ⟨Nat.le_refl _, fun d h _ => h⟩
theorem IsP.three : IsP 3 := by
  refine ⟨by decide, fun d h1 h2 => ?_⟩
  have := Nat.le_of_dvd (by decide) h2
  rcases (by omega : d = 2 ∨ d = 3) with rfl | rfl
  · exact absurd h2 (by decide)
  · exact Nat.le_refl _
/-- the primes of n from lo on, each with its exponent -/
def FacL : Nat → Nat → List (Nat × Nat) → Prop
  | _, n, [] => n = 1
  | lo, n, (p, e) :: ps => lo ≤ p ∧ IsP p ∧ 1 ≤ e ∧ ∃ m, n = p ^ e * m ∧ FacL (p + 1) m ps
theorem FacL.mono : ∀ {lo lo' n : Nat} {ps : List (Nat × Nat)}, FacL lo n ps → lo' ≤ lo → FacL lo' n ps
  | _, _, _, [], h, _ => h
  | _, _, _, (p, e) :: ps, ⟨h1, h2⟩, l => ⟨Nat.le_trans l h1, h2⟩
theorem FacL.pos : ∀ {lo n : Nat} {ps : List (Nat × Nat)}, FacL lo n ps → 0 < n
  | _, _, [], h => by have h' : _ = 1 := h; omega
  | _, _, (p, e) :: ps, ⟨h1, h2, h3, m, h4, h5⟩ => by
    rw [h4]
    exact Nat.mul_pos (Nat.pow_pos (by have := h2.1; omega)) (FacL.pos h5)
theorem FacL.least : ∀ {lo n : Nat} {ps : List (Nat × Nat)}, FacL lo n ps → ∀ d, 2 ≤ d → d ∣ n → lo ≤ d
  | _, _, [], h, d, h1, h2 => by
    have h' : _ = 1 := h
    rw [h'] at h2
    have := Nat.le_of_dvd (by decide) h2
    omega
  | lo, n, (p, e) :: ps, ⟨h1, h2, h3, m, h4, h5⟩, d, g1, g2 => by
    refine Nat.not_lt.mp fun z => ?_
    have nd : ¬ p ∣ d := fun y => by
      have := Nat.le_of_dvd (by omega) y
      omega
    have c : Nat.Coprime (p ^ e) d := Nat.Coprime.pow_left e (h2.cop nd)
    rw [h4] at g2
    have := FacL.least h5 d g1 (Nat.Coprime.dvd_of_dvd_mul_left c.symm g2)
    omega
theorem FacL.notdvd {p m : Nat} {ps : List (Nat × Nat)} (hp : IsP p) (h : FacL (p + 1) m ps) : ¬ p ∣ m := fun z => by
  have := h.least p hp.1 z
  omega
theorem pow_split {p m k : Nat} (hp : 2 ≤ p) (hm : ¬ p ∣ m) (hk : ¬ p ∣ k) : ∀ {e f : Nat}, p ^ e * m = p ^ f * k → e = f ∧ m = k
  | 0, 0, h => ⟨rfl, by simpa using h⟩
  | 0, f + 1, h => by
    exfalso
    apply hm
    rw [Nat.pow_zero, Nat.one_mul] at h
    rw [h, Nat.pow_succ, Nat.mul_comm (p ^ f) p, Nat.mul_assoc]
    exact Nat.dvd_mul_right _ _
  | e + 1, 0, h => by
    exfalso
    apply hk
    rw [Nat.pow_zero, Nat.one_mul] at h
    rw [← h, Nat.pow_succ, Nat.mul_comm (p ^ e) p, Nat.mul_assoc]
    exact Nat.dvd_mul_right _ _
  | e + 1, f + 1, h => by
    rw [Nat.pow_succ, Nat.pow_succ, Nat.mul_comm (p ^ e) p, Nat.mul_comm (p ^ f) p, Nat.mul_assoc, Nat.mul_assoc] at h
    obtain ⟨a, b⟩ := pow_split hp hm hk (Nat.eq_of_mul_eq_mul_left (by omega) h)
    exact ⟨by rw [a], b⟩
theorem FacL.uniq : ∀ {lo lo' n : Nat} {ps qs : List (Nat × Nat)}, FacL lo n ps → FacL lo' n qs → ps = qs
  | _, _, _, [], [], _, _ => rfl
  | _, _, _, [], (q, f) :: qs, h, ⟨h1, h2, h3, m, h4, h5⟩ => by
    exfalso
    have h' : _ = 1 := h
    rw [h'] at h4
    have := h5.pos
    have g1 : q ^ 1 ≤ q ^ f := Nat.pow_le_pow_right (by have := h2.1; omega) h3
    have g2 : q ^ f * 1 ≤ q ^ f * m := Nat.mul_le_mul_left _ this
    have := h2.1
    simp at g1 g2
    omega
  | _, _, _, (q, f) :: qs, [], ⟨h1, h2, h3, m, h4, h5⟩, h => by
    exfalso
    have h' : _ = 1 := h
    rw [h'] at h4
    have := h5.pos
    have g1 : q ^ 1 ≤ q ^ f := Nat.pow_le_pow_right (by have := h2.1; omega) h3
    have g2 : q ^ f * 1 ≤ q ^ f * m := Nat.mul_le_mul_left _ this
    have := h2.1
    simp at g1 g2
    omega
  | _, _, n, (p, e) :: ps, (q, f) :: qs, ⟨h1, h2, h3, m, h4, h5⟩, ⟨g1, g2, g3, k, g4, g5⟩ => by
    have dv : ∀ {p e m : Nat}, 1 ≤ e → p ∣ p ^ e * m := fun {p e m} he => by
      obtain ⟨e', rfl⟩ : ∃ e', e = e' + 1 := ⟨e - 1, by omega⟩
      rw [Nat.pow_succ, Nat.mul_comm (p ^ e') p, Nat.mul_assoc]
      exact Nat.dvd_mul_right _ _
    have least : ∀ {p e m : Nat} {ps : List (Nat × Nat)}, IsP p → 1 ≤ e → FacL (p + 1) m ps → ∀ d, 2 ≤ d → d ∣ p ^ e * m → p ≤ d := fun {p e m ps} hp he hm d a b =>
      FacL.least (lo := p) (ps := (p, e) :: ps) ⟨Nat.le_refl _, hp, he, m, rfl, hm⟩ d a b
    have e1 : p ≤ q := least h2 h3 h5 q g2.1 (by rw [← h4, g4]; exact dv g3)
    have e2 : q ≤ p := least g2 g3 g5 p h2.1 (by rw [← g4, h4]; exact dv h3)
    obtain rfl : p = q := by omega
    obtain ⟨a, b⟩ := pow_split h2.1 (FacL.notdvd h2 h5) (FacL.notdvd g2 g5) (h4.symm.trans g4)
    subst a b
    rw [FacL.uniq h5 g5]
/-- the trial division: what is found ahead, what is left -/
def Tri (n : Nat) (found : List (Nat × Nat)) (left prime : Nat) : Prop := 1 ≤ left ∧ left ≤ n ∧ 2 ≤ prime ∧ (∀ d, 2 ≤ d → d ∣ left → prime ≤ d) ∧ ∀ ps, FacL prime left ps → FacL 2 n (found ++ ps)
theorem Tri.start {n : Nat} (h : 1 ≤ n) : Tri n [] n 2 := ⟨h, Nat.le_refl _, Nat.le_refl _, fun d h _ => h, fun ps h => h⟩
theorem Tri.skip {n left prime : Nat} {found : List (Nat × Nat)} (t : Tri n found left prime) (h : ¬ prime ∣ left) : Tri n found left (prime + 1) := by
  obtain ⟨h1, h2, h3, h4, h5⟩ := t
  refine ⟨h1, h2, by omega, fun d a b => ?_, fun ps q => h5 ps (q.mono (by omega))⟩
  have := h4 d a b
  by_cases e : d = prime
  · subst e; exact absurd b h
  · omega
theorem Tri.odd {n left prime : Nat} {found : List (Nat × Nat)} (t : Tri n found left (prime + 1)) (h : prime % 2 = 1) (h3 : 3 ≤ prime) : Tri n found left (prime + 2) := by
  refine Tri.skip t fun z => ?_
  obtain ⟨h1, h2, h3, h4, h5⟩ := t
  have : 2 ∣ prime + 1 := by omega
  have := h4 2 (Nat.le_refl _) (Nat.dvd_trans this z)
  omega
theorem Tri.prime {n left prime : Nat} {found : List (Nat × Nat)} (t : Tri n found left prime) (h : prime ∣ left) : IsP prime := ⟨t.2.2.1, fun d a b => t.2.2.2.1 d a (Nat.dvd_trans b h)⟩
theorem Tri.take {n left prime many rest : Nat} {found : List (Nat × Nat)} (t : Tri n found left prime) (he : left = prime ^ many * rest) (hm : 1 ≤ many) (hr : ¬ prime ∣ rest) : Tri n (found ++ [(prime, many)]) rest (prime + 1) := by
  obtain ⟨h1, h2, h3, h4, h5⟩ := t
  have hd : prime ∣ left := by
    obtain ⟨e', rfl⟩ : ∃ e', many = e' + 1 := ⟨many - 1, by omega⟩
    rw [he, Nat.pow_succ, Nat.mul_comm (prime ^ e') prime, Nat.mul_assoc]
    exact Nat.dvd_mul_right _ _
  have hp : IsP prime := ⟨h3, fun d a b => h4 d a (Nat.dvd_trans b hd)⟩
  have hr1 : 1 ≤ rest := by
    rcases Nat.eq_zero_or_pos rest with z | z
    · subst z; simp at he; omega
    · exact z
  have hle : rest ≤ left := by
    rw [he]
    exact Nat.le_mul_of_pos_left _ (Nat.pow_pos (by omega))
  have ht : Tri n (found ++ [(prime, many)]) rest prime := by
    refine ⟨hr1, by omega, h3, fun d a b => h4 d a (Nat.dvd_trans b (by rw [he]; exact Nat.dvd_mul_left _ _)), fun ps q => ?_⟩
    rw [List.append_assoc]
    refine h5 _ ?_
    refine ⟨Nat.le_refl _, hp, hm, rest, he, ?_⟩
    -- the rest has no prime as such
    cases ps with
    | nil => exact q
    | cons x ps =>
      obtain ⟨x, e⟩ := x
      obtain ⟨q1, q2, q3, m, q4, q5⟩ := q
      refine ⟨?_, q2, q3, m, q4, q5⟩
      by_cases z : x = prime
      · exfalso
        subst z
        obtain ⟨e', rfl⟩ : ∃ e', e = e' + 1 := ⟨e - 1, by omega⟩
        apply hr
        rw [q4, Nat.pow_succ, Nat.mul_comm (x ^ e') x, Nat.mul_assoc]
        exact Nat.dvd_mul_right _ _
      · omega
  exact ht.skip hr
theorem Tri.done {n left prime : Nat} {found : List (Nat × Nat)} (t : Tri n found left prime) (h : left < prime * prime) : FacL 2 n (found ++ if 1 < left then [(left, 1)] else []) := by
  obtain ⟨h1, h2, h3, h4, h5⟩ := t
  refine h5 _ ?_
  split
  · rename_i hl
    refine ⟨h4 left hl (Nat.dvd_refl _), ⟨hl, fun d a b => ?_⟩, Nat.le_refl _, 1, by simp, rfl⟩
    refine Nat.not_lt.mp fun z => ?_
    obtain ⟨k, hk⟩ := b
    have k2 : 2 ≤ k := by
      rcases (by omega : k = 0 ∨ k = 1 ∨ 2 ≤ k) with q | q | q
      · subst q; simp at hk; omega
      · subst q; simp at hk; omega
      · exact q
    have a1 := h4 d a ⟨k, hk⟩
    have a2 := h4 k k2 ⟨d, by rw [hk, Nat.mul_comm]⟩
    have := Nat.mul_le_mul a1 a2
    omega
  · show left = 1
    omega
/-- every number has its factoring -/
theorem tri_exists {n : Nat} : ∀ (k : Nat) {found : List (Nat × Nat)} {left prime : Nat}, left + 2 - prime ≤ k → Tri n found left prime → ∃ ps, FacL 2 n ps
  | 0, found, left, prime, hk, t => ⟨_, t.done (by
      have : left < prime := by omega
      have h3 := t.2.2.1
      calc left < prime := this
        _ = prime * 1 := by omega
        _ ≤ prime * prime := Nat.mul_le_mul_left _ (by omega))⟩
  | k + 1, found, left, prime, hk, t => by
    by_cases z : prime ∣ left
    · have hp := t.prime z
      have ex : ∀ (m left : Nat), left ≤ m → 1 ≤ left → ∃ many rest, left = prime ^ many * rest ∧ ¬ prime ∣ rest ∧ (prime ∣ left → 1 ≤ many) := by
        intro m
        induction m with
        | zero => intro left a b; omega
        | succ m ih =>
          intro left a b
          by_cases y : prime ∣ left
          · obtain ⟨l, rfl⟩ := y
            have l1 : 1 ≤ l := by
              rcases Nat.eq_zero_or_pos l with w | w
              · subst w; simp at b
              · exact w
            have ll : l < prime * l := by
              have := hp.1
              calc l = 1 * l := by omega
                _ < prime * l := Nat.mul_lt_mul_of_pos_right (by omega) l1
            obtain ⟨many, rest, e1, e2, _⟩ := ih l (by omega) l1
            refine ⟨many + 1, rest, ?_, e2, fun _ => by omega⟩
            rw [Nat.pow_succ, Nat.mul_comm (prime ^ many) prime, Nat.mul_assoc, ← e1]
          · exact ⟨0, left, by simp, y, fun w => absurd w y⟩
      obtain ⟨many, rest, e1, e2, e3⟩ := ex left left (Nat.le_refl _) t.1
      have t' := t.take e1 (e3 z) e2
      have hle : rest ≤ left := by
        rw [e1]
        exact Nat.le_mul_of_pos_left _ (Nat.pow_pos (by have := hp.1; omega))
      exact tri_exists k (by omega) t'
    · exact tri_exists k (by omega) (t.skip z)
theorem fac_exists {n : Nat} (h : 1 ≤ n) : ∃ ps, FacL 2 n ps := tri_exists _ (Nat.le_refl _) (Tri.start h)
open Classical in
noncomputable def facs (n : Nat) : List (Nat × Nat) := if h : ∃ ps, FacL 2 n ps then choose h else []
theorem facs_of {n : Nat} {ps : List (Nat × Nat)} (h : FacL 2 n ps) : facs n = ps := by
  have h' : ∃ ps, FacL 2 n ps := ⟨ps, h⟩
  unfold facs
  rw [dif_pos h']
  exact FacL.uniq (Classical.choose_spec h') h
theorem facs_ok {n : Nat} (h : 1 ≤ n) : FacL 2 n (facs n) := by
  obtain ⟨ps, q⟩ := fac_exists h
  rw [facs_of q]
  exact q
/-- the free count by the powers -/
def phiL : List (Nat × Nat) → Nat
  | [] => 1
  | (p, e) :: ps => (p - 1) * p ^ (e - 1) * phiL ps
noncomputable def phi (n : Nat) : Nat := phiL (facs n)
theorem phi_of {n : Nat} {ps : List (Nat × Nat)} (h : FacL 2 n ps) : phi n = phiL ps := by
  unfold phi
  rw [facs_of h]
theorem phiL_pos : ∀ {lo n : Nat} {ps : List (Nat × Nat)}, FacL lo n ps → 0 < phiL ps
  | _, _, [], _ => by decide
  | _, _, (p, e) :: ps, ⟨h1, h2, h3, m, h4, h5⟩ => by
    have := h2.1
    exact Nat.mul_pos (Nat.mul_pos (by omega) (Nat.pow_pos (by omega))) (phiL_pos h5)
theorem phiL_le : ∀ {lo n : Nat} {ps : List (Nat × Nat)}, FacL lo n ps → phiL ps ≤ n ∧ (ps ≠ [] → phiL ps < n)
  | _, _, [], h => ⟨by rw [show _ = 1 from h]; decide, fun z => absurd rfl z⟩
  | _, _, (p, e) :: ps, ⟨h1, h2, h3, m, h4, h5⟩ => by
    have hp := h2.1
    have ih := (phiL_le h5).1
    obtain ⟨e', rfl⟩ : ∃ e', e = e' + 1 := ⟨e - 1, by omega⟩
    have hpw : 0 < p ^ e' := Nat.pow_pos (by omega)
    have key : phiL ((p, e' + 1) :: ps) < p ^ (e' + 1) * m := by
      show (p - 1) * p ^ (e' + 1 - 1) * phiL ps < p ^ (e' + 1) * m
      rw [Nat.add_sub_cancel, Nat.pow_succ]
      calc (p - 1) * p ^ e' * phiL ps ≤ (p - 1) * p ^ e' * m := Nat.mul_le_mul_left _ ih
        _ < p ^ e' * p * m := by
          refine Nat.mul_lt_mul_of_pos_right ?_ h5.pos
          rw [Nat.mul_comm (p ^ e') p]
          exact Nat.mul_lt_mul_of_pos_right (by omega) hpw
    rw [h4]
    exact ⟨Nat.le_of_lt key, fun _ => key⟩
theorem phi_pos {n : Nat} (h : 1 ≤ n) : 0 < phi n := phiL_pos (facs_ok h)
theorem phi_lt {n : Nat} (h : 1 < n) : phi n < n := by
  have q := facs_ok (n := n) (by omega)
  refine (phiL_le q).2 fun z => ?_
  rw [z] at q
  have : n = 1 := q
  omega
theorem phi_one : phi 1 = 1 := by rw [phi_of (ps := []) rfl]; rfl

/-! ### a count that adds over products: 1 of 2, of an odd prime that of the number ahead -/
open Classical in
noncomputable def lpf (n : Nat) : Nat := match facs n with
  | [] => 1
  | (p, _) :: _ => p
theorem lpf_ok {n : Nat} (h : 2 ≤ n) : IsP (lpf n) ∧ lpf n ∣ n ∧ ∀ d, 2 ≤ d → d ∣ n → lpf n ≤ d := by
  have q := facs_ok (n := n) (by omega)
  unfold lpf
  split
  · rename_i e
    rw [e] at q
    have : n = 1 := q
    omega
  · rename_i p e ps he
    rw [he] at q
    obtain ⟨h1, h2, h3, m, h4, h5⟩ := q
    refine ⟨h2, ?_, fun d a b => FacL.least (lo := p) (ps := (p, e) :: ps) ⟨Nat.le_refl _, h2, h3, m, h4, h5⟩ d a b⟩
    obtain ⟨e', rfl⟩ : ∃ e', e = e' + 1 := ⟨e - 1, by omega⟩
    rw [h4, Nat.pow_succ, Nat.mul_comm (p ^ e') p, Nat.mul_assoc]
    exact Nat.dvd_mul_right _ _
theorem lpf_uniq {n p : Nat} (h : 2 ≤ n) (hp : 2 ≤ p) (hd : p ∣ n) (hl : ∀ d, 2 ≤ d → d ∣ n → p ≤ d) : lpf n = p := by
  obtain ⟨a, b, c⟩ := lpf_ok h
  have := hl _ a.1 b
  have := c p hp hd
  omega
theorem div_lt {n p : Nat} (h : 2 ≤ n) (hp : 2 ≤ p) : n / p < n := Nat.div_lt_self (by omega) hp
theorem lpf_le {n : Nat} (h : 2 ≤ n) : lpf n ≤ n := Nat.le_of_dvd (by omega) (lpf_ok h).2.1
open Classical in
noncomputable def wgt (n : Nat) : Nat := if h : 2 ≤ n then (if lpf n = 2 then 1 else wgt (lpf n - 1)) + wgt (n / lpf n) else 0
termination_by n
decreasing_by
  · have := lpf_le h; have := (lpf_ok h).1.1; omega
  · exact div_lt h (lpf_ok h).1.1
theorem wgt_small {n : Nat} (h : n < 2) : wgt n = 0 := by
  rw [wgt]
  rw [dif_neg (by omega)]
noncomputable def wgP (p : Nat) : Nat := if p = 2 then 1 else wgt (p - 1)
theorem wgt_eq {n : Nat} (h : 2 ≤ n) : wgt n = wgP (lpf n) + wgt (n / lpf n) := by
  rw [wgt]
  rw [dif_pos h]
  rfl
theorem wgt_mul : ∀ (k a b : Nat), a * b ≤ k → 1 ≤ a → 1 ≤ b → wgt (a * b) = wgt a + wgt b := by
  intro k
  induction k with
  | zero => intro a b h ha hb; have := Nat.mul_pos ha hb; omega
  | succ k ih =>
    intro a b h ha hb
    by_cases h2 : 2 ≤ a * b
    · obtain ⟨p1, p2, p3⟩ := lpf_ok h2
      have half : ∀ a b : Nat, a * b ≤ k + 1 → 1 ≤ a → 1 ≤ b → IsP (lpf (a * b)) → (∀ d, 2 ≤ d → d ∣ a * b → lpf (a * b) ≤ d) → 2 ≤ a * b → lpf (a * b) ∣ a → wgt (a * b) = wgt a + wgt b := by
        intro a b h ha hb p1 p3 h2 hd
        obtain ⟨c, hc⟩ := hd
        have pp := p1.1
        have a2 : 2 ≤ a := by
          rcases (by omega : a = 1 ∨ 2 ≤ a) with z | z
          · subst z
            have : lpf (1 * b) ∣ 1 := ⟨c, hc⟩
            have := Nat.le_of_dvd (by decide) this
            omega
          · exact z
        have ea : lpf a = lpf (a * b) := lpf_uniq a2 pp ⟨c, hc⟩ fun d x y => p3 d x (Nat.dvd_trans y (Nat.dvd_mul_right _ _))
        have e1 : a / lpf (a * b) = c := by
          have := Nat.mul_div_cancel_left c (show 0 < lpf (a * b) by omega)
          rw [← hc] at this
          exact this
        have e2 : a * b / lpf (a * b) = c * b := by
          have h3 : a * b = lpf (a * b) * (c * b) := by
            rw [← Nat.mul_assoc, ← hc]
          have := Nat.mul_div_cancel_left (c * b) (show 0 < lpf (a * b) by omega)
          rw [← h3] at this
          exact this
        have c1 : 1 ≤ c := by
          rcases Nat.eq_zero_or_pos c with z | z
          · rw [z] at hc; simp at hc; omega
          · exact z
        have lt : c * b < a * b := by
          refine Nat.mul_lt_mul_of_pos_right ?_ hb
          rw [hc]
          calc c = 1 * c := by omega
            _ < lpf (a * b) * c := Nat.mul_lt_mul_of_pos_right (by omega) c1
        rw [wgt_eq h2, wgt_eq a2, ea, e1, e2, ih c b (by omega) c1 hb]
        omega
      rcases p1.mul p2 with q | q
      · exact half a b h ha hb p1 p3 h2 q
      · rw [Nat.mul_comm] at h p1 p3 h2 q ⊢
        rw [half b a h hb ha p1 p3 h2 q]
        omega
    · have : a * b = 1 := by
        have := Nat.mul_pos ha hb
        omega
      have a1 : a = 1 := Nat.eq_one_of_mul_eq_one_right this
      have b1 : b = 1 := Nat.eq_one_of_mul_eq_one_left this
      subst a1 b1
      have z : wgt 1 = 0 := wgt_small (by decide)
      show wgt 1 = wgt 1 + wgt 1
      omega
theorem wgt_add {a b : Nat} (ha : 1 ≤ a) (hb : 1 ≤ b) : wgt (a * b) = wgt a + wgt b := wgt_mul _ a b (Nat.le_refl _) ha hb
theorem wgt_prime {p : Nat} (h : IsP p) : wgt p = wgP p := by
  have hp := h.1
  have e : lpf p = p := lpf_uniq hp hp (Nat.dvd_refl _) h.2
  rw [wgt_eq hp, e, Nat.div_self (by omega), wgt_small (by decide)]
  rfl
theorem wgt_pow {a : Nat} (ha : 1 ≤ a) : ∀ e : Nat, wgt (a ^ e) = e * wgt a
  | 0 => by rw [Nat.pow_zero, wgt_small (by decide)]; simp
  | e + 1 => by
    rw [Nat.pow_succ, wgt_add (Nat.pow_pos ha) ha, wgt_pow ha e, Nat.succ_mul]
theorem wgt_two : wgt 2 = 1 := by rw [wgt_prime IsP.two]; rfl
theorem wgt_odd {p : Nat} (h : IsP p) (h2 : p ≠ 2) : wgt p = wgt (p - 1) := by rw [wgt_prime h]; exact if_neg h2
theorem wgt_pos : ∀ {n : Nat}, 2 ≤ n → 1 ≤ wgt n := by
  intro n
  induction n using Nat.strongRecOn with
  | _ n ih =>
    intro h
    obtain ⟨p1, p2, p3⟩ := lpf_ok h
    rw [wgt_eq h]
    have : 1 ≤ wgP (lpf n) := by
      unfold wgP
      split
      · exact Nat.le_refl _
      · rename_i z
        have := p1.1
        have := lpf_le h
        exact ih _ (by omega) (by omega)
    omega
/-- over a factoring -/
noncomputable def wgL : List (Nat × Nat) → Nat
  | [] => 0
  | (p, e) :: ps => e * wgP p + wgL ps
theorem wgL_of : ∀ {lo n : Nat} {ps : List (Nat × Nat)}, FacL lo n ps → wgt n = wgL ps
  | _, _, [], h => by rw [show _ = 1 from h, wgt_small (by decide)]; rfl
  | _, _, (p, e) :: ps, ⟨h1, h2, h3, m, h4, h5⟩ => by
    have := h2.1
    rw [h4, wgt_add (Nat.pow_pos (by omega)) h5.pos, wgt_pow (by omega), wgt_prime h2, wgL_of h5]
    rfl
/-- the free count's: less by one exactly of even numbers -/
theorem wgt_phiL : ∀ {lo n : Nat} {ps : List (Nat × Nat)}, FacL lo n ps → 2 ≤ lo → wgt (phiL ps) + (if n % 2 = 0 then 1 else 0) = wgt n
  | _, _, [], h, _ => by
    rw [show _ = 1 from h]
    show wgt 1 + 0 = wgt 1
    omega
  | lo, n, (p, e) :: ps, ⟨h1, h2, h3, m, h4, h5⟩, hlo => by
    have hp := h2.1
    have ih := wgt_phiL h5 (by omega)
    have pp := phiL_pos h5
    have mp := h5.pos
    obtain ⟨e', rfl⟩ : ∃ e', e = e' + 1 := ⟨e - 1, by omega⟩
    have hpw : 0 < p ^ e' := Nat.pow_pos (by omega)
    have e1 : wgt (phiL ((p, e' + 1) :: ps)) = wgt (p - 1) + e' * wgt p + wgt (phiL ps) := by
      show wgt ((p - 1) * p ^ (e' + 1 - 1) * phiL ps) = _
      rw [Nat.add_sub_cancel, wgt_add (Nat.mul_pos (by omega) hpw) pp, wgt_add (by omega) hpw, wgt_pow (by omega)]
    have e2 : wgt n = (e' + 1) * wgt p + wgt m := by
      rw [h4, wgt_add (Nat.pow_pos (by omega)) mp, wgt_pow (by omega)]
    have nm : ∀ k : Nat, m % 2 = k → (p = 2 → k = 1) := fun k hk z => by
      have := FacL.notdvd h2 h5
      rw [z] at this
      omega
    rw [e1, e2, Nat.succ_mul]
    by_cases z : p = 2
    · have m1 := nm _ rfl z
      have n0 : n % 2 = 0 := by
        rw [h4, z, Nat.pow_succ, Nat.mul_comm (2 ^ e') 2, Nat.mul_assoc, Nat.mul_mod_right]
      rw [if_pos n0]
      rw [if_neg (by omega)] at ih
      subst z
      rw [wgt_two, show wgt (2 - 1) = 0 from wgt_small (by decide)]
      omega
    · have po : p % 2 = 1 := by
        rcases (by omega : p % 2 = 0 ∨ p % 2 = 1) with y | y
        · have := h2.2 2 (Nat.le_refl _) (Nat.dvd_of_mod_eq_zero y)
          omega
        · exact y
      have nn : n % 2 = m % 2 := by
        have : (p ^ (e' + 1)) % 2 = 1 := by
          rw [Nat.pow_mod, po, Nat.one_pow]
        rw [h4, Nat.mul_mod, this]
        omega
      rw [nn, ← wgt_odd h2 z]
      omega
theorem wgt_phi {n : Nat} (h : 1 ≤ n) : wgt (phi n) + (if n % 2 = 0 then 1 else 0) = wgt n := wgt_phiL (facs_ok h) (Nat.le_refl _)
theorem phiL_even : ∀ {lo n : Nat} {ps : List (Nat × Nat)}, FacL lo n ps → 2 < n → 2 ≤ lo → phiL ps % 2 = 0
  | _, _, [], h, h2, _ => by have : _ = 1 := h; omega
  | lo, n, (p, e) :: ps, ⟨h1, h2, h3, m, h4, h5⟩, hn, hlo => by
    have hp := h2.1
    show ((p - 1) * p ^ (e - 1) * phiL ps) % 2 = 0
    by_cases z : p = 2
    · subst z
      by_cases e1 : e = 1
      · subst e1
        have : 2 < m ∨ m = 1 ∨ m = 2 := by have := h5.pos; omega
        rcases this with y | y | y
        · have := phiL_even h5 y (by omega)
          rw [Nat.mul_mod, this, Nat.mul_zero, Nat.zero_mod]
        · exfalso
          rw [y] at h4
          simp at h4
          omega
        · exfalso
          rw [y] at h5
          exact FacL.notdvd h2 h5 (Nat.dvd_refl 2)
      · obtain ⟨e', rfl⟩ : ∃ e', e = e' + 2 := ⟨e - 2, by omega⟩
        have : 2 ^ (e' + 2 - 1) = 2 * 2 ^ e' := by
          rw [show e' + 2 - 1 = e' + 1 by omega, Nat.pow_succ, Nat.mul_comm]
        rw [this]
        simp only [Nat.mul_assoc]
        rw [show 2 - 1 = 1 by decide, Nat.one_mul, Nat.mul_mod_right]
    · have po : p % 2 = 1 := by
        rcases (by omega : p % 2 = 0 ∨ p % 2 = 1) with y | y
        · have := h2.2 2 (Nat.le_refl _) (Nat.dvd_of_mod_eq_zero y)
          omega
        · exact y
      have : (p - 1) % 2 = 0 := by omega
      rw [Nat.mul_assoc, Nat.mul_mod, this]
      simp
theorem phi_even {n : Nat} (h : 2 < n) : phi n % 2 = 0 := phiL_even (facs_ok (by omega)) h (Nat.le_refl _)
/-- bounds -/
theorem wgt_low : ∀ {n : Nat}, 1 ≤ n → 2 ^ wgt n ≤ n ∧ (n % 2 = 1 → 1 < n → 2 ^ wgt n < n) := by
  intro n
  induction n using Nat.strongRecOn with
  | _ n ih =>
    intro h
    by_cases h2 : 2 ≤ n
    · obtain ⟨p1, p2, p3⟩ := lpf_ok h2
      obtain ⟨m, hm⟩ := p2
      have hp := p1.1
      have m1 : 1 ≤ m := by
        rcases Nat.eq_zero_or_pos m with z | z
        · subst z; simp at hm; omega
        · exact z
      have mlt : m < n := by
        rw [hm]
        calc m = 1 * m := by omega
          _ < lpf n * m := Nat.mul_lt_mul_of_pos_right (by omega) m1
      have e : wgt n = wgP (lpf n) + wgt m := by
        rw [wgt_eq h2]
        congr 2
        conv => lhs; rw [hm]
        rw [show lpf (lpf n * m) = lpf n by rw [← hm]]
        exact Nat.mul_div_cancel_left _ (by omega)
      have im := (ih m mlt m1).1
      rw [e, Nat.pow_add]
      by_cases z : lpf n = 2
      · have ev : n % 2 = 0 := by rw [hm, z, Nat.mul_mod_right]
        refine ⟨?_, fun y => by omega⟩
        rw [show wgP (lpf n) = 1 by unfold wgP; exact if_pos z]
        calc 2 ^ 1 * 2 ^ wgt m ≤ 2 * m := Nat.mul_le_mul_left _ im
          _ = n := by rw [hm, z]
      · have lt : 2 ^ wgP (lpf n) < lpf n := by
          rw [show wgP (lpf n) = wgt (lpf n - 1) by unfold wgP; exact if_neg z]
          have ple := lpf_le h2
          have := (ih (lpf n - 1) (by omega) (by omega)).1
          omega
        have key : 2 ^ wgP (lpf n) * 2 ^ wgt m < n := by
          conv => rhs; rw [hm]
          calc 2 ^ wgP (lpf n) * 2 ^ wgt m ≤ 2 ^ wgP (lpf n) * m := Nat.mul_le_mul_left _ im
            _ < lpf n * m := Nat.mul_lt_mul_of_pos_right lt m1
        exact ⟨Nat.le_of_lt key, fun _ _ => key⟩
    · have : n = 1 := by omega
      subst this
      rw [wgt_small (by decide)]
      exact ⟨by decide, fun _ z => absurd z (by decide)⟩
theorem wgt_high : ∀ {n : Nat}, 1 ≤ n → n ≤ 3 ^ wgt n ∧ (n % 2 = 0 → n ≤ 2 * 3 ^ (wgt n - 1)) := by
  intro n
  induction n using Nat.strongRecOn with
  | _ n ih =>
    intro h
    by_cases h2 : 2 ≤ n
    · obtain ⟨p1, p2, p3⟩ := lpf_ok h2
      obtain ⟨m, hm⟩ := p2
      have hp := p1.1
      have m1 : 1 ≤ m := by
        rcases Nat.eq_zero_or_pos m with z | z
        · subst z; simp at hm; omega
        · exact z
      have mlt : m < n := by
        rw [hm]
        calc m = 1 * m := by omega
          _ < lpf n * m := Nat.mul_lt_mul_of_pos_right (by omega) m1
      have e : wgt n = wgP (lpf n) + wgt m := by
        rw [wgt_eq h2]
        congr 2
        conv => lhs; rw [hm]
        rw [show lpf (lpf n * m) = lpf n by rw [← hm]]
        exact Nat.mul_div_cancel_left _ (by omega)
      have im := (ih m mlt m1).1
      rw [e]
      by_cases z : lpf n = 2
      · rw [show wgP (lpf n) = 1 by unfold wgP; exact if_pos z]
        have key : n ≤ 2 * 3 ^ wgt m := by
          conv => lhs; rw [hm, z]
          exact Nat.mul_le_mul_left _ im
        refine ⟨?_, fun _ => by rw [Nat.add_sub_cancel_left]; exact key⟩
        rw [Nat.add_comm, Nat.pow_succ]
        omega
      · have ple := lpf_le h2
        have q := ih (lpf n - 1) (by omega) (by omega)
        have po : lpf n % 2 = 1 := by
          rcases (by omega : lpf n % 2 = 0 ∨ lpf n % 2 = 1) with y | y
          · have := p1.2 2 (Nat.le_refl _) (Nat.dvd_of_mod_eq_zero y)
            omega
          · exact y
        have q2 := q.2 (by omega)
        have w1 : 1 ≤ wgt (lpf n - 1) := wgt_pos (by omega)
        have pb : lpf n ≤ 3 ^ wgP (lpf n) := by
          rw [show wgP (lpf n) = wgt (lpf n - 1) by unfold wgP; exact if_neg z]
          obtain ⟨k, hk⟩ : ∃ k, wgt (lpf n - 1) = k + 1 := ⟨wgt (lpf n - 1) - 1, by omega⟩
          rw [hk] at q2 ⊢
          rw [Nat.add_sub_cancel] at q2
          rw [Nat.pow_succ]
          have : 0 < 3 ^ k := Nat.pow_pos (by decide)
          omega
        refine ⟨?_, fun y => ?_⟩
        · rw [Nat.pow_add]
          conv => lhs; rw [hm]
          exact Nat.mul_le_mul pb im
        · exfalso
          have := p3 2 (Nat.le_refl _) (Nat.dvd_of_mod_eq_zero y)
          omega
    · have : n = 1 := by omega
      subst this
      rw [wgt_small (by decide)]
      exact ⟨by decide, fun z => absurd z (by decide)⟩
/-- the walk down to 1 -/
noncomputable def walk (n : Nat) : List Nat := if h : 1 < n then n :: walk (phi n) else [n]
termination_by n
decreasing_by exact phi_lt h
theorem walk_one {n : Nat} (h : ¬ 1 < n) : walk n = [n] := by rw [walk]; exact dif_neg h
theorem walk_more {n : Nat} (h : 1 < n) : walk n = n :: walk (phi n) := by rw [walk]; exact dif_pos h
theorem walk_head (n : Nat) : ∃ r, walk n = n :: r := by
  by_cases h : 1 < n
  · exact ⟨_, walk_more h⟩
  · exact ⟨[], walk_one h⟩
theorem walk_len2 : ∀ {n : Nat}, 1 ≤ n → (walk n).length + (if n % 2 = 0 then 1 else 0) ≤ wgt n + 2 := by
  intro n
  induction n using Nat.strongRecOn with
  | _ n ih =>
    intro h
    by_cases h2 : 1 < n
    · rw [walk_more h2, List.length_cons]
      have w := wgt_phi h
      have lt := phi_lt h2
      have pp := phi_pos h
      have i := ih _ lt pp
      have wp := wgt_pos (n := n) (by omega)
      by_cases o1 : phi n = 1
      · rw [o1, walk_one (by decide), List.length_cons, List.length_nil]
        split <;> omega
      · have even : phi n % 2 = 0 := by
          by_cases n2 : n = 2
          · subst n2
            omega
          · exact phi_even (by omega)
        rw [if_pos even] at i
        omega
    · rw [walk_one h2]
      have : n = 1 := by omega
      subst this
      simp
theorem walk_len {n : Nat} (h : 1 ≤ n) : (walk n).length ≤ wgt n + 2 := by
  have := walk_len2 h
  omega
/-- how many above 1 behind the first -/
theorem walk_count : ∀ {n : Nat}, 1 ≤ n → ((walk n).tail.filter fun x => 1 < x).length + (if n % 2 = 0 then 1 else 0) = wgt n := by
  intro n
  induction n using Nat.strongRecOn with
  | _ n ih =>
    intro h
    by_cases h2 : 1 < n
    · have lt := phi_lt h2
      have pp := phi_pos h
      have w := wgt_phi h
      have i := ih _ lt pp
      obtain ⟨r, hr⟩ := walk_head (phi n)
      rw [walk_more h2, List.tail_cons, hr]
      rw [hr, List.tail_cons] at i
      by_cases o1 : phi n = 1
      · rw [o1] at hr i w ⊢
        rw [walk_one (by decide)] at hr
        obtain rfl : [] = r := (List.cons.inj hr).2
        rw [← w, wgt_small (by decide)]
        simp
      · have even : phi n % 2 = 0 := by
          by_cases n2 : n = 2
          · subst n2
            omega
          · exact phi_even (by omega)
        rw [if_pos even] at i
        rw [List.filter_cons_of_pos (by simp; omega), List.length_cons]
        omega
    · have : n = 1 := by omega
      subst this
      rw [walk_one (by decide), wgt_small (by decide)]
      rfl
theorem walk_last : ∀ {n : Nat}, 1 ≤ n → (walk n).getLast? = some 1 := by
  intro n
  induction n using Nat.strongRecOn with
  | _ n ih =>
    intro h
    by_cases h2 : 1 < n
    · obtain ⟨r, hr⟩ := walk_head (phi n)
      have := ih _ (phi_lt h2) (phi_pos h)
      rw [walk_more h2]
      rw [hr] at this ⊢
      rw [List.getLast?_cons_cons]
      exact this
    · have : n = 1 := by omega
      subst this
      rw [walk_one (by decide)]
      rfl
theorem walk_falls : ∀ {n : Nat}, 1 ≤ n → (walk n).Pairwise (· > ·) ∧ ∀ x ∈ walk n, x ≤ n ∧ 1 ≤ x := by
  intro n
  induction n using Nat.strongRecOn with
  | _ n ih =>
    intro h
    by_cases h2 : 1 < n
    · have lt := phi_lt h2
      obtain ⟨a, b⟩ := ih _ lt (phi_pos h)
      rw [walk_more h2]
      refine ⟨List.pairwise_cons.mpr ⟨fun x m => ?_, a⟩, fun x m => ?_⟩
      · have := (b x m).1
        omega
      · rcases List.mem_cons.mp m with e | m
        · subst e; omega
        · have := b x m; omega
    · rw [walk_one h2]
      refine ⟨List.pairwise_singleton _ _, fun x m => ?_⟩
      rcases List.mem_cons.mp m with e | m
      · subst e; omega
      · cases m
/-- even in the middle -/
theorem walk_even : ∀ {n : Nat}, 1 ≤ n → ∀ x ∈ (walk n).tail, 1 < x → x % 2 = 0 := by
  intro n
  induction n using Nat.strongRecOn with
  | _ n ih =>
    intro h x m hx
    by_cases h2 : 1 < n
    · have lt := phi_lt h2
      have pp := phi_pos h
      obtain ⟨r, hr⟩ := walk_head (phi n)
      rw [walk_more h2, List.tail_cons, hr] at m
      rcases List.mem_cons.mp m with e | m
      · subst e
        by_cases n2 : n = 2
        · subst n2; omega
        · exact phi_even (by omega)
      · exact ih _ lt pp x (by rw [hr]; exact m) hx
    · rw [walk_one h2] at m
      cases m
end Pm
/-! VlL: numbers as data; steps that recur. -/
namespace Vl
open PySem PySem.Spec PyProof.Rows L2
def lN (l : List Nat) : PyData := .list (l.map fun x : Nat => .int (x : Int))
def prD (p : Nat × Nat) : PyData := .tuple [.int (p.1 : Int), .int (p.2 : Int)]
def lP (ps : List (Nat × Nat)) : PyData := .list (ps.map prD)
theorem mok {a b : Int} (h1 : 0 ≤ a) (h2 : a < 2 ^ 200) (h3 : 0 ≤ b) (h4 : b < 2 ^ 200) : MulOk a b := by
  have e : (2 : Nat) ^ 200 ≤ big := Nat.pow_le_pow_right (by decide) (by decide)
  refine ⟨Nat.lt_of_lt_of_le ?_ e, Nat.lt_of_lt_of_le ?_ e⟩ <;> omega
theorem mokN {a b : Nat} {k : Nat} (hk : k ≤ 20000) (h2 : a < 2 ^ k) (h4 : b < 2 ^ k) : MulOk (a : Int) (b : Int) := by
  have e : (2 : Nat) ^ k ≤ big := Nat.pow_le_pow_right (by decide) hk
  exact ⟨Nat.lt_of_lt_of_le (by rw [Int.natAbs_natCast]; exact h2) e, Nat.lt_of_lt_of_le (by rw [Int.natAbs_natCast]; exact h4) e⟩
theorem dok {a b : Int} (h1 : 0 < b) (h2 : b < 2 ^ 200) : DivOk a b := by
  have e : (2 : Nat) ^ 200 ≤ 2 ^ 8000 := Nat.pow_le_pow_right (by decide) (by decide)
  exact ⟨h1, Nat.lt_of_lt_of_le (by omega) e⟩
theorem ifT {b : Bool} {A B : Prop} (h : b = true) (k : A) : if b = true then A else B := by rw [if_pos h]; exact k
theorem ifF {b : Bool} {A B : Prop} (h : b = false) (k : B) : if b = true then A else B := by rw [if_neg (by rw [h]; decide)]; exact k
theorem decT {p : Prop} [Decidable p] (h : p) : decide p = true := decide_eq_true h
theorem decF {p : Prop} [Decidable p] (h : ¬ p) : decide p = false := decide_eq_false h
theorem eqT {p : Prop} [Decidable p] (h : p) : (decide p != false) = true := by rw [decide_eq_true h]; rfl
theorem eqF {p : Prop} [Decidable p] (h : ¬ p) : (decide p != false) = false := by rw [decide_eq_false h]; rfl
theorem neT {p : Prop} [Decidable p] (h : ¬ p) : (decide p != true) = true := by rw [decide_eq_false h]; rfl
theorem neF {p : Prop} [Decidable p] (h : p) : (decide p != true) = false := by rw [decide_eq_true h]; rfl
theorem getLt {α : Type} {l : List α} {i : Nat} {d : α} (h : l[i]? = some d) : i < l.length := (List.getElem?_eq_some_iff.mp h).1
theorem range_at {lo : Int} {n i : Nat} {d : PyData} (h : (rangeD lo n)[i]? = some d) : i < n ∧ d = .int (lo + i) := by
  have hl := getLt h
  rw [rangeD_length] at hl
  rw [rangeD_get hl] at h
  exact ⟨hl, (Option.some.inj h).symm⟩
theorem map_at {α : Type} {f : α → PyData} {l : List α} {i : Nat} {d : PyData} (h : (l.map f)[i]? = some d) : ∃ x, l[i]? = some x ∧ d = f x := by
  rw [List.getElem?_map] at h
  cases e : l[i]? with
  | none => rw [e] at h; cases h
  | some x => rw [e] at h; exact ⟨x, rfl, (Option.some.inj h).symm⟩
/-- one turn of a comprehension -/
def lcTurn (wg : WGv) (wt : WC) (we : WE) (vw : Vw) (d : PyData) (R : Option PyData → Prop) : Prop := wg d vw fun vw1 => wt vw1 fun b => if b = true then we vw1 fun r => R (some r) else R none
theorem lc_fm {wg : WGv} {wt : WC} {we : WE} {vw : Vw} (F : PyData → Option PyData) : ∀ {ds acc : List PyData} {P : List PyData → Prop}, (∀ d ∈ ds, ∀ R : Option PyData → Prop, R (F d) → lcTurn wg wt we vw d R) → acc.length + ds.length ≤ 1000000 → P (acc ++ ds.filterMap F) → lcGo wg wt we vw ds acc P
  | [], acc, P, _, _, k => by
    rw [List.filterMap_nil, List.append_nil] at k
    exact k
  | d :: ds, acc, P, h, hl, k => by
    rw [List.length_cons] at hl
    refine h d List.mem_cons_self (fun o => match o with
      | some r => acc.length < 1000000 ∧ lcGo wg wt we vw ds (acc ++ [r]) P
      | none => lcGo wg wt we vw ds acc P) ?_
    rw [List.filterMap_cons] at k
    cases e : F d with
    | none =>
      rw [e] at k
      exact lc_fm F (fun d m => h d (List.mem_cons_of_mem _ m)) (by omega) k
    | some r =>
      rw [e] at k
      refine ⟨by omega, lc_fm F (fun d m => h d (List.mem_cons_of_mem _ m)) (by rw [List.length_append, List.length_singleton]; omega) ?_⟩
      rw [List.append_assoc]
      exact k
theorem lc_ex {wg : WGv} {wt : WC} {we : WE} {vw : Vw} (T : PyData → PyData → Prop) : ∀ {ds acc : List PyData} {P : List PyData → Prop}, (∀ d ∈ ds, ∀ R : Option PyData → Prop, (∀ r, T d r → R (some r)) → lcTurn wg wt we vw d R) → acc.length + ds.length ≤ 1000000 → (∀ rs, Paired T ds rs → P (acc ++ rs)) → lcGo wg wt we vw ds acc P
  | [], acc, P, _, _, k => by
    have := k [] .nil
    rw [List.append_nil] at this
    exact this
  | d :: ds, acc, P, h, hl, k => by
    rw [List.length_cons] at hl
    refine h d List.mem_cons_self (fun o => match o with
      | some r => acc.length < 1000000 ∧ lcGo wg wt we vw ds (acc ++ [r]) P
      | none => lcGo wg wt we vw ds acc P) fun r t => ?_
    refine ⟨by omega, lc_ex T (fun d m => h d (List.mem_cons_of_mem _ m)) (by rw [List.length_append, List.length_singleton]; omega) fun rs q => ?_⟩
    rw [List.append_assoc]
    exact k _ (.cons t q)
theorem cut_tail (ds : List PyData) : cutD ds (some 1) none = ds.tail := by
  unfold cutD
  rw [HT.sIx_none, show (some (1 : Int)) = some ((1 : Nat) : Int) from rfl, HT.sIx_nat]
  cases ds with
  | nil => rfl
  | cons x l =>
    rw [List.length_cons, Nat.min_eq_left (by omega), List.drop_one, List.tail_cons, Nat.add_sub_cancel, List.take_length]
theorem cut_mid (ds : List PyData) : cutD ds (some 1) (some (-1)) = ds.tail.dropLast := by
  unfold cutD
  rw [show (some (1 : Int)) = some ((1 : Nat) : Int) from rfl, HT.sIx_nat]
  cases ds with
  | nil => rfl
  | cons x l =>
    have e : HT.sIx (x :: l).length (x :: l).length (some (-1)) = l.length := by
      show (if (-1 : Int) < 0 then (-1 + ((x :: l).length : Int)).toNat else min (-1 : Int).toNat (x :: l).length) = l.length
      rw [if_pos (by decide), List.length_cons]
      omega
    rw [e, List.length_cons, Nat.min_eq_left (by omega), List.drop_one, List.tail_cons, List.dropLast_eq_take]
theorem tail_map {α : Type} (f : α → PyData) (l : List α) : (l.map f).tail = l.tail.map f := by cases l <;> rfl
theorem noBox_map {α : Type} {f : α → PyData} {l : List α} (h : ∀ x, isBox (f x) = false) : noBox (l.map f) := fun d m => by
  obtain ⟨x, _, rfl⟩ := List.mem_map.mp m
  exact h x
end Vl
/-! VlM: what repr may show: ints, truth values, None, lists and tuples of them. -/
namespace Vl
open PySem PySem.Spec PyProof.Rows L2
mutual
/-- not deeper than n, its ints below 10 ^ 500 -/
def shw : Nat → PyData → Bool
  | _, .none => true
  | _, .bool _ => true
  | _, .int i => decide (i.natAbs < 2 ^ 1900)
  | 0, .list _ => false
  | n + 1, .list xs => shwA n xs
  | 0, .tuple _ => false
  | n + 1, .tuple xs => shwA n xs
  | _, .str _ => false
  | _, .dict _ => false
def shwA : Nat → List PyData → Bool
  | _, [] => true
  | n, x :: xs => shw n x && shwA n xs
end
mutual
def szD : PyData → Nat
  | .int _ => 1921
  | .list xs => szA xs + 3
  | .tuple xs => szA xs + 3
  | .str _ => 0
  | .dict _ => 0
  | .none => 4
  | .bool _ => 5
def szA : List PyData → Nat
  | [] => 0
  | x :: xs => szD x + 2 + szA xs
end
theorem log2_lt1900 {i : Int} (h : i.natAbs < 2 ^ 1900) : i.natAbs.log2 < 1900 := by
  by_cases z : i.natAbs = 0
  · rw [z]; decide
  · exact (Nat.log2_lt z).mpr h
theorem listText_le (ts : List Str) : (listText ts).length ≤ (ts.map fun t => t.length + 2).sum + 3 := by
  unfold listText
  rw [PySem.strLen_append]
  cases ts with
  | nil => decide
  | cons t r =>
    show (textFrom 1 (("[" : Str) ++ ((if 0 > 0 then ", " else "" : String) : Str) ++ t) r).length + 1 ≤ _
    rw [textFrom_length_pos r 1 _ (by decide), PySem.strLen_append, PySem.strLen_append, List.map_cons, List.sum_cons]
    unfold piled
    have e : (("[" : String) : Str).length = 1 := rfl
    have e2 : ((if 0 > 0 then ", " else "" : String) : Str).length = 0 := rfl
    rw [e, e2]
    omega
mutual
theorem shw_ok : ∀ {n : Nat} {d : PyData}, shw n d = true → d.showable = true ∧ d.canLay0 = true ∧ d.depth ≤ n ∧ d.shown.length ≤ szD d
  | _, .none, _ => ⟨rfl, rfl, Nat.zero_le _, by simp only [PyData.shown]; decide⟩
  | _, .bool b, _ => ⟨rfl, rfl, Nat.zero_le _, by simp only [PyData.shown]; cases b <;> decide⟩
  | _, .int i, h => by
    have h' : i.natAbs < 2 ^ 1900 := by simpa [shw] using h
    have l := log2_lt1900 h'
    refine ⟨by simp only [PyData.showable]; exact decide_eq_true (by omega), rfl, Nat.zero_le _, ?_⟩
    simp only [PyData.shown]
    exact int_text_len_1921 (by omega)
  | 0, .list _, h => by simp [shw] at h
  | n + 1, .list xs, h => by
    obtain ⟨a, b, c, e⟩ := shwA_ok (n := n) (ds := xs) (by simpa [shw] using h)
    refine ⟨by simpa [PyData.showable] using a, by simpa [PyData.canLay0] using b, by simp only [PyData.depth]; omega, ?_⟩
    simp only [PyData.shown]
    exact Nat.le_trans (listText_le _) (by show _ ≤ szA xs + 3; omega)
  | 0, .tuple _, h => by simp [shw] at h
  | n + 1, .tuple xs, h => by
    obtain ⟨a, b, c, e⟩ := shwA_ok (n := n) (ds := xs) (by simpa [shw] using h)
    refine ⟨by simpa [PyData.showable] using a, by simpa [PyData.canLay0] using b, by simp only [PyData.depth]; omega, ?_⟩
    simp only [PyData.shown]
    refine Nat.le_trans (tupleText_len_le _) ?_
    show _ ≤ szA xs + 3
    have q : ((PyData.shownAll xs).map (·.length)).sum + 2 * (PyData.shownAll xs).length = ((PyData.shownAll xs).map fun t => t.length + 2).sum := by
      generalize PyData.shownAll xs = ts
      induction ts with
      | nil => rfl
      | cons t ts ih => simp only [List.map_cons, List.sum_cons, List.length_cons]; omega
    omega
  | _, .str _, h => by simp [shw] at h
  | _, .dict _, h => by simp [shw] at h
theorem shwA_ok : ∀ {n : Nat} {ds : List PyData}, shwA n ds = true → PyData.showableAll ds = true ∧ PyData.canLayAll0 ds = true ∧ PyData.depthAll ds ≤ n ∧ ((PyData.shownAll ds).map fun t => t.length + 2).sum ≤ szA ds
  | _, [], _ => ⟨rfl, rfl, Nat.zero_le _, Nat.zero_le _⟩
  | n, x :: xs, h => by
    simp only [shwA, Bool.and_eq_true] at h
    obtain ⟨a, b, c, e⟩ := shw_ok h.1
    obtain ⟨a', b', c', e'⟩ := shwA_ok h.2
    refine ⟨by simp only [PyData.showableAll, a, a', Bool.and_self], by simp only [PyData.canLayAll0, b, b', Bool.and_self], by simp only [PyData.depthAll]; omega, ?_⟩
    simp only [PyData.shownAll, List.map_cons, List.sum_cons, szA]
    omega
end
theorem showOk {n : Nat} {d : PyData} (h : shw n d = true) (hn : n ≤ 60) (hs : szD d ≤ 16000000) : ShowOk d := by
  obtain ⟨a, b, c, e⟩ := shw_ok h
  exact ⟨a, b, by omega, Nat.le_trans (Nat.le_trans e hs) (by decide)⟩
theorem shapedOk {n : Nat} {d : PyData} (h : shw n d = true) (hn : n ≤ 64) : SeqAt.shaped d = true := by
  obtain ⟨a, b, c, e⟩ := shw_ok h
  unfold SeqAt.shaped
  rw [b, decide_eq_true (by omega : d.depth ≤ 64)]
  rfl
theorem shwA_map {α : Type} {f : α → PyData} {n : Nat} : ∀ {l : List α}, (∀ x ∈ l, shw n (f x) = true) → shwA n (l.map f) = true
  | [], _ => rfl
  | x :: l, h => by
    rw [List.map_cons]
    simp only [shwA, h x List.mem_cons_self, shwA_map fun y m => h y (List.mem_cons_of_mem _ m), Bool.and_self]
theorem szA_map {α : Type} {f : α → PyData} {c : Nat} : ∀ {l : List α}, (∀ x ∈ l, szD (f x) + 2 ≤ c) → szA (l.map f) ≤ c * l.length
  | [], _ => by simp [szA]
  | x :: l, h => by
    rw [List.map_cons, List.length_cons, Nat.mul_succ]
    have := h x List.mem_cons_self
    have := szA_map fun y m => h y (List.mem_cons_of_mem _ m)
    simp only [szA]
    omega
theorem shw_nat {n x : Nat} (h : x < 2 ^ 200) : shw n (.int (x : Int)) = true := by
  have : x < 2 ^ 1900 := Nat.lt_of_lt_of_le h (Nat.pow_le_pow_right (by decide) (by decide))
  cases n <;> simpa [shw] using this
theorem shw_lN {n : Nat} {l : List Nat} (h : ∀ x ∈ l, x < 2 ^ 200) : shw (n + 1) (lN l) = true := by
  unfold lN
  simp only [shw]
  exact shwA_map fun x m => shw_nat (h x m)
theorem szD_lN (l : List Nat) : szD (lN l) = 1923 * l.length + 3 := by
  unfold lN
  simp only [szD]
  congr 1
  induction l with
  | nil => rfl
  | cons x l ih => simp only [List.map_cons, szA, szD, ih, List.length_cons]; omega
end Vl
namespace Vl
open PySem PySem.Spec PyProof.Rows L2
def top (i : Nat) : Stmt := PySem.Challenge.pw_divisorsums_k63_whole_walks_of_free_coun.main.body.getD i (.Pass ⟨0, 0, 0, 0⟩)
structure Txt (mg : Str → Option Value) : Prop where
  b_abs : mg "abs" = none
  b_all : mg "all" = none
  b_any : mg "any" = none
  b_bool : mg "bool" = none
  b_divmod : mg "divmod" = none
  b_int : mg "int" = none
  b_isinstance : mg "isinstance" = none
  b_len : mg "len" = none
  b_max : mg "max" = none
  b_min : mg "min" = none
  b_range : mg "range" = none
  b_repr : mg "repr" = none
  b_sorted : mg "sorted" = none
  b_sum : mg "sum" = none
  b_zip : mg "zip" = none
  c_GREATEST : ∃ t, mg "GREATEST" = some (.int 1000000000000 t)
def numOf : PyData → Int → Bool
  | .int n, m => decide (1 ≤ n) && decide (n ≤ m)
  | _, _ => false
abbrev st_is_integer : Stmt := top 4
abbrev N_is_integer : List Str := ["value"]
def S_is_integer : WF := fun ds P => match ds with
  | [d] => P (.v (.bool (isT "int" d && !isT "bool" d)))
  | _ => False
theorem sc_is_integer : FnScope N_is_integer ["value"] (defScope st_is_integer) := ⟨rfl, rfl, rfl, by decide +kernel, rfl, by decide +kernel, by decide +kernel⟩
set_option maxHeartbeats 4000000 in
theorem ok_is_integer {P : Program} {w : World} {K : PySem.W.Frag} {mg : Str → Option Value} {base : Heap} {f : Addr} {fd : FuncData} (T : Txt mg) (F : Fun K "is_integer" "is_integer" st_is_integer f fd) : FnG P w K mg base 1 f fd ["value"] (spF S_is_integer) := by
  have sc := sc_is_integer
  refine fn_body F sc (fun ds P h => (by unfold S_is_integer at h; split at h <;> first | rfl | exact h.elim)) fun cdv A outer s H E hg hr => ?_
  have hu := huOf hr
  refine ⟨_, _, (ssone (sret (vand (visiK K T.b_isinstance (by rfl) (by rfl) T.b_int (by rfl) (vv 0)) (vone (vnot (visiK K T.b_isinstance (by rfl) (by rfl) T.b_bool (by rfl) (vv 0))))))), ?_⟩
  intro ds Q h
  unfold S_is_integer at h; split at h <;> try exact h.elim
  rename_i d
  show (if isT "int" d = true then Q (.v (.bool (!isT "bool" d))) else Q (.v (.bool false)))
  cases hd : isT "int" d with
  | true => rw [hd] at h; exact h
  | false => rw [hd] at h; exact h
abbrev st_is_number_of : Stmt := top 7
abbrev N_is_number_of : List Str := ["value", "most"]
def S_is_number_of : WF := fun ds P => match ds with
  | [d, .int m] => P (.v (.bool (numOf d m)))
  | _ => False
theorem sc_is_number_of : FnScope N_is_number_of ["value", "most"] (defScope st_is_number_of) := ⟨rfl, rfl, rfl, by decide +kernel, rfl, by decide +kernel, by decide +kernel⟩
set_option maxHeartbeats 4000000 in
theorem ok_is_number_of {P : Program} {w : World} {K : PySem.W.Frag} {mg : Str → Option Value} {base : Heap} {f : Addr} {fd : FuncData} (T : Txt mg) (F : Fun K "is_number_of" "is_number_of" st_is_number_of f fd) (D_is_integer : DefG P w K mg base 1 "is_integer" st_is_integer ["value"] (spF S_is_integer)) : FnG P w K mg base 2 f fd ["value", "most"] (spF S_is_number_of) := by
  have sc := sc_is_number_of
  refine fn_body F sc (fun ds P h => (by unfold S_is_number_of at h; split at h <;> first | rfl | exact h.elim)) fun cdv A outer s H E hg hr => ?_
  have hu := huOf hr
  refine ⟨_, _, (ssone (sret (vand (vfn D_is_integer (by exact hg) (by exact hr.mono (by decide)) (by rfl) (acons (vv 0) anil)) (vone (vchain cLe cLe vint (vv 0) (vv 1)))))), ?_⟩
  intro ds Q h
  unfold S_is_number_of at h; split at h <;> try exact h.elim
  rename_i d m
  have key : ∀ b : Bool, (isT "int" d && !isT "bool" d) = b → (if b = true then (wChain (wI0 fun i j => .bool (decide (i ≤ j))) (wI0 fun i j => .bool (decide (i ≤ j))) (wK (.int 1)) (wV 0) (wV 1)) (vB (env0 false N_is_number_of.length [d, .int m])) (fun x => Q (.v x)) else Q (.v (.bool false))) := by
    intro b hb
    cases d with
    | int n =>
      rw [isT_int_int, isT_bool_int] at hb
      subst hb
      show (if decide (1 ≤ n) = true then Q (.v (.bool (decide (n ≤ m)))) else Q (.v (.bool false)))
      have h' : Q (.v (.bool (decide (1 ≤ n) && decide (n ≤ m)))) := h
      cases e : decide (1 ≤ n) with
      | true => rw [e] at h'; exact h'
      | false => rw [e] at h'; exact h'
    | none => simp at hb; subst hb; exact h
    | bool c => simp at hb; subst hb; exact h
    | str c => simp at hb; subst hb; exact h
    | list c => simp at hb; subst hb; exact h
    | tuple c => simp at hb; subst hb; exact h
    | dict c => simp at hb; subst hb; exact h
  exact key _ rfl
abbrev st_want_number : Stmt := top 8
abbrev N_want_number : List Str := ["value", "most"]
def S_want_number : WF := fun ds P => match ds with
  | [.int n, .int m] => (1 ≤ n ∧ n ≤ m) ∧ P (.v .none)
  | _ => False
theorem sc_want_number : FnScope N_want_number ["value", "most"] (defScope st_want_number) := ⟨rfl, rfl, rfl, by decide +kernel, rfl, by decide +kernel, by decide +kernel⟩
set_option maxHeartbeats 4000000 in
theorem ok_want_number {P : Program} {w : World} {K : PySem.W.Frag} {mg : Str → Option Value} {base : Heap} {f : Addr} {fd : FuncData} (T : Txt mg) (F : Fun K "want_number" "want_number" st_want_number f fd) (D_is_number_of : DefG P w K mg base 2 "is_number_of" st_is_number_of ["value", "most"] (spF S_is_number_of)) : FnG P w K mg base 3 f fd ["value", "most"] (spF S_want_number) := by
  have sc := sc_want_number
  refine fn_body F sc (fun ds P h => (by unfold S_want_number at h; split at h <;> first | rfl | exact h.elim)) fun cdv A outer s H E hg hr => ?_
  have hu := huOf hr
  refine ⟨_, _, (ssone (sif (vnotT (vtest (vfn D_is_number_of (by exact hg) (by exact hr.mono (by decide)) (by rfl) (acons (vv 0) (acons (vv 1) anil))))) ssnever ssnil)), ?_⟩
  intro ds Q h
  unfold S_want_number at h; split at h <;> try exact h.elim
  rename_i n m
  obtain ⟨⟨h1, h2⟩, h⟩ := h
  show (if (!(decide (1 ≤ n) && decide (n ≤ m))) = true then False else Q (.v .none))
  rw [decide_eq_true h1, decide_eq_true h2]
  exact h
abbrev st_power_of : Stmt := top 9
abbrev N_power_of : List Str := ["base", "many", "found", "turn"]
def S_power_of : WF := fun ds P => match ds with
  | [.int b, .int m] => (0 ≤ b ∧ b < 2 ^ 40 ∧ 0 ≤ m ∧ m ≤ 64) ∧ P (.v (.int (b ^ m.toNat)))
  | _ => False
theorem sc_power_of : FnScope N_power_of ["base", "many"] (defScope st_power_of) := ⟨rfl, rfl, rfl, by decide +kernel, rfl, by decide +kernel, by decide +kernel⟩
set_option maxHeartbeats 4000000 in
theorem ok_power_of {P : Program} {w : World} {K : PySem.W.Frag} {mg : Str → Option Value} {base : Heap} {f : Addr} {fd : FuncData} (T : Txt mg) (F : Fun K "power_of" "power_of" st_power_of f fd) : FnG P w K mg base 1 f fd ["base", "many"] (spF S_power_of) := by
  have sc := sc_power_of
  refine fn_body F sc (fun ds P h => (by unfold S_power_of at h; split at h <;> first | rfl | exact h.elim)) fun cdv A outer s H E hg hr => ?_
  have hu := huOf hr
  refine ⟨_, _, (sscons (sasgF (i := 2) sc.nd vint)
      (sscons (sfor PassesOwn.never (by rfl) (irng1 (by rfl) T.b_range (acons (vv 1) anil)) (stN (i := 3) sc.nd)
      (ssone (sasgF (i := 2) sc.nd (vmul (vv 2) (vv 0)))))
      (ssone (sretN 2 (vv 2).pe)))), ?_⟩
  intro ds Q h
  unfold S_power_of at h; split at h <;> try exact h.elim
  rename_i b m
  obtain ⟨⟨h1, h2, h3, h4⟩, h⟩ := h
  refine ⟨by omega, fun i ρ => ∃ x, ρ = ⟨false, [some (.v (.int b)), some (.v (.int m)), some (.v (.int (b ^ i))), x]⟩, ⟨none, by rw [Int.pow_zero]; rfl⟩, ?_, ?_⟩
  · rintro i ρ d hd ⟨x, rfl⟩
    obtain ⟨hi, rfl⟩ := range_at hd
    obtain ⟨b, rfl⟩ : ∃ c : Nat, b = c := ⟨b.toNat, by omega⟩
    refine ⟨?_, some (.v (.int (0 + i))), ?_⟩
    · have hb : b < 2 ^ 40 := by omega
      have := mokN (a := b ^ i) (b := b) (k := 40 * 65) (by decide) ?_ ?_
      · rwa [Int.natCast_pow] at this
      · calc b ^ i ≤ (2 ^ 40) ^ i := Nat.pow_le_pow_left (by omega) i
          _ = 2 ^ (40 * i) := by rw [Nat.pow_mul]
          _ < 2 ^ (40 * 65) := Nat.pow_lt_pow_right (by decide) (by omega)
      · exact Nat.lt_of_lt_of_le hb (Nat.pow_le_pow_right (by decide) (by decide))
    · rw [Int.pow_succ]
      rfl
  · rintro ρ ⟨x, rfl⟩
    show Q (.v (.int _))
    rw [rangeD_length]
    exact h
theorem fac_len : ∀ {lo n : Nat} {ps : List (Nat × Nat)}, Pm.FacL lo n ps → 2 ^ ps.length ≤ n
  | _, _, [], h => by rw [show _ = 1 from h]; decide
  | _, _, (p, e) :: ps, ⟨h1, h2, h3, m, h4, h5⟩ => by
    have hp := h2.1
    have g1 : p ^ 1 ≤ p ^ e := Nat.pow_le_pow_right (by omega) h3
    rw [Nat.pow_one] at g1
    have := fac_len h5
    rw [h4, List.length_cons, Nat.pow_succ, Nat.mul_comm]
    exact Nat.mul_le_mul (by omega) this
theorem tri_fac {n left prime : Nat} {found : List (Nat × Nat)} (t : Pm.Tri n found left prime) : ∃ ps, Pm.FacL 2 n (found ++ ps) := by
  obtain ⟨h1, h2, h3, h4, h5⟩ := t
  obtain ⟨ps, hp⟩ := Pm.fac_exists h1
  refine ⟨ps, h5 ps ?_⟩
  cases ps with
  | nil => exact hp
  | cons x ps =>
    obtain ⟨p, e⟩ := x
    obtain ⟨q1, q2, q3, m, q4, q5⟩ := hp
    refine ⟨h4 p q2.1 ?_, q2, q3, m, q4, q5⟩
    obtain ⟨e', rfl⟩ : ∃ e', e = e' + 1 := ⟨e - 1, by omega⟩
    rw [q4, Nat.pow_succ, Nat.mul_comm (p ^ e') p, Nat.mul_assoc]
    exact Nat.dvd_mul_right _ _
theorem tri_len {n left prime : Nat} {found : List (Nat × Nat)} (t : Pm.Tri n found left prime) (hn : n < 2 ^ 64) : found.length < 64 := by
  obtain ⟨ps, hp⟩ := tri_fac t
  have h1 := fac_len hp
  rw [List.length_append] at h1
  have h2 : 2 ^ found.length ≤ 2 ^ (found.length + ps.length) := Nat.pow_le_pow_right (by decide) (by omega)
  refine Nat.not_le.mp fun z => ?_
  have h3 : 2 ^ 64 ≤ 2 ^ found.length := Nat.pow_le_pow_right (by decide) z
  omega
theorem lf_pr (p : Nat × Nat) : lf (prD p) = true := rfl
theorem lP_app (ps : List (Nat × Nat)) (p : Nat × Nat) : PyData.list (ps.map prD ++ [prD p]) = lP (ps ++ [p]) := by
  unfold lP
  rw [List.map_append]
  rfl
abbrev st_powers_of : Stmt := top 10
abbrev N_powers_of : List Str := ["number", "found", "left", "prime", "many"]
def S_powers_of : WF := fun ds P => match ds with
  | [.int n] => (1 ≤ n ∧ n < 2 ^ 64) ∧ P (.o (lP (Pm.facs n.toNat)))
  | _ => False
theorem sc_powers_of : FnScope N_powers_of ["number"] (defScope st_powers_of) := ⟨rfl, rfl, rfl, by decide +kernel, rfl, by decide +kernel, by decide +kernel⟩
set_option maxHeartbeats 4000000 in
theorem ok_powers_of {P : Program} {w : World} {K : PySem.W.Frag} {mg : Str → Option Value} {base : Heap} {f : Addr} {fd : FuncData} (T : Txt mg) (F : Fun K "powers_of" "powers_of" st_powers_of f fd) : FnG P w K mg base 1 f fd ["number"] (spF S_powers_of) := by
  have sc := sc_powers_of
  refine fn_body F sc (fun ds P h => (by unfold S_powers_of at h; split at h <;> first | rfl | exact h.elim)) fun cdv A outer s H E hg hr => ?_
  have hu := huOf hr
  refine ⟨_, _, (sscons (spar3F (i := 1) (j := 2) (l := 3) (by rfl) sc.nd (xo (olst anil) (xv (vv 0) (xv vint xnil))))
      (sscons (swhile PassesOwn.never (vcmpT cLe (vmul (vv 3) (vv 3)) (vv 2))
      (sscons (sasgF (i := 4) sc.nd vint)
      (sscons (swhile PassesOwn.never (vcmpT (cEqK K (by exact hu)) (vmod (vv 2) (vv 3)) vint)
      (ssone (spar2F (i := 2) (j := 4) (by rfl) sc.nd (xv (vdiv (vv 2) (vv 3)) (xv (vadd (vv 4) vint) xnil)))))
      (sscons (sif (vcmpT cGt (vv 4) vint) (ssone (sapp (i := 1) (vv 1).pe (vtup (acons (vv 3) (acons (vv 4) anil))) (pe_bm PySem.F.plainAttrs_list PySem.F.slot_list_append PySem.F.type_list_append mt_append (vv 1).pe (pa_cons (vtup (acons (vv 3) (acons (vv 4) anil))).pe pa_nil)))) ssnil)
      (ssone (sasgF (i := 3) sc.nd (vadd (vv 3) (vif (vcmpT (cEqK K (by exact hu)) (vv 3) vint) vint vint))))))))
      (sscons (sif (vcmpT cGt (vv 2) vint) (ssone (sapp (i := 1) (vv 1).pe (vtup (acons (vv 2) (acons vint anil))) (pe_bm PySem.F.plainAttrs_list PySem.F.slot_list_append PySem.F.type_list_append mt_append (vv 1).pe (pa_cons (vtup (acons (vv 2) (acons vint anil))).pe pa_nil)))) ssnil)
      (ssone (sretN 1 (vv 1).pe))))), ?_⟩
  intro ds Q h
  unfold S_powers_of at h; split at h <;> try exact h.elim
  rename_i n
  obtain ⟨⟨h1, h2⟩, h⟩ := h
  obtain ⟨n, rfl⟩ : ∃ c : Nat, n = c := ⟨n.toNat, by omega⟩
  rw [Int.toNat_natCast] at h
  have hn : n < 2 ^ 64 := by omega
  refine ⟨by decide, (fun _ m => nomatch m), rfl, ?_⟩
  refine ⟨fun m ρ => ∃ (fnd : List (Nat × Nat)) (left prime : Nat) (x : Option Slot), Pm.Tri n fnd left prime ∧ (prime = 2 ∨ (prime % 2 = 1 ∧ 3 ≤ prime)) ∧ prime ≤ n + 2 ∧ m = left + 1 - prime ∧
    ρ = ⟨false, [some (.v (.int n)), some (.o (lP fnd)), some (.v (.int left)), some (.v (.int prime)), x]⟩, ⟨_, [], n, 2, none, Pm.Tri.start (by omega), .inl rfl, by omega, rfl, rfl⟩, ?_⟩
  rintro m ρ ⟨fnd, left, prime, x, T, hp, hpn, rfl, rfl⟩
  have T' := T
  obtain ⟨t1, t2, t3, t4, t5⟩ := T'
  have hlen := tri_len T hn
  refine ⟨mok (by omega) (by omega) (by omega) (by omega), ?_⟩
  show (if decide ((prime : Int) * prime ≤ left) = true then _ else _)
  by_cases hle : prime * prime ≤ left
  · -- another turn
    have hpl : prime ≤ left := Nat.le_trans (Nat.le_mul_of_pos_left _ (by omega)) hle
    rw [if_pos (decide_eq_true (by exact_mod_cast hle))]
    -- many = 0, then the inner loop
    refine ⟨fun k ρ => ∃ l many : Nat, left = prime ^ many * l ∧ k = l ∧ 1 ≤ l ∧ l ≤ left ∧ many ≤ left - l ∧
      ρ = ⟨false, [some (.v (.int n)), some (.o (lP fnd)), some (.v (.int l)), some (.v (.int prime)), some (.v (.int many))]⟩, ⟨_, left, 0, by simp, rfl, t1, Nat.le_refl _, by omega, rfl⟩, ?_⟩
    rintro k ρ ⟨l, many, e1, rfl, l1, l2, l3, rfl⟩
    refine ⟨by omega, ?_⟩
    show (if (decide ((k : Int) % prime = 0) != false) = true then _ else _)
    by_cases hd : k % prime = 0
    · rw [if_pos (by rw [decide_eq_true (by exact_mod_cast hd)]; rfl)]
      obtain ⟨c, hc⟩ := Nat.dvd_of_mod_eq_zero hd
      have c1 : 1 ≤ c := by
        rcases Nat.eq_zero_or_pos c with z | z
        · subst z; simp at hc; omega
        · exact z
      have e2 : k / prime = c := by rw [hc]; exact Nat.mul_div_cancel_left c (by omega)
      have lt : c < k := by
        rw [hc]
        calc c = 1 * c := by omega
          _ < prime * c := Nat.mul_lt_mul_of_pos_right (by omega) c1
      refine ⟨dok (by omega) (by omega), rfl, c, lt, c, many + 1, ?_, rfl, c1, by omega, by omega, ?_⟩
      · rw [e1, hc, Nat.pow_succ, Nat.mul_assoc]
      · have e3 : (k : Int) / prime = c := by rw [← e2]; exact (Int.natCast_ediv k prime).symm
        show (⟨false, [_, _, some (.v (.int ((k : Int) / prime))), _, some (.v (.int ((many : Int) + 1)))]⟩ : Env') = _
        rw [e3]
        rfl
    · rw [if_neg (by rw [decide_eq_false (by intro z; exact hd (by exact_mod_cast z))]; decide)]
      -- behind the inner loop
      have nd : ¬ prime ∣ k := fun z => hd (Nat.mod_eq_zero_of_dvd z)
      have step : ∀ fnd' : List (Nat × Nat), Pm.Tri n fnd' k (prime + 1) → wAsgF 3 (wAdd (wV 3) (wIf (wTest (wOp (wEq2 false) (wV 3) (wK (.int 2)))) (wK (.int 1)) (wK (.int 2))))
          { nx := fun ρ' => ∃ m', m' < left + 1 - prime ∧ ∃ (fnd : List (Nat × Nat)) (left prime : Nat) (x : Option Slot), Pm.Tri n fnd left prime ∧ (prime = 2 ∨ (prime % 2 = 1 ∧ 3 ≤ prime)) ∧ prime ≤ n + 2 ∧ m' = left + 1 - prime ∧
    ρ' = ⟨false, [some (.v (.int n)), some (.o (lP fnd)), some (.v (.int left)), some (.v (.int prime)), x]⟩, rt := Q } ⟨false, [some (.v (.int n)), some (.o (lP fnd')), some (.v (.int k)), some (.v (.int prime)), some (.v (.int many))]⟩ := by
        intro fnd' T2
        show (if (decide ((prime : Int) = 2) != false) = true then _ else _)
        by_cases h2 : prime = 2
        · rw [if_pos (by rw [decide_eq_true (by exact_mod_cast h2)]; rfl)]
          exact ⟨k + 1 - (prime + 1), by omega, fnd', k, prime + 1, _, T2, .inr ⟨by omega, by omega⟩, by omega, rfl, rfl⟩
        · rw [if_neg (by rw [decide_eq_false (by intro z; exact h2 (by exact_mod_cast z))]; decide)]
          have hp' : prime % 2 = 1 ∧ 3 ≤ prime := by omega
          exact ⟨k + 1 - (prime + 2), by omega, fnd', k, prime + 2, _, T2.odd hp'.1 hp'.2, .inr ⟨by omega, by omega⟩, by omega, rfl, rfl⟩
      show (if decide ((0 : Int) < many) = true then _ else _)
      by_cases hm : 0 < many
      · rw [if_pos (decide_eq_true (by exact_mod_cast hm))]
        refine ⟨(show (2 : Nat) ≤ 100000 by decide), lf_pr (prime, many), by rw [List.length_map]; omega, ?_⟩
        have := step (fnd ++ [(prime, many)]) (T.take e1 hm nd)
        rw [← lP_app] at this
        exact this
      · rw [if_neg (by rw [decide_eq_false (by omega)]; decide)]
        have m0 : many = 0 := by omega
        subst m0
        have ek : left = k := by rw [e1]; simp
        exact step fnd (by rw [← ek]; exact T.skip (by rw [ek]; exact nd))
  · -- behind the loop
    rw [if_neg (by rw [decide_eq_false (by intro z; exact hle (by exact_mod_cast z))]; decide)]
    have fin := T.done (by omega)
    show (if decide ((1 : Int) < left) = true then _ else _)
    by_cases hl : 1 < left
    · rw [if_pos (decide_eq_true (by exact_mod_cast hl))]
      rw [if_pos hl] at fin
      refine ⟨(show (2 : Nat) ≤ 100000 by decide), lf_pr (left, 1), by rw [List.length_map]; omega, ?_⟩
      show Q (.o (.list (fnd.map prD ++ [prD (left, 1)])))
      rw [lP_app, ← Pm.facs_of fin]
      exact h
    · rw [if_neg (by rw [decide_eq_false (by omega)]; decide)]
      rw [if_neg hl, List.append_nil] at fin
      show Q (.o (lP fnd))
      rw [← Pm.facs_of fin]
      exact h
theorem phi_le {n : Nat} (h : 1 ≤ n) : Pm.phi n ≤ n := (Pm.phiL_le (Pm.facs_ok h)).1
theorem fac_head : ∀ {lo n : Nat} {ps : List (Nat × Nat)}, Pm.FacL lo n ps → ∀ p ∈ ps, Pm.IsP p.1 ∧ 1 ≤ p.2 ∧ p.1 ≤ n ∧ p.2 < n ∧ p.1 ^ p.2 ≤ n
  | _, _, [], _, p, m => nomatch m
  | _, n, (p, e) :: ps, ⟨h1, h2, h3, m, h4, h5⟩, x, hx => by
    have hp := h2.1
    have mp := h5.pos
    have le1 : p ^ e ≤ n := by
      rw [h4]
      exact Nat.le_mul_of_pos_right _ mp
    have lm : m ≤ n := by
      rw [h4]
      exact Nat.le_mul_of_pos_left _ (Nat.pow_pos (by omega))
    rcases List.mem_cons.mp hx with rfl | hx
    · have g1 : p ^ 1 ≤ p ^ e := Nat.pow_le_pow_right (by omega) h3
      rw [Nat.pow_one] at g1
      have g2 : e < p ^ e := Nat.lt_pow_self (by omega)
      exact ⟨h2, h3, by show p ≤ n; omega, by show e < n; omega, le1⟩
    · obtain ⟨a, b, c, d, f⟩ := fac_head h5 x hx
      exact ⟨a, b, by omega, by omega, by omega⟩
/-- a part of the free count -/
theorem phiL_app : ∀ (ps qs : List (Nat × Nat)), Pm.phiL (ps ++ qs) = Pm.phiL ps * Pm.phiL qs
  | [], qs => by show Pm.phiL qs = 1 * Pm.phiL qs; omega
  | (p, e) :: ps, qs => by
    show (p - 1) * p ^ (e - 1) * Pm.phiL (ps ++ qs) = (p - 1) * p ^ (e - 1) * Pm.phiL ps * Pm.phiL qs
    rw [phiL_app ps qs]
    simp only [Nat.mul_assoc]
theorem phiL_part {ps qs : List (Nat × Nat)} {n : Nat} (h : Pm.FacL 2 n (ps ++ qs)) : Pm.phiL ps ≤ n := by
  have h1 := (Pm.phiL_le h).1
  rw [phiL_app] at h1
  have h2 := Pm.phiL_pos h
  rw [phiL_app] at h2
  rcases Nat.eq_zero_or_pos (Pm.phiL qs) with z | z
  · rw [z] at h2; simp at h2
  · exact Nat.le_trans (Nat.le_mul_of_pos_right _ z) h1
/-- told pairs that are a factoring -/
def IsFac (ds : List PyData) (P : Nat → List (Nat × Nat) → Prop) : Prop := ∃ n ps, ds = ps.map prD ∧ Pm.FacL 2 n ps ∧ n < 2 ^ 40 ∧ P n ps
abbrev st_free_count_by : Stmt := top 12
abbrev N_free_count_by : List Str := ["powers", "found", "prime", "many"]
def S_free_count_by : WF := fun ds P => match ds with
  | [.list ds] => IsFac ds fun n ps => P (.v (.int (Pm.phi n : Nat)))
  | _ => False
theorem sc_free_count_by : FnScope N_free_count_by ["powers"] (defScope st_free_count_by) := ⟨rfl, rfl, rfl, by decide +kernel, rfl, by decide +kernel, by decide +kernel⟩
set_option maxHeartbeats 4000000 in
theorem ok_free_count_by {P : Program} {w : World} {K : PySem.W.Frag} {mg : Str → Option Value} {base : Heap} {f : Addr} {fd : FuncData} (T : Txt mg) (F : Fun K "free_count_by" "free_count_by" st_free_count_by f fd) (D_power_of : DefG P w K mg base 1 "power_of" st_power_of ["base", "many"] (spF S_power_of)) : FnG P w K mg base 2 f fd ["powers"] (spF S_free_count_by) := by
  have sc := sc_free_count_by
  refine fn_body F sc (fun ds P h => (by unfold S_free_count_by at h; split at h <;> first | rfl | exact h.elim)) fun cdv A outer s H E hg hr => ?_
  have hu := huOf hr
  refine ⟨_, _, (sscons (sasgF (i := 1) sc.nd vint)
      (sscons (sfor PassesOwn.never (by rfl) (iseqK K (vv 0)) (stT (is := [2, 3]) (by rfl) (gscons (i := 2) sc.nd (gscons (i := 3) sc.nd gsnil)))
      (ssone (sasgF (i := 1) sc.nd (vmul (vmul (vv 1) (vsub (vv 2) vint)) (vfn D_power_of (by exact hg) (by exact hr.mono (by decide)) (by rfl) (acons (vv 2) (acons (vsub (vv 3) vint) anil)))))))
      (ssone (sretN 1 (vv 1).pe)))), ?_⟩
  intro ds Q h
  unfold S_free_count_by at h; split at h <;> try exact h.elim
  obtain ⟨n, ps, rfl, hf, hn, h⟩ := h
  refine ⟨fun i ρ => ∃ x y, ρ = ⟨false, [some (.v (.list (ps.map prD))), some (.v (.int (Pm.phiL (ps.take i) : Nat))), x, y]⟩, ⟨none, none, rfl⟩, ?_, ?_⟩
  · rintro i ρ d hd ⟨x, y, rfl⟩
    obtain ⟨⟨p, e⟩, hp, rfl⟩ := map_at hd
    have hi := getLt hp
    obtain ⟨f1, f2, f3, f4, f5⟩ := fac_head hf (p, e) (List.mem_of_getElem? hp)
    have pp := f1.1
    have sp : ps = ps.take (i + 1) ++ ps.drop (i + 1) := (List.take_append_drop _ _).symm
    have tk : ps.take (i + 1) = ps.take i ++ [(p, e)] := by rw [List.take_succ, hp]; rfl
    have le2 : Pm.phiL (ps.take (i + 1)) ≤ n := phiL_part (qs := ps.drop (i + 1)) (by rw [← sp]; exact hf)
    have sp0 : ps = ps.take i ++ ps.drop i := (List.take_append_drop _ _).symm
    have le1 : Pm.phiL (ps.take i) ≤ n := phiL_part (qs := ps.drop i) (by rw [← sp0]; exact hf)
    have e1 : Pm.phiL (ps.take (i + 1)) = Pm.phiL (ps.take i) * (p - 1) * p ^ (e - 1) := by
      rw [tk, phiL_app]
      show Pm.phiL (ps.take i) * ((p - 1) * p ^ (e - 1) * 1) = _
      rw [Nat.mul_one, Nat.mul_assoc]
    have pe : p ^ (e - 1) ≤ n := Nat.le_trans (Nat.pow_le_pow_right (by omega) (by omega)) f5
    have f5' : p ^ e ≤ n := f5
    have e64 : e < 40 := by
      have a2 : 2 ^ e ≤ p ^ e := Nat.pow_le_pow_left pp e
      exact (Nat.pow_lt_pow_iff_right (show 1 < 2 by decide)).mp (Nat.lt_of_le_of_lt (Nat.le_trans a2 f5') hn)
    have c1 : ((p : Int) - 1) = ((p - 1 : Nat) : Int) := by omega
    have c2 : ((e : Int) - 1) = ((e - 1 : Nat) : Int) := by omega
    have m1 : Pm.phiL (ps.take i) * (p - 1) < 2 ^ 80 := by
      calc Pm.phiL (ps.take i) * (p - 1) ≤ n * n := Nat.mul_le_mul le1 (by omega)
        _ < 2 ^ 40 * 2 ^ 40 := Nat.mul_lt_mul_of_lt_of_le hn (by omega) (by decide)
        _ = 2 ^ 80 := by decide
    have ok1 : MulOk (Pm.phiL (ps.take i) : Nat) ((p : Int) - 1) := by
      rw [c1]
      exact mokN (k := 80) (by decide) (by omega) (by omega)
    refine ⟨rfl, ok1, ⟨by omega, by omega, by omega, by omega⟩, ?_⟩
    have e2 : (p : Int) ^ ((e : Int) - 1).toNat = ((p ^ (e - 1) : Nat) : Int) := by
      rw [c2, Int.toNat_natCast, Int.natCast_pow]
    have e3 : ((Pm.phiL (ps.take i) : Nat) : Int) * ((p : Int) - 1) = ((Pm.phiL (ps.take i) * (p - 1) : Nat) : Int) := by
      rw [c1, Int.natCast_mul]
    have e4 : ((Pm.phiL (ps.take i) * (p - 1) : Nat) : Int) * ((p ^ (e - 1) : Nat) : Int) = ((Pm.phiL (ps.take (i + 1)) : Nat) : Int) := by
      rw [e1, Int.natCast_mul (Pm.phiL (ps.take i) * (p - 1))]
    refine ⟨?_, some (.v (.int p)), some (.v (.int e)), ?_⟩
    · show MulOk (((Pm.phiL (ps.take i) : Nat) : Int) * ((p : Int) - 1)) ((p : Int) ^ ((e : Int) - 1).toNat)
      rw [e2, e3]
      exact mokN (k := 80) (by decide) m1 (by omega)
    · show (⟨false, [_, some (.v (.int (((Pm.phiL (ps.take i) : Nat) : Int) * ((p : Int) - 1) * ((p : Int) ^ ((e : Int) - 1).toNat)))), _, _]⟩ : Env') = _
      rw [e2, e3, e4]
  · rintro ρ ⟨x, y, rfl⟩
    rw [List.length_map, List.take_length, ← Pm.phi_of hf]
    exact h
abbrev st_free_count_of : Stmt := top 13
abbrev N_free_count_of : List Str := ["number"]
def S_free_count_of : WF := fun ds P => match ds with
  | [.int n] => (1 ≤ n ∧ n < 2 ^ 40) ∧ P (.v (.int (Pm.phi n.toNat : Nat)))
  | _ => False
theorem sc_free_count_of : FnScope N_free_count_of ["number"] (defScope st_free_count_of) := ⟨rfl, rfl, rfl, by decide +kernel, rfl, by decide +kernel, by decide +kernel⟩
set_option maxHeartbeats 4000000 in
theorem ok_free_count_of {P : Program} {w : World} {K : PySem.W.Frag} {mg : Str → Option Value} {base : Heap} {f : Addr} {fd : FuncData} (T : Txt mg) (F : Fun K "free_count_of" "free_count_of" st_free_count_of f fd) (D_free_count_by : DefG P w K mg base 2 "free_count_by" st_free_count_by ["powers"] (spF S_free_count_by)) (D_powers_of : DefG P w K mg base 1 "powers_of" st_powers_of ["number"] (spF S_powers_of)) : FnG P w K mg base 3 f fd ["number"] (spF S_free_count_of) := by
  have sc := sc_free_count_of
  refine fn_body F sc (fun ds P h => (by unfold S_free_count_of at h; split at h <;> first | rfl | exact h.elim)) fun cdv A outer s H E hg hr => ?_
  have hu := huOf hr
  refine ⟨_, _, (ssone (sret (vfn D_free_count_by (by exact hg) (by exact hr.mono (by decide)) (by rfl) (acons (vfn D_powers_of (by exact hg) (by exact hr.mono (by decide)) (by rfl) (acons (vv 0) anil)) anil)))), ?_⟩
  intro ds Q h
  unfold S_free_count_of at h; split at h <;> try exact h.elim
  rename_i n
  obtain ⟨⟨h1, h2⟩, h⟩ := h
  exact ⟨⟨h1, by omega⟩, n.toNat, _, rfl, Pm.facs_ok (by omega), by omega, h⟩
/-- the walk: the last that stands and what is to come -/
def onWalk (n : Nat) (pre : List Nat) (x : Nat) : Prop := pre ++ Pm.walk x = Pm.walk n
theorem atI_last {ds : List PyData} {d : PyData} : atI (ds ++ [d]) (-1) = some d := by
  unfold atI ixN
  rw [List.length_append, List.length_singleton]
  rw [if_neg (by decide), if_pos (by omega)]
  show (ds ++ [d])[(-1 + ((ds.length + 1 : Nat) : Int)).toNat]? = some d
  rw [show (-1 + ((ds.length + 1 : Nat) : Int)).toNat = ds.length by omega, List.getElem?_append_right (Nat.le_refl _), Nat.sub_self]
  rfl
theorem lN_app (l : List Nat) (x : Nat) : PyData.list ((l.map fun x : Nat => PyData.int (x : Int)) ++ [.int (x : Int)]) = lN (l ++ [x]) := by
  unfold lN
  rw [List.map_append]
  rfl
theorem lN_snoc (l : List Nat) (x : Nat) : lN (l ++ [x]) = .list ((l.map fun x : Nat => PyData.int (x : Int)) ++ [.int (x : Int)]) := (lN_app l x).symm
theorem walk_short {n : Nat} (h : 1 ≤ n) (hn : n < 2 ^ 40) : (Pm.walk n).length ≤ 41 := by
  have h1 := Pm.walk_len h
  have h2 := (Pm.wgt_low h).1
  have : Pm.wgt n < 40 := (Nat.pow_lt_pow_iff_right (show 1 < 2 by decide)).mp (Nat.lt_of_le_of_lt h2 hn)
  omega
theorem onWalk.next {n x : Nat} {pre : List Nat} (h : onWalk n pre x) (hx : 1 < x) : onWalk n (pre ++ [x]) (Pm.phi x) := by
  unfold onWalk at h ⊢
  rw [← h, Pm.walk_more hx, List.append_assoc]
  rfl
theorem onWalk.done {n x : Nat} {pre : List Nat} (h : onWalk n pre x) (hx : ¬ 1 < x) : pre ++ [x] = Pm.walk n := by
  unfold onWalk at h
  rw [← h, Pm.walk_one hx]
theorem onWalk.len {n x : Nat} {pre : List Nat} (h : onWalk n pre x) : pre.length + (Pm.walk x).length = (Pm.walk n).length := by
  rw [← h, List.length_append]
abbrev st_walk_of : Stmt := top 14
abbrev N_walk_of : List Str := ["number", "found"]
def S_walk_of : WF := fun ds P => match ds with
  | [.int n] => (1 ≤ n ∧ n < 2 ^ 40) ∧ P (.o (lN (Pm.walk n.toNat)))
  | _ => False
theorem sc_walk_of : FnScope N_walk_of ["number"] (defScope st_walk_of) := ⟨rfl, rfl, rfl, by decide +kernel, rfl, by decide +kernel, by decide +kernel⟩
set_option maxHeartbeats 4000000 in
theorem ok_walk_of {P : Program} {w : World} {K : PySem.W.Frag} {mg : Str → Option Value} {base : Heap} {f : Addr} {fd : FuncData} (T : Txt mg) (F : Fun K "walk_of" "walk_of" st_walk_of f fd) (D_free_count_of : DefG P w K mg base 3 "free_count_of" st_free_count_of ["number"] (spF S_free_count_of)) : FnG P w K mg base 4 f fd ["number"] (spF S_walk_of) := by
  have sc := sc_walk_of
  refine fn_body F sc (fun ds P h => (by unfold S_walk_of at h; split at h <;> first | rfl | exact h.elim)) fun cdv A outer s H E hg hr => ?_
  have hu := huOf hr
  refine ⟨_, _, (sscons (sasgOF (i := 1) sc.nd (olst (acons (vv 0) anil)))
      (sscons (swhile PassesOwn.never (vcmpT cGt (vixK K (vv 1) (vneg vint)) vint)
      (ssone (sapp (i := 1) (vv 1).pe (vfn D_free_count_of (by exact hg) (by exact hr.mono (by decide)) (by rfl) (acons (vixK K (vv 1) (vneg vint)) anil)) (pe_bm PySem.F.plainAttrs_list PySem.F.slot_list_append PySem.F.type_list_append mt_append (vv 1).pe (pa_cons (vfn D_free_count_of (by exact hg) (by exact hr.mono (by decide)) (by rfl) (acons (vixK K (vv 1) (vneg vint)) anil)).pe pa_nil)))))
      (ssone (sretN 1 (vv 1).pe)))), ?_⟩
  intro ds Q h
  unfold S_walk_of at h; split at h <;> try exact h.elim
  rename_i n
  obtain ⟨⟨h1, h2⟩, h⟩ := h
  obtain ⟨n, rfl⟩ : ∃ c : Nat, n = c := ⟨n.toNat, by omega⟩
  rw [Int.toNat_natCast] at h
  have hw := walk_short (n := n) (by omega) (by omega)
  refine ⟨(show (1 : Nat) ≤ 100000 by decide), (fun d m => by obtain rfl := List.mem_singleton.mp m; rfl), ?_⟩
  refine ⟨fun m ρ => ∃ (pre : List Nat) (x : Nat), onWalk n pre x ∧ m = x ∧ 1 ≤ x ∧ x ≤ n ∧ ρ = ⟨false, [some (.v (.int n)), some (.o (lN (pre ++ [x])))]⟩, ⟨n, [], n, rfl, rfl, by omega, Nat.le_refl _, rfl⟩, ?_⟩
  rintro m ρ ⟨pre, x, hx, rfl, x1, xn, rfl⟩
  rw [lN_snoc]
  show (match atI ((pre.map fun x : Nat => PyData.int (x : Int)) ++ [.int (m : Int)]) (-1) with | some d => _ | none => _)
  rw [atI_last]
  show (if decide ((1 : Int) < m) = true then _ else _)
  by_cases hm : 1 < m
  · rw [if_pos (decide_eq_true (by exact_mod_cast hm))]
    show (match atI ((pre.map fun x : Nat => PyData.int (x : Int)) ++ [.int (m : Int)]) (-1) with | some d => _ | none => _)
    rw [atI_last]
    refine ⟨⟨by omega, by omega⟩, rfl, ?_, ?_⟩
    · have := hx.len
      rw [List.length_append, List.length_map, List.length_singleton]
      omega
    · have lt := Pm.phi_lt hm
      refine ⟨Pm.phi m, lt, pre ++ [m], Pm.phi m, hx.next hm, rfl, Pm.phi_pos x1, by omega, ?_⟩
      show (⟨false, [_, some (.o (.list (((pre.map fun x : Nat => PyData.int (x : Int)) ++ [.int (m : Int)]) ++ [.int ((Pm.phi (m : Int).toNat : Nat) : Int)])))]⟩ : Env') = _
      rw [Int.toNat_natCast, lN_snoc, List.map_append]
      rfl
  · rw [if_neg (by rw [decide_eq_false (by omega)]; decide)]
    show Q (.o (.list ((pre.map fun x : Nat => PyData.int (x : Int)) ++ [.int (m : Int)])))
    rw [lN_app, hx.done hm]
    exact h
abbrev st_free_count : Stmt := top 15
abbrev N_free_count : List Str := ["number"]
def S_free_count : WF := fun ds P => match ds with
  | [.int n] => (1 ≤ n ∧ n ≤ 1000000000000) ∧ P (.v (.int (Pm.phi n.toNat : Nat)))
  | _ => False
theorem sc_free_count : FnScope N_free_count ["number"] (defScope st_free_count) := ⟨rfl, rfl, rfl, by decide +kernel, rfl, by decide +kernel, by decide +kernel⟩
set_option maxHeartbeats 4000000 in
theorem ok_free_count {P : Program} {w : World} {K : PySem.W.Frag} {mg : Str → Option Value} {base : Heap} {f : Addr} {fd : FuncData} (T : Txt mg) (F : Fun K "free_count" "free_count" st_free_count f fd) (D_free_count_of : DefG P w K mg base 3 "free_count_of" st_free_count_of ["number"] (spF S_free_count_of)) (D_want_number : DefG P w K mg base 3 "want_number" st_want_number ["value", "most"] (spF S_want_number)) : FnG P w K mg base 5 f fd ["number"] (spF S_free_count) := by
  have sc := sc_free_count
  obtain ⟨tk_GREATEST, hc_GREATEST⟩ := T.c_GREATEST
  refine fn_body F sc (fun ds P h => (by unfold S_free_count at h; split at h <;> first | rfl | exact h.elim)) fun cdv A outer s H E hg hr => ?_
  have hu := huOf hr
  refine ⟨_, _, (sscons (sexpr (vfn D_want_number (by exact hg) (by exact hr.mono (by decide)) (by rfl) (acons (vv 0) (acons (vglobI (by rfl) hc_GREATEST) anil))))
      (ssone (sret (vfn D_free_count_of (by exact hg) (by exact hr.mono (by decide)) (by rfl) (acons (vv 0) anil))))), ?_⟩
  intro ds Q h
  unfold S_free_count at h; split at h <;> try exact h.elim
  obtain ⟨⟨h1, h2⟩, h⟩ := h
  exact ⟨⟨h1, h2⟩, ⟨h1, by omega⟩, h⟩
abbrev st_free_walk : Stmt := top 16
abbrev N_free_walk : List Str := ["number"]
def S_free_walk : WF := fun ds P => match ds with
  | [.int n] => (1 ≤ n ∧ n ≤ 1000000000000) ∧ P (.o (lN (Pm.walk n.toNat)))
  | _ => False
theorem sc_free_walk : FnScope N_free_walk ["number"] (defScope st_free_walk) := ⟨rfl, rfl, rfl, by decide +kernel, rfl, by decide +kernel, by decide +kernel⟩
set_option maxHeartbeats 4000000 in
theorem ok_free_walk {P : Program} {w : World} {K : PySem.W.Frag} {mg : Str → Option Value} {base : Heap} {f : Addr} {fd : FuncData} (T : Txt mg) (F : Fun K "free_walk" "free_walk" st_free_walk f fd) (D_walk_of : DefG P w K mg base 4 "walk_of" st_walk_of ["number"] (spF S_walk_of)) (D_want_number : DefG P w K mg base 3 "want_number" st_want_number ["value", "most"] (spF S_want_number)) : FnG P w K mg base 5 f fd ["number"] (spF S_free_walk) := by
  have sc := sc_free_walk
  obtain ⟨tk_GREATEST, hc_GREATEST⟩ := T.c_GREATEST
  refine fn_body F sc (fun ds P h => (by unfold S_free_walk at h; split at h <;> first | rfl | exact h.elim)) fun cdv A outer s H E hg hr => ?_
  have hu := huOf hr
  refine ⟨_, _, (sscons (sexpr (vfn D_want_number (by exact hg) (by exact hr.mono (by decide)) (by rfl) (acons (vv 0) (acons (vglobI (by rfl) hc_GREATEST) anil))))
      (ssone (sretO (ofn D_walk_of (by exact hg) (by exact hr.mono (by decide)) (by rfl) (acons (vv 0) anil))))), ?_⟩
  intro ds Q h
  unfold S_free_walk at h; split at h <;> try exact h.elim
  obtain ⟨⟨h1, h2⟩, h⟩ := h
  exact ⟨⟨h1, h2⟩, ⟨h1, by omega⟩, h⟩
/-- the weight -/
noncomputable def weight (n : Nat) : Nat := ((Pm.walk n).tail.filter fun x => 1 < x).length
def over1 : PyData → Option PyData
  | .int i => if 1 < i then some (.int i) else none
  | _ => none
theorem over1_map (l : List Nat) : (l.map fun x : Nat => PyData.int (x : Int)).filterMap over1 = (l.filter fun x => 1 < x).map fun x : Nat => PyData.int (x : Int) := by
  induction l with
  | nil => rfl
  | cons a l ih =>
    rw [List.map_cons, List.filterMap_cons]
    have e : over1 (.int (a : Int)) = if (1 : Int) < a then some (.int a) else none := rfl
    by_cases ha : 1 < a
    · rw [e, if_pos (by exact_mod_cast ha), List.filter_cons_of_pos (by simpa using ha), List.map_cons, ih]
    · rw [e, if_neg (by omega), List.filter_cons_of_neg (by simpa using ha), ih]
theorem over1_turn {n : Int} {x : Nat} {R : Option PyData → Prop} (hR : R (over1 (.int (x : Int)))) : lcTurn (gvN 1) (wTest (wOp (wI0 fun i j => .bool (decide (j < i))) (wV 1) (wK (.int 1)))) (wV 1) (wipeW (vB (env0 false 2 [.int n])) [1]) (.int (x : Int)) R := by
  show (if decide ((1 : Int) < x) = true then R (some (.int x)) else R none)
  have hR' : R (if (1 : Int) < x then some (.int x) else none) := hR
  by_cases h : (1 : Int) < x
  · rw [if_pos h] at hR'
    rw [if_pos (decide_eq_true h)]
    exact hR'
  · rw [if_neg h] at hR'
    rw [if_neg (by rw [decide_eq_false h]; decide)]
    exact hR'
abbrev st_walk_weight : Stmt := top 17
abbrev N_walk_weight : List Str := ["number", "one"]
def S_walk_weight : WF := fun ds P => match ds with
  | [.int n] => (1 ≤ n ∧ n ≤ 1000000000000) ∧ P (.v (.int (weight n.toNat : Nat)))
  | _ => False
theorem sc_walk_weight : FnScope N_walk_weight ["number"] (defScope st_walk_weight) := ⟨rfl, rfl, rfl, by decide +kernel, rfl, by decide +kernel, by decide +kernel⟩
set_option maxHeartbeats 4000000 in
theorem ok_walk_weight {P : Program} {w : World} {K : PySem.W.Frag} {mg : Str → Option Value} {base : Heap} {f : Addr} {fd : FuncData} (T : Txt mg) (F : Fun K "walk_weight" "walk_weight" st_walk_weight f fd) (D_walk_of : DefG P w K mg base 4 "walk_of" st_walk_of ["number"] (spF S_walk_of)) (D_want_number : DefG P w K mg base 3 "want_number" st_want_number ["value", "most"] (spF S_want_number)) : FnG P w K mg base 5 f fd ["number"] (spF S_walk_weight) := by
  have sc := sc_walk_weight
  obtain ⟨tk_GREATEST, hc_GREATEST⟩ := T.c_GREATEST
  refine fn_body F sc (fun ds P h => (by unfold S_walk_weight at h; split at h <;> first | rfl | exact h.elim)) fun cdv A outer s H E hg hr => ?_
  have hu := huOf hr
  refine ⟨_, _, (sscons (sexpr (vfn D_want_number (by exact hg) (by exact hr.mono (by decide)) (by rfl) (acons (vv 0) (acons (vglobI (by rfl) hc_GREATEST) anil))))
      (ssone (sret (vcb (cLenK K) (by rfl) T.b_len (by rfl) (acons (vlc (own := [("one", 1)]) (by decide) (by rfl) sc.nd (iseqK K (vslK K (vfn D_walk_of (by exact hg) (by exact hr.mono (by decide)) (by rfl) (acons (vv 0) anil)) (psome vint) pnone)) (by exact blk_ok (N := N_walk_weight) (sc := defScope st_walk_weight) (by decide +kernel)) (fun _ _ _ _ _ => (vgN (i := 1) sc.nd)) (fun _ _ _ _ _ => (tsone (vcmpT cGt (vv 1) vint))) (fun _ _ _ _ _ => (vv 1))) anil))))), ?_⟩
  intro ds Q h
  unfold S_walk_weight at h; split at h <;> try exact h.elim
  rename_i n
  obtain ⟨⟨h1, h2⟩, h⟩ := h
  have hw := walk_short (n := n.toNat) (by omega) (by omega)
  refine ⟨⟨h1, h2⟩, ⟨h1, by omega⟩, ?_⟩
  have tl : ((Pm.walk n.toNat).map fun x : Nat => PyData.int (x : Int)).tail.length ≤ 41 := by
    rw [List.length_tail, List.length_map]
    omega
  refine lc_fm (ds := cutD ((Pm.walk n.toNat).map fun x : Nat => PyData.int (x : Int)) (some 1) none) over1 ?_ ?_ ?_
  · intro d hd R hR
    rw [cut_tail, tail_map] at hd
    obtain ⟨x, hx, rfl⟩ := List.mem_map.mp hd
    exact over1_turn hR
  · rw [cut_tail]
    show 0 + _ ≤ _
    omega
  · rw [cut_tail, tail_map]
    show Q (.v (.int _))
    rw [List.nil_append, over1_map, List.length_map]
    exact h
theorem divp_small {i j : Int} (hj : 0 < j) (h : j < 2 ^ 200) : CDivP i j := by
  refine ⟨hj, ?_⟩
  have hn : j.natAbs.log2 < 200 := by
    have h2 : j.natAbs < 2 ^ 200 := by omega
    exact (Nat.log2_lt (by omega)).mpr h2
  show (decide ((if j == 0 then 0 else j.natAbs.log2 / 30 + 1) > 300) && _) = false
  rw [if_neg (show ¬ (j == 0) = true by simpa using (show j ≠ 0 by omega)), decide_eq_false (by omega)]
  rfl
theorem potStep {G H : Hp} {a : Addr} {x y : Int} {H' : Hp} (hga : G a = none) (ex : Ex G H) (ha : H' a = some (.lst [.int x, .int y])) (h0 : 0 ≤ x) (h1 : 0 ≤ y) (h2 : y < 2147483648) (kp : ∀ b o, b ≠ a → H b = some o → H' b = some o) : Step (some a) G H G H' :=
  ⟨Ex.refl G, fun b o n e => kp b o (fun z => n (by rw [z])) e, fun b z _ => (by cases z; exact ⟨x, y, ha, h0, h1, h2⟩), fun b o e => kp b o (fun z => (by rw [z, hga] at e; cases e)) (ex b o e), fun _ _ e => e⟩
abbrev st__law_draw : Stmt := top 20
abbrev N__law_draw : List Str := ["pot", "many", "digit"]
def S__law_draw : WF := fun ds P => match ds with
  | [.int m] => (0 < m ∧ m < 2 ^ 200) ∧ ∀ i : Int, 0 ≤ i → i < m → P (.v (.int i))
  | _ => False
theorem sc__law_draw : FnScope N__law_draw ["pot", "many"] (defScope st__law_draw) := ⟨rfl, rfl, rfl, by decide +kernel, rfl, by decide +kernel, by decide +kernel⟩
set_option maxHeartbeats 4000000 in
theorem ok__law_draw {P : Program} {w : World} {K : PySem.W.Frag} {mg : Str → Option Value} {base : Heap} {f : Addr} {fd : FuncData} (T : Txt mg) (F : Fun K "_law_draw" "_law_draw" st__law_draw f fd) : FnG P w K mg base 1 f fd ["pot", "many"] (spP S__law_draw) := by
  have sc := sc__law_draw
  refine FnG.body F sc (fun vs H Q E h => ?_) fun cdv A outer s H vs Q E hg hr h => ?_
  · obtain ⟨a, us, G, ds, P, rfl, _, _, _, r, hs, _⟩ := h
    unfold S__law_draw at hs; split at hs <;> try exact hs.elim
    cases r with
    | cons _ r2 => cases r2; rfl
  · have hu := huOf hr
    refine ⟨_, pss_cons (ps_if (vcmpT cGt (vixK K (vv 0) vint) vint).pe (pss_cons (ps_asg (pe_callB call_divmodW (by rfl) T.b_divmod (by rfl) (acons (vixK K (vv 0) vint) (acons (vv 1) anil)).pe) (pg_tup (n := 2) (by rfl) (pgs_cons (pg_sub (vv 0).pe pe_int set_list) (pgs_cons (pg_name (i := 2) sc.nd rfl (Or.inl rfl)) pgs_nil))))
      (pss_one (ps_ret (vv 2).pe))) pss_nil)
      (pss_cons (ps_asg (vmod (vct cInt1 (by rfl) T.b_int (by rfl) (acons (vadd (vmul (vixK K (vv 0) vint) vint) vint) anil)) vint).pe (pg_sub (vv 0).pe pe_int set_list))
      (pss_one (ps_ret (vmod (vct cInt1 (by rfl) T.b_int (by rfl) (acons (vdiv (vmod (vct cInt1 (by rfl) T.b_int (by rfl) (acons (vmul (vixK K (vv 0) vint) (vixK K (vv 0) vint)) anil)) vint) vint) anil)) (vv 1)).pe))), ?_⟩
    obtain ⟨a, us, G, ds, P, rfl, ⟨x, y, ha, hx, hy, hy2⟩, hga, ex, r, hs, k⟩ := h
    unfold S__law_draw at hs; split at hs <;> try exact hs.elim
    rename_i m
    obtain ⟨⟨m0, m1⟩, hk⟩ := hs
    have hv : us = [.int m] := by
      cases r with
      | cons r1 r2 => cases r2; rw [rep_int r1]
    subst hv
    refine ⟨.ref a, rfl, .inl ⟨a, [.int x, .int y], 0, .int x, rfl, rfl, SqL.of ha, rfl, x, 0, rfl, rfl, _, rfl, ?_⟩⟩
    by_cases hx0 : 0 < x
    · refine ifT (decT hx0) ?_
      refine ⟨.ref a, rfl, .inl ⟨a, [.int x, .int y], 0, .int x, rfl, rfl, SqL.of ha, rfl, .int m, rfl, x, m, rfl, divp_small m0 m1, fun p hp => ?_⟩⟩
      have pa : p ≠ a := fun z => by rw [z, ha] at hp; cases hp
      have ha' : (upd H p (.tup [.int (x / m), .int (x % m)])) a = some (.lst [.int x, .int y]) := by rw [upd_ne (fun z => pa z.symm)]; exact ha
      refine ⟨p, _, rfl, SqT.of upd_same, rfl, .int (x / m), _, rfl, ⟨.ref a, rfl, a, [.int x, .int y], 0, 0, rfl, rfl, ha', rfl, ?_⟩⟩
      refine ⟨.int (x % m), [], rfl, rfl, .int (x % m), rfl, ?_⟩
      refine k (.int (x % m)) G _ (.v (.int (x % m))) [] (potStep (x := x / m) (y := y) hga ex upd_same (Int.ediv_nonneg hx (by omega)) hy hy2 fun b o n e => ?_) ⟨.int _, rfl⟩ List.nodup_nil (fun b q => nomatch q) (hk _ (Int.emod_nonneg _ (by omega)) (Int.emod_lt_of_pos _ m0))
      rw [upd_ne n, upd_ne (ne_of_none e hp)]
      exact e
    · refine ifF (decF hx0) ?_
      refine ⟨.ref a, rfl, .inl ⟨a, [.int x, .int y], 1, .int y, rfl, rfl, SqL.of ha, rfl, y, _, rfl, rfl, (mok hy (by omega) (by decide) (by decide)).w, _, _, rfl, rfl, .inl ⟨_, rfl, _, _, rfl, rfl, (show (0 : Int) < 2147483587 by decide), ?_⟩⟩⟩
      refine ⟨.ref a, rfl, a, [.int x, .int y], 1, 1, rfl, rfl, ha, rfl, ?_⟩
      have hM : (upd H a (.lst ([V.int x, V.int y].set 1 (.int ((y * 40014 + 4969) % 2147483587))))) a = some (.lst [.int x, .int ((y * 40014 + 4969) % 2147483587)]) := upd_same
      have b0 : 0 ≤ (y * 40014 + 4969) % 2147483587 := Int.emod_nonneg _ (by decide)
      have b1 : (y * 40014 + 4969) % 2147483587 < 2147483587 := Int.emod_lt_of_pos _ (by decide)
      refine ⟨.ref a, rfl, .inl ⟨a, _, 1, _, rfl, rfl, SqL.of hM, rfl, .ref a, rfl, .inl ⟨a, _, 1, _, rfl, rfl, SqL.of hM, rfl, _, _, rfl, rfl, (mok b0 (by omega) b0 (by omega)).w, .inl ⟨_, rfl, _, _, rfl, rfl, (show (0 : Int) < 2147483629 by decide), _, _, rfl, rfl, (dok (by decide) (by decide)).w, .inl ⟨_, rfl, .int m, rfl, _, m, rfl, rfl, m0, ?_⟩⟩⟩⟩⟩
      refine k (.int _) G _ (.v (.int _)) [] (potStep (x := x) (y := (y * 40014 + 4969) % 2147483587) hga ex hM hx b0 (by omega) fun b o n e => ?_) ⟨.int _, rfl⟩ List.nodup_nil (fun b q => nomatch q) (hk _ (Int.emod_nonneg _ (by omega)) (Int.emod_lt_of_pos _ m0))
      rw [upd_ne n]
      exact e
/-- a pot is made of the script's cell k -/
def spPot (K : PySem.W.Frag) : Sp := fun vs H Q _ => ∃ (a : Addr) (ns : List Int) (k : Int), vs = [.ref a, .int k] ∧ SqL K H a (ns.map V.int) ∧ 0 ≤ k ∧ k ≤ 100 ∧ ns.length ≤ 63 ∧
  ∀ (p : Addr) (x y : Int), H p = none → 0 ≤ x → 0 ≤ y → y < 2147483648 → Q (.ref p) (upd H p (.lst [.int x, .int y]))
abbrev rInt1 : List V → Hp → VK → Prop := fun xs H Q => (∃ i, xs = [V.int i] ∧ Q (V.int i) H) ∨ ∃ k, xs = [V.bl k] ∧ Q (V.int (if k = true then 1 else 0)) H
abbrev tMod (t : TE) (m : Int) : TE := tOp (rI (fun x j => 0 < j) fun i j => .int (i % j)) t (tC (.int m))
/-- what a pot is made of, from the cell on -/
abbrev tPotEnd (m1 a c d m2 : Int) : TS := tRet (tLst (tCons (tCB (fun xs H Q => ∃ i j, xs = [V.int i, V.int j] ∧ Q (V.int (if j > i then j else i)) H) (tCons (tC (.int 0)) (tCons (tOp (rI0 fun i j => .int (i - j)) (tVar 2) (tOp (rI CPow fun i j => .int (i ^ j.toNat)) (tC (.int 10)) (tC (.int 18)))) tNil)))
  (tCons (tOp (rI0 fun i j => .int (i + j)) (tMod (tCB rInt1 (tCons (tOp (rI0 fun i j => .int (i + j)) (tOp (rI0 fun i j => .int (i + j)) (tOp (rI CMulW fun i j => .int (i * j)) (tMod (tCB rInt1 (tCons (tVar 2) tNil)) m1) (tC (.int a)))
    (tOp (rI CMulW fun i j => .int (i * j)) (tC (.int c)) (tVar 1))) (tC (.int d))) tNil)) m2) (tC (.int 1))) tNil)))
theorem pe_fn {X : Cx} {lv : Nat} {x : Str} {st : Stmt} {ps : List Str} {sp : Sp} {e : Expr} {es : List Expr} {t : TA} {p pos : Pos} (D : DG X lv x st ps sp) (hgu : X.A.guards = some []) (hr : Room lv X.A) (hg : Gl X x) (ha : PA X (e :: es) t)
    (hdb : (x == ("__debug__" : Str)) = false := by decide) (he : starEach (e :: es) X.env = (false, eval e X.env) :: starEach es X.env := by rfl) (hpl : (backTo pos (starEach es X.env)).any (·.1) = false := by rfl) :
    PE X (.Call (.Name x p) (e :: es) [] pos) (tG sp [] t) := by
  obtain ⟨f, fd, F, hm, hk, _, hb⟩ := D.ex
  exact pe_g F hgu hr hg hm hk hb .nil ha hdb he hpl
abbrev st__law_pot : Stmt := top 19
abbrev N__law_pot : List Str := ["script", "k", "cell"]
theorem sc__law_pot : FnScope N__law_pot ["script", "k"] (defScope st__law_pot) := ⟨rfl, rfl, rfl, by decide +kernel, rfl, by decide +kernel, by decide +kernel⟩
set_option maxHeartbeats 4000000 in
theorem ok__law_pot {P : Program} {w : World} {K : PySem.W.Frag} {mg : Str → Option Value} {base : Heap} {f : Addr} {fd : FuncData} (T : Txt mg) (F : Fun K "_law_pot" "_law_pot" st__law_pot f fd) : FnG P w K mg base 1 f fd ["script", "k"] (spPot K) := by
  have sc := sc__law_pot
  refine FnG.body F sc (fun vs H Q E h => ?_) fun cdv A outer s H vs Q E hg hr h => ?_
  · obtain ⟨a, ns, k, rfl, _⟩ := h
    rfl
  · have hu := huOf hr
    refine ⟨_, ((sscons (sasgF (i := 2) sc.nd (vadd (vmul vint (vv 1)) vint))
      (sscons (sif (vcmpT cLt (vv 1) (vcb (cLenK K) (by rfl) T.b_len (by rfl) (acons (vv 0) anil))) (ssone (sasgF (i := 2) sc.nd (vcb cAbs (by rfl) T.b_abs (by rfl) (acons (vixK K (vv 0) (vv 1)) anil)))) ssnil)
      (ssone (sret (vlst (acons (vcb (cMax2 (by rfl)) (by rfl) T.b_max (by rfl) (acons vint (acons (vsub (vv 2) (vpow vint vint)) anil))) (acons (vadd (vmod (vct cInt1 (by rfl) T.b_int (by rfl) (acons (vadd (vadd (vmul (vmod (vct cInt1 (by rfl) T.b_int (by rfl) (acons (vv 2) anil)) vint) vint) (vmul vint (vv 1))) vint) anil)) vint) vint) anil)))))))).ps, ?_⟩
    obtain ⟨a, ns, k, rfl, hS, k0, k1, hl, kk⟩ := h
    refine ⟨.int k, rfl, _, k, rfl, rfl, (mok (by decide) (by decide) k0 (by omega)).w, _, _, rfl, rfl, ?_⟩
    refine ⟨.int k, rfl, .ref a, rfl, a, _, rfl, .inl hS, k, _, rfl, rfl, _, rfl, ?_⟩
    have fin : ∀ c : Int, tPotEnd 2147483549 39373 4157 3457 2147483563 { nx := fun _ H' => Q V.non H', rt := Q } [some (.ref a), some (.int k), some (.int c)] H := by
      intro c
      refine ⟨.int c, rfl, _, _, rfl, rfl, ⟨by decide, by decide, by decide⟩, _, _, rfl, rfl, 0, _, rfl, ?_⟩
      refine ⟨.int c, rfl, .inl ⟨_, rfl, _, _, rfl, rfl, (show (0 : Int) < 2147483549 by decide), ?_⟩⟩
      have e0 : 0 ≤ c % 2147483549 := Int.emod_nonneg _ (by decide)
      have e1 : c % 2147483549 < 2147483549 := Int.emod_lt_of_pos _ (by decide)
      refine ⟨_, _, rfl, rfl, (mok e0 (by omega) (by decide) (by decide)).w, .int k, rfl, _, _, rfl, rfl, (mok (by decide) (by decide) k0 (by omega)).w, _, _, rfl, rfl, _, _, rfl, rfl, .inl ⟨_, rfl, _, _, rfl, rfl, (show (0 : Int) < 2147483563 by decide), _, _, rfl, rfl, ?_⟩⟩
      have f0 : 0 ≤ (c % 2147483549 * 39373 + 4157 * k + 3457) % 2147483563 := Int.emod_nonneg _ (by decide)
      have f1 : (c % 2147483549 * 39373 + 4157 * k + 3457) % 2147483563 < 2147483563 := Int.emod_lt_of_pos _ (by decide)
      exact ⟨(show (2 : Nat) ≤ sizeLine by decide), fun p hp => kk p _ _ hp (by split <;> omega) (by omega) (by omega)⟩
    by_cases hk : k < ((ns.map V.int).length : Int)
    · refine ifT (decT hk) ?_
      obtain ⟨j, rfl⟩ : ∃ j : Nat, k = j := ⟨k.toNat, by omega⟩
      obtain ⟨z, hz⟩ : ∃ z, ns[j]? = some z := by
        rw [List.length_map] at hk
        exact ⟨_, List.getElem?_eq_getElem (by omega)⟩
      refine ⟨.ref a, rfl, .int j, rfl, .inl ⟨a, _, _, .int z, rfl, rfl, hS, atI_nat (by rw [List.getElem?_map, hz]; rfl), z, rfl, ?_⟩⟩
      exact fin _
    · exact ifF (decF hk) (fin _)
theorem rlen {α : Type} {f : α → PyData} (l : List α) : ((l.map f).length : Int) = (l.length : Int) := by rw [List.length_map]
abbrev st__law_pick : Stmt := top 21
abbrev N__law_pick : List Str := ["pot", "some"]
def S__law_pick : WF := fun ds P => match ds with
  | [.list xs] => (0 < xs.length ∧ xs.length < 1000000) ∧ ∀ x ∈ xs, P (.v x)
  | _ => False
theorem sc__law_pick : FnScope N__law_pick ["pot", "some"] (defScope st__law_pick) := ⟨rfl, rfl, rfl, by decide +kernel, rfl, by decide +kernel, by decide +kernel⟩
set_option maxHeartbeats 4000000 in
theorem ok__law_pick {P : Program} {w : World} {K : PySem.W.Frag} {mg : Str → Option Value} {base : Heap} {f : Addr} {fd : FuncData} (T : Txt mg) (F : Fun K "_law_pick" "_law_pick" st__law_pick f fd) (D__law_draw : DefG P w K mg base 1 "_law_draw" st__law_draw ["pot", "many"] (spP S__law_draw)) : FnG P w K mg base 2 f fd ["pot", "some"] (spP S__law_pick) := by
  have sc := sc__law_pick
  refine fn_bodyP F sc (fun ds P h => (by unfold S__law_pick at h; split at h <;> first | rfl | exact h.elim)) fun cdv A outer s H E hg hr => ?_
  have hu := huOf hr
  refine ⟨_, _, (ssone (sret (vixK K (vv 1) (vfnP D__law_draw (by exact hg) (by exact hr.mono (by decide)) (by rfl) (vv 0).pe (acons (vcb (cLenK K) (by rfl) T.b_len (by rfl) (acons (vv 1) anil)) anil))))), ?_⟩
  intro ds Q h
  unfold S__law_pick at h; split at h <;> try exact h.elim
  rename_i xs
  obtain ⟨⟨h1, h2⟩, h⟩ := h
  refine ⟨rfl, ⟨by omega, by omega⟩, fun i i0 i1 => ?_⟩
  obtain ⟨j, rfl⟩ : ∃ j : Nat, i = j := ⟨i.toNat, by omega⟩
  have hj : j < xs.length := by omega
  show (match atI xs (j : Int) with | some d => Q (.v d) | none => False)
  rw [atI_nat (List.getElem?_eq_getElem hj)]
  exact h _ (List.getElem_mem hj)
abbrev st__law_powers : Stmt := top 23
abbrev N__law_powers : List Str := ["number", "found", "left", "prime", "many"]
def S__law_powers : WF := fun ds P => match ds with
  | [.int n] => (1 ≤ n ∧ n < 2 ^ 64) ∧ P (.v (lP (Pm.facs n.toNat)))
  | _ => False
theorem sc__law_powers : FnScope N__law_powers ["number"] (defScope st__law_powers) := ⟨rfl, rfl, rfl, by decide +kernel, rfl, by decide +kernel, by decide +kernel⟩
set_option maxHeartbeats 4000000 in
theorem ok__law_powers {P : Program} {w : World} {K : PySem.W.Frag} {mg : Str → Option Value} {base : Heap} {f : Addr} {fd : FuncData} (T : Txt mg) (F : Fun K "_law_powers" "_law_powers" st__law_powers f fd) : FnG P w K mg base 1 f fd ["number"] (spF S__law_powers) := by
  have sc := sc__law_powers
  refine fn_body F sc (fun ds P h => (by unfold S__law_powers at h; split at h <;> first | rfl | exact h.elim)) fun cdv A outer s H E hg hr => ?_
  have hu := huOf hr
  refine ⟨_, _, (sscons (spar3F (i := 1) (j := 2) (l := 3) (by rfl) sc.nd (xo (olst anil) (xv (vv 0) (xv vint xnil))))
      (sscons (swhile PassesOwn.never (vcmpT cLe (vmul (vv 3) (vv 3)) (vv 2))
      (sscons (sasgF (i := 4) sc.nd vint)
      (sscons (swhile PassesOwn.never (vcmpT (cEqK K (by exact hu)) (vmod (vct cInt1 (by rfl) T.b_int (by rfl) (acons (vv 2) anil)) (vv 3)) vint)
      (ssone (spar2F (i := 2) (j := 4) (by rfl) sc.nd (xv (vdiv (vv 2) (vv 3)) (xv (vadd (vv 4) vint) xnil)))))
      (sscons (sext (i := 1) (vv 1).pe (vif (vcmpT cGt (vv 4) vint) (vlst (acons (vtup (acons (vv 3) (acons (vv 4) anil))) anil)) (vlst anil)) (pe_bm PySem.F.plainAttrs_list PySem.F.slot_list_extend PySem.F.type_list_extend mt_extend (vv 1).pe (pa_cons (vif (vcmpT cGt (vv 4) vint) (vlst (acons (vtup (acons (vv 3) (acons (vv 4) anil))) anil)) (vlst anil)).pe pa_nil)))
      (ssone (sasgF (i := 3) sc.nd (vadd (vv 3) vint)))))))
      (ssone (sret (vcatK K (vv 1) (vif (vcmpT cGt (vv 2) vint) (vlst (acons (vtup (acons (vv 2) (acons vint anil))) anil)) (vlst anil))))))), ?_⟩
  intro ds Q h
  unfold S__law_powers at h; split at h <;> try exact h.elim
  rename_i n
  obtain ⟨⟨h1, h2⟩, h⟩ := h
  obtain ⟨n, rfl⟩ : ∃ c : Nat, n = c := ⟨n.toNat, by omega⟩
  rw [Int.toNat_natCast] at h
  have hn : n < 2 ^ 64 := by omega
  refine ⟨by decide, (fun _ m => nomatch m), rfl, ?_⟩
  refine ⟨fun m ρ => ∃ (fnd : List (Nat × Nat)) (left prime : Nat) (x : Option Slot), Pm.Tri n fnd left prime ∧ prime ≤ n + 2 ∧ m = left + 1 - prime ∧
    ρ = ⟨false, [some (.v (.int n)), some (.o (lP fnd)), some (.v (.int left)), some (.v (.int prime)), x]⟩, ⟨_, [], n, 2, none, Pm.Tri.start (by omega), by omega, rfl, rfl⟩, ?_⟩
  rintro m ρ ⟨fnd, left, prime, x, T, hpn, rfl, rfl⟩
  have T' := T
  obtain ⟨t1, t2, t3, t4, t5⟩ := T'
  have hlen := tri_len T hn
  refine ⟨mok (by omega) (by omega) (by omega) (by omega), ?_⟩
  by_cases hle : prime * prime ≤ left
  · have hpl : prime ≤ left := Nat.le_trans (Nat.le_mul_of_pos_left _ (by omega)) hle
    refine ifT (decT (by exact_mod_cast hle)) ?_
    refine ⟨fun k ρ => ∃ l many : Nat, left = prime ^ many * l ∧ k = l ∧ 1 ≤ l ∧ l ≤ left ∧ many ≤ left - l ∧
      ρ = ⟨false, [some (.v (.int n)), some (.o (lP fnd)), some (.v (.int l)), some (.v (.int prime)), some (.v (.int many))]⟩, ⟨_, left, 0, by simp, rfl, t1, Nat.le_refl _, by omega, rfl⟩, ?_⟩
    rintro k ρ ⟨l, many, e1, rfl, l1, l2, l3, rfl⟩
    refine ⟨by omega, ?_⟩
    by_cases hd : k % prime = 0
    · refine ifT (eqT (by exact_mod_cast hd)) ?_
      obtain ⟨c, hc⟩ := Nat.dvd_of_mod_eq_zero hd
      have c1 : 1 ≤ c := by
        rcases Nat.eq_zero_or_pos c with z | z
        · subst z; simp at hc; omega
        · exact z
      have e2 : k / prime = c := by rw [hc]; exact Nat.mul_div_cancel_left c (by omega)
      have lt : c < k := by
        rw [hc]
        calc c = 1 * c := by omega
          _ < prime * c := Nat.mul_lt_mul_of_pos_right (by omega) c1
      refine ⟨dok (by omega) (by omega), rfl, c, lt, c, many + 1, ?_, rfl, c1, by omega, by omega, ?_⟩
      · rw [e1, hc, Nat.pow_succ, Nat.mul_assoc]
      · have e3 : (k : Int) / prime = c := by rw [← e2]; exact (Int.natCast_ediv k prime).symm
        show (⟨false, [_, _, some (.v (.int ((k : Int) / prime))), _, some (.v (.int ((many : Int) + 1)))]⟩ : Env') = _
        rw [e3]
        rfl
    · refine ifF (eqF (by intro z; exact hd (by exact_mod_cast z))) ?_
      have nd : ¬ prime ∣ k := fun z => hd (Nat.mod_eq_zero_of_dvd z)
      by_cases hm : 0 < many
      · refine ifT (decT (by exact_mod_cast hm)) ?_
        refine ⟨by show (2 : Nat) ≤ 100000; decide, by show (1 : Nat) ≤ 100000; decide, rfl, ?_, ?_⟩
        · rw [List.length_map]
          show fnd.length + 1 ≤ 1000000
          omega
        · refine ⟨k + 1 - (prime + 1), by omega, fnd ++ [(prime, many)], k, prime + 1, some (.v (.int (many : Int))), T.take e1 hm nd, by omega, rfl, ?_⟩
          rw [← lP_app]
          rfl
      · refine ifF (decF (by omega)) ?_
        have m0 : many = 0 := by omega
        subst m0
        have ek : left = k := by rw [e1]; simp
        refine ⟨by show (0 : Nat) ≤ 100000; decide, rfl, ?_, ?_⟩
        · rw [List.length_map]
          show fnd.length + 0 ≤ 1000000
          omega
        · refine ⟨k + 1 - (prime + 1), by omega, fnd, k, prime + 1, some (.v (.int ((0 : Nat) : Int))), by rw [← ek]; exact T.skip (by rw [ek]; exact nd), by omega, rfl, ?_⟩
          have e : PyData.list (fnd.map prD ++ []) = lP fnd := by rw [List.append_nil]; rfl
          rw [← e]
          rfl
  · refine ifF (decF (by intro z; exact hle (by exact_mod_cast z))) ?_
    have fin := T.done (by omega)
    by_cases hl : 1 < left
    · refine ifT (decT (by exact_mod_cast hl)) ?_
      rw [if_pos hl] at fin
      refine ⟨by show (2 : Nat) ≤ 100000; decide, by show (1 : Nat) ≤ 100000; decide, ?_, ?_⟩
      · rw [List.length_map]
        show fnd.length + 1 ≤ 1000000
        omega
      · show Q (.v (.list (fnd.map prD ++ [prD (left, 1)])))
        rw [lP_app, ← Pm.facs_of fin]
        exact h
    · refine ifF (decF (by omega)) ?_
      rw [if_neg hl, List.append_nil] at fin
      refine ⟨by show (0 : Nat) ≤ 100000; decide, ?_, ?_⟩
      · rw [List.length_map]
        show fnd.length + 0 ≤ 1000000
        omega
      · show Q (.v (.list (fnd.map prD ++ [])))
        rw [List.append_nil]
        show Q (.v (lP fnd))
        rw [← Pm.facs_of fin]
        exact h
/-- a product over pairs, from the front -/
def prodL : List (Nat × Nat) → Nat
  | [] => 1
  | (p, e) :: ps => p ^ e * prodL ps
theorem prodL_app : ∀ (ps qs : List (Nat × Nat)), prodL (ps ++ qs) = prodL ps * prodL qs
  | [], qs => by show prodL qs = 1 * prodL qs; omega
  | (p, e) :: ps, qs => by
    show p ^ e * prodL (ps ++ qs) = p ^ e * prodL ps * prodL qs
    rw [prodL_app ps qs, Nat.mul_assoc]
theorem prodL_fac : ∀ {lo n : Nat} {ps : List (Nat × Nat)}, Pm.FacL lo n ps → prodL ps = n
  | _, _, [], h => (show _ = 1 from h).symm
  | _, _, (p, e) :: ps, ⟨h1, h2, h3, m, h4, h5⟩ => by
    show p ^ e * prodL ps = _
    rw [prodL_fac h5, h4]
theorem prodL_part {ps qs : List (Nat × Nat)} {n : Nat} (h : Pm.FacL 2 n (ps ++ qs)) : prodL ps ≤ n := by
  have h1 := prodL_fac h
  rw [prodL_app] at h1
  have h2 := h.pos
  rcases Nat.eq_zero_or_pos (prodL qs) with z | z
  · rw [z] at h1; simp at h1; omega
  · rw [← h1]
    exact Nat.le_mul_of_pos_right _ z
/-- what stands of one pair in a factoring -/
theorem fac_at {n : Nat} {ps : List (Nat × Nat)} {i p e : Nat} (hf : Pm.FacL 2 n ps) (hn : n < 2 ^ 40) (hp : ps[i]? = some (p, e)) :
    Pm.IsP p ∧ 1 ≤ e ∧ p ≤ n ∧ p ^ e ≤ n ∧ e < 40 ∧ ps.take (i + 1) = ps.take i ++ [(p, e)] ∧ Pm.phiL (ps.take i) ≤ n ∧ Pm.phiL (ps.take (i + 1)) ≤ n ∧ prodL (ps.take i) ≤ n ∧ prodL (ps.take (i + 1)) ≤ n := by
  obtain ⟨f1, f2, f3, f4, f5⟩ := fac_head hf (p, e) (List.mem_of_getElem? hp)
  have f5' : p ^ e ≤ n := f5
  have sp : ∀ j, ps = ps.take j ++ ps.drop j := fun j => (List.take_append_drop _ _).symm
  have e64 : e < 40 := by
    have a2 : 2 ^ e ≤ p ^ e := Nat.pow_le_pow_left f1.1 e
    exact (Nat.pow_lt_pow_iff_right (show 1 < 2 by decide)).mp (Nat.lt_of_le_of_lt (Nat.le_trans a2 f5') hn)
  have hfj : ∀ j, Pm.FacL 2 n (ps.take j ++ ps.drop j) := fun j => by rw [← sp j]; exact hf
  exact ⟨f1, f2, f3, f5', e64, by rw [List.take_succ, hp]; rfl, phiL_part (hfj i), phiL_part (hfj (i + 1)), prodL_part (hfj i), prodL_part (hfj (i + 1))⟩
abbrev st__law_free_by : Stmt := top 26
abbrev N__law_free_by : List Str := ["powers", "found", "prime", "many", "turn"]
def S__law_free_by : WF := fun ds P => match ds with
  | [.list ds] => IsFac ds fun n ps => P (.v (.int (Pm.phi n : Nat)))
  | _ => False
theorem sc__law_free_by : FnScope N__law_free_by ["powers"] (defScope st__law_free_by) := ⟨rfl, rfl, rfl, by decide +kernel, rfl, by decide +kernel, by decide +kernel⟩
set_option maxHeartbeats 4000000 in
theorem ok__law_free_by {P : Program} {w : World} {K : PySem.W.Frag} {mg : Str → Option Value} {base : Heap} {f : Addr} {fd : FuncData} (T : Txt mg) (F : Fun K "_law_free_by" "_law_free_by" st__law_free_by f fd) : FnG P w K mg base 1 f fd ["powers"] (spF S__law_free_by) := by
  have sc := sc__law_free_by
  refine fn_body F sc (fun ds P h => (by unfold S__law_free_by at h; split at h <;> first | rfl | exact h.elim)) fun cdv A outer s H E hg hr => ?_
  have hu := huOf hr
  refine ⟨_, _, (sscons (sasgF (i := 1) sc.nd vint)
      (sscons (sfor PassesOwn.never (by rfl) (iseqK K (vv 0)) (stT (is := [2, 3]) (by rfl) (gscons (i := 2) sc.nd (gscons (i := 3) sc.nd gsnil)))
      (sscons (sasgF (i := 1) sc.nd (vmul (vv 1) (vsub (vv 2) vint)))
      (ssone (sfor PassesOwn.never (by rfl) (irng1 (by rfl) T.b_range (acons (vsub (vv 3) vint) anil)) (stN (i := 4) sc.nd)
      (ssone (sasgF (i := 1) sc.nd (vmul (vv 1) (vv 2))))))))
      (ssone (sretN 1 (vv 1).pe)))), ?_⟩
  intro ds Q h
  unfold S__law_free_by at h; split at h <;> try exact h.elim
  obtain ⟨n, ps, rfl, hf, hn, h⟩ := h
  refine ⟨fun i ρ => ∃ x y z, ρ = ⟨false, [some (.v (.list (ps.map prD))), some (.v (.int (Pm.phiL (ps.take i) : Nat))), x, y, z]⟩, ⟨none, none, none, rfl⟩, ?_, ?_⟩
  · rintro i ρ d hd ⟨x, y, z, rfl⟩
    obtain ⟨⟨p, e⟩, hp, rfl⟩ := map_at hd
    obtain ⟨f1, f2, f3, f5, e64, tk, le1, le2, _, _⟩ := fac_at hf hn hp
    have pp := f1.1
    have c1 : ((p : Int) - 1) = ((p - 1 : Nat) : Int) := by omega
    have e1 : Pm.phiL (ps.take (i + 1)) = Pm.phiL (ps.take i) * (p - 1) * p ^ (e - 1) := by
      rw [tk, phiL_app]
      show Pm.phiL (ps.take i) * ((p - 1) * p ^ (e - 1) * 1) = _
      rw [Nat.mul_one, Nat.mul_assoc]
    have m1 : Pm.phiL (ps.take i) * (p - 1) < 2 ^ 80 := by
      calc Pm.phiL (ps.take i) * (p - 1) ≤ n * n := Nat.mul_le_mul le1 (by omega)
        _ < 2 ^ 40 * 2 ^ 40 := Nat.mul_lt_mul_of_lt_of_le hn (by omega) (by decide)
        _ = 2 ^ 80 := by decide
    refine ⟨rfl, ?_, ?_⟩
    · show MulOk ((Pm.phiL (ps.take i) : Nat) : Int) ((p : Int) - 1)
      rw [c1]
      exact mokN (k := 80) (by decide) (by omega) (by omega)
    refine ⟨⟨by show -2 ^ 62 ≤ (e : Int) - 1; omega, by show (e : Int) - 1 < 2 ^ 62; omega⟩, fun j ρ => ∃ z, ρ = ⟨false, [some (.v (.list (ps.map prD))), some (.v (.int (Pm.phiL (ps.take i) * (p - 1) * p ^ j : Nat))), some (.v (.int (p : Int))), some (.v (.int (e : Int))), z]⟩, ⟨z, ?_⟩, ?_, ?_⟩
    · show (⟨false, [_, some (.v (.int (((Pm.phiL (ps.take i) : Nat) : Int) * ((p : Int) - 1)))), _, _, _]⟩ : Env') = _
      rw [c1, ← Int.natCast_mul, Nat.pow_zero, Nat.mul_one]
    · rintro j ρ d2 hd2 ⟨z2, rfl⟩
      obtain ⟨hj, rfl⟩ := range_at hd2
      have hj' : j < e - 1 := by
        rw [show ((e : Int) - 1) = ((e - 1 : Nat) : Int) by omega, Int.toNat_natCast] at hj
        exact hj
      have m2 : Pm.phiL (ps.take i) * (p - 1) * p ^ j < 2 ^ 120 := by
        have : p ^ j ≤ n := Nat.le_trans (Nat.pow_le_pow_right (by omega) (by omega)) f5
        calc Pm.phiL (ps.take i) * (p - 1) * p ^ j ≤ 2 ^ 80 * n := Nat.mul_le_mul (Nat.le_of_lt m1) this
          _ < 2 ^ 80 * 2 ^ 40 := Nat.mul_lt_mul_of_pos_left hn (by decide)
          _ = 2 ^ 120 := by decide
      refine ⟨mokN (k := 120) (by decide) m2 (by omega), some (.v (.int (0 + (j : Int)))), ?_⟩
      show (⟨false, [_, some (.v (.int (((Pm.phiL (ps.take i) * (p - 1) * p ^ j : Nat) : Int) * (p : Int)))), _, _, _]⟩ : Env') = _
      rw [← Int.natCast_mul, Nat.mul_assoc, ← Nat.pow_succ]
    · rintro ρ ⟨z2, rfl⟩
      refine ⟨some (.v (.int (p : Int))), some (.v (.int (e : Int))), z2, ?_⟩
      rw [rangeD_length, show ((e : Int) - 1).toNat = e - 1 by omega, e1]
  · rintro ρ ⟨x, y, z, rfl⟩
    rw [List.length_map, List.take_length, ← Pm.phi_of hf]
    exact h
abbrev st__law_number : Stmt := top 24
abbrev N__law_number : List Str := ["powers", "found", "prime", "many", "turn"]
def S__law_number : WF := fun ds P => match ds with
  | [.list ds] => IsFac ds fun n ps => P (.v (.int (n : Nat)))
  | _ => False
theorem sc__law_number : FnScope N__law_number ["powers"] (defScope st__law_number) := ⟨rfl, rfl, rfl, by decide +kernel, rfl, by decide +kernel, by decide +kernel⟩
set_option maxHeartbeats 4000000 in
theorem ok__law_number {P : Program} {w : World} {K : PySem.W.Frag} {mg : Str → Option Value} {base : Heap} {f : Addr} {fd : FuncData} (T : Txt mg) (F : Fun K "_law_number" "_law_number" st__law_number f fd) : FnG P w K mg base 1 f fd ["powers"] (spF S__law_number) := by
  have sc := sc__law_number
  refine fn_body F sc (fun ds P h => (by unfold S__law_number at h; split at h <;> first | rfl | exact h.elim)) fun cdv A outer s H E hg hr => ?_
  have hu := huOf hr
  refine ⟨_, _, (sscons (sasgF (i := 1) sc.nd vint)
      (sscons (sfor PassesOwn.never (by rfl) (iseqK K (vv 0)) (stT (is := [2, 3]) (by rfl) (gscons (i := 2) sc.nd (gscons (i := 3) sc.nd gsnil)))
      (ssone (sfor PassesOwn.never (by rfl) (irng1 (by rfl) T.b_range (acons (vv 3) anil)) (stN (i := 4) sc.nd)
      (ssone (sasgF (i := 1) sc.nd (vmul (vv 1) (vv 2)))))))
      (ssone (sretN 1 (vv 1).pe)))), ?_⟩
  intro ds Q h
  unfold S__law_number at h; split at h <;> try exact h.elim
  obtain ⟨n, ps, rfl, hf, hn, h⟩ := h
  refine ⟨fun i ρ => ∃ x y z, ρ = ⟨false, [some (.v (.list (ps.map prD))), some (.v (.int (prodL (ps.take i) : Nat))), x, y, z]⟩, ⟨none, none, none, rfl⟩, ?_, ?_⟩
  · rintro i ρ d hd ⟨x, y, z, rfl⟩
    obtain ⟨⟨p, e⟩, hp, rfl⟩ := map_at hd
    obtain ⟨f1, f2, f3, f5, e64, tk, _, _, le1, le2⟩ := fac_at hf hn hp
    have pp := f1.1
    have e1 : prodL (ps.take (i + 1)) = prodL (ps.take i) * p ^ e := by
      rw [tk, prodL_app]
      show prodL (ps.take i) * (p ^ e * 1) = _
      rw [Nat.mul_one]
    refine ⟨rfl, ⟨by show -2 ^ 62 ≤ (e : Int); omega, by show (e : Int) < 2 ^ 62; omega⟩, fun j ρ => ∃ z, ρ = ⟨false, [some (.v (.list (ps.map prD))), some (.v (.int (prodL (ps.take i) * p ^ j : Nat))), some (.v (.int (p : Int))), some (.v (.int (e : Int))), z]⟩, ⟨z, ?_⟩, ?_, ?_⟩
    · show (⟨false, [_, some (.v (.int ((prodL (ps.take i) : Nat) : Int))), _, _, _]⟩ : Env') = _
      rw [Nat.pow_zero, Nat.mul_one]
    · rintro j ρ d2 hd2 ⟨z2, rfl⟩
      obtain ⟨hj, rfl⟩ := range_at hd2
      have hj' : j < e := by
        rw [Int.toNat_natCast] at hj
        exact hj
      have m2 : prodL (ps.take i) * p ^ j < 2 ^ 120 := by
        have : p ^ j ≤ n := Nat.le_trans (Nat.pow_le_pow_right (by omega) (by omega)) f5
        calc prodL (ps.take i) * p ^ j ≤ n * n := Nat.mul_le_mul le1 this
          _ < 2 ^ 40 * 2 ^ 40 := Nat.mul_lt_mul_of_lt_of_le hn (by omega) (by decide)
          _ < 2 ^ 120 := by decide
      refine ⟨mokN (k := 120) (by decide) m2 (by omega), some (.v (.int (0 + (j : Int)))), ?_⟩
      show (⟨false, [_, some (.v (.int (((prodL (ps.take i) * p ^ j : Nat) : Int) * (p : Int)))), _, _, _]⟩ : Env') = _
      rw [← Int.natCast_mul, Nat.mul_assoc, ← Nat.pow_succ]
    · rintro ρ ⟨z2, rfl⟩
      refine ⟨some (.v (.int (p : Int))), some (.v (.int (e : Int))), z2, ?_⟩
      rw [rangeD_length, Int.toNat_natCast, e1]
  · rintro ρ ⟨x, y, z, rfl⟩
    rw [List.length_map, List.take_length, prodL_fac hf]
    exact h
abbrev st__law_walk : Stmt := top 31
abbrev N__law_walk : List Str := ["number", "found", "turn"]
def S__law_walk : WF := fun ds P => match ds with
  | [.int n] => (1 ≤ n ∧ n < 2 ^ 40) ∧ P (.o (lN (Pm.walk n.toNat)))
  | _ => False
theorem sc__law_walk : FnScope N__law_walk ["number"] (defScope st__law_walk) := ⟨rfl, rfl, rfl, by decide +kernel, rfl, by decide +kernel, by decide +kernel⟩
set_option maxHeartbeats 4000000 in
theorem ok__law_walk {P : Program} {w : World} {K : PySem.W.Frag} {mg : Str → Option Value} {base : Heap} {f : Addr} {fd : FuncData} (T : Txt mg) (F : Fun K "_law_walk" "_law_walk" st__law_walk f fd) (D__law_free_by : DefG P w K mg base 1 "_law_free_by" st__law_free_by ["powers"] (spF S__law_free_by)) (D__law_powers : DefG P w K mg base 1 "_law_powers" st__law_powers ["number"] (spF S__law_powers)) : FnG P w K mg base 2 f fd ["number"] (spF S__law_walk) := by
  have sc := sc__law_walk
  refine fn_body F sc (fun ds P h => (by unfold S__law_walk at h; split at h <;> first | rfl | exact h.elim)) fun cdv A outer s H E hg hr => ?_
  have hu := huOf hr
  refine ⟨_, _, (sscons (sasgOF (i := 1) sc.nd (olst (acons (vv 0) anil)))
      (sscons (sfor PassesOwn.never (by rfl) (irng1 (by rfl) T.b_range (acons vint anil)) (stN (i := 2) sc.nd)
      (ssone (sif (vcmpT cGt (vixK K (vv 1) (vneg vint)) vint) (ssone (sapp (i := 1) (vv 1).pe (vfn D__law_free_by (by exact hg) (by exact hr.mono (by decide)) (by rfl) (acons (vfn D__law_powers (by exact hg) (by exact hr.mono (by decide)) (by rfl) (acons (vixK K (vv 1) (vneg vint)) anil)) anil)) (pe_bm PySem.F.plainAttrs_list PySem.F.slot_list_append PySem.F.type_list_append mt_append (vv 1).pe (pa_cons (vfn D__law_free_by (by exact hg) (by exact hr.mono (by decide)) (by rfl) (acons (vfn D__law_powers (by exact hg) (by exact hr.mono (by decide)) (by rfl) (acons (vixK K (vv 1) (vneg vint)) anil)) anil)).pe pa_nil)))) ssnil)))
      (ssone (sretN 1 (vv 1).pe)))), ?_⟩
  intro ds Q h
  unfold S__law_walk at h; split at h <;> try exact h.elim
  rename_i n
  obtain ⟨⟨h1, h2⟩, h⟩ := h
  obtain ⟨n, rfl⟩ : ∃ c : Nat, n = c := ⟨n.toNat, by omega⟩
  rw [Int.toNat_natCast] at h
  have hw := walk_short (n := n) (by omega) (by omega)
  refine ⟨(show (1 : Nat) ≤ 100000 by decide), (fun d m => by obtain rfl := List.mem_singleton.mp m; rfl), ⟨by decide, by decide⟩, ?_⟩
  refine ⟨fun i ρ => ∃ (pre : List Nat) (x : Nat) (t : Option Slot), onWalk n pre x ∧ 1 ≤ x ∧ x ≤ n ∧ (1 < x → i ≤ pre.length) ∧ ρ = ⟨false, [some (.v (.int n)), some (.o (lN (pre ++ [x]))), t]⟩, ⟨[], n, none, rfl, by omega, Nat.le_refl _, fun _ => Nat.le_refl _, rfl⟩, ?_, ?_⟩
  · rintro i ρ d hd ⟨pre, x, t, hx, x1, xn, hi, rfl⟩
    rw [lN_snoc]
    show (match atI ((pre.map fun x : Nat => PyData.int (x : Int)) ++ [.int (x : Int)]) (-1) with | some d => _ | none => _)
    rw [atI_last]
    by_cases hm : 1 < x
    · refine ifT (decT (by exact_mod_cast hm)) ?_
      show (match atI ((pre.map fun x : Nat => PyData.int (x : Int)) ++ [.int (x : Int)]) (-1) with | some d => _ | none => _)
      rw [atI_last]
      have lt := Pm.phi_lt hm
      refine ⟨⟨by omega, by omega⟩, x, _, rfl, Pm.facs_ok x1, by omega, rfl, ?_, ?_⟩
      · have := hx.len
        rw [List.length_append, List.length_map, List.length_singleton]
        omega
      · refine ⟨pre ++ [x], Pm.phi x, some (.v d), hx.next hm, Pm.phi_pos x1, by omega, fun _ => ?_, ?_⟩
        · rw [List.length_append, List.length_singleton]
          have := hi hm
          omega
        · rw [lN_snoc, List.map_append]
          rfl
    · refine ifF (decF (by omega)) ⟨pre, x, some (.v d), hx, x1, xn, fun z => absurd z hm, ?_⟩
      rw [lN_snoc]
      rfl
  · rintro ρ ⟨pre, x, t, hx, x1, xn, hi, rfl⟩
    show Q (.o (lN (pre ++ [x])))
    have : ¬ 1 < x := fun z => by
      have a := hi z
      rw [rangeD_length] at a
      have b := hx.len
      have c : (50 : Int).toNat = 50 := rfl
      omega
    rw [hx.done this]
    exact h
def isPb (p : Nat) : Bool := decide (2 ≤ p) && (List.range p).all fun d => decide (d < 2) || decide (p % d ≠ 0)
theorem isP_of {p : Nat} (h : isPb p = true) : Pm.IsP p := by
  unfold isPb at h
  simp only [Bool.and_eq_true, decide_eq_true_eq, List.all_eq_true, List.mem_range, Bool.or_eq_true] at h
  refine ⟨h.1, fun d a b => Nat.not_lt.mp fun z => ?_⟩
  rcases h.2 d z with y | y
  · omega
  · exact y (Nat.mod_eq_zero_of_dvd b)
def dk (x : Nat × Nat) : Key × PyData := (Sum.inl (x.1 : Int), .int (x.2 : Int))
theorem valD_app {l r : List (Key × PyData)} {k : Key} (h : ∀ x ∈ l, x.1 ≠ k) : valD (l ++ r) k = valD r k := by
  unfold valD
  rw [List.find?_append, List.find?_eq_none.mpr (fun x m => by simpa using h x m)]
  rfl
theorem map_put_off {l : List (Key × PyData)} {k : Key} {d : PyData} (h : ∀ x ∈ l, x.1 ≠ k) : (l.map fun p => if p.1 = k then (p.1, d) else p) = l :=
  (List.map_congr_left fun x m => if_neg (h x m)).trans (List.map_id _)
theorem dk_off {l : List (Nat × Nat)} {p : Nat} (h : ∀ x ∈ l, x.1 ≠ p) : ∀ x ∈ l.map dk, x.1 ≠ (Sum.inl (p : Int) : Key) := fun x m => by
  obtain ⟨y, hy, rfl⟩ := List.mem_map.mp m
  intro z
  have : (y.1 : Int) = p := Sum.inl.inj z
  exact h y hy (by omega)
theorem put_dk {es : List (Nat × Nat)} (nd : (es.map (·.1)).Nodup) (p : Nat) : ∃ (es' : List (Nat × Nat)) (e : Nat), (valD (es.map dk) (Sum.inl (p : Int))).getD (.int 0) = .int (e : Int) ∧ putD (es.map dk) (Sum.inl (p : Int)) (.int ((e : Int) + 1)) = es'.map dk ∧
    (es'.map (·.1)).Nodup ∧ prodL es' = prodL es * p ∧ es'.length ≤ es.length + 1 ∧ ∀ x ∈ es', x ∈ es ∨ (x.1 = p ∧ 1 ≤ x.2) := by
  by_cases hm : p ∈ es.map (·.1)
  · obtain ⟨x, hx, hxp⟩ := List.mem_map.mp hm
    obtain ⟨l, r, rfl⟩ := List.append_of_mem hx
    obtain ⟨q, e⟩ := x
    have hq : q = p := hxp
    subst hq
    rw [List.map_append, List.map_cons] at nd
    have n1 := List.nodup_append.mp nd
    have n2 := List.nodup_cons.mp n1.2.1
    have ol : ∀ x ∈ l, x.1 ≠ q := fun x m z => n1.2.2 x.1 (List.mem_map_of_mem m) q List.mem_cons_self z
    have or : ∀ x ∈ r, x.1 ≠ q := fun x m z => n2.1 (List.mem_map.mpr ⟨x, m, z⟩)
    refine ⟨l ++ (q, e + 1) :: r, e, ?_, ?_, ?_, ?_, ?_, ?_⟩
    · rw [List.map_append, valD_app (dk_off ol)]
      simp [valD, dk]
    · unfold putD
      have an : ((l ++ (q, e) :: r).map dk).any (fun x => decide (x.1 = (Sum.inl (q : Int) : Key))) = true := by
        rw [List.any_eq_true]
        exact ⟨dk (q, e), List.mem_map_of_mem (by simp), by simp [dk]⟩
      rw [if_pos an, List.map_append, List.map_append, List.map_append, map_put_off (dk_off ol), List.map_cons, List.map_cons, List.map_cons, map_put_off (dk_off or)]
      simp [dk]
    · rw [List.map_append, List.map_cons]
      exact nd
    · rw [prodL_app, prodL_app]
      show prodL l * (q ^ (e + 1) * prodL r) = prodL l * (q ^ e * prodL r) * q
      rw [Nat.pow_succ]
      simp only [Nat.mul_assoc, Nat.mul_comm q]
    · simp
    · intro x m
      rcases List.mem_append.mp m with y | y
      · exact .inl (List.mem_append_left _ y)
      · rcases List.mem_cons.mp y with rfl | y
        · exact .inr ⟨rfl, by show 1 ≤ e + 1; omega⟩
        · exact .inl (List.mem_append_right _ (List.mem_cons_of_mem _ y))
  · have off : ∀ x ∈ es, x.1 ≠ p := fun x m z => hm (by rw [← z]; exact List.mem_map_of_mem m)
    refine ⟨es ++ [(p, 1)], 0, ?_, ?_, ?_, ?_, ?_, ?_⟩
    · have := valD_app (r := []) (dk_off off)
      rw [List.append_nil] at this
      rw [this]
      rfl
    · unfold putD
      have an : (es.map dk).any (fun x => decide (x.1 = (Sum.inl (p : Int) : Key))) = false := by
        rw [List.any_eq_false]
        intro x m
        simpa using dk_off off x m
      rw [an, if_neg Bool.false_ne_true, List.map_append]
      rfl
    · rw [List.map_append]
      exact List.nodup_append.mpr ⟨nd, by simp, fun a m b m' z => by
        obtain rfl := List.mem_singleton.mp m'
        exact hm (by rw [← z]; exact m)⟩
    · rw [prodL_app]
      show prodL es * (p ^ 1 * 1) = _
      simp
    · simp
    · intro x m
      rcases List.mem_append.mp m with y | y
      · exact .inl y
      · obtain rfl := List.mem_singleton.mp y
        exact .inr ⟨rfl, Nat.le_refl _⟩
theorem prodL_perm {l m : List (Nat × Nat)} (h : l.Perm m) : prodL l = prodL m := by
  induction h with
  | nil => rfl
  | cons x _ ih => obtain ⟨p, e⟩ := x; show p ^ e * _ = p ^ e * _; rw [ih]
  | swap x y l =>
    obtain ⟨p, e⟩ := x
    obtain ⟨q, f⟩ := y
    show q ^ f * (p ^ e * prodL l) = p ^ e * (q ^ f * prodL l)
    rw [← Nat.mul_assoc, ← Nat.mul_assoc, Nat.mul_comm (q ^ f)]
  | trans _ _ a b => rw [a, b]
theorem fac_sorted : ∀ {zs : List (Nat × Nat)} {lo : Nat}, (zs.map (·.1)).Pairwise (· < ·) → (∀ x ∈ zs, Pm.IsP x.1 ∧ 1 ≤ x.2 ∧ lo ≤ x.1) → Pm.FacL lo (prodL zs) zs
  | [], _, _, _ => rfl
  | (p, e) :: zs, lo, h, a => by
    rw [List.map_cons, List.pairwise_cons] at h
    obtain ⟨a1, a2, a3⟩ := a (p, e) List.mem_cons_self
    refine ⟨a3, a1, a2, prodL zs, rfl, fac_sorted h.2 fun x m => ?_⟩
    obtain ⟨b1, b2, b3⟩ := a x (List.mem_cons_of_mem _ m)
    exact ⟨b1, b2, h.1 x.1 (List.mem_map_of_mem m)⟩
def castP (x : Nat × Nat) : Int × Int := ((x.1 : Int), (x.2 : Int))
theorem perm_cast {ys : List (Int × Int)} {es : List (Nat × Nat)} (h : ys.Perm (es.map castP)) : ∃ zs : List (Nat × Nat), zs.Perm es ∧ ys = zs.map castP := by
  refine ⟨ys.map fun q => (q.1.toNat, q.2.toNat), ?_, ?_⟩
  · have := h.map fun q : Int × Int => (q.1.toNat, q.2.toNat)
    rw [List.map_map] at this
    exact this.trans (List.Perm.of_eq ((List.map_congr_left fun x _ => rfl).trans (List.map_id _)))
  · rw [List.map_map]
    symm
    refine (List.map_congr_left fun q m => ?_).trans (List.map_id _)
    obtain ⟨x, _, rfl⟩ := List.mem_map.mp (h.mem_iff.mp m)
    rfl
theorem sorted_keys {zs : List (Nat × Nat)} (nd : (zs.map (·.1)).Nodup) (h : (zs.map castP).Pairwise lexLe) : (zs.map (·.1)).Pairwise (· < ·) := by
  rw [List.pairwise_map] at h ⊢
  rw [List.nodup_iff_pairwise_ne, List.pairwise_map] at nd
  refine (h.and nd).imp fun {a b} ⟨x, y⟩ => ?_
  rcases x with z | z
  · have z' : (a.1 : Int) < b.1 := z
    omega
  · have z' : (a.1 : Int) = b.1 := z.1
    omega
theorem great_pick {x : PyData} (h : x ∈ ([2, 2, 2, 3, 3, 5, 5, 7, 11, 13, 17, 19, 23, 29, 31, 37, 101] : List Int).map PyData.int) : ∃ p : Nat, x = .int (p : Int) ∧ Pm.IsP p ∧ p ≤ 101 := by
  obtain ⟨i, hi, rfl⟩ := List.mem_map.mp h
  have key : ∀ j ∈ ([2, 2, 2, 3, 3, 5, 5, 7, 11, 13, 17, 19, 23, 29, 31, 37, 101] : List Int), ((j.toNat : Int) = j ∧ isPb j.toNat = true ∧ j.toNat ≤ 101) := by decide
  obtain ⟨a, b, c⟩ := key i hi
  exact ⟨i.toNat, by rw [a], isP_of b, c⟩
abbrev st__law_great : Stmt := top 25
abbrev N__law_great : List Str := ["pot", "found", "product", "turn", "prime"]
def S__law_great : WF := fun ds P => match ds with
  | [] => ∀ n ps, Pm.FacL 2 n ps → n ≤ 1000000000000 → P (.o (lP ps))
  | _ => False
theorem sc__law_great : FnScope N__law_great ["pot"] (defScope st__law_great) := ⟨rfl, rfl, rfl, by decide +kernel, rfl, by decide +kernel, by decide +kernel⟩
set_option maxHeartbeats 4000000 in
theorem ok__law_great {P : Program} {w : World} {K : PySem.W.Frag} {mg : Str → Option Value} {base : Heap} {f : Addr} {fd : FuncData} (T : Txt mg) (F : Fun K "_law_great" "_law_great" st__law_great f fd) (D__law_draw : DefG P w K mg base 1 "_law_draw" st__law_draw ["pot", "many"] (spP S__law_draw)) (D__law_pick : DefG P w K mg base 2 "_law_pick" st__law_pick ["pot", "some"] (spP S__law_pick)) : FnG P w K mg base 3 f fd ["pot"] (spP S__law_great) := by
  have sc := sc__law_great
  refine fn_bodyP F sc (fun ds P h => (by unfold S__law_great at h; split at h <;> first | rfl | exact h.elim)) fun cdv A outer s H E hg hr => ?_
  have hu := huOf hr
  refine ⟨_, _, (sscons (sasgOF (i := 1) sc.nd odnew)
      (sscons (sasgF (i := 2) sc.nd vint)
      (sscons (sfor PassesOwn.never (by rfl) (irng1 (by rfl) T.b_range (acons (vadd vint (vfnP D__law_draw (by exact hg) (by exact hr.mono (by decide)) (by rfl) (vv 0).pe (acons vint anil))) anil)) (stN (i := 3) sc.nd)
      (sscons (sasgF (i := 4) sc.nd (vfnP D__law_pick (by exact hg) (by exact hr.mono (by decide)) (by rfl) (vv 0).pe (acons (vlst (acons vint (acons vint (acons vint (acons vint (acons vint (acons vint (acons vint (acons vint (acons vint (acons vint (acons vint (acons vint (acons vint (acons vint (acons vint (acons vint (acons vint anil)))))))))))))))))) anil)))
      (ssone (sif (vcmpT cLe (vmul (vv 2) (vv 4)) (vpow vint vint)) (sscons (sasgF (i := 2) sc.nd (vmul (vv 2) (vv 4)))
      (ssone (sdput (by exact hu) (vv 1).pe (vv 4) (vadd (vdget2 (by exact hu) (vv 1) (vv 4) vint ⟨rfl, rfl, rfl, rfl⟩) vint)))) ssnil))))
      (ssone (sretO (osrtItems (by rfl) (vv 1) (by rfl) T.b_sorted)))))), ?_⟩
  intro ds Q h
  unfold S__law_great at h; split at h <;> try exact h.elim
  refine ⟨rfl, ⟨by decide, by decide⟩, fun i i0 i1 => ⟨⟨by show -2 ^ 62 ≤ 2 + i; omega, by show 2 + i < 2 ^ 62; omega⟩, ?_⟩⟩
  refine ⟨fun j ρ => ∃ (es : List (Nat × Nat)) (x y : Option Slot), (es.map (·.1)).Nodup ∧ (∀ x ∈ es, Pm.IsP x.1 ∧ 1 ≤ x.2) ∧ es.length ≤ j ∧ prodL es ≤ 1000000000000 ∧ ρ = ⟨true, [none, some (.o (dicD (es.map dk))), some (.v (.int (prodL es : Nat))), x, y]⟩, ⟨[], none, none, List.nodup_nil, (fun _ m => nomatch m), Nat.le_refl _, by decide, rfl⟩, ?_, ?_⟩
  · rintro j ρ d hd ⟨es, x, y, nd, pr, hl, hp, rfl⟩
    have hj : j < 100 := by
      have := (range_at hd).1
      omega
    refine ⟨rfl, by show (17 : Nat) ≤ 100000; decide, ⟨by show (0 : Nat) < 17; decide, by show (17 : Nat) < 1000000; decide⟩, fun x hx => ?_⟩
    obtain ⟨p, rfl, isp, p101⟩ := great_pick hx
    refine ⟨mok (by omega) (by omega) (by omega) (by omega), ⟨by decide, by decide, by decide⟩, ?_⟩
    have e12 : (10 : Int) ^ (12 : Int).toNat = 1000000000000 := by decide
    by_cases hle : prodL es * p ≤ 1000000000000
    · refine ifT (decT (by rw [e12, ← Int.natCast_mul]; omega)) ?_
      refine ⟨mok (by omega) (by omega) (by omega) (by omega), es.map dk, rfl, es.map dk, rfl, Sum.inl (p : Int), rfl, ?_⟩
      obtain ⟨es', e, e1, e2, e3, e4, e5, e6⟩ := put_dk nd p
      rw [e1]
      refine ⟨rfl, Sum.inl (p : Int), rfl, by rw [List.length_map]; omega, es', some (.v d), some (.v (.int (p : Int))), e3, fun z m => ?_, by omega, by omega, ?_⟩
      · rcases e6 z m with y | y
        · exact pr z y
        · rw [y.1]; exact ⟨isp, y.2⟩
      · show (⟨true, [_, some (.o (dicD (putD (es.map dk) (Sum.inl (p : Int)) (.int ((e : Int) + 1))))), some (.v (.int (((prodL es : Nat) : Int) * (p : Int)))), _, _]⟩ : Env') = _
        rw [e2, e4, Int.natCast_mul]
        rfl
    · refine ifF (decF (by rw [e12, ← Int.natCast_mul]; omega)) ?_
      exact ⟨es, some (.v d), some (.v (.int (p : Int))), nd, pr, by omega, hp, rfl⟩
  · rintro ρ ⟨es, x, y, nd, pr, hl, hp, rfl⟩
    refine ⟨es.map castP, ?_, fun ys pm pw => ?_⟩
    · show dicD (es.map dk) = _
      rw [List.map_map]
      rfl
    · obtain ⟨zs, zp, rfl⟩ := perm_cast pm
      have nd' : (zs.map (·.1)).Nodup := (zp.map (·.1)).nodup_iff.mpr nd
      have hf := fac_sorted (lo := 2) (sorted_keys nd' pw) fun x m => let ⟨a, b⟩ := pr x (zp.mem_iff.mp m); ⟨a, b, a.1⟩
      have := h _ zs hf (by rw [prodL_perm zp]; exact hp)
      rw [List.map_map]
      exact this
theorem over1_if {x : Nat} {R : Option PyData → Prop} (hR : R (over1 (.int (x : Int)))) : (if decide ((1 : Int) < x) = true then R (some (.int x)) else R none) := by
  have hR' : R (if (1 : Int) < x then some (.int x) else none) := hR
  by_cases h : (1 : Int) < x
  · rw [if_pos h] at hR'
    exact ifT (decT h) hR'
  · rw [if_neg h] at hR'
    exact ifF (decF h) hR'
theorem fmB {b : Bool} (ds : List PyData) : (ds.filterMap fun _ => some (PyData.bool b)) = (ds.map fun _ => b).map .bool := by
  induction ds with
  | nil => rfl
  | cons d ds ih => rw [List.filterMap_cons]; simp only [List.map_cons, ih]
theorem allT' (ds : List PyData) : (ds.map fun _ => true).all id = true := by simp
theorem anyF' (ds : List PyData) : (ds.map fun _ => false).any id = false := by simp
theorem sInt2 {a b : Nat} (ha : a < 2 ^ 200) (hb : b < 2 ^ 200) : ShowOk (.list [.int (a : Int), .int (b : Int)]) := by
  have x := shw_nat (n := 0) ha
  have y := shw_nat (n := 0) hb
  simp only [shw] at x y
  exact showOk (n := 1) (by simp only [shw, shwA, x, y, Bool.and_self]) (by decide) (by simp only [szD, szA]; omega)
theorem zip_falls : ∀ {l : List Nat}, l.Pairwise (· > ·) → ∀ d ∈ zipD (l.map fun x : Nat => PyData.int (x : Int)) (l.map fun x : Nat => PyData.int (x : Int)).tail, ∃ a b : Nat, d = .tuple [.int (a : Int), .int (b : Int)] ∧ b < a
  | [], _, d, m => nomatch m
  | [x], _, d, m => nomatch m
  | x :: y :: l, h, d, m => by
    have h' := List.pairwise_cons.mp h
    have e : zipD ((x :: y :: l).map fun x : Nat => PyData.int (x : Int)) ((x :: y :: l).map fun x : Nat => PyData.int (x : Int)).tail = .tuple [.int (x : Int), .int (y : Int)] :: zipD ((y :: l).map fun x : Nat => PyData.int (x : Int)) ((y :: l).map fun x : Nat => PyData.int (x : Int)).tail := rfl
    rw [e] at m
    rcases List.mem_cons.mp m with rfl | m
    · exact ⟨x, y, rfl, h'.1 y List.mem_cons_self⟩
    · exact zip_falls h'.2 d m
theorem walk_split {n : Nat} (h : 1 ≤ n) : ∃ pre, Pm.walk n = pre ++ [1] := by
  have := Pm.walk_last h
  obtain ⟨pre, e⟩ := List.getLast?_eq_some_iff.mp this
  exact ⟨pre, e⟩
theorem walk_mid {n : Nat} (h : 1 ≤ n) : ∀ x ∈ (Pm.walk n).tail.dropLast, x % 2 = 0 := by
  intro x hx
  refine Pm.walk_even h x ((List.dropLast_sublist _).subset hx) ?_
  obtain ⟨pre, hp⟩ := walk_split h
  have hf := (Pm.walk_falls h).1
  rw [hp] at hx hf
  have hx' : x ∈ pre := by
    cases pre with
    | nil => simp at hx
    | cons y pre =>
      rw [List.cons_append, List.tail_cons, List.dropLast_concat] at hx
      exact List.mem_cons_of_mem _ hx
  exact (List.pairwise_append.mp hf).2.2 x hx' 1 (by simp)
abbrev st__law_one_right : Stmt := top 32
abbrev N__law_one_right : List Str := ["number", "due", "told", "one", "many", "near", "far"]
def S__law_one_right : WF := fun ds P => match ds with
  | [.int n] => (1 ≤ n ∧ n ≤ 1000000000000) ∧ P (.v (.bool true))
  | _ => False
theorem sc__law_one_right : FnScope N__law_one_right ["number"] (defScope st__law_one_right) := ⟨rfl, rfl, rfl, by decide +kernel, rfl, by decide +kernel, by decide +kernel⟩
set_option maxHeartbeats 4000000 in
theorem ok__law_one_right {P : Program} {w : World} {K : PySem.W.Frag} {mg : Str → Option Value} {base : Heap} {f : Addr} {fd : FuncData} (T : Txt mg) (F : Fun K "_law_one_right" "_law_one_right" st__law_one_right f fd) (D_free_walk : DefG P w K mg base 5 "free_walk" st_free_walk ["number"] (spF S_free_walk)) (D_free_count : DefG P w K mg base 5 "free_count" st_free_count ["number"] (spF S_free_count)) (D_walk_weight : DefG P w K mg base 5 "walk_weight" st_walk_weight ["number"] (spF S_walk_weight)) (D__law_walk : DefG P w K mg base 2 "_law_walk" st__law_walk ["number"] (spF S__law_walk)) : FnG P w K mg base 6 f fd ["number"] (spF S__law_one_right) := by
  have sc := sc__law_one_right
  refine fn_body F sc (fun ds P h => (by unfold S__law_one_right at h; split at h <;> first | rfl | exact h.elim)) fun cdv A outer s H E hg hr => ?_
  have hu := huOf hr
  refine ⟨_, _, (sscons (sasgF (i := 1) sc.nd (vfn D__law_walk (by exact hg) (by exact hr.mono (by decide)) (by rfl) (acons (vv 0) anil)))
      (sscons (sasgOF (i := 2) sc.nd (ofn D_free_walk (by exact hg) (by exact hr.mono (by decide)) (by rfl) (acons (vv 0) anil)))
      (sscons (sif (wor (vcmpT (cNeK K (by exact hu)) (vcb (cReprK K (by exact hg) (by exact hu)) (by rfl) T.b_repr (by rfl) (acons (vlst (acons (vv 2) (acons (vfnK0 (ks := ["number"]) (idx := [0]) D_free_walk (fun _ _ _ _ _ _ us ws h1 h2 => match us, ws, h1, h2 with | [], [_], _, _ => rfl) (by exact hg) (by exact hr.mono (by decide)) (by rfl) (kcons (vv 0) knil)) anil))) anil)) (vcb (cReprK K (by exact hg) (by exact hu)) (by rfl) T.b_repr (by rfl) (acons (vlst (acons (vv 1) (acons (vv 1) anil))) anil))) (wor1 (vcmpT (cNeK K (by exact hu)) (vixK K (vv 1) (vneg vint)) vint))).vc (ssone (sret vbl)) ssnil)
      (sscons (sasgF (i := 4) sc.nd (vcb (cLenK K) (by rfl) T.b_len (by rfl) (acons (vlc (own := [("one", 3)]) (by decide) (by rfl) sc.nd (iseqK K (vslK K (vv 1) (psome vint) pnone)) (by exact blk_ok (N := N__law_one_right) (sc := defScope st__law_one_right) (by decide +kernel)) (fun _ _ _ _ _ => (vgN (i := 3) sc.nd)) (fun _ _ _ _ _ => (tsone (vcmpT cGt (vv 3) vint))) (fun _ _ _ _ _ => (vv 3))) anil)))
      (sscons (sif (wor (vcmpT (cNeK K (by exact hu)) (vcb (cReprK K (by exact hg) (by exact hu)) (by rfl) T.b_repr (by rfl) (acons (vlst (acons (vfn D_walk_weight (by exact hg) (by exact hr.mono (by decide)) (by rfl) (acons (vv 0) anil)) (acons (vfnK0 (ks := ["number"]) (idx := [0]) D_walk_weight (fun _ _ _ _ _ _ us ws h1 h2 => match us, ws, h1, h2 with | [], [_], _, _ => rfl) (by exact hg) (by exact hr.mono (by decide)) (by rfl) (kcons (vv 0) knil)) anil))) anil)) (vcb (cReprK K (by exact hg) (by exact hu)) (by rfl) T.b_repr (by rfl) (acons (vlst (acons (vv 4) (acons (vv 4) anil))) anil))) (wor1 (vnotT (vtest (vcb (cAllK K (by rfl)) (by rfl) T.b_all (by rfl) (acons (vlc (own := [("near", 5), ("far", 6)]) (by decide) (by rfl) sc.nd (izipK K (by rfl) T.b_zip (acons (vv 1) (acons (vslK K (vv 1) (psome vint) pnone) anil))) (by exact blk_ok (N := N__law_one_right) (sc := defScope st__law_one_right) (by decide +kernel)) (fun _ _ _ _ _ => (vgTK K (is := [5, 6]) (by rfl) (gscons (i := 5) sc.nd (gscons (i := 6) sc.nd gsnil)))) (fun _ _ _ _ _ => tsnil) (fun _ _ _ _ _ => (vcmp cGt (vv 5) (vv 6)))) anil)))))).vc (ssone (sret vbl)) ssnil)
      (sscons (sif (wor (vtest (vcb (cAnyK K (by rfl)) (by rfl) T.b_any (by rfl) (acons (vlc (own := [("one", 3)]) (by decide) (by rfl) sc.nd (iseqK K (vslK K (vv 1) (psome vint) (psome (vneg vint)))) (by exact blk_ok (N := N__law_one_right) (sc := defScope st__law_one_right) (by decide +kernel)) (fun _ _ _ _ _ => (vgN (i := 3) sc.nd)) (fun _ _ _ _ _ => tsnil) (fun _ _ _ _ _ => (vcmp (cEqK K (by exact hu)) (vmod (vv 3) vint) vint))) anil))) (wor1 (wand (vcmpT cGt (vcb (cLenK K) (by rfl) T.b_len (by rfl) (acons (vv 1) anil)) vint) (wand1 (vcmpT (cNeK K (by exact hu)) (vfn D_free_count (by exact hg) (by exact hr.mono (by decide)) (by rfl) (acons (vv 0) anil)) (vixK K (vv 1) vint)))).vc)).vc (ssone (sret vbl)) ssnil)
      (sscons (sapp (i := 2) (vv 2).pe vnon (pe_bm PySem.F.plainAttrs_list PySem.F.slot_list_append PySem.F.type_list_append mt_append (vv 2).pe (pa_cons vnon.pe pa_nil)))
      (ssone (sret (vcmp (cEqK K (by exact hu)) (vcb (cReprK K (by exact hg) (by exact hu)) (by rfl) T.b_repr (by rfl) (acons (vfn D_free_walk (by exact hg) (by exact hr.mono (by decide)) (by rfl) (acons (vv 0) anil)) anil)) (vcb (cReprK K (by exact hg) (by exact hu)) (by rfl) T.b_repr (by rfl) (acons (vv 1) anil)))))))))))), ?_⟩
  intro ds Q h
  unfold S__law_one_right at h; split at h <;> try exact h.elim
  rename_i n
  obtain ⟨⟨h1, h2⟩, h⟩ := h
  obtain ⟨n, rfl⟩ : ∃ c : Nat, n = c := ⟨n.toNat, by omega⟩
  have n1 : 1 ≤ n := by omega
  have n2 : n < 2 ^ 40 := by omega
  have hw := walk_short n1 n2
  have fw := Pm.walk_falls n1
  have sw : ∀ k, shw (k + 1) (lN (Pm.walk n)) = true := fun k => shw_lN fun x m => by have := (fw.2 x m).1; omega
  have zw : szD (lN (Pm.walk n)) ≤ 80000 := by rw [szD_lN]; omega
  have s1 : ShowOk (lN (Pm.walk n)) := showOk (n := 1) (sw 0) (by decide) (by omega)
  have s2 : ShowOk (.list [lN (Pm.walk n), lN (Pm.walk n)]) := showOk (n := 2) (by simp only [shw, shwA, sw, Bool.and_self]) (by decide) (by simp only [szD, szA]; omega)
  have ok1 : (1 : Int) ≤ (n : Int) ∧ (n : Int) ≤ 1000000000000 := ⟨by omega, by omega⟩
  obtain ⟨pre, hpre⟩ := walk_split n1
  have last : atI ((Pm.walk n).map fun x : Nat => PyData.int (x : Int)) (-1) = some (.int ((1 : Nat) : Int)) := by
    rw [hpre, List.map_append]
    exact atI_last
  have tl : ((Pm.walk n).map fun x : Nat => PyData.int (x : Int)).tail.length ≤ 41 := by
    rw [List.length_tail, List.length_map]
    omega
  have w40 : weight n < 2 ^ 200 := by
    have : weight n ≤ (Pm.walk n).tail.length := List.length_filter_le _ _
    rw [List.length_tail] at this
    omega
  -- due, told, the two compared
  refine ⟨⟨by omega, by omega⟩, ok1, ?_⟩
  refine ⟨rfl, rfl, ok1, by show (2 : Nat) ≤ 100000; decide, rfl, s2, by show (2 : Nat) ≤ 100000; decide, rfl, s2, ?_⟩
  refine ifF (neF rfl) ?_
  show (match atI ((Pm.walk n).map fun x : Nat => PyData.int (x : Int)) (-1) with | some d => _ | none => _)
  rw [last]
  -- many
  refine lc_fm (ds := cutD ((Pm.walk n).map fun x : Nat => PyData.int (x : Int)) (some 1) none) over1 (fun d hd R hR => ?_) (by rw [cut_tail]; show 0 + _ ≤ _; omega) ?_
  · rw [cut_tail, tail_map] at hd
    obtain ⟨x, hx, rfl⟩ := List.mem_map.mp hd
    exact over1_if hR
  have hl : (([] : List PyData) ++ (cutD ((Pm.walk n).map fun x : Nat => PyData.int (x : Int)) (some 1) none).filterMap over1).length = weight n := by
    rw [cut_tail, tail_map, List.nil_append, over1_map, List.length_map]
    rfl
  revert hl
  generalize ([] : List PyData) ++ (cutD ((Pm.walk n).map fun x : Nat => PyData.int (x : Int)) (some 1) none).filterMap over1 = rs
  intro hl
  -- the weights; each falls
  refine ⟨ok1, rfl, rfl, ok1, by show (2 : Nat) ≤ 100000; decide, rfl, sInt2 w40 w40, by show (2 : Nat) ≤ 100000; decide, rfl, ?_, ?_⟩
  · show ShowOk (.list [.int (rs.length : Int), .int (rs.length : Int)])
    rw [hl]
    exact sInt2 w40 w40
  refine ifF (neF ?_) ?_
  · show PyData.shown (.list [.int (weight n : Int), .int (weight n : Int)]) = PyData.shown (.list [.int (rs.length : Int), .int (rs.length : Int)])
    rw [hl]
  have zl : ∀ xs ys : List PyData, (zipD xs ys).length ≤ ys.length := fun xs ys => by
    unfold zipD
    rw [List.length_zipWith]
    exact Nat.min_le_right _ _
  refine lc_fm (ds := zipD ((Pm.walk n).map fun x : Nat => PyData.int (x : Int)) (cutD ((Pm.walk n).map fun x : Nat => PyData.int (x : Int)) (some 1) none)) (fun _ => some (.bool true)) (fun d hd R hR => ?_) (by rw [cut_tail]; have := zl ((Pm.walk n).map fun x : Nat => PyData.int (x : Int)) ((Pm.walk n).map fun x : Nat => PyData.int (x : Int)).tail; show 0 + _ ≤ _; omega) ?_
  · rw [cut_tail] at hd
    obtain ⟨a, b, rfl, hab⟩ := zip_falls fw.1 d hd
    refine ⟨rfl, ?_⟩
    show R (some (.bool (decide ((b : Int) < a))))
    rw [decT (by omega)]
    exact hR
  rw [List.nil_append, fmB]
  show (match blsOf ((List.map (fun _ => true) _).map PyData.bool) with | some ns => _ | none => _)
  rw [blsOf_map]
  refine ifF (by rw [allT']; rfl) ?_
  -- even in the middle
  refine lc_fm (ds := cutD ((Pm.walk n).map fun x : Nat => PyData.int (x : Int)) (some 1) (some (-1))) (fun _ => some (.bool false)) (fun d hd R hR => ?_) (by rw [cut_mid, List.length_dropLast]; show 0 + _ ≤ _; omega) ?_
  · rw [cut_mid, tail_map, ← List.map_dropLast] at hd
    obtain ⟨x, hx, rfl⟩ := List.mem_map.mp hd
    have ev := walk_mid n1 x hx
    refine ⟨(show (0 : Int) < 2 by decide), ?_⟩
    show R (some (.bool (decide ((x : Int) % 2 = 1) != false)))
    rw [eqF (by omega)]
    exact hR
  rw [List.nil_append, fmB]
  show (match blsOf ((List.map (fun _ => false) _).map PyData.bool) with | some ns => _ | none => _)
  rw [blsOf_map]
  refine ifF (by rw [anyF']) ?_
  -- the second one
  have rest : (wSeqS (wApp 2 (wK .none)) (wRet (wOp (wEq2 false) (wCall wRepr (wCons (wFn S_free_walk [] (wCons (wV 0) wNil)) wNil)) (wCall wRepr (wCons (wV 1) wNil))))) { nx := fun _ => Q (.v .none), rt := Q } ⟨false, [some (.v (.int (n : Int))), some (.v (lN (Pm.walk n))), some (.o (lN (Pm.walk n))), none, some (.v (.int (rs.length : Int))), none, none]⟩ := by
    refine ⟨rfl, by rw [List.length_map]; omega, ok1, rfl, s1, rfl, s1, ?_⟩
    show Q (.v (.bool (decide (PyData.shown (lN (Pm.walk n)) = PyData.shown (lN (Pm.walk n))) != false)))
    rw [eqT rfl]
    exact h
  by_cases hn : 1 < n
  · obtain ⟨r, hr⟩ := Pm.walk_head (Pm.phi n)
    have e2 : Pm.walk n = n :: Pm.phi n :: r := by rw [Pm.walk_more hn, hr]
    have a1 : atI ((Pm.walk n).map fun x : Nat => PyData.int (x : Int)) 1 = some (.int (Pm.phi n : Int)) := by
      rw [e2]
      exact atI_nat (j := 1) rfl
    refine ifT (decT (by rw [rlen, Int.toNat_natCast, e2, List.length_cons, List.length_cons]; omega)) ?_
    refine ⟨ok1, ?_⟩
    show (match atI ((Pm.walk n).map fun x : Nat => PyData.int (x : Int)) 1 with | some d => _ | none => _)
    rw [a1]
    exact ifF (neF (p := ((Pm.phi n : Nat) : Int) = ((Pm.phi n : Nat) : Int)) rfl) rest
  · refine ifF (decF (by rw [rlen, Int.toNat_natCast, Pm.walk_one hn, List.length_singleton]; omega)) ?_
    exact ifF rfl rest
theorem weight_eq {n : Nat} (h : 1 ≤ n) : weight n + (if n % 2 = 0 then 1 else 0) = Pm.wgt n := Pm.walk_count h
abbrev st__law_two_right : Stmt := top 33
abbrev N__law_two_right : List Str := ["one", "other", "near", "far", "both"]
def S__law_two_right : WF := fun ds P => match ds with
  | [.int a, .int b] => (1 ≤ a ∧ a ≤ 100000 ∧ 1 ≤ b ∧ b ≤ 100000) ∧ P (.v (.bool true))
  | _ => False
theorem sc__law_two_right : FnScope N__law_two_right ["one", "other"] (defScope st__law_two_right) := ⟨rfl, rfl, rfl, by decide +kernel, rfl, by decide +kernel, by decide +kernel⟩
set_option maxHeartbeats 4000000 in
theorem ok__law_two_right {P : Program} {w : World} {K : PySem.W.Frag} {mg : Str → Option Value} {base : Heap} {f : Addr} {fd : FuncData} (T : Txt mg) (F : Fun K "_law_two_right" "_law_two_right" st__law_two_right f fd) (D_walk_weight : DefG P w K mg base 5 "walk_weight" st_walk_weight ["number"] (spF S_walk_weight)) : FnG P w K mg base 6 f fd ["one", "other"] (spF S__law_two_right) := by
  have sc := sc__law_two_right
  refine fn_body F sc (fun ds P h => (by unfold S__law_two_right at h; split at h <;> first | rfl | exact h.elim)) fun cdv A outer s H E hg hr => ?_
  have hu := huOf hr
  refine ⟨_, _, (sscons (spar3F (i := 2) (j := 3) (l := 4) (by rfl) sc.nd (xv (vfn D_walk_weight (by exact hg) (by exact hr.mono (by decide)) (by rfl) (acons (vv 0) anil)) (xv (vfn D_walk_weight (by exact hg) (by exact hr.mono (by decide)) (by rfl) (acons (vv 1) anil)) (xv (vfn D_walk_weight (by exact hg) (by exact hr.mono (by decide)) (by rfl) (acons (vmul (vv 0) (vv 1)) anil)) xnil))))
      (ssone (sret (vcmp (cEqK K (by exact hu)) (vv 4) (vadd (vadd (vv 2) (vv 3)) (vct cInt1 (by rfl) T.b_int (by rfl) (acons (vand (vcmp (cEqK K (by exact hu)) (vmod (vv 0) vint) vint) (vone (vcmp (cEqK K (by exact hu)) (vmod (vv 1) vint) vint))) anil))))))), ?_⟩
  intro ds Q h
  unfold S__law_two_right at h; split at h <;> try exact h.elim
  rename_i a b
  obtain ⟨⟨h1, h2, h3, h4⟩, h⟩ := h
  obtain ⟨a, rfl⟩ : ∃ c : Nat, a = c := ⟨a.toNat, by omega⟩
  obtain ⟨b, rfl⟩ : ∃ c : Nat, b = c := ⟨b.toNat, by omega⟩
  have a1 : 1 ≤ a := by omega
  have b1 : 1 ≤ b := by omega
  have ab1 : 1 ≤ a * b := Nat.mul_pos a1 b1
  have ab2 : a * b ≤ 100000 * 100000 := Nat.mul_le_mul (by omega) (by omega)
  have e : (a : Int) * b = ((a * b : Nat) : Int) := (Int.natCast_mul a b).symm
  refine ⟨⟨by omega, by omega⟩, ⟨by omega, by omega⟩, mok (by omega) (by omega) (by omega) (by omega), ⟨?_, ?_⟩, rfl, ?_⟩
  · show 1 ≤ (a : Int) * b
    rw [e]; omega
  · show (a : Int) * b ≤ 1000000000000
    rw [e]; omega
  have done : ∀ (p : Prop) [Decidable p], p → Q (.v (.bool (decide p != false))) := fun p _ hp => by rw [eqT hp]; exact h
  have wa := weight_eq a1
  have wb := weight_eq b1
  have wc := weight_eq ab1
  rw [Pm.wgt_add a1 b1] at wc
  have tn : ((a : Int) * b).toNat = a * b := by rw [e, Int.toNat_natCast]
  have par : (a * b) % 2 = (a % 2) * (b % 2) % 2 := Nat.mul_mod a b 2
  refine ⟨(show (0 : Int) < 2 by decide), ?_⟩
  by_cases ha : (a : Int) % 2 = 0
  · refine ifT (eqT ha) ⟨(show (0 : Int) < 2 by decide), done _ ?_⟩
    show ((weight ((a : Int) * b).toNat : Nat) : Int) = ((weight a : Nat) : Int) + ((weight b : Nat) : Int) + (if (decide ((b : Int) % 2 = 0) != false) = true then 1 else 0)
    rw [tn]
    have ha' : a % 2 = 0 := by omega
    rw [ha', Nat.zero_mul] at par
    rw [if_pos ha'] at wa
    rw [if_pos par] at wc
    by_cases hb : (b : Int) % 2 = 0
    · rw [if_pos (eqT hb)]
      rw [if_pos (by omega)] at wb
      omega
    · rw [if_neg (by rw [eqF hb]; decide)]
      rw [if_neg (by omega)] at wb
      omega
  · refine ifF (eqF ha) (done _ ?_)
    show ((weight ((a : Int) * b).toNat : Nat) : Int) = ((weight a : Nat) : Int) + ((weight b : Nat) : Int) + 0
    rw [tn]
    have ha' : a % 2 = 1 := by omega
    rw [ha', Nat.one_mul, Nat.mod_mod] at par
    rw [if_neg (by omega)] at wa
    rw [par] at wc
    omega
theorem w_double {n : Nat} (h : 1 ≤ n) (ho : n % 2 = 1) : weight (2 * n) = weight n := by
  have a := weight_eq h
  have b := weight_eq (n := 2 * n) (by omega)
  rw [Pm.wgt_add (by decide) h, Pm.wgt_two, if_pos (by omega)] at b
  rw [if_neg (by omega)] at a
  omega
theorem w_odd {n : Nat} (h : 1 ≤ n) (ho : n % 2 = 1) : weight n = Pm.wgt n := by
  have a := weight_eq h
  rw [if_neg (by omega)] at a
  omega
theorem w_pow2 (k : Nat) : weight (2 ^ k) = k - 1 := by
  have a := weight_eq (n := 2 ^ k) (Nat.pow_pos (by decide))
  rw [Pm.wgt_pow (by decide), Pm.wgt_two] at a
  cases k with
  | zero => rw [if_neg (by decide)] at a; omega
  | succ k =>
    rw [if_pos (by rw [Nat.pow_succ]; omega)] at a
    omega
theorem w_pow3 (k : Nat) : weight (3 ^ k) = k := by
  have o : (3 ^ k) % 2 = 1 := by rw [Nat.pow_mod]; simp
  rw [w_odd (Nat.pow_pos (by decide)) o, Pm.wgt_pow (by decide), Pm.wgt_odd Pm.IsP.three (by decide)]
  show k * Pm.wgt 2 = k
  rw [Pm.wgt_two, Nat.mul_one]
/-- one prime's part of the whole -/
noncomputable def partW (x : Nat × Nat) : Nat := x.2 * (if 2 < x.1 then weight x.1 else 1)
theorem partW_sum : ∀ {lo n : Nat} {ps : List (Nat × Nat)}, Pm.FacL lo n ps → (ps.map partW).sum = Pm.wgL ps
  | _, _, [], _ => rfl
  | _, _, (p, e) :: ps, ⟨h1, h2, h3, m, h4, h5⟩ => by
    rw [List.map_cons, List.sum_cons, partW_sum h5]
    show e * (if 2 < p then weight p else 1) + Pm.wgL ps = e * Pm.wgP p + Pm.wgL ps
    have hp := h2.1
    by_cases z : 2 < p
    · rw [if_pos z]
      have po : p % 2 = 1 := by
        rcases (by omega : p % 2 = 0 ∨ p % 2 = 1) with y | y
        · have := h2.2 2 (Nat.le_refl _) (Nat.dvd_of_mod_eq_zero y)
          omega
        · exact y
      rw [w_odd (by omega) po, Pm.wgt_prime h2]
    · have : p = 2 := by omega
      rw [if_neg z, this]
      rfl
noncomputable def partF : PyData → Option PyData
  | .tuple [.int p, .int e] => some (.int (partW (p.toNat, e.toNat) : Nat))
  | _ => none
theorem partF_map (ps : List (Nat × Nat)) : (ps.map prD).filterMap partF = (ps.map fun x => ((partW x : Nat) : Int)).map .int := by
  induction ps with
  | nil => rfl
  | cons x ps ih =>
    rw [List.map_cons, List.filterMap_cons]
    have e : partF (prD x) = some (.int (partW x : Nat)) := rfl
    rw [e, ih]
    rfl
theorem sum_cast {α : Type} (f : α → Nat) (l : List α) : (l.map fun x => ((f x : Nat) : Int)).sum = ((l.map f).sum : Nat) := by
  induction l with
  | nil => rfl
  | cons x l ih => rw [List.map_cons, List.sum_cons, List.map_cons, List.sum_cons, ih]; omega
theorem weight_lt {n : Nat} (h : 1 ≤ n) (hn : n < 2 ^ 40) : weight n ≤ 41 := by
  have := walk_short h hn
  have h2 : weight n ≤ (Pm.walk n).tail.length := List.length_filter_le _ _
  rw [List.length_tail] at h2
  omega
abbrev wTail63 : WS := wSeqS (wAsgF 9 (wSub (wCall wSum (wCons (wLc (wSeq (wFn S__law_powers [] (wCons (wMul (wK (.int 4)) (wV 2)) wNil))) (gvT [7, 8]) wYes (wMul (wV 8) (wIf (wTest (wOp (wI0 fun i j => .bool (decide (j < i))) (wV 7) (wK (.int 2)))) (wFn S_walk_weight [] (wCons (wV 7) wNil)) (wK (.int 1)))) [7, 8]) wNil)) (wK (.int 1))))
  (wRet (wAndV (wOp (wEq2 false) (wFn S_walk_weight [] (wCons (wMul (wK (.int 4)) (wV 2)) wNil)) (wV 9)) (wAndV (wOp (wEq2 false) (wFn S_walk_weight [] (wCons (wV 5) wNil)) (wCall wMax2 (wCons (wK (.int 0)) (wCons (wSub (wV 3) (wK (.int 1))) wNil)))) (wOp (wEq2 false) (wFn S_walk_weight [] (wCons (wV 4) wNil)) (wV 3)))))
theorem tail63 {E : DV} {Q : Slot → Prop} (hE : E.rt = Q) (h : Q (.v (.bool true))) {x1 x6 : Option Slot} {N w : Nat} (h1 : 1 ≤ N) (h2 : N ≤ 200001) (ho : N % 2 = 1) (hw : w = weight N) (w18 : w < 18) :
    wTail63 E ⟨true, [none, x1, some (.v (.int (N : Int))), some (.v (.int (w : Int))), some (.v (.int ((3 ^ w : Nat) : Int))), some (.v (.int ((2 ^ w : Nat) : Int))), x6, none, none, none]⟩ := by
  have t4 : ((4 : Int) * (N : Int)).toNat = 4 * N := by omega
  have hf := Pm.facs_ok (n := 4 * N) (by omega)
  have pw3 : 3 ^ w < 3 ^ 18 := Nat.pow_lt_pow_right (by decide) w18
  have pw2 : 2 ^ w < 2 ^ 18 := Nat.pow_lt_pow_right (by decide) w18
  have p3 : 0 < 3 ^ w := Nat.pow_pos (by decide)
  have p2 : 0 < 2 ^ w := Nat.pow_pos (by decide)
  have done : ∀ (p : Prop) [Decidable p], p → E.rt (.v (.bool (decide p != false))) := fun p _ hp => by rw [eqT hp, hE]; exact h
  refine ⟨mok (by decide) (by decide) (by omega) (by omega), ⟨by show 1 ≤ (4 : Int) * (N : Int); omega, by show (4 : Int) * (N : Int) < 2 ^ 64; omega⟩, ?_⟩
  refine lc_fm (ds := (Pm.facs ((4 : Int) * (N : Int)).toNat).map prD) partF (fun d hd R hR => ?_) ?_ ?_
  · rw [t4] at hd
    obtain ⟨⟨p, e⟩, hm, rfl⟩ := List.mem_map.mp hd
    obtain ⟨f1, f2, f3, f4, f5⟩ := fac_head hf (p, e) hm
    have f3' : p ≤ 4 * N := f3
    have f4' : e < 4 * N := f4
    have f1' := f1.1
    have hR' : R (some (.int ((e * (if 2 < p then weight p else 1) : Nat) : Int))) := hR
    refine ⟨rfl, ?_⟩
    by_cases hp : 2 < p
    · have wl := weight_lt (n := p) (by omega) (by omega)
      refine ifT (decT (by exact_mod_cast hp)) ⟨⟨by omega, by omega⟩, mok (by omega) (by omega) (by show (0 : Int) ≤ ((weight p : Nat) : Int); omega) (by show ((weight p : Nat) : Int) < 2 ^ 200; omega), ?_⟩
      rw [if_pos hp] at hR'
      show R (some (.int ((e : Int) * ((weight p : Nat) : Int))))
      rw [← Int.natCast_mul]
      exact hR'
    · refine ifF (decF (by intro z; exact hp (by exact_mod_cast z))) ⟨mok (by omega) (by omega) (by decide) (by decide), ?_⟩
      rw [if_neg hp] at hR'
      show R (some (.int ((e : Int) * 1)))
      rw [Int.mul_one]
      rw [Nat.mul_one] at hR'
      exact hR'
  · rw [t4, List.length_map]
    have := fac_len hf
    have l2 : (Pm.facs (4 * N)).length < 2 ^ (Pm.facs (4 * N)).length := Nat.lt_two_pow_self
    show 0 + _ ≤ _
    omega
  rw [List.nil_append, partF_map]
  show (match intsOf ((List.map _ _).map PyData.int) with | some ns => _ | none => _)
  rw [intsOf_map, t4]
  have hsum : ((Pm.facs (4 * N)).map fun x => ((partW x : Nat) : Int)).sum = ((Pm.wgt (4 * N) : Nat) : Int) := by rw [sum_cast, partW_sum hf, ← Pm.wgL_of hf]
  have we := weight_eq (n := 4 * N) (by omega)
  rw [if_pos (by omega)] at we
  refine ⟨mok (by decide) (by decide) (by omega) (by omega), ⟨by show 1 ≤ (4 : Int) * (N : Int); omega, by show (4 : Int) * (N : Int) ≤ 1000000000000; omega⟩, ?_⟩
  refine ifT (eqT ?_) ⟨⟨by omega, by omega⟩, ?_⟩
  · show ((weight ((4 : Int) * (N : Int)).toNat : Nat) : Int) = ((Pm.facs (4 * N)).map fun x => ((partW x : Nat) : Int)).sum - 1
    rw [t4, hsum]
    omega
  refine ifT (eqT ?_) ⟨⟨by omega, by omega⟩, done _ ?_⟩
  · show ((weight (2 ^ w) : Nat) : Int) = max 0 ((w : Int) - 1)
    rw [w_pow2]
    omega
  · show ((weight (3 ^ w) : Nat) : Int) = (w : Int)
    rw [w_pow3]
abbrev wMid63 : WS := wSeqS (wParF [3, 4, 5] (wXv (wFn S_walk_weight [] (wCons (wV 2) wNil)) (wXv (wK (.int 1)) (wXv (wK (.int 1)) wXnil))))
  (wSeqS (wFor (wRng1 (wCons (wV 3) wNil)) (wgN 6) (wParF [4, 5] (wXv (wMul (wK (.int 3)) (wV 4)) (wXv (wMul (wK (.int 2)) (wV 5)) wXnil))))
  (wSeqS (wIfS (wOr (wTest (wOp (wEq2 true) (wFn S_walk_weight [] (wCons (wMul (wK (.int 2)) (wV 2)) wNil)) (wV 3))) (wOr (wTest (wOp (wI0 fun i j => .bool (decide (j < i))) (wV 2) (wV 4)))
    (wAnd (wTest (wOp (wI0 fun i j => .bool (decide (j < i))) (wV 2) (wK (.int 1)))) (wTest (wOp (wI0 fun i j => .bool (decide (i ≤ j))) (wV 2) (wV 5)))))) (wRet (wK (.bool false))) wNext) wTail63))
theorem mid63 {E : DV} {Q : Slot → Prop} (hE : E.rt = Q) (h : Q (.v (.bool true))) {x1 : Option Slot} {N : Nat} (h1 : 1 ≤ N) (h2 : N ≤ 200001) (ho : N % 2 = 1) :
    wMid63 E ⟨true, [none, x1, some (.v (.int (N : Int))), none, none, none, none, none, none, none]⟩ := by
  have hi := (Pm.wgt_high h1).1
  have lo := (Pm.wgt_low h1)
  rw [← w_odd h1 ho] at hi lo
  have w18 : weight N < 18 := (Nat.pow_lt_pow_iff_right (show 1 < 2 by decide)).mp (Nat.lt_of_le_of_lt lo.1 (by omega))
  have t2 : ((2 : Int) * (N : Int)).toNat = 2 * N := by omega
  refine ⟨⟨by omega, by omega⟩, rfl, ⟨by show -2 ^ 62 ≤ ((weight N : Nat) : Int); omega, by show ((weight N : Nat) : Int) < 2 ^ 62; omega⟩, ?_⟩
  refine ⟨fun i ρ => ∃ x6, ρ = ⟨true, [none, x1, some (.v (.int (N : Int))), some (.v (.int ((weight N : Nat) : Int))), some (.v (.int ((3 ^ i : Nat) : Int))), some (.v (.int ((2 ^ i : Nat) : Int))), x6, none, none, none]⟩, ⟨none, rfl⟩, ?_, ?_⟩
  · rintro i ρ d hd ⟨x6, rfl⟩
    obtain ⟨hi0, rfl⟩ := range_at hd
    have hi' : i < 18 := Nat.lt_trans (show i < weight N from hi0) w18
    have pw3 : 3 ^ i < 3 ^ 18 := Nat.pow_lt_pow_right (by decide) hi'
    have pw2 : 2 ^ i < 2 ^ 18 := Nat.pow_lt_pow_right (by decide) hi'
    have q3 : ((3 ^ i : Nat) : Int) < 2 ^ 200 := Int.lt_trans (Int.ofNat_lt.mpr pw3) (by decide)
    have q2 : ((2 ^ i : Nat) : Int) < 2 ^ 200 := Int.lt_trans (Int.ofNat_lt.mpr pw2) (by decide)
    refine ⟨mok (by decide) (by decide) (Int.natCast_nonneg _) q3, mok (by decide) (by decide) (Int.natCast_nonneg _) q2, rfl, some (.v (.int (0 + (i : Int)))), ?_⟩
    show (⟨true, [_, _, _, _, some (.v (.int ((3 : Int) * ((3 ^ i : Nat) : Int)))), some (.v (.int ((2 : Int) * ((2 ^ i : Nat) : Int)))), _, _, _, _]⟩ : Env') = _
    rw [show (3 : Int) * ((3 ^ i : Nat) : Int) = ((3 ^ (i + 1) : Nat) : Int) by rw [Nat.pow_succ]; omega, show (2 : Int) * ((2 ^ i : Nat) : Int) = ((2 ^ (i + 1) : Nat) : Int) by rw [Nat.pow_succ]; omega]
  · rintro ρ ⟨x6, rfl⟩
    rw [rangeD_length]
    refine ⟨mok (by decide) (by decide) (by omega) (by omega), ⟨by show 1 ≤ (2 : Int) * (N : Int); omega, by show (2 : Int) * (N : Int) ≤ 1000000000000; omega⟩, ?_⟩
    have tl := tail63 (x1 := x1) (x6 := x6) hE h h1 h2 ho rfl w18
    have e1 : ((weight ((2 : Int) * (N : Int)).toNat : Nat) : Int) = ((weight N : Nat) : Int) := by rw [t2, w_double h1 ho]
    refine ifF (neF e1) ?_
    have hi3 : ¬ (((3 ^ ((weight N : Nat) : Int).toNat : Nat) : Int) < (N : Int)) := by
      rw [Int.toNat_natCast]
      omega
    refine ifF (decF hi3) ?_
    by_cases hn : 1 < N
    · refine ifT (decT (by exact_mod_cast hn)) (ifF (decF ?_) tl)
      show ¬ ((N : Int) ≤ ((2 ^ ((weight N : Nat) : Int).toNat : Nat) : Int))
      rw [Int.toNat_natCast]
      have := lo.2 ho hn
      omega
    · refine ifF (decF (by omega)) ?_
      exact tl
abbrev st__law_right : Stmt := top 34
abbrev N__law_right : List Str := ["pot", "most", "number", "weight", "third", "two", "turn", "prime", "many", "whole"]
def S__law_right : WF := fun ds P => match ds with
  | [] => P (.v (.bool true))
  | _ => False
theorem sc__law_right : FnScope N__law_right ["pot"] (defScope st__law_right) := ⟨rfl, rfl, rfl, by decide +kernel, rfl, by decide +kernel, by decide +kernel⟩
set_option maxHeartbeats 4000000 in
theorem ok__law_right {P : Program} {w : World} {K : PySem.W.Frag} {mg : Str → Option Value} {base : Heap} {f : Addr} {fd : FuncData} (T : Txt mg) (F : Fun K "_law_right" "_law_right" st__law_right f fd) (D_walk_weight : DefG P w K mg base 5 "walk_weight" st_walk_weight ["number"] (spF S_walk_weight)) (D__law_powers : DefG P w K mg base 1 "_law_powers" st__law_powers ["number"] (spF S__law_powers)) (D__law_draw : DefG P w K mg base 1 "_law_draw" st__law_draw ["pot", "many"] (spP S__law_draw)) (D__law_two_right : DefG P w K mg base 6 "_law_two_right" st__law_two_right ["one", "other"] (spF S__law_two_right)) (D__law_one_right : DefG P w K mg base 6 "_law_one_right" st__law_one_right ["number"] (spF S__law_one_right)) (D__law_number : DefG P w K mg base 1 "_law_number" st__law_number ["powers"] (spF S__law_number)) (D__law_great : DefG P w K mg base 3 "_law_great" st__law_great ["pot"] (spP S__law_great)) : FnG P w K mg base 7 f fd ["pot"] (spP S__law_right) := by
  have sc := sc__law_right
  refine fn_bodyP F sc (fun ds P h => (by unfold S__law_right at h; split at h <;> first | rfl | exact h.elim)) fun cdv A outer s H E hg hr => ?_
  have hu := huOf hr
  refine ⟨_, _, (sscons (sif (wor (vnotT (vtest (vfn D__law_one_right (by exact hg) (by exact hr.mono (by decide)) (by rfl) (acons (vadd vint (vfnP D__law_draw (by exact hg) (by exact hr.mono (by decide)) (by rfl) (vv 0).pe (acons (vpow vint vint) anil))) anil)))) (wor (vnotT (vtest (vfn D__law_one_right (by exact hg) (by exact hr.mono (by decide)) (by rfl) (acons (vadd vint (vfnP D__law_draw (by exact hg) (by exact hr.mono (by decide)) (by rfl) (vv 0).pe (acons vint anil))) anil)))) (wor1 (vnotT (vtest (vfn D__law_one_right (by exact hg) (by exact hr.mono (by decide)) (by rfl) (acons (vfn D__law_number (by exact hg) (by exact hr.mono (by decide)) (by rfl) (acons (vfnP D__law_great (by exact hg) (by exact hr.mono (by decide)) (by rfl) (vv 0).pe anil) anil)) anil))))))).vc (ssone (sret vbl)) ssnil)
      (sscons (sfor PassesOwn.never (by rfl) (iseqK K (vtup (acons vint (acons vint (acons (vpow vint vint) anil))))) (stN (i := 1) sc.nd)
      (ssone (sif (vnotT (vtest (vfn D__law_two_right (by exact hg) (by exact hr.mono (by decide)) (by rfl) (acons (vadd vint (vfnP D__law_draw (by exact hg) (by exact hr.mono (by decide)) (by rfl) (vv 0).pe (acons (vv 1) anil))) (acons (vadd vint (vfnP D__law_draw (by exact hg) (by exact hr.mono (by decide)) (by rfl) (vv 0).pe (acons (vv 1) anil))) anil))))) (ssone (sret vbl)) ssnil)))
      (sscons (sasgF (i := 2) sc.nd (vadd vint (vmul vint (vfnP D__law_draw (by exact hg) (by exact hr.mono (by decide)) (by rfl) (vv 0).pe (acons (vpow vint vint) anil)))))
      (sscons (spar3F (i := 3) (j := 4) (l := 5) (by rfl) sc.nd (xv (vfn D_walk_weight (by exact hg) (by exact hr.mono (by decide)) (by rfl) (acons (vv 2) anil)) (xv vint (xv vint xnil))))
      (sscons (sfor PassesOwn.never (by rfl) (irng1 (by rfl) T.b_range (acons (vv 3) anil)) (stN (i := 6) sc.nd)
      (ssone (spar2F (i := 4) (j := 5) (by rfl) sc.nd (xv (vmul vint (vv 4)) (xv (vmul vint (vv 5)) xnil)))))
      (sscons (sif (wor (vcmpT (cNeK K (by exact hu)) (vfn D_walk_weight (by exact hg) (by exact hr.mono (by decide)) (by rfl) (acons (vmul vint (vv 2)) anil)) (vv 3)) (wor (vcmpT cGt (vv 2) (vv 4)) (wor1 (wand (vcmpT cGt (vv 2) vint) (wand1 (vcmpT cLe (vv 2) (vv 5)))).vc))).vc (ssone (sret vbl)) ssnil)
      (sscons (sasgF (i := 9) sc.nd (vsub (vcb (cSumK K (by rfl)) (by rfl) T.b_sum (by rfl) (acons (vlc (own := [("prime", 7), ("many", 8)]) (by decide) (by rfl) sc.nd (iseqK K (vfn D__law_powers (by exact hg) (by exact hr.mono (by decide)) (by rfl) (acons (vmul vint (vv 2)) anil))) (by exact blk_ok (N := N__law_right) (sc := defScope st__law_right) (by decide +kernel)) (fun _ _ _ _ _ => (vgTK K (is := [7, 8]) (by rfl) (gscons (i := 7) sc.nd (gscons (i := 8) sc.nd gsnil)))) (fun _ _ _ _ _ => tsnil) (fun _ _ _ _ _ => (vmul (vv 8) (vif (vcmpT cGt (vv 7) vint) (vfn D_walk_weight (by exact hg) (by exact hr.mono (by decide)) (by rfl) (acons (vv 7) anil)) vint)))) anil)) vint))
      (ssone (sret (vand (vcmp (cEqK K (by exact hu)) (vfn D_walk_weight (by exact hg) (by exact hr.mono (by decide)) (by rfl) (acons (vmul vint (vv 2)) anil)) (vv 9)) (vand (vcmp (cEqK K (by exact hu)) (vfn D_walk_weight (by exact hg) (by exact hr.mono (by decide)) (by rfl) (acons (vv 5) anil)) (vcb (cMax2 (by rfl)) (by rfl) T.b_max (by rfl) (acons vint (acons (vsub (vv 3) vint) anil)))) (vone (vcmp (cEqK K (by exact hu)) (vfn D_walk_weight (by exact hg) (by exact hr.mono (by decide)) (by rfl) (acons (vv 4) anil)) (vv 3)))))))))))))), ?_⟩
  intro ds Q h
  unfold S__law_right at h; split at h <;> try exact h.elim
  have e6 : (10 : Int) ^ (6 : Int).toNat = 1000000 := by decide
  have e5 : (10 : Int) ^ (5 : Int).toNat = 100000 := by decide
  refine ⟨rfl, ⟨by decide, by decide, by decide⟩, ⟨by decide, by decide⟩, fun i i0 i1 => ?_⟩
  rw [e6] at i1
  refine ⟨⟨by show 1 ≤ 1 + i; omega, by show 1 + i ≤ 1000000000000; omega⟩, ?_⟩
  refine ⟨rfl, ⟨by decide, by decide⟩, fun j j0 j1 => ⟨⟨by show 1 ≤ 1 + j; omega, by show 1 + j ≤ 1000000000000; omega⟩, ?_⟩⟩
  refine ⟨rfl, fun n ps hf hn => ⟨n, ps, rfl, hf, by omega, ⟨by have := hf.pos; omega, by omega⟩, ?_⟩⟩
  refine ⟨⟨by decide, by decide, by decide⟩, by show (3 : Nat) ≤ 100000; decide, ?_⟩
  refine ⟨fun k ρ => ∃ x, ρ = ⟨true, [none, x, none, none, none, none, none, none, none, none]⟩, ⟨none, rfl⟩, ?_, ?_⟩
  · rintro k ρ d hd ⟨x, rfl⟩
    have key : ∃ m : Int, d = .int m ∧ 0 < m ∧ m ≤ 10000 := by
      have hk : k < 3 := getLt hd
      rcases (by omega : k = 0 ∨ k = 1 ∨ k = 2) with rfl | rfl | rfl
      · obtain rfl := Option.some.inj hd; exact ⟨_, rfl, by decide, by decide⟩
      · obtain rfl := Option.some.inj hd; exact ⟨_, rfl, by decide, by decide⟩
      · obtain rfl := Option.some.inj hd; exact ⟨_, rfl, by decide, by decide⟩
    obtain ⟨m, rfl, m0, m1⟩ := key
    refine ⟨rfl, ⟨m0, by omega⟩, fun a a0 a1 => ⟨rfl, ⟨m0, by omega⟩, fun b b0 b1 => ⟨⟨by show 1 ≤ 1 + a; omega, by show 1 + a ≤ 100000; omega, by show 1 ≤ 1 + b; omega, by show 1 + b ≤ 100000; omega⟩, some (.v (.int m)), rfl⟩⟩⟩
  · rintro ρ ⟨x, rfl⟩
    refine ⟨rfl, ⟨by decide, by decide, by decide⟩, ⟨by decide, by decide⟩, fun k k0 k1 => ⟨mok (by decide) (by decide) k0 (by omega), ?_⟩⟩
    rw [e5] at k1
    obtain ⟨N, hN⟩ : ∃ N : Nat, 1 + 2 * k = N := ⟨(1 + 2 * k).toNat, by omega⟩
    have := mid63 (E := { nx := fun x => Q (.v .none), rt := Q }) (x1 := x) rfl h (N := N) (by omega) (by omega) (by omega)
    rw [← hN] at this
    exact this
abbrev st_law : Stmt := top 35
abbrev N_law : List Str := ["script", "k"]
theorem sc_law : FnScope N_law ["script"] (defScope st_law) := ⟨rfl, rfl, rfl, by decide +kernel, rfl, by decide +kernel, by decide +kernel⟩
set_option maxHeartbeats 4000000 in
theorem ok_law {P : Program} {w : World} {K : PySem.W.Frag} {mg : Str → Option Value} {base : Heap} {f : Addr} {fd : FuncData} (T : Txt mg) (F : Fun K "law" "law" st_law f fd) (D__law_pot : DefG P w K mg base 1 "_law_pot" st__law_pot ["script", "k"] (spPot K )) (D__law_right : DefG P w K mg base 7 "_law_right" st__law_right ["pot"] (spP S__law_right)) : FnG P w K mg base 8 f fd ["script"] (spLaw K) := by
  have sc := sc_law
  refine FnG.body F sc (fun vs H Q E h => ?_) fun cdv A outer s H vs Q E hg hr h => ?_
  · obtain ⟨a, ns, rfl, _⟩ := h
    rfl
  · have hu := huOf hr
    refine ⟨_, pss_one (ps_ret (pe_callB (cr_all (by rfl)) (by rfl) T.b_all (by rfl) (pa_cons (pe_lc (own := [("k", 1)]) (by rfl) sc.nd (irng1 (by rfl) T.b_range (acons (vcb (cMax2 (by rfl)) (by rfl) T.b_max (by rfl) (acons vint (acons (vcb (cMin2 (by rfl)) (by rfl) T.b_min (by rfl) (acons vint (acons (vcb (cLenK K) (by rfl) T.b_len (by rfl) (acons (vv 0) anil)) anil))) anil))) anil)).pe
      (by exact blk_ok (N := N_law) (sc := defScope st_law) (by decide +kernel)) (fun _ _ _ _ _ => (vgN (i := 1) (vs := [1]) sc.nd).pe) (fun _ _ _ _ _ => pts_nil)
      (fun _ _ _ _ _ => pe_fn D__law_right (by exact hg) (by exact hr.mono (by decide)) (by rfl) (pa_cons (pe_fn D__law_pot (by exact hg) (by exact hr.mono (by decide)) (by rfl) (pa_cons (vv 0).pe (pa_cons (vv 1).pe pa_nil))) pa_nil))) pa_nil))), ?_⟩
    obtain ⟨a, ns, rfl, hS, hl, kk⟩ := h
    refine ⟨.ref a, rfl, a, _, rfl, .inl hS, _, _, rfl, _, _, rfl, _, rfl, by split <;> split <;> omega, by split <;> split <;> omega, fun D hD => ?_⟩
    have key : ∀ L : Int, (if (if L < 2 then L else 2) > 1 then (if L < 2 then L else 2) else 1) ≤ ((2 : Nat) : Int) := by
      intro L
      split <;> split <;> omega
    refine lc_range (fun i H2 => Same H H2 ∧ ∃ acc : List Bool, H2 D = some (.lst (acc.map V.bl)) ∧ acc.length ≤ i ∧ acc.all id = true) ⟨fun b o e => ?_, [], upd_same, Nat.le_refl _, rfl⟩ ?_ ?_
    · rw [upd_ne (ne_of_none e hD)]
      exact e
    · rintro i H2 hi0 ⟨sm, acc, hD2, al, at'⟩
      have hi : i < 2 := Nat.lt_of_lt_of_le hi0 (Int.toNat_le.mpr (key _))
      refine ⟨rfl, .ref a, rfl, .int (0 + i), rfl, a, ns, _, rfl, sm.seq hS, by omega, by omega, hl, fun p x y hp hx hy hy2 => ?_⟩
      have pD : D ≠ p := fun z => by rw [z, hp] at hD2; cases hD2
      refine ⟨p, [], fun _ => none, [], fun r => r = .v (.bool true), rfl, ⟨x, y, upd_same, hx, hy, hy2⟩, rfl, (fun b o e => by cases e), .nil, rfl, fun v G' H' r F st ho nd fr q => ?_⟩
      subst q
      obtain rfl := rep_bl ho.1
      have sm' : Same H2 H' := fun b o e => st.h b o (fun z => (by cases z; rw [hp] at e; cases e)) (by rw [upd_ne (ne_of_none e hp)]; exact e)
      refine ⟨_, sm' _ _ hD2, lt_line (by rw [List.length_map]; omega), fun b o e => ?_, acc ++ [true], ?_, by rw [List.length_append, List.length_singleton]; omega, by rw [List.all_append, at']; rfl⟩
      · rw [upd_ne (ne_of_none e hD)]
        exact sm' _ _ (sm b o e)
      · rw [upd_same, List.map_append]
        rfl
    · rintro H2 ⟨sm, acc, hD2, al, at'⟩
      refine ⟨D, acc, rfl, SqL.of hD2, ?_⟩
      rw [at']
      exact kk _
set_option maxHeartbeats 4000000 in
theorem all_mk {P : Program} {w : World} {K : PySem.W.Frag} {h : Heap} {mg : Str → Option Value} {fa : Addr} (X : K.In h) (G : h.Ns mainGlobals mg) (hfa : mg "law" = some (.ref fa))
    {oc0 kV0 dc0 pm0 cd0 ct0 : Value} {od0 an0 : Option Addr} {sl0 : Array (Option Value)} {f0 : Addr} (a0 : PySem.W.nsIn K mainGlobals "is_integer" = some (some (.ref f0))) (l0 : K.lookup f0 = some ⟨oc0, od0, .func (PySem.W.fnOf "is_integer" "is_integer" (defArgs st_is_integer) (defBody st_is_integer) (defScope st_is_integer) .none kV0 dc0 pm0 an0 cd0 ct0), sl0⟩) (c0 : PySem.W.codeIn K cd0 "is_integer" = true) (k0 : PySem.W.keepIn K (.ref f0) = true)
    {oc1 kV1 dc1 pm1 cd1 ct1 : Value} {od1 an1 : Option Addr} {sl1 : Array (Option Value)} {f1 : Addr} (a1 : PySem.W.nsIn K mainGlobals "is_number_of" = some (some (.ref f1))) (l1 : K.lookup f1 = some ⟨oc1, od1, .func (PySem.W.fnOf "is_number_of" "is_number_of" (defArgs st_is_number_of) (defBody st_is_number_of) (defScope st_is_number_of) .none kV1 dc1 pm1 an1 cd1 ct1), sl1⟩) (c1 : PySem.W.codeIn K cd1 "is_number_of" = true) (k1 : PySem.W.keepIn K (.ref f1) = true)
    {oc2 kV2 dc2 pm2 cd2 ct2 : Value} {od2 an2 : Option Addr} {sl2 : Array (Option Value)} {f2 : Addr} (a2 : PySem.W.nsIn K mainGlobals "want_number" = some (some (.ref f2))) (l2 : K.lookup f2 = some ⟨oc2, od2, .func (PySem.W.fnOf "want_number" "want_number" (defArgs st_want_number) (defBody st_want_number) (defScope st_want_number) .none kV2 dc2 pm2 an2 cd2 ct2), sl2⟩) (c2 : PySem.W.codeIn K cd2 "want_number" = true) (k2 : PySem.W.keepIn K (.ref f2) = true)
    {oc3 kV3 dc3 pm3 cd3 ct3 : Value} {od3 an3 : Option Addr} {sl3 : Array (Option Value)} {f3 : Addr} (a3 : PySem.W.nsIn K mainGlobals "power_of" = some (some (.ref f3))) (l3 : K.lookup f3 = some ⟨oc3, od3, .func (PySem.W.fnOf "power_of" "power_of" (defArgs st_power_of) (defBody st_power_of) (defScope st_power_of) .none kV3 dc3 pm3 an3 cd3 ct3), sl3⟩) (c3 : PySem.W.codeIn K cd3 "power_of" = true) (k3 : PySem.W.keepIn K (.ref f3) = true)
    {oc4 kV4 dc4 pm4 cd4 ct4 : Value} {od4 an4 : Option Addr} {sl4 : Array (Option Value)} {f4 : Addr} (a4 : PySem.W.nsIn K mainGlobals "powers_of" = some (some (.ref f4))) (l4 : K.lookup f4 = some ⟨oc4, od4, .func (PySem.W.fnOf "powers_of" "powers_of" (defArgs st_powers_of) (defBody st_powers_of) (defScope st_powers_of) .none kV4 dc4 pm4 an4 cd4 ct4), sl4⟩) (c4 : PySem.W.codeIn K cd4 "powers_of" = true) (k4 : PySem.W.keepIn K (.ref f4) = true)
    {oc5 kV5 dc5 pm5 cd5 ct5 : Value} {od5 an5 : Option Addr} {sl5 : Array (Option Value)} {f5 : Addr} (a5 : PySem.W.nsIn K mainGlobals "free_count_by" = some (some (.ref f5))) (l5 : K.lookup f5 = some ⟨oc5, od5, .func (PySem.W.fnOf "free_count_by" "free_count_by" (defArgs st_free_count_by) (defBody st_free_count_by) (defScope st_free_count_by) .none kV5 dc5 pm5 an5 cd5 ct5), sl5⟩) (c5 : PySem.W.codeIn K cd5 "free_count_by" = true) (k5 : PySem.W.keepIn K (.ref f5) = true)
    {oc6 kV6 dc6 pm6 cd6 ct6 : Value} {od6 an6 : Option Addr} {sl6 : Array (Option Value)} {f6 : Addr} (a6 : PySem.W.nsIn K mainGlobals "free_count_of" = some (some (.ref f6))) (l6 : K.lookup f6 = some ⟨oc6, od6, .func (PySem.W.fnOf "free_count_of" "free_count_of" (defArgs st_free_count_of) (defBody st_free_count_of) (defScope st_free_count_of) .none kV6 dc6 pm6 an6 cd6 ct6), sl6⟩) (c6 : PySem.W.codeIn K cd6 "free_count_of" = true) (k6 : PySem.W.keepIn K (.ref f6) = true)
    {oc7 kV7 dc7 pm7 cd7 ct7 : Value} {od7 an7 : Option Addr} {sl7 : Array (Option Value)} {f7 : Addr} (a7 : PySem.W.nsIn K mainGlobals "walk_of" = some (some (.ref f7))) (l7 : K.lookup f7 = some ⟨oc7, od7, .func (PySem.W.fnOf "walk_of" "walk_of" (defArgs st_walk_of) (defBody st_walk_of) (defScope st_walk_of) .none kV7 dc7 pm7 an7 cd7 ct7), sl7⟩) (c7 : PySem.W.codeIn K cd7 "walk_of" = true) (k7 : PySem.W.keepIn K (.ref f7) = true)
    {oc8 kV8 dc8 pm8 cd8 ct8 : Value} {od8 an8 : Option Addr} {sl8 : Array (Option Value)} {f8 : Addr} (a8 : PySem.W.nsIn K mainGlobals "free_count" = some (some (.ref f8))) (l8 : K.lookup f8 = some ⟨oc8, od8, .func (PySem.W.fnOf "free_count" "free_count" (defArgs st_free_count) (defBody st_free_count) (defScope st_free_count) .none kV8 dc8 pm8 an8 cd8 ct8), sl8⟩) (c8 : PySem.W.codeIn K cd8 "free_count" = true) (k8 : PySem.W.keepIn K (.ref f8) = true)
    {oc9 kV9 dc9 pm9 cd9 ct9 : Value} {od9 an9 : Option Addr} {sl9 : Array (Option Value)} {f9 : Addr} (a9 : PySem.W.nsIn K mainGlobals "free_walk" = some (some (.ref f9))) (l9 : K.lookup f9 = some ⟨oc9, od9, .func (PySem.W.fnOf "free_walk" "free_walk" (defArgs st_free_walk) (defBody st_free_walk) (defScope st_free_walk) .none kV9 dc9 pm9 an9 cd9 ct9), sl9⟩) (c9 : PySem.W.codeIn K cd9 "free_walk" = true) (k9 : PySem.W.keepIn K (.ref f9) = true)
    {oc10 kV10 dc10 pm10 cd10 ct10 : Value} {od10 an10 : Option Addr} {sl10 : Array (Option Value)} {f10 : Addr} (a10 : PySem.W.nsIn K mainGlobals "walk_weight" = some (some (.ref f10))) (l10 : K.lookup f10 = some ⟨oc10, od10, .func (PySem.W.fnOf "walk_weight" "walk_weight" (defArgs st_walk_weight) (defBody st_walk_weight) (defScope st_walk_weight) .none kV10 dc10 pm10 an10 cd10 ct10), sl10⟩) (c10 : PySem.W.codeIn K cd10 "walk_weight" = true) (k10 : PySem.W.keepIn K (.ref f10) = true)
    {oc11 kV11 dc11 pm11 cd11 ct11 : Value} {od11 an11 : Option Addr} {sl11 : Array (Option Value)} {f11 : Addr} (a11 : PySem.W.nsIn K mainGlobals "_law_draw" = some (some (.ref f11))) (l11 : K.lookup f11 = some ⟨oc11, od11, .func (PySem.W.fnOf "_law_draw" "_law_draw" (defArgs st__law_draw) (defBody st__law_draw) (defScope st__law_draw) .none kV11 dc11 pm11 an11 cd11 ct11), sl11⟩) (c11 : PySem.W.codeIn K cd11 "_law_draw" = true) (k11 : PySem.W.keepIn K (.ref f11) = true)
    {oc12 kV12 dc12 pm12 cd12 ct12 : Value} {od12 an12 : Option Addr} {sl12 : Array (Option Value)} {f12 : Addr} (a12 : PySem.W.nsIn K mainGlobals "_law_pot" = some (some (.ref f12))) (l12 : K.lookup f12 = some ⟨oc12, od12, .func (PySem.W.fnOf "_law_pot" "_law_pot" (defArgs st__law_pot) (defBody st__law_pot) (defScope st__law_pot) .none kV12 dc12 pm12 an12 cd12 ct12), sl12⟩) (c12 : PySem.W.codeIn K cd12 "_law_pot" = true) (k12 : PySem.W.keepIn K (.ref f12) = true)
    {oc13 kV13 dc13 pm13 cd13 ct13 : Value} {od13 an13 : Option Addr} {sl13 : Array (Option Value)} {f13 : Addr} (a13 : PySem.W.nsIn K mainGlobals "_law_pick" = some (some (.ref f13))) (l13 : K.lookup f13 = some ⟨oc13, od13, .func (PySem.W.fnOf "_law_pick" "_law_pick" (defArgs st__law_pick) (defBody st__law_pick) (defScope st__law_pick) .none kV13 dc13 pm13 an13 cd13 ct13), sl13⟩) (c13 : PySem.W.codeIn K cd13 "_law_pick" = true) (k13 : PySem.W.keepIn K (.ref f13) = true)
    {oc14 kV14 dc14 pm14 cd14 ct14 : Value} {od14 an14 : Option Addr} {sl14 : Array (Option Value)} {f14 : Addr} (a14 : PySem.W.nsIn K mainGlobals "_law_powers" = some (some (.ref f14))) (l14 : K.lookup f14 = some ⟨oc14, od14, .func (PySem.W.fnOf "_law_powers" "_law_powers" (defArgs st__law_powers) (defBody st__law_powers) (defScope st__law_powers) .none kV14 dc14 pm14 an14 cd14 ct14), sl14⟩) (c14 : PySem.W.codeIn K cd14 "_law_powers" = true) (k14 : PySem.W.keepIn K (.ref f14) = true)
    {oc15 kV15 dc15 pm15 cd15 ct15 : Value} {od15 an15 : Option Addr} {sl15 : Array (Option Value)} {f15 : Addr} (a15 : PySem.W.nsIn K mainGlobals "_law_free_by" = some (some (.ref f15))) (l15 : K.lookup f15 = some ⟨oc15, od15, .func (PySem.W.fnOf "_law_free_by" "_law_free_by" (defArgs st__law_free_by) (defBody st__law_free_by) (defScope st__law_free_by) .none kV15 dc15 pm15 an15 cd15 ct15), sl15⟩) (c15 : PySem.W.codeIn K cd15 "_law_free_by" = true) (k15 : PySem.W.keepIn K (.ref f15) = true)
    {oc16 kV16 dc16 pm16 cd16 ct16 : Value} {od16 an16 : Option Addr} {sl16 : Array (Option Value)} {f16 : Addr} (a16 : PySem.W.nsIn K mainGlobals "_law_number" = some (some (.ref f16))) (l16 : K.lookup f16 = some ⟨oc16, od16, .func (PySem.W.fnOf "_law_number" "_law_number" (defArgs st__law_number) (defBody st__law_number) (defScope st__law_number) .none kV16 dc16 pm16 an16 cd16 ct16), sl16⟩) (c16 : PySem.W.codeIn K cd16 "_law_number" = true) (k16 : PySem.W.keepIn K (.ref f16) = true)
    {oc17 kV17 dc17 pm17 cd17 ct17 : Value} {od17 an17 : Option Addr} {sl17 : Array (Option Value)} {f17 : Addr} (a17 : PySem.W.nsIn K mainGlobals "_law_walk" = some (some (.ref f17))) (l17 : K.lookup f17 = some ⟨oc17, od17, .func (PySem.W.fnOf "_law_walk" "_law_walk" (defArgs st__law_walk) (defBody st__law_walk) (defScope st__law_walk) .none kV17 dc17 pm17 an17 cd17 ct17), sl17⟩) (c17 : PySem.W.codeIn K cd17 "_law_walk" = true) (k17 : PySem.W.keepIn K (.ref f17) = true)
    {oc18 kV18 dc18 pm18 cd18 ct18 : Value} {od18 an18 : Option Addr} {sl18 : Array (Option Value)} {f18 : Addr} (a18 : PySem.W.nsIn K mainGlobals "_law_great" = some (some (.ref f18))) (l18 : K.lookup f18 = some ⟨oc18, od18, .func (PySem.W.fnOf "_law_great" "_law_great" (defArgs st__law_great) (defBody st__law_great) (defScope st__law_great) .none kV18 dc18 pm18 an18 cd18 ct18), sl18⟩) (c18 : PySem.W.codeIn K cd18 "_law_great" = true) (k18 : PySem.W.keepIn K (.ref f18) = true)
    {oc19 kV19 dc19 pm19 cd19 ct19 : Value} {od19 an19 : Option Addr} {sl19 : Array (Option Value)} {f19 : Addr} (a19 : PySem.W.nsIn K mainGlobals "_law_one_right" = some (some (.ref f19))) (l19 : K.lookup f19 = some ⟨oc19, od19, .func (PySem.W.fnOf "_law_one_right" "_law_one_right" (defArgs st__law_one_right) (defBody st__law_one_right) (defScope st__law_one_right) .none kV19 dc19 pm19 an19 cd19 ct19), sl19⟩) (c19 : PySem.W.codeIn K cd19 "_law_one_right" = true) (k19 : PySem.W.keepIn K (.ref f19) = true)
    {oc20 kV20 dc20 pm20 cd20 ct20 : Value} {od20 an20 : Option Addr} {sl20 : Array (Option Value)} {f20 : Addr} (a20 : PySem.W.nsIn K mainGlobals "_law_two_right" = some (some (.ref f20))) (l20 : K.lookup f20 = some ⟨oc20, od20, .func (PySem.W.fnOf "_law_two_right" "_law_two_right" (defArgs st__law_two_right) (defBody st__law_two_right) (defScope st__law_two_right) .none kV20 dc20 pm20 an20 cd20 ct20), sl20⟩) (c20 : PySem.W.codeIn K cd20 "_law_two_right" = true) (k20 : PySem.W.keepIn K (.ref f20) = true)
    {oc21 kV21 dc21 pm21 cd21 ct21 : Value} {od21 an21 : Option Addr} {sl21 : Array (Option Value)} {f21 : Addr} (a21 : PySem.W.nsIn K mainGlobals "_law_right" = some (some (.ref f21))) (l21 : K.lookup f21 = some ⟨oc21, od21, .func (PySem.W.fnOf "_law_right" "_law_right" (defArgs st__law_right) (defBody st__law_right) (defScope st__law_right) .none kV21 dc21 pm21 an21 cd21 ct21), sl21⟩) (c21 : PySem.W.codeIn K cd21 "_law_right" = true) (k21 : PySem.W.keepIn K (.ref f21) = true)
    {oc22 kV22 dc22 pm22 cd22 ct22 : Value} {od22 an22 : Option Addr} {sl22 : Array (Option Value)} {f22 : Addr} (a22 : PySem.W.nsIn K mainGlobals "law" = some (some (.ref f22))) (l22 : K.lookup f22 = some ⟨oc22, od22, .func (PySem.W.fnOf "law" "law" (defArgs st_law) (defBody st_law) (defScope st_law) .none kV22 dc22 pm22 an22 cd22 ct22), sl22⟩) (c22 : PySem.W.codeIn K cd22 "law" = true) (k22 : PySem.W.keepIn K (.ref f22) = true)
    (z_abs : PySem.W.nsIn K mainGlobals "abs" = some none)
    (z_all : PySem.W.nsIn K mainGlobals "all" = some none)
    (z_any : PySem.W.nsIn K mainGlobals "any" = some none)
    (z_bool : PySem.W.nsIn K mainGlobals "bool" = some none)
    (z_divmod : PySem.W.nsIn K mainGlobals "divmod" = some none)
    (z_int : PySem.W.nsIn K mainGlobals "int" = some none)
    (z_isinstance : PySem.W.nsIn K mainGlobals "isinstance" = some none)
    (z_len : PySem.W.nsIn K mainGlobals "len" = some none)
    (z_max : PySem.W.nsIn K mainGlobals "max" = some none)
    (z_min : PySem.W.nsIn K mainGlobals "min" = some none)
    (z_range : PySem.W.nsIn K mainGlobals "range" = some none)
    (z_repr : PySem.W.nsIn K mainGlobals "repr" = some none)
    (z_sorted : PySem.W.nsIn K mainGlobals "sorted" = some none)
    (z_sum : PySem.W.nsIn K mainGlobals "sum" = some none)
    (z_zip : PySem.W.nsIn K mainGlobals "zip" = some none)
    {t_GREATEST : Tok} (y_GREATEST : PySem.W.nsIn K mainGlobals "GREATEST" = some (some (.int 1000000000000 t_GREATEST)))
    : ∃ fd : FuncData, (∀ (s : Shared) (v : Value), BindsTo s fd ⟨[v], []⟩ [("script", v)]) ∧ ∀ base : Heap, K.In base → base.Ns mainGlobals mg → FnG P w K mg base 8 fa fd ["script"] (spLaw K) := by
  have e := hfa.symm.trans (PySem.W.mg_of X G a22)
  cases e
  have T : Txt mg := ⟨PySem.W.mg_none_of X G z_abs, PySem.W.mg_none_of X G z_all, PySem.W.mg_none_of X G z_any, PySem.W.mg_none_of X G z_bool, PySem.W.mg_none_of X G z_divmod, PySem.W.mg_none_of X G z_int, PySem.W.mg_none_of X G z_isinstance, PySem.W.mg_none_of X G z_len, PySem.W.mg_none_of X G z_max, PySem.W.mg_none_of X G z_min, PySem.W.mg_none_of X G z_range, PySem.W.mg_none_of X G z_repr, PySem.W.mg_none_of X G z_sorted, PySem.W.mg_none_of X G z_sum, PySem.W.mg_none_of X G z_zip, ⟨t_GREATEST, PySem.W.mg_of X G y_GREATEST⟩⟩
  have F0 := fun_mk (st := st_is_integer) l0 c0 k0
  have B0 := F0.binds (ps := ["value"]) fun _ _ _ _ _ _ us hl => match us, hl with | [_], _ => rfl
  have F1 := fun_mk (st := st_is_number_of) l1 c1 k1
  have B1 := F1.binds (ps := ["value", "most"]) fun _ _ _ _ _ _ us hl => match us, hl with | [_, _], _ => rfl
  have F2 := fun_mk (st := st_want_number) l2 c2 k2
  have B2 := F2.binds (ps := ["value", "most"]) fun _ _ _ _ _ _ us hl => match us, hl with | [_, _], _ => rfl
  have F3 := fun_mk (st := st_power_of) l3 c3 k3
  have B3 := F3.binds (ps := ["base", "many"]) fun _ _ _ _ _ _ us hl => match us, hl with | [_, _], _ => rfl
  have F4 := fun_mk (st := st_powers_of) l4 c4 k4
  have B4 := F4.binds (ps := ["number"]) fun _ _ _ _ _ _ us hl => match us, hl with | [_], _ => rfl
  have F5 := fun_mk (st := st_free_count_by) l5 c5 k5
  have B5 := F5.binds (ps := ["powers"]) fun _ _ _ _ _ _ us hl => match us, hl with | [_], _ => rfl
  have F6 := fun_mk (st := st_free_count_of) l6 c6 k6
  have B6 := F6.binds (ps := ["number"]) fun _ _ _ _ _ _ us hl => match us, hl with | [_], _ => rfl
  have F7 := fun_mk (st := st_walk_of) l7 c7 k7
  have B7 := F7.binds (ps := ["number"]) fun _ _ _ _ _ _ us hl => match us, hl with | [_], _ => rfl
  have F8 := fun_mk (st := st_free_count) l8 c8 k8
  have B8 := F8.binds (ps := ["number"]) fun _ _ _ _ _ _ us hl => match us, hl with | [_], _ => rfl
  have F9 := fun_mk (st := st_free_walk) l9 c9 k9
  have B9 := F9.binds (ps := ["number"]) fun _ _ _ _ _ _ us hl => match us, hl with | [_], _ => rfl
  have F10 := fun_mk (st := st_walk_weight) l10 c10 k10
  have B10 := F10.binds (ps := ["number"]) fun _ _ _ _ _ _ us hl => match us, hl with | [_], _ => rfl
  have F11 := fun_mk (st := st__law_draw) l11 c11 k11
  have B11 := F11.binds (ps := ["pot", "many"]) fun _ _ _ _ _ _ us hl => match us, hl with | [_, _], _ => rfl
  have F12 := fun_mk (st := st__law_pot) l12 c12 k12
  have B12 := F12.binds (ps := ["script", "k"]) fun _ _ _ _ _ _ us hl => match us, hl with | [_, _], _ => rfl
  have F13 := fun_mk (st := st__law_pick) l13 c13 k13
  have B13 := F13.binds (ps := ["pot", "some"]) fun _ _ _ _ _ _ us hl => match us, hl with | [_, _], _ => rfl
  have F14 := fun_mk (st := st__law_powers) l14 c14 k14
  have B14 := F14.binds (ps := ["number"]) fun _ _ _ _ _ _ us hl => match us, hl with | [_], _ => rfl
  have F15 := fun_mk (st := st__law_free_by) l15 c15 k15
  have B15 := F15.binds (ps := ["powers"]) fun _ _ _ _ _ _ us hl => match us, hl with | [_], _ => rfl
  have F16 := fun_mk (st := st__law_number) l16 c16 k16
  have B16 := F16.binds (ps := ["powers"]) fun _ _ _ _ _ _ us hl => match us, hl with | [_], _ => rfl
  have F17 := fun_mk (st := st__law_walk) l17 c17 k17
  have B17 := F17.binds (ps := ["number"]) fun _ _ _ _ _ _ us hl => match us, hl with | [_], _ => rfl
  have F18 := fun_mk (st := st__law_great) l18 c18 k18
  have B18 := F18.binds (ps := ["pot"]) fun _ _ _ _ _ _ us hl => match us, hl with | [_], _ => rfl
  have F19 := fun_mk (st := st__law_one_right) l19 c19 k19
  have B19 := F19.binds (ps := ["number"]) fun _ _ _ _ _ _ us hl => match us, hl with | [_], _ => rfl
  have F20 := fun_mk (st := st__law_two_right) l20 c20 k20
  have B20 := F20.binds (ps := ["one", "other"]) fun _ _ _ _ _ _ us hl => match us, hl with | [_, _], _ => rfl
  have F21 := fun_mk (st := st__law_right) l21 c21 k21
  have B21 := F21.binds (ps := ["pot"]) fun _ _ _ _ _ _ us hl => match us, hl with | [_], _ => rfl
  have F22 := fun_mk (st := st_law) l22 c22 k22
  have B22 := F22.binds (ps := ["script"]) fun _ _ _ _ _ _ us hl => match us, hl with | [_], _ => rfl
  refine ⟨PySem.W.fnOf "law" "law" (defArgs st_law) (defBody st_law) (defScope st_law) .none kV22 dc22 pm22 an22 cd22 ct22, fun s v => .of_eq rfl, fun base _ _ => ?_⟩
  have D0 : DefG P w K mg base 1 "is_integer" st_is_integer ["value"] (spF S_is_integer) := ⟨_, _, ok_is_integer T F0 , PySem.W.mg_of X G a0, k0, F0, B0⟩
  have D1 : DefG P w K mg base 2 "is_number_of" st_is_number_of ["value", "most"] (spF S_is_number_of) := ⟨_, _, ok_is_number_of T F1 D0, PySem.W.mg_of X G a1, k1, F1, B1⟩
  have D2 : DefG P w K mg base 3 "want_number" st_want_number ["value", "most"] (spF S_want_number) := ⟨_, _, ok_want_number T F2 D1, PySem.W.mg_of X G a2, k2, F2, B2⟩
  have D3 : DefG P w K mg base 1 "power_of" st_power_of ["base", "many"] (spF S_power_of) := ⟨_, _, ok_power_of T F3 , PySem.W.mg_of X G a3, k3, F3, B3⟩
  have D4 : DefG P w K mg base 1 "powers_of" st_powers_of ["number"] (spF S_powers_of) := ⟨_, _, ok_powers_of T F4 , PySem.W.mg_of X G a4, k4, F4, B4⟩
  have D5 : DefG P w K mg base 2 "free_count_by" st_free_count_by ["powers"] (spF S_free_count_by) := ⟨_, _, ok_free_count_by T F5 D3, PySem.W.mg_of X G a5, k5, F5, B5⟩
  have D6 : DefG P w K mg base 3 "free_count_of" st_free_count_of ["number"] (spF S_free_count_of) := ⟨_, _, ok_free_count_of T F6 D5 D4, PySem.W.mg_of X G a6, k6, F6, B6⟩
  have D7 : DefG P w K mg base 4 "walk_of" st_walk_of ["number"] (spF S_walk_of) := ⟨_, _, ok_walk_of T F7 D6, PySem.W.mg_of X G a7, k7, F7, B7⟩
  have D8 : DefG P w K mg base 5 "free_count" st_free_count ["number"] (spF S_free_count) := ⟨_, _, ok_free_count T F8 D6 D2, PySem.W.mg_of X G a8, k8, F8, B8⟩
  have D9 : DefG P w K mg base 5 "free_walk" st_free_walk ["number"] (spF S_free_walk) := ⟨_, _, ok_free_walk T F9 D7 D2, PySem.W.mg_of X G a9, k9, F9, B9⟩
  have D10 : DefG P w K mg base 5 "walk_weight" st_walk_weight ["number"] (spF S_walk_weight) := ⟨_, _, ok_walk_weight T F10 D7 D2, PySem.W.mg_of X G a10, k10, F10, B10⟩
  have D11 : DefG P w K mg base 1 "_law_draw" st__law_draw ["pot", "many"] (spP S__law_draw) := ⟨_, _, ok__law_draw T F11 , PySem.W.mg_of X G a11, k11, F11, B11⟩
  have D12 : DefG P w K mg base 1 "_law_pot" st__law_pot ["script", "k"] (spPot K ) := ⟨_, _, ok__law_pot T F12 , PySem.W.mg_of X G a12, k12, F12, B12⟩
  have D13 : DefG P w K mg base 2 "_law_pick" st__law_pick ["pot", "some"] (spP S__law_pick) := ⟨_, _, ok__law_pick T F13 D11, PySem.W.mg_of X G a13, k13, F13, B13⟩
  have D14 : DefG P w K mg base 1 "_law_powers" st__law_powers ["number"] (spF S__law_powers) := ⟨_, _, ok__law_powers T F14 , PySem.W.mg_of X G a14, k14, F14, B14⟩
  have D15 : DefG P w K mg base 1 "_law_free_by" st__law_free_by ["powers"] (spF S__law_free_by) := ⟨_, _, ok__law_free_by T F15 , PySem.W.mg_of X G a15, k15, F15, B15⟩
  have D16 : DefG P w K mg base 1 "_law_number" st__law_number ["powers"] (spF S__law_number) := ⟨_, _, ok__law_number T F16 , PySem.W.mg_of X G a16, k16, F16, B16⟩
  have D17 : DefG P w K mg base 2 "_law_walk" st__law_walk ["number"] (spF S__law_walk) := ⟨_, _, ok__law_walk T F17 D15 D14, PySem.W.mg_of X G a17, k17, F17, B17⟩
  have D18 : DefG P w K mg base 3 "_law_great" st__law_great ["pot"] (spP S__law_great) := ⟨_, _, ok__law_great T F18 D11 D13, PySem.W.mg_of X G a18, k18, F18, B18⟩
  have D19 : DefG P w K mg base 6 "_law_one_right" st__law_one_right ["number"] (spF S__law_one_right) := ⟨_, _, ok__law_one_right T F19 D9 D8 D10 D17, PySem.W.mg_of X G a19, k19, F19, B19⟩
  have D20 : DefG P w K mg base 6 "_law_two_right" st__law_two_right ["one", "other"] (spF S__law_two_right) := ⟨_, _, ok__law_two_right T F20 D10, PySem.W.mg_of X G a20, k20, F20, B20⟩
  have D21 : DefG P w K mg base 7 "_law_right" st__law_right ["pot"] (spP S__law_right) := ⟨_, _, ok__law_right T F21 D10 D14 D11 D20 D19 D16 D18, PySem.W.mg_of X G a21, k21, F21, B21⟩
  exact ok_law T F22 D12 D21
end Vl
open PySem PySem.W PyProof.Rows
set_option maxRecDepth 100000 in
set_option maxHeartbeats 0 in
theorem PySem.Challenge.cw_divisorsums_k63_whole_walks_of_free_coun_holds : PySem.Challenge.rw_divisorsums_k63_whole_walks_of_free_coun.Holds := by
  w_on; o_law; k_head; (case hw => w_witness2)
  k_fill
  refine Vl.walkG (k := 8) (l := PySem.Challenge.rw_divisorsums_k63_whole_walks_of_free_coun) rfl rfl ⟨rfl, by decide, by decide⟩ (fun w h Y => PySem.W.kIn_of Y) ?F
  case F =>
    intro w mg fa h KX G hmg
    refine' Vl.all_mk KX G hmg ?a0 ?l0 ?c0 ?k0 ?a1 ?l1 ?c1 ?k1 ?a2 ?l2 ?c2 ?k2 ?a3 ?l3 ?c3 ?k3 ?a4 ?l4 ?c4 ?k4 ?a5 ?l5 ?c5 ?k5 ?a6 ?l6 ?c6 ?k6 ?a7 ?l7 ?c7 ?k7 ?a8 ?l8 ?c8 ?k8 ?a9 ?l9 ?c9 ?k9 ?a10 ?l10 ?c10 ?k10 ?a11 ?l11 ?c11 ?k11 ?a12 ?l12 ?c12 ?k12 ?a13 ?l13 ?c13 ?k13 ?a14 ?l14 ?c14 ?k14 ?a15 ?l15 ?c15 ?k15 ?a16 ?l16 ?c16 ?k16 ?a17 ?l17 ?c17 ?k17 ?a18 ?l18 ?c18 ?k18 ?a19 ?l19 ?c19 ?k19 ?a20 ?l20 ?c20 ?k20 ?a21 ?l21 ?c21 ?k21 ?a22 ?l22 ?c22 ?k22 ?z_abs ?z_all ?z_any ?z_bool ?z_divmod ?z_int ?z_isinstance ?z_len ?z_max ?z_min ?z_range ?z_repr ?z_sorted ?z_sum ?z_zip ?y_GREATEST
    (case a0 => k_is); (case l0 => k_is); (case c0 => k_is); (case k0 => k_is); (case a1 => k_is); (case l1 => k_is); (case c1 => k_is); (case k1 => k_is); (case a2 => k_is); (case l2 => k_is); (case c2 => k_is); (case k2 => k_is); (case a3 => k_is); (case l3 => k_is); (case c3 => k_is); (case k3 => k_is); (case a4 => k_is); (case l4 => k_is); (case c4 => k_is); (case k4 => k_is); (case a5 => k_is); (case l5 => k_is); (case c5 => k_is); (case k5 => k_is); (case a6 => k_is); (case l6 => k_is); (case c6 => k_is); (case k6 => k_is); (case a7 => k_is); (case l7 => k_is); (case c7 => k_is); (case k7 => k_is); (case a8 => k_is); (case l8 => k_is); (case c8 => k_is); (case k8 => k_is); (case a9 => k_is); (case l9 => k_is); (case c9 => k_is); (case k9 => k_is); (case a10 => k_is); (case l10 => k_is); (case c10 => k_is); (case k10 => k_is); (case a11 => k_is); (case l11 => k_is); (case c11 => k_is); (case k11 => k_is); (case a12 => k_is); (case l12 => k_is); (case c12 => k_is); (case k12 => k_is); (case a13 => k_is); (case l13 => k_is); (case c13 => k_is); (case k13 => k_is); (case a14 => k_is); (case l14 => k_is); (case c14 => k_is); (case k14 => k_is); (case a15 => k_is); (case l15 => k_is); (case c15 => k_is); (case k15 => k_is); (case a16 => k_is); (case l16 => k_is); (case c16 => k_is); (case k16 => k_is); (case a17 => k_is); (case l17 => k_is); (case c17 => k_is); (case k17 => k_is); (case a18 => k_is); (case l18 => k_is); (case c18 => k_is); (case k18 => k_is); (case a19 => k_is); (case l19 => k_is); (case c19 => k_is); (case k19 => k_is); (case a20 => k_is); (case l20 => k_is); (case c20 => k_is); (case k20 => k_is); (case a21 => k_is); (case l21 => k_is); (case c21 => k_is); (case k21 => k_is); (case a22 => k_is); (case l22 => k_is); (case c22 => k_is); (case k22 => k_is); (case z_abs => k_is); (case z_all => k_is); (case z_any => k_is); (case z_bool => k_is); (case z_divmod => k_is); (case z_int => k_is); (case z_isinstance => k_is); (case z_len => k_is); (case z_max => k_is); (case z_min => k_is); (case z_range => k_is); (case z_repr => k_is); (case z_sorted => k_is); (case z_sum => k_is); (case z_zip => k_is); (case y_GREATEST => k_is)
