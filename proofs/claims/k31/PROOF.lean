import PyProof.Rows.All
import Wide.All
import OpenK.AllK
import Wide.FinOn
import HandS.ForMost
import HandS.ForExc
import HandS.Walk
import HandS.NoneIn
import HandS.TupAny
import HandS.TupLe
import HandS.Wide
import HandS.Zip
import KE.GoesEnum
import KE.DataMinMax
import KE.DataAny
import KE.DataIsa
import HandS.Flt
import HandS.RaiseMore
import PyProof.ReprRoads
import HandS.Conv
import KE.SortData
import PySem.Challenge.RW_thickwalls_k31_put_together_told
set_option Elab.async false
set_option linter.all false
set_option autoImplicit false
set_option maxRecDepth 100000
/-! layer D, part 0: pure values over a virtual heap, and how they stand in the abstract heap -/
namespace D
open PySem PySem.Spec PyProof.Rows L2

/-- values: tuples inline, a mutable object by its virtual number -/
inductive PV where
  | non | bl (b : Bool) | int (i : Int) | str (x : Str) | tup (l : List PV) | rol (l : List PV) | ref (n : Nat) | con (v : V)

/-- what a virtual number stands for -/
inductive VO where
  | lst (l : List PV) | dK (kvs : List (Key × PV)) | ins (C : Addr) (fs : List (Str × PV))

abbrev VH := List VO
abbrev Sl := List (Option PV)

/-- an exception: its class, its own fields -/
structure PX where
  cls : Value
  fs : Option (List (Str × PV))

inductive R (α : Type) where
  | ok (a : α) (h : VH) | ex (e : PX) (h : VH) | bad

abbrev M (α : Type) := VH → R α
abbrev O (α : Type) := VH → Option (α × VH)

def ret {α : Type} (a : α) : M α := fun h => .ok a h
def bnd {α β : Type} (m : M α) (f : α → M β) : M β := fun h => match m h with
  | .ok a h' => f a h'
  | .ex e h' => .ex e h'
  | .bad => .bad
def bad {α : Type} : M α := fun _ => .bad
def liftO {α : Type} (f : O α) : M α := fun h => match f h with
  | some (a, h') => .ok a h'
  | none => .bad

/-- a tuple that is read at a and stays -/
def TupAt (K : PySem.W.Frag) (m : List Addr) (H : Hp) (a : Addr) (xs : List V) : Prop := (a ∉ m ∧ Rd H a (.tup xs)) ∨ ∀ H', SqT K H' a xs
/-- a list that is read at a and never written -/
def LstAt (K : PySem.W.Frag) (m : List Addr) (H : Hp) (a : Addr) (xs : List V) : Prop := (a ∉ m ∧ ∃ o, H a = some (.frz o (.lst xs))) ∨ ∀ H', SqL K H' a xs

mutual
def Rep (K : PySem.W.Frag) (m : List Addr) (H : Hp) : PV → V → Prop
  | .non, x => x = .non
  | .bl b, x => x = .bl b
  | .int i, x => x = .int i
  | .str z, x => x = .str z
  | .con v, x => x = v
  | .ref n, x => ∃ a, x = .ref a ∧ m[n]? = some a
  | .tup l, x => ∃ a xs, x = .ref a ∧ TupAt K m H a xs ∧ Reps K m H l xs
  | .rol l, x => ∃ a xs, x = .ref a ∧ LstAt K m H a xs ∧ Reps K m H l xs
def Reps (K : PySem.W.Frag) (m : List Addr) (H : Hp) : List PV → List V → Prop
  | [], xs => xs = []
  | v :: l, xs => ∃ x r, xs = x :: r ∧ Rep K m H v x ∧ Reps K m H l r
end

/-- the abstract heap has grown: what is tracked elsewhere stands -/
structure Ext (m : List Addr) (H : Hp) (m' : List Addr) (H' : Hp) : Prop where
  app : ∃ k, m' = m ++ k ∧ ∀ a ∈ k, H a = none
  keep : ∀ a o, H a = some o → a ∉ m → H' a = some o
  live : ∀ a o, H a = some o → ∃ o', H' a = some o'

theorem Ext.refl {m : List Addr} {H : Hp} : Ext m H m H := ⟨⟨[], by simp, by simp⟩, fun _ _ e _ => e, fun _ o e => ⟨o, e⟩⟩
theorem Ext.trans {m m1 m2 : List Addr} {H H1 H2 : Hp} (p : Ext m H m1 H1) (q : Ext m1 H1 m2 H2) : Ext m H m2 H2 := by
  obtain ⟨⟨k, rfl, hk⟩, kp, lp⟩ := p
  obtain ⟨⟨j, rfl, hj⟩, kq, lq⟩ := q
  refine ⟨⟨k ++ j, by simp, fun a ha => ?_⟩, fun a o e hn => ?_, fun a o e => ?_⟩
  · rcases List.mem_append.mp ha with h | h
    · exact hk a h
    · cases e : H a with
      | none => rfl
      | some o =>
        obtain ⟨o', e'⟩ := lp a o e
        rw [hj a h] at e'; cases e'
  · refine kq a o (kp a o e hn) fun hm => ?_
    rcases List.mem_append.mp hm with h | h
    · exact hn h
    · rw [hk a h] at e; cases e
  · obtain ⟨o', e'⟩ := lp a o e
    exact lq a o' e'
theorem Ext.notin {m m1 : List Addr} {H H1 : Hp} (p : Ext m H m1 H1) {a : Addr} {o : HO} (e : H a = some o) (n : a ∉ m) : a ∉ m1 := by
  obtain ⟨⟨k, rfl, hk⟩, _, _⟩ := p
  intro hm
  rcases List.mem_append.mp hm with h | h
  · exact n h
  · rw [hk a h] at e; cases e
theorem Ext.get {m m1 : List Addr} {H H1 : Hp} (p : Ext m H m1 H1) {n : Nat} {a : Addr} (e : m[n]? = some a) : m1[n]? = some a := by
  obtain ⟨⟨k, rfl, _⟩, _, _⟩ := p
  rw [List.getElem?_append_left (List.getElem?_eq_some_iff.mp e).1]
  exact e
theorem TupAt.ext {K : PySem.W.Frag} {m m1 : List Addr} {H H1 : Hp} {a : Addr} {xs : List V} (t : TupAt K m H a xs) (p : Ext m H m1 H1) : TupAt K m1 H1 a xs := by
  rcases t with ⟨n, e | ⟨o, e⟩⟩ | t
  · exact .inl ⟨p.notin e n, .inl (p.keep _ _ e n)⟩
  · exact .inl ⟨p.notin e n, .inr ⟨o, p.keep _ _ e n⟩⟩
  · exact .inr t
theorem LstAt.ext {K : PySem.W.Frag} {m m1 : List Addr} {H H1 : Hp} {a : Addr} {xs : List V} (t : LstAt K m H a xs) (p : Ext m H m1 H1) : LstAt K m1 H1 a xs := by
  rcases t with ⟨n, o, e⟩ | t
  · exact .inl ⟨p.notin e n, o, p.keep _ _ e n⟩
  · exact .inr t
theorem TupAt.sq {K : PySem.W.Frag} {m : List Addr} {H : Hp} {a : Addr} {xs : List V} (t : TupAt K m H a xs) : SqT K H a xs := by
  rcases t with ⟨_, e⟩ | t
  · exact .inl e
  · exact t H
theorem LstAt.sq {K : PySem.W.Frag} {m : List Addr} {H : Hp} {a : Addr} {xs : List V} (t : LstAt K m H a xs) : SqL K H a xs := by
  rcases t with ⟨_, o, e⟩ | t
  · exact .inl (.inr ⟨o, e⟩)
  · exact t H
mutual
theorem Rep.ext {K : PySem.W.Frag} {m m1 : List Addr} {H H1 : Hp} (p : Ext m H m1 H1) : ∀ (v : PV) (x : V), Rep K m H v x → Rep K m1 H1 v x
  | .non, _, r => r
  | .bl _, _, r => r
  | .int _, _, r => r
  | .str _, _, r => r
  | .con _, _, r => r
  | .ref n, _, r => by
    simp only [Rep] at r ⊢
    obtain ⟨a, e, q⟩ := r
    exact ⟨a, e, p.get q⟩
  | .tup l, _, r => by
    simp only [Rep] at r ⊢
    obtain ⟨a, xs, e, q, t⟩ := r
    exact ⟨a, xs, e, q.ext p, Reps.ext p l xs t⟩
  | .rol l, _, r => by
    simp only [Rep] at r ⊢
    obtain ⟨a, xs, e, q, t⟩ := r
    exact ⟨a, xs, e, q.ext p, Reps.ext p l xs t⟩
theorem Reps.ext {K : PySem.W.Frag} {m m1 : List Addr} {H H1 : Hp} (p : Ext m H m1 H1) : ∀ (l : List PV) (xs : List V), Reps K m H l xs → Reps K m1 H1 l xs
  | [], _, r => r
  | v :: l, _, r => by
    simp only [Reps] at r ⊢
    obtain ⟨x, t, e, r1, r2⟩ := r
    exact ⟨x, t, e, Rep.ext p v x r1, Reps.ext p l t r2⟩
end
section
variable {K : PySem.W.Frag} {m m1 : List Addr} {H H1 : Hp}
theorem Reps.nil : Reps K m H [] [] := rfl
theorem Reps.cons {v : PV} {x : V} {l : List PV} {xs : List V} (r : Rep K m H v x) (t : Reps K m H l xs) : Reps K m H (v :: l) (x :: xs) := by
  simp only [Reps]
  exact ⟨x, xs, rfl, r, t⟩
theorem Reps.nil_inv {xs : List V} (r : Reps K m H [] xs) : xs = [] := r
theorem Reps.cons_inv {v : PV} {l : List PV} {xs : List V} (r : Reps K m H (v :: l) xs) : ∃ x t, xs = x :: t ∧ Rep K m H v x ∧ Reps K m H l t := by
  simpa only [Reps] using r
theorem Reps.len : ∀ {l : List PV} {xs : List V}, Reps K m H l xs → xs.length = l.length
  | [], _, r => by rw [Reps.nil_inv r]; rfl
  | _ :: l, _, r => by
    obtain ⟨x, t, rfl, _, r2⟩ := Reps.cons_inv r
    simp [Reps.len r2]
theorem Reps.append : ∀ {l l' : List PV} {xs ys : List V}, Reps K m H l xs → Reps K m H l' ys → Reps K m H (l ++ l') (xs ++ ys)
  | [], _, _, _, r, q => by rw [Reps.nil_inv r]; exact q
  | _ :: l, _, _, _, r, q => by
    obtain ⟨x, t, rfl, r1, r2⟩ := Reps.cons_inv r
    exact Reps.cons r1 (Reps.append r2 q)
theorem Reps.get : ∀ {l : List PV} {xs : List V} {i : Nat} {v : PV}, Reps K m H l xs → l[i]? = some v → ∃ x, xs[i]? = some x ∧ Rep K m H v x
  | [], _, i, v, _, e => by simp at e
  | u :: l, _, 0, v, r, e => by
    obtain ⟨x, t, rfl, r1, _⟩ := Reps.cons_inv r
    simp at e; subst e
    exact ⟨x, rfl, r1⟩
  | u :: l, _, i + 1, v, r, e => by
    obtain ⟨x, t, rfl, _, r2⟩ := Reps.cons_inv r
    obtain ⟨y, e1, r3⟩ := Reps.get (i := i) r2 (by simpa using e)
    exact ⟨y, by simpa using e1, r3⟩
theorem Reps.of_get {l : List PV} {xs : List V} (hl : xs.length = l.length) (h : ∀ (i : Nat) v x, l[i]? = some v → xs[i]? = some x → Rep K m H v x) : Reps K m H l xs := by
  induction l generalizing xs with
  | nil => exact List.eq_nil_of_length_eq_zero (by simpa using hl)
  | cons v l ih =>
    cases xs with
    | nil => simp at hl
    | cons x xs =>
      refine Reps.cons (h 0 v x rfl rfl) (ih (by simpa using hl) fun i u y e1 e2 => h (i + 1) u y (by simpa using e1) (by simpa using e2))
theorem Reps.take {l : List PV} {xs : List V} (n : Nat) (r : Reps K m H l xs) : Reps K m H (l.take n) (xs.take n) := by
  induction l generalizing xs n with
  | nil => rw [Reps.nil_inv r]; simp [Reps.nil]
  | cons v l ih =>
    obtain ⟨x, t, rfl, r1, r2⟩ := Reps.cons_inv r
    cases n with
    | zero => exact Reps.nil
    | succ n => exact Reps.cons r1 (ih n r2)
theorem Reps.drop {l : List PV} {xs : List V} (n : Nat) (r : Reps K m H l xs) : Reps K m H (l.drop n) (xs.drop n) := by
  induction l generalizing xs n with
  | nil => rw [Reps.nil_inv r]; simp [Reps.nil]
  | cons v l ih =>
    obtain ⟨x, t, rfl, r1, r2⟩ := Reps.cons_inv r
    cases n with
    | zero => exact Reps.cons r1 r2
    | succ n => exact ih n r2
theorem Reps.set {l : List PV} {xs : List V} {v : PV} {x : V} (i : Nat) (r : Reps K m H l xs) (q : Rep K m H v x) : Reps K m H (l.set i v) (xs.set i x) := by
  induction l generalizing xs i with
  | nil => rw [Reps.nil_inv r]; exact Reps.nil
  | cons u l ih =>
    obtain ⟨y, t, rfl, r1, r2⟩ := Reps.cons_inv r
    cases i with
    | zero => exact Reps.cons q r2
    | succ i => exact Reps.cons r1 (ih i r2)
theorem Reps.reverse {l : List PV} {xs : List V} (r : Reps K m H l xs) : Reps K m H l.reverse xs.reverse := by
  induction l generalizing xs with
  | nil => rw [Reps.nil_inv r]; exact Reps.nil
  | cons v l ih =>
    obtain ⟨x, t, rfl, r1, r2⟩ := Reps.cons_inv r
    rw [List.reverse_cons, List.reverse_cons]
    exact (ih r2).append (Reps.cons r1 Reps.nil)
end

/-- what stands at the real address of an object -/
def ORep (K : PySem.W.Frag) (m : List Addr) (H : Hp) (a : Addr) : VO → Prop
  | .lst l => ∃ xs, H a = some (.lst xs) ∧ Reps K m H l xs
  | .dK kvs => ∃ ks, H a = some (.dK ks) ∧ kvs.map (·.1) = ks.map (·.1) ∧ Reps K m H (kvs.map (·.2)) (ks.map (·.2))
  | .ins C fs => ∃ dx gs, H a = some (.ins C dx gs) ∧ fs.map (·.1) = gs.map (·.1) ∧ Reps K m H (fs.map (·.2)) (gs.map (·.2))
/-- the virtual heap is held -/
structure SR (K : PySem.W.Frag) (m : List Addr) (h : VH) (H : Hp) : Prop where
  len : m.length = h.length
  nd : m.Nodup
  obj : ∀ (n : Nat) o a, h[n]? = some o → m[n]? = some a → ORep K m H a o
theorem ORep.some_ {K : PySem.W.Frag} {m : List Addr} {H : Hp} {a : Addr} {o : VO} (r : ORep K m H a o) : ∃ u, H a = some u ∧ Mut (some u) := by
  cases o with
  | lst l => obtain ⟨xs, e, _⟩ := r; exact ⟨_, e, trivial⟩
  | dK l => obtain ⟨xs, e, _⟩ := r; exact ⟨_, e, trivial⟩
  | ins C l => obtain ⟨dx, xs, e, _⟩ := r; exact ⟨_, e, trivial⟩
section
variable {K : PySem.W.Frag} {m m1 : List Addr} {h : VH} {H H1 : Hp}
theorem SR.at (s : SR K m h H) {n : Nat} {o : VO} (e : h[n]? = some o) : ∃ a, m[n]? = some a ∧ ORep K m H a o := by
  have hn : n < m.length := by rw [s.len]; exact (List.getElem?_eq_some_iff.mp e).1
  exact ⟨m[n], List.getElem?_eq_getElem hn, s.obj n o _ e (List.getElem?_eq_getElem hn)⟩
theorem SR.mem (s : SR K m h H) {a : Addr} (ha : a ∈ m) : ∃ u, H a = some u ∧ Mut (some u) := by
  obtain ⟨n, hn, rfl⟩ := List.getElem_of_mem ha
  have hn' : n < h.length := by rw [← s.len]; exact hn
  exact (s.obj n _ _ (List.getElem?_eq_getElem hn') (List.getElem?_eq_getElem hn)).some_
theorem SR.fresh (s : SR K m h H) {p : Addr} (e : H p = none) : p ∉ m := fun hm => by
  obtain ⟨u, e', _⟩ := s.mem hm
  rw [e] at e'; cases e'
/-- a heap that only grew elsewhere still holds it -/
theorem ORep.ext {a : Addr} {o : VO} (r : ORep K m H a o) (p : Ext m H m1 H1) (e : H1 a = H a) : ORep K m1 H1 a o := by
  cases o with
  | lst l => obtain ⟨xs, q, t⟩ := r; exact ⟨xs, e.trans q, t.ext p⟩
  | dK l => obtain ⟨xs, q, z, t⟩ := r; exact ⟨xs, e.trans q, z, t.ext p⟩
  | ins C l => obtain ⟨dx, xs, q, z, t⟩ := r; exact ⟨dx, xs, e.trans q, z, t.ext p⟩
theorem Ext.upd_new {m : List Addr} {H : Hp} {p : Addr} {o : HO} (e : H p = none) : Ext m H m (upd H p o) :=
  ⟨⟨[], by simp, by simp⟩, fun a u q _ => by rw [upd_ne (ne_of_none q e)]; exact q, fun a u q => ⟨u, by rw [upd_ne (ne_of_none q e)]; exact q⟩⟩
/-- something new that is not tracked by the virtual heap -/
theorem SR.more (s : SR K m h H) {p : Addr} {o : HO} (e : H p = none) : SR K m h (upd H p o) :=
  ⟨s.len, s.nd, fun n u a e1 e2 => (s.obj n u a e1 e2).ext (.upd_new e) (by
    obtain ⟨w, q, _⟩ := s.mem (List.mem_of_getElem? e2)
    rw [upd_ne (ne_of_none q e)])⟩
/-- a new tuple -/
theorem SR.tup (s : SR K m h H) {p : Addr} {l : List PV} {xs : List V} (e : H p = none) (r : Reps K m H l xs) : Rep K m (upd H p (.tup xs)) (.tup l) (.ref p) := by
  simp only [Rep]
  exact ⟨p, xs, rfl, .inl ⟨s.fresh e, .inl upd_same⟩, r.ext (.upd_new e)⟩
theorem Ext.upd_add {m : List Addr} {H : Hp} {p : Addr} {o : HO} (e : H p = none) : Ext m H (m ++ [p]) (upd H p o) :=
  ⟨⟨[p], rfl, fun a ha => by rw [List.mem_singleton.mp ha]; exact e⟩, fun a u q _ => by rw [upd_ne (ne_of_none q e)]; exact q, fun a u q => ⟨u, by rw [upd_ne (ne_of_none q e)]; exact q⟩⟩
/-- a new object of the virtual heap -/
theorem SR.add (s : SR K m h H) {p : Addr} {o : HO} {w : VO} (e : H p = none) (r : ORep K (m ++ [p]) (upd H p o) p w) : SR K (m ++ [p]) (h ++ [w]) (upd H p o) := by
  refine ⟨by simp [s.len], ?_, fun n u a e1 e2 => ?_⟩
  · rw [List.nodup_append]
    refine ⟨s.nd, by simp, fun a ha b hb => ?_⟩
    rw [List.mem_singleton.mp hb]
    rintro rfl
    exact s.fresh e ha
  · by_cases hn : n < h.length
    · rw [List.getElem?_append_left hn] at e1
      rw [List.getElem?_append_left (by rw [s.len]; exact hn)] at e2
      refine (s.obj n u a e1 e2).ext (.upd_add e) ?_
      obtain ⟨w, q, _⟩ := s.mem (List.mem_of_getElem? e2)
      rw [upd_ne (ne_of_none q e)]
    · have hm : m.length ≤ n := by rw [s.len]; omega
      rw [List.getElem?_append_right (by omega)] at e1
      rw [List.getElem?_append_right hm] at e2
      have en : n - h.length = 0 := by
        have := (List.getElem?_eq_some_iff.mp e1).1
        simp at this; omega
      have en2 : n - m.length = 0 := by rw [s.len]; exact en
      rw [en] at e1; rw [en2] at e2
      simp at e1 e2
      subst e1 e2
      exact r
theorem SR.addLst (s : SR K m h H) {p : Addr} {l : List PV} {xs : List V} (e : H p = none) (r : Reps K m H l xs) : SR K (m ++ [p]) (h ++ [.lst l]) (upd H p (.lst xs)) :=
  s.add e ⟨xs, upd_same, r.ext (.upd_add e)⟩
theorem Ext.upd_set {m : List Addr} {H : Hp} {a : Addr} {o : HO} (ha : a ∈ m) : Ext m H m (upd H a o) :=
  ⟨⟨[], by simp, by simp⟩, fun b u q hb => by rw [upd_ne (fun z => hb (by rw [z]; exact ha))]; exact q, fun b u q => by
    by_cases z : b = a
    · subst z; exact ⟨o, upd_same⟩
    · exact ⟨u, by rw [upd_ne z]; exact q⟩⟩
/-- an object is written -/
theorem SR.put (s : SR K m h H) {n : Nat} {a : Addr} {o : HO} {w : VO} (e : m[n]? = some a) (r : ORep K m (upd H a o) a w) : SR K m (h.set n w) (upd H a o) := by
  refine ⟨by simp [s.len], s.nd, fun k u b e1 e2 => ?_⟩
  by_cases hk : k = n
  · subst hk
    rw [e] at e2; cases e2
    have hn : k < h.length := by rw [← s.len]; exact (List.getElem?_eq_some_iff.mp e).1
    rw [List.getElem?_set_self hn] at e1
    cases e1
    exact r
  · rw [List.getElem?_set_ne (Ne.symm hk)] at e1
    refine (s.obj k u b e1 e2).ext (.upd_set (List.mem_of_getElem? e)) ?_
    refine upd_ne fun z => hk ?_
    subst z
    exact nd_ix s.nd e2 e
theorem SR.putLst (s : SR K m h H) {n : Nat} {a : Addr} {l : List PV} {xs : List V} (e : m[n]? = some a) (r : Reps K m H l xs) : SR K m (h.set n (.lst l)) (upd H a (.lst xs)) :=
  s.put e ⟨xs, upd_same, r.ext (.upd_set (List.mem_of_getElem? e))⟩
end

/-- the slots -/
structure SlD (K : PySem.W.Frag) (m : List Addr) (H : Hp) (v : Sl) (σ : L2.St) : Prop where
  len : v.length = σ.length
  at_ : ∀ (i : Nat) u, v[i]? = some (some u) → ∃ x, σ[i]? = some (some x) ∧ Rep K m H u x
section
variable {K : PySem.W.Frag} {m m1 : List Addr} {H H1 : Hp} {v : Sl} {σ : L2.St}
theorem SlD.ext (s : SlD K m H v σ) (p : Ext m H m1 H1) : SlD K m1 H1 v σ := ⟨s.len, fun i u e => let ⟨x, q, r⟩ := s.at_ i u e; ⟨x, q, r.ext p⟩⟩
theorem SlD.set (s : SlD K m H v σ) {u : PV} {x : V} (i : Nat) (r : Rep K m H u x) : SlD K m H (v.set i (some u)) (σ.set i (some x)) := by
  refine ⟨by simp [s.len], fun j w e => ?_⟩
  by_cases hj : j = i
  · subst hj
    by_cases hl : j < v.length
    · rw [List.getElem?_set_self hl] at e
      cases e
      exact ⟨x, by rw [List.getElem?_set_self (by rw [← s.len]; exact hl)], r⟩
    · rw [List.getElem?_eq_none (by simp; omega)] at e; cases e
  · rw [List.getElem?_set_ne (Ne.symm hj)] at e
    rw [List.getElem?_set_ne (Ne.symm hj)]
    exact s.at_ j w e
theorem SlD.none_ (s : SlD K m H v σ) (i : Nat) : SlD K m H (v.set i none) (σ.set i none) := by
  refine ⟨by simp [s.len], fun j w e => ?_⟩
  by_cases hj : j = i
  · subst hj
    by_cases hl : j < v.length
    · rw [List.getElem?_set_self hl] at e; cases e
    · rw [List.getElem?_eq_none (by simp; omega)] at e; cases e
  · rw [List.getElem?_set_ne (Ne.symm hj)] at e
    rw [List.getElem?_set_ne (Ne.symm hj)]
    exact s.at_ j w e
def wipeD (σ : Sl) : List Nat → Sl
  | [] => σ
  | i :: is => (wipeD σ is).set i none
theorem SlD.wipe (s : SlD K m H v σ) : ∀ is : List Nat, SlD K m H (wipeD v is) (L2.wipe σ is)
  | [] => s
  | i :: is => (SlD.wipe s is).none_ i
end

/-- an exception as it flies -/
def XRep (K : PySem.W.Frag) (m : List Addr) (H : Hp) (e : PX) (d : Option Addr) : Prop :=
  match e.fs, d with
  | none, none => True
  | some fs, some a => ∃ gs, H a = some (.xd gs) ∧ fs.map (·.1) = gs.map (·.1) ∧ Reps K m H (fs.map (·.2)) (gs.map (·.2))
  | _, _ => False

section
variable {α β : Type} {K : PySem.W.Frag} {W : WX} {σ : L2.St} {m : List Addr} {H : Hp}
/-- what is wanted behind a run -/
def Post (K : PySem.W.Frag) (W : WX) (σ : L2.St) (m : List Addr) (H : Hp) (r : R α) (Q : List Addr → Hp → VH → α → Prop) : Prop :=
  match r with
  | .ok v h' => ∀ m' H', Ext m H m' H' → SR K m' h' H' → Q m' H' h' v
  | .ex e h' => ∀ m' H' d, Ext m H m' H' → SR K m' h' H' → XRep K m' H' e d → W e.cls d σ H'
  | .bad => False
theorem Post.mono {r : R α} {Q Q' : List Addr → Hp → VH → α → Prop} (p : Post K W σ m H r Q) (i : ∀ m' H' h' v, Ext m H m' H' → SR K m' h' H' → Q m' H' h' v → Q' m' H' h' v) : Post K W σ m H r Q' := by
  cases r with
  | ok v h => exact fun m' H' e s => i m' H' h v e s (p m' H' e s)
  | ex e h => exact p
  | bad => exact p
theorem Post.seq {a : M α} {f : α → M β} {h : VH} {Q : List Addr → Hp → VH → β → Prop} (p : Post K W σ m H (bnd a f h) Q) :
    Post K W σ m H (a h) fun m1 H1 h1 v => Post K W σ m1 H1 (f v h1) Q := by
  unfold bnd at p
  cases e : a h with
  | ok v h1 =>
    rw [e] at p
    simp only at p
    intro m1 H1 x1 s1
    cases e2 : f v h1 with
    | ok u h2 => rw [e2] at p; exact fun m2 H2 x2 s2 => p m2 H2 (x1.trans x2) s2
    | ex u h2 => rw [e2] at p; exact fun m2 H2 d x2 s2 => p m2 H2 d (x1.trans x2) s2
    | bad => rw [e2] at p; exact p
  | ex u h1 => rw [e] at p; exact p
  | bad => rw [e] at p; exact p
theorem Post.ret {v : α} {h : VH} {Q : List Addr → Hp → VH → α → Prop} (p : Post K W σ m H (ret v h) Q) (s : SR K m h H) : Q m H h v := p m H .refl s
theorem Post.lift {f : O α} {h : VH} {Q : List Addr → Hp → VH → α → Prop} (p : Post K W σ m H (liftO f h) Q) : ∃ v h', f h = some (v, h') ∧ ∀ m' H', Ext m H m' H' → SR K m' h' H' → Q m' H' h' v := by
  unfold liftO at p
  cases e : f h with
  | none => rw [e] at p; exact p.elim
  | some x =>
    obtain ⟨v, h'⟩ := x
    rw [e] at p
    exact ⟨v, h', rfl, p⟩
theorem Post.bad {h : VH} {Q : List Addr → Hp → VH → α → Prop} (p : Post K W σ m H (bad h) Q) : False := p
end

/-! ### the judgements -/
def TD (K : PySem.W.Frag) (W : WX) (d : Sl → M PV) : TE := fun σ H Q => ∃ m v h, SR K m h H ∧ SlD K m H v σ ∧ Post K W σ m H (d v h) fun m' H' _ u => ∀ x, Rep K m' H' u x → Q x H'
def TDT (K : PySem.W.Frag) (W : WX) (d : Sl → M Bool) : TT := fun σ H Q => ∃ m v h, SR K m h H ∧ SlD K m H v σ ∧ Post K W σ m H (d v h) fun m' H' _ u => Q u H'
def TDA (K : PySem.W.Frag) (W : WX) (d : Sl → M (List PV)) : TA := fun σ H Q => ∃ m v h, SR K m h H ∧ SlD K m H v σ ∧ Post K W σ m H (d v h) fun m' H' _ us => ∀ xs, Reps K m' H' us xs → Q xs H'
abbrev DE (X : Cx) (W : WX) (e : Expr) (d : Sl → M PV) : Prop := PE X e (TD X.K W d)
abbrev DT (X : Cx) (W : WX) (e : Expr) (d : Sl → M Bool) : Prop := PT X e (TDT X.K W d)
abbrev DA (X : Cx) (W : WX) (es : List Expr) (d : Sl → M (List PV)) : Prop := PA X es (TDA X.K W d)
theorem weakE {X : Cx} {e : Expr} {t t' : TE} (h : PE X e t) (w : ∀ σ H Q, t' σ H Q → t σ H Q) : PE X e t' := ⟨fun pins s σ H Q I q => h.run pins s σ H Q I (w σ H Q q)⟩
theorem weakT {X : Cx} {e : Expr} {t t' : TT} (h : PT X e t) (w : ∀ σ H Q, t' σ H Q → t σ H Q) : PT X e t' := ⟨fun pins s σ H Q I q => h.run pins s σ H Q I (w σ H Q q)⟩
theorem weakA {X : Cx} {e : List Expr} {t t' : TA} (h : PA X e t) (w : ∀ σ H Q, t' σ H Q → t σ H Q) : PA X e t' := ⟨fun pos pins s σ H Q I q => h.run pos pins s σ H Q I (w σ H Q q)⟩
end D

/-! layer D, part 1: expressions -/
namespace D
open PySem PySem.Spec PyProof.Rows L2

/-! ### what operations do to values -/
def rO2 (K : PySem.W.Frag) (g : PV → PV → O PV) : R2 := fun x y H Q => ∃ m h a b z h', SR K m h H ∧ Rep K m H a x ∧ Rep K m H b y ∧ g a b h = some (z, h') ∧ ∀ m' H' w, Ext m H m' H' → SR K m' h' H' → Rep K m' H' z w → Q w H'
def rO1 (K : PySem.W.Frag) (g : PV → O PV) : V → Hp → VK → Prop := fun x H Q => ∃ m h a z h', SR K m h H ∧ Rep K m H a x ∧ g a h = some (z, h') ∧ ∀ m' H' w, Ext m H m' H' → SR K m' h' H' → Rep K m' H' z w → Q w H'
def rOL (K : PySem.W.Frag) (g : List PV → O PV) : List V → Hp → VK → Prop := fun xs H Q => ∃ m h as z h', SR K m h H ∧ Reps K m H as xs ∧ g as h = some (z, h') ∧ ∀ m' H' w, Ext m H m' H' → SR K m' h' H' → Rep K m' H' z w → Q w H'
def rOM (K : PySem.W.Frag) (g : PV → List PV → O PV) : V → List V → Hp → VK → Prop := fun x xs H Q => ∃ m h a as z h', SR K m h H ∧ Rep K m H a x ∧ Reps K m H as xs ∧ g a as h = some (z, h') ∧ ∀ m' H' w, Ext m H m' H' → SR K m' h' H' → Rep K m' H' z w → Q w H'
def rOS (K : PySem.W.Frag) (g : PV → Option Int → Option Int → O PV) : V → Option Int → Option Int → Hp → VK → Prop := fun x lo hi H Q => ∃ m h a z h', SR K m h H ∧ Rep K m H a x ∧ g a lo hi h = some (z, h') ∧ ∀ m' H' w, Ext m H m' H' → SR K m' h' H' → Rep K m' H' z w → Q w H'
def rOP (K : PySem.W.Frag) (g : PV → PV → PV → O Unit) : TSet := fun o i v H Q => ∃ m h a b c h', SR K m h H ∧ Rep K m H a o ∧ Rep K m H b i ∧ Rep K m H c v ∧ g a b c h = some ((), h') ∧ ∀ m' H', Ext m H m' H' → SR K m' h' H' → Q H'

/-! ### denotations of expressions -/
def dVar (i : Nat) : Sl → M PV := fun v h => match v[i]? with
  | some (some u) => .ok u h
  | _ => .bad
def dC (u : PV) : Sl → M PV := fun _ => ret u
def dBin (g : PV → PV → O PV) (a b : Sl → M PV) : Sl → M PV := fun v => bnd (a v) fun x => bnd (b v) fun y => liftO (g x y)
def dUn (g : PV → O PV) (a : Sl → M PV) : Sl → M PV := fun v => bnd (a v) fun x => liftO (g x)
def asB : PV → M Bool
  | .bl b => ret b
  | _ => bad
def dAnd (a b : Sl → M PV) : Sl → M PV := fun v => bnd (a v) fun x => bnd (asB x) fun c => if c = true then b v else ret (.bl false)
def dOr (a b : Sl → M PV) : Sl → M PV := fun v => bnd (a v) fun x => bnd (asB x) fun c => if c = true then ret (.bl true) else b v
def dNot (a : Sl → M PV) : Sl → M PV := fun v => bnd (a v) fun x => bnd (asB x) fun c => ret (.bl (!c))
def dChain (g g' : PV → PV → O PV) (a b c : Sl → M PV) : Sl → M PV := fun v => bnd (a v) fun x => bnd (b v) fun y => bnd (liftO (g x y)) fun z => bnd (asB z) fun k =>
  if k = true then bnd (c v) fun w => liftO (g' y w) else ret (.bl false)
def dNil : Sl → M (List PV) := fun _ => ret []
def dCons (a : Sl → M PV) (r : Sl → M (List PV)) : Sl → M (List PV) := fun v => bnd (a v) fun x => bnd (r v) fun xs => ret (x :: xs)
def oTup (l : List PV) : O PV := fun h => if l.length ≤ 16777216 then some (.tup l, h) else none
def oLst (l : List PV) : O PV := fun h => if l.length ≤ 16777216 then some (.ref h.length, h ++ [.lst l]) else none
def dTup (a : Sl → M (List PV)) : Sl → M PV := fun v => bnd (a v) fun l => liftO (oTup l)
def dLst (a : Sl → M (List PV)) : Sl → M PV := fun v => bnd (a v) fun l => liftO (oLst l)
def dFn (g : List PV → O PV) (a : Sl → M (List PV)) : Sl → M PV := fun v => bnd (a v) fun l => liftO (g l)
def dCall (f : List PV → M PV) (a : Sl → M (List PV)) : Sl → M PV := fun v => bnd (a v) f
def dMt (g : PV → List PV → O PV) (o : Sl → M PV) (a : Sl → M (List PV)) : Sl → M PV := fun v => bnd (o v) fun x => bnd (a v) fun l => liftO (g x l)
def tVal (a : Sl → M PV) : Sl → M Bool := fun v => bnd (a v) asB
def tAndD (a b : Sl → M Bool) : Sl → M Bool := fun v => bnd (a v) fun c => if c = true then b v else ret false
def tOrD (a b : Sl → M Bool) : Sl → M Bool := fun v => bnd (a v) fun c => if c = true then ret true else b v
def tNotD (a : Sl → M Bool) : Sl → M Bool := fun v => bnd (a v) fun c => ret (!c)
def dIf (c : Sl → M Bool) (a b : Sl → M PV) : Sl → M PV := fun v => bnd (c v) fun k => if k = true then a v else b v
def dInt? : PV → M Int
  | .int i => ret i
  | _ => bad
def dPNone : Sl → M (Option Int) := fun _ => ret none
def dPSome (a : Sl → M PV) : Sl → M (Option Int) := fun v => bnd (a v) fun x => bnd (dInt? x) fun i => ret (some i)
def dSlice (g : PV → Option Int → Option Int → O PV) (a : Sl → M PV) (lo hi : Sl → M (Option Int)) : Sl → M PV := fun v => bnd (a v) fun x => bnd (lo v) fun l => bnd (hi v) fun u => liftO (g x l u)

section
variable {X : Cx} {W : WX} {a b c e : Expr} {es : List Expr} {da db dc : Sl → M PV} {dl : Sl → M (List PV)} {ta tb : Sl → M Bool} {pos : Pos}

theorem asB_inv {K : PySem.W.Frag} {σ : L2.St} {m : List Addr} {H : Hp} {β : Type} {x : PV} {f : Bool → M β} {h : VH} {Q : List Addr → Hp → VH → β → Prop} (p : Post K W σ m H (bnd (asB x) f h) Q) : ∃ k, x = .bl k ∧ Post K W σ m H (f k h) Q := by
  cases x <;> first | exact ⟨_, rfl, p⟩ | exact p.elim
theorem dInt_inv {K : PySem.W.Frag} {σ : L2.St} {m : List Addr} {H : Hp} {β : Type} {x : PV} {f : Int → M β} {h : VH} {Q : List Addr → Hp → VH → β → Prop} (p : Post K W σ m H (bnd (dInt? x) f h) Q) : ∃ k, x = .int k ∧ Post K W σ m H (f k h) Q := by
  cases x <;> first | exact ⟨_, rfl, p⟩ | exact p.elim
theorem rep_bl {K : PySem.W.Frag} {m : List Addr} {H : Hp} {k : Bool} {x : V} (r : Rep K m H (.bl k) x) : x = .bl k := by simpa only [Rep] using r
theorem rep_int {K : PySem.W.Frag} {m : List Addr} {H : Hp} {k : Int} {x : V} (r : Rep K m H (.int k) x) : x = .int k := by simpa only [Rep] using r
theorem rep_str {K : PySem.W.Frag} {m : List Addr} {H : Hp} {k : Str} {x : V} (r : Rep K m H (.str k) x) : x = .str k := by simpa only [Rep] using r
theorem rep_non {K : PySem.W.Frag} {m : List Addr} {H : Hp} {x : V} (r : Rep K m H .non x) : x = .non := by simpa only [Rep] using r
theorem rep_con {K : PySem.W.Frag} {m : List Addr} {H : Hp} {v x : V} (r : Rep K m H (.con v) x) : x = v := by simpa only [Rep] using r
theorem rep_tup {K : PySem.W.Frag} {m : List Addr} {H : Hp} {l : List PV} {x : V} (r : Rep K m H (.tup l) x) : ∃ a xs, x = .ref a ∧ TupAt K m H a xs ∧ Reps K m H l xs := by simpa only [Rep] using r
theorem rep_rol {K : PySem.W.Frag} {m : List Addr} {H : Hp} {l : List PV} {x : V} (r : Rep K m H (.rol l) x) : ∃ a xs, x = .ref a ∧ LstAt K m H a xs ∧ Reps K m H l xs := by simpa only [Rep] using r
theorem rep_ref {K : PySem.W.Frag} {m : List Addr} {H : Hp} {n : Nat} {x : V} (r : Rep K m H (.ref n) x) : ∃ a, x = .ref a ∧ m[n]? = some a := by simpa only [Rep] using r
theorem rep_bl' {K : PySem.W.Frag} {m : List Addr} {H : Hp} {k : Bool} : Rep K m H (.bl k) (.bl k) := by simp only [Rep]
theorem rep_int' {K : PySem.W.Frag} {m : List Addr} {H : Hp} {k : Int} : Rep K m H (.int k) (.int k) := by simp only [Rep]
theorem rep_str' {K : PySem.W.Frag} {m : List Addr} {H : Hp} {k : Str} : Rep K m H (.str k) (.str k) := by simp only [Rep]
theorem rep_non' {K : PySem.W.Frag} {m : List Addr} {H : Hp} : Rep K m H .non .non := by simp only [Rep]
theorem rep_con' {K : PySem.W.Frag} {m : List Addr} {H : Hp} {v : V} : Rep K m H (.con v) v := by simp only [Rep]
theorem rep_ref' {K : PySem.W.Frag} {m : List Addr} {H : Hp} {n : Nat} {a : Addr} (e : m[n]? = some a) : Rep K m H (.ref n) (.ref a) := by simp only [Rep]; exact ⟨a, rfl, e⟩

theorem de_var (i : Nat) {x : Str} (hN : X.N[i]? = some x := by rfl) (hv : Vis X.env.scope x := by first | exact Or.inl rfl | exact Or.inr (Or.inl rfl) | exact Or.inr (Or.inr rfl)) (hd : (x == ("__debug__" : Str)) = false := by decide)
    (hcd : (x == ("__classdict__" : Str)) = false := by decide) : DE X W (.Name x pos) (dVar i) :=
  weakE (pe_var hN hv hd hcd) fun σ H Q ⟨m, v, h, sr, sl, p⟩ => by
    unfold dVar at p
    split at p
    · rename_i u e
      obtain ⟨x, q, r⟩ := sl.at_ i u e
      exact ⟨x, q, p m H .refl sr x r⟩
    · exact p.elim
theorem weakC {u : PV} {w : V} (h : PE X e (tC w)) (hr : ∀ m H, Rep X.K m H u w) : DE X W e (dC u) :=
  weakE h fun σ H Q ⟨m, v, hh, sr, sl, p⟩ => p m H .refl sr w (hr m H)
theorem de_int {i : Int} {j} : DE X W (.Constant (.int i) j pos) (dC (.int i)) := weakC pe_int fun _ _ => rep_int'
theorem de_bl {k : Bool} {j} : DE X W (.Constant (.bool k) j pos) (dC (.bl k)) := weakC pe_bl fun _ _ => rep_bl'
theorem de_non {j} : DE X W (.Constant .none j pos) (dC .non) := weakC pe_non fun _ _ => rep_non'
theorem de_str {z : Str} {j} : DE X W (.Constant (.str z) j pos) (dC (.str z)) := weakC pe_str fun _ _ => rep_str'
/-- a module's constant (an int, a text), a class -/
theorem de_glob {x : Str} {p : PV} {v : V} {u : Value} (hg : Gl X x) (hm : X.mg x = some u) (r : RelV v u) (hr : ∀ m H, Rep X.K m H p v) (hd : (x == ("__debug__" : Str)) = false := by decide) : DE X W (.Name x pos) (dC p) := weakC (pe_glob hg hm r hd) hr
/-- a built-in class as a value -/
theorem de_ty {x : Str} {n : String} (hg : Gl X x) (hm : X.mg x = none) (hv : bootBuiltins x = some (.type n)) (hn : x ≠ "__name__" := by decide) (hd : (x == ("__debug__" : Str)) = false := by decide) : DE X W (.Name x pos) (dC (.con (.ty n))) :=
  weakC (pe_bltn (v := .ty n) hg hm hv rfl hn hd) fun _ _ => rep_con'

theorem seq2 {K : PySem.W.Frag} {σ : L2.St} {H : Hp} {g : PV → PV → M PV} {R : V → V → Hp → Prop}
    (h : ∃ m v h, SR K m h H ∧ SlD K m H v σ ∧ ∃ Q : List Addr → Hp → VH → PV → Prop, Post K W σ m H (bnd (da v) (fun x => bnd (db v) fun y => g x y) h) Q ∧
      ∀ m2 H2 h2 a b x y, Ext m H m2 H2 → SR K m2 h2 H2 → SlD K m2 H2 v σ → Rep K m2 H2 a x → Rep K m2 H2 b y → Post K W σ m2 H2 (g a b h2) Q → R x y H2) :
    TD K W da σ H fun x H1 => TD K W db σ H1 fun y H2 => R x y H2 := by
  obtain ⟨m, v, h, sr, sl, Q, p, k⟩ := h
  refine ⟨m, v, h, sr, sl, (Post.seq p).mono fun m1 H1 h1 a x1 sr1 p1 x rx => ⟨m1, v, h1, sr1, sl.ext x1, (Post.seq p1).mono fun m2 H2 h2 b x2 sr2 p2 y ry => ?_⟩⟩
  exact k m2 H2 h2 a b x y (x1.trans x2) sr2 (sl.ext (x1.trans x2)) (rx.ext x2) ry p2
theorem rO2_of {K : PySem.W.Frag} {σ : L2.St} {m : List Addr} {H : Hp} {h : VH} {g : PV → PV → O PV} {a b : PV} {x y : V} {Q : VK} (sr : SR K m h H) (ra : Rep K m H a x) (rb : Rep K m H b y) (p : Post K W σ m H (liftO (g a b) h) fun m' H' _ u => ∀ x, Rep K m' H' u x → Q x H') :
    rO2 K g x y H Q := by
  obtain ⟨z, h', e, q⟩ := Post.lift p
  exact ⟨m, h, a, b, z, h', sr, ra, rb, e, fun m' H' w x1 s1 r1 => q m' H' x1 s1 w r1⟩
theorem de_bin {op : Operator} {g : PV → PV → O PV} (ho : OpR X (binaryOp op) (rO2 X.K g)) (ha : DE X W a da) (hb : DE X W b db) : DE X W (.BinOp a op b pos) (dBin g da db) :=
  weakE (pe_op ho ha hb) fun σ H Q ⟨m, v, h, sr, sl, p⟩ => seq2 ⟨m, v, h, sr, sl, _, p, fun m2 H2 h2 a b x y x2 sr2 _ ra rb p2 => rO2_of sr2 ra rb p2⟩
theorem de_cmp {op : CmpOp} {g : PV → PV → O PV} (ho : OpR X (compareOp op) (rO2 X.K g)) (ha : DE X W a da) (hb : DE X W b db) (hm : behindInMarks op b = false := by first | exact nomark _ | with_unfolding_all rfl) : DE X W (.Compare a [op] [b] pos) (dBin g da db) :=
  weakE (pe_cmpR ho ha hb hm) fun σ H Q ⟨m, v, h, sr, sl, p⟩ => seq2 ⟨m, v, h, sr, sl, _, p, fun m2 H2 h2 a b x y x2 sr2 _ ra rb p2 => rO2_of sr2 ra rb p2⟩
theorem dt_cmp {op : CmpOp} {g : PV → PV → O PV} (ho : OpR X (compareOp op) (rO2 X.K g)) (ha : DE X W a da) (hb : DE X W b db) (hm : behindInMarks op b = false := by first | exact nomark _ | with_unfolding_all rfl) : DT X W (.Compare a [op] [b] pos) (tVal (dBin g da db)) :=
  weakT (pt_cmpR ho ha hb hm) fun σ H Q ⟨m, v, h, sr, sl, p⟩ => by
    have p' := Post.seq p
    refine seq2 ⟨m, v, h, sr, sl, _, p', fun m2 H2 h2 a b x y x2 sr2 _ ra rb p2 => ?_⟩
    refine rO2_of sr2 ra rb (p2.mono fun m3 H3 h3 z x3 sr3 p3 w rw_ => ?_)
    obtain ⟨k, rfl, p4⟩ := asB_inv (f := ret) (by
      have : bnd (asB z) ret = asB z := by funext h; cases z <;> rfl
      rw [this]; exact p3)
    exact ⟨k, rep_bl rw_, p4 m3 H3 .refl sr3⟩
theorem de_un {op : UnaryOp} {g : PV → O PV} (ho : UnR X (unaryOp op) (rO1 X.K g)) (ha : DE X W a da) : DE X W (.UnaryOp op a pos) (dUn g da) :=
  weakE (pe_un ho ha) fun σ H Q ⟨m, v, h, sr, sl, p⟩ => ⟨m, v, h, sr, sl, (Post.seq p).mono fun m1 H1 h1 a x1 sr1 p1 x rx => by
    obtain ⟨z, h', e, q⟩ := Post.lift p1
    exact ⟨m1, h1, a, z, h', sr1, rx, e, fun m' H' w x2 s2 r2 => q m' H' x2 s2 w r2⟩⟩
theorem de_one {op} (h : DE X W a da) : DE X W (.BoolOp op [a] pos) da := pe_one h
theorem de_and (ha : DE X W a da) (hb : DE X W (.BoolOp .And (b :: es) pos) db) : DE X W (.BoolOp .And (a :: b :: es) pos) (dAnd da db) :=
  weakE (pe_and ha hb) fun σ H Q ⟨m, v, h, sr, sl, p⟩ => ⟨m, v, h, sr, sl, (Post.seq p).mono fun m1 H1 h1 u x1 sr1 p1 x rx => by
    obtain ⟨k, rfl, p2⟩ := asB_inv p1
    refine ⟨k, rep_bl rx, ?_⟩
    cases k with
    | true => exact ⟨m1, v, h1, sr1, sl.ext x1, p2⟩
    | false => exact p2 m1 H1 .refl sr1 _ rep_bl'⟩
theorem de_or (ha : DE X W a da) (hb : DE X W (.BoolOp .Or (b :: es) pos) db) : DE X W (.BoolOp .Or (a :: b :: es) pos) (dOr da db) :=
  weakE (pe_or ha hb) fun σ H Q ⟨m, v, h, sr, sl, p⟩ => ⟨m, v, h, sr, sl, (Post.seq p).mono fun m1 H1 h1 u x1 sr1 p1 x rx => by
    obtain ⟨k, rfl, p2⟩ := asB_inv p1
    refine ⟨k, rep_bl rx, ?_⟩
    cases k with
    | false => exact ⟨m1, v, h1, sr1, sl.ext x1, p2⟩
    | true => exact p2 m1 H1 .refl sr1 _ rep_bl'⟩
theorem de_not (ha : DE X W a da) : DE X W (.UnaryOp .Not a pos) (dNot da) :=
  weakE (pe_not ha) fun σ H Q ⟨m, v, h, sr, sl, p⟩ => ⟨m, v, h, sr, sl, (Post.seq p).mono fun m1 H1 h1 u x1 sr1 p1 x rx => by
    obtain ⟨k, rfl, p2⟩ := asB_inv p1
    exact ⟨k, rep_bl rx, p2 m1 H1 .refl sr1 _ rep_bl'⟩⟩
theorem de_chain {op op' : CmpOp} {g g' : PV → PV → O PV} (ho : OpR X (compareOp op) (rO2 X.K g)) (ho' : OpR X (compareOp op') (rO2 X.K g')) (ha : DE X W a da) (hb : DE X W b db) (hc : DE X W c dc)
    (hm : lastMarks [op, op'] [b, c] = false := by with_unfolding_all rfl) : DE X W (.Compare a [op, op'] [b, c] pos) (dChain g g' da db dc) :=
  weakE (pe_chain ho ho' ha hb hc hm) fun σ H Q ⟨m, v, h, sr, sl, p⟩ => seq2 ⟨m, v, h, sr, sl, _, p, fun m2 H2 h2 a b x y x2 sr2 sl2 ra rb p2 => by
    refine rO2_of sr2 ra rb ((Post.seq p2).mono fun m3 H3 h3 z x3 sr3 p3 w rw_ => ?_)
    obtain ⟨k, rfl, p4⟩ := asB_inv p3
    refine ⟨k, rep_bl rw_, ?_⟩
    cases k with
    | false => exact p4 m3 H3 .refl sr3 _ rep_bl'
    | true =>
      refine ⟨m3, v, h3, sr3, sl2.ext x3, (Post.seq p4).mono fun m4 H4 h4 u x4 sr4 p5 w' rw' => ?_⟩
      exact rO2_of sr4 (rb.ext (x3.trans x4)) rw' p5⟩
theorem dt_chain {op op' : CmpOp} {g g' : PV → PV → O PV} (ho : OpR X (compareOp op) (rO2 X.K g)) (ho' : OpR X (compareOp op') (rO2 X.K g')) (ha : DE X W a da) (hb : DE X W b db) (hc : DE X W c dc)
    (hm : lastMarks [op, op'] [b, c] = false := by with_unfolding_all rfl) : DT X W (.Compare a [op, op'] [b, c] pos) (tVal (dChain g g' da db dc)) :=
  weakT (pt_chain ho ho' ha hb hc hm) fun σ H Q ⟨m, v, h, sr, sl, p⟩ => by
    have p' := Post.seq p
    have fin : ∀ {m3 : List Addr} {H3 : Hp} {h3 : VH} {z : PV} {w : V}, SR X.K m3 h3 H3 → Post X.K W σ m3 H3 (asB z h3) (fun m' H' _ u => Q u H') → Rep X.K m3 H3 z w → ∃ k, w = V.bl k ∧ Q k H3 := fun {m3 H3 h3 z w} sr3 p3 rw_ => by
      obtain ⟨k, rfl, p4⟩ := asB_inv (f := ret) (by
        have : bnd (asB z) ret = asB z := by funext h; cases z <;> rfl
        rw [this]; exact p3)
      exact ⟨k, rep_bl rw_, p4 m3 H3 .refl sr3⟩
    refine seq2 ⟨m, v, h, sr, sl, _, p', fun m2 H2 h2 a b x y x2 sr2 sl2 ra rb p2 => ?_⟩
    refine rO2_of sr2 ra rb ((Post.seq p2).mono fun m3 H3 h3 z x3 sr3 p3 w rw_ => ?_)
    obtain ⟨k, rfl, p4⟩ := asB_inv p3
    refine ⟨k, rep_bl rw_, ?_⟩
    cases k with
    | false =>
      have p5 := p4 m3 H3 .refl sr3
      exact fin sr3 p5 rep_bl'
    | true =>
      refine ⟨m3, v, h3, sr3, sl2.ext x3, (Post.seq p4).mono fun m4 H4 h4 u x4 sr4 p5 w' rw' => ?_⟩
      exact rO2_of sr4 (rb.ext (x3.trans x4)) rw' (p5.mono fun m5 H5 h5 q x5 sr5 p6 w2 r2 => fin sr5 p6 r2)

/-! ### tests -/
abbrev DW (X : Cx) (W : WX) (e : Expr) (d : Sl → M Bool) : Prop := PW X e (TDT X.K W d)
theorem weakW {e : Expr} {t t' : TT} (h : PW X e t) (w : ∀ σ H Q, t' σ H Q → t σ H Q) : PW X e t' := ⟨fun wh pins s σ H Q I q => h.run wh pins s σ H Q I (w σ H Q q)⟩
theorem dt_val (h : DE X W e da) (he : ∀ whole, isTrue e X.env whole = (do let v ← whole; standAt e.pos; holding [v] (truthy v)) := by intro _; rfl) : DT X W e (tVal da) :=
  weakT (pt_val h he) fun σ H Q ⟨m, v, h, sr, sl, p⟩ => ⟨m, v, h, sr, sl, (Post.seq p).mono fun m1 H1 h1 z x1 sr1 p1 x rx => by
    obtain ⟨k, rfl, p4⟩ := asB_inv (f := ret) (by
      have : bnd (asB z) ret = asB z := by funext h; cases z <;> rfl
      rw [this]; exact p1)
    exact ⟨k, rep_bl rx, p4 m1 H1 .refl sr1⟩⟩
theorem dw_and1 (ha : DT X W a ta) : DW X W (.BoolOp .And [a] pos) ta := pw_and1 ha
theorem dw_or1 (ha : DT X W a ta) : DW X W (.BoolOp .Or [a] pos) ta := pw_or1 ha
theorem dw_and (ha : DT X W a ta) (hb : DW X W (.BoolOp .And (b :: es) pos) tb) : DW X W (.BoolOp .And (a :: b :: es) pos) (tAndD ta tb) :=
  weakW (pw_and ha hb) fun σ H Q ⟨m, v, h, sr, sl, p⟩ => ⟨m, v, h, sr, sl, (Post.seq p).mono fun m1 H1 h1 c x1 sr1 p1 => by
    cases c with
    | true => exact ⟨m1, v, h1, sr1, sl.ext x1, p1⟩
    | false => exact p1 m1 H1 .refl sr1⟩
theorem dw_or (ha : DT X W a ta) (hb : DW X W (.BoolOp .Or (b :: es) pos) tb) : DW X W (.BoolOp .Or (a :: b :: es) pos) (tOrD ta tb) :=
  weakW (pw_or ha hb) fun σ H Q ⟨m, v, h, sr, sl, p⟩ => ⟨m, v, h, sr, sl, (Post.seq p).mono fun m1 H1 h1 c x1 sr1 p1 => by
    cases c with
    | false => exact ⟨m1, v, h1, sr1, sl.ext x1, p1⟩
    | true => exact p1 m1 H1 .refl sr1⟩
theorem dt_w (h : DW X W e ta) : DT X W e ta := h.pt
theorem dt_not (ha : DT X W a ta) : DT X W (.UnaryOp .Not a pos) (tNotD ta) :=
  weakT (pt_not ha) fun σ H Q ⟨m, v, h, sr, sl, p⟩ => ⟨m, v, h, sr, sl, (Post.seq p).mono fun m1 H1 h1 c x1 sr1 p1 => p1 m1 H1 .refl sr1⟩
theorem de_ifExp (hc : DT X W c ta) (ha : DE X W a da) (hb : DE X W b db) : DE X W (.IfExp c a b pos) (dIf ta da db) :=
  weakE (pe_ifExp hc ha hb) fun σ H Q ⟨m, v, h, sr, sl, p⟩ => ⟨m, v, h, sr, sl, (Post.seq p).mono fun m1 H1 h1 c x1 sr1 p1 => by
    cases c with
    | true => exact ⟨m1, v, h1, sr1, sl.ext x1, p1⟩
    | false => exact ⟨m1, v, h1, sr1, sl.ext x1, p1⟩⟩

/-! ### arguments, displays, calls of built-ins -/
theorem da_nil : DA X W [] dNil := weakA pa_nil fun σ H Q ⟨m, v, h, sr, sl, p⟩ => p m H .refl sr [] Reps.nil
theorem da_cons (ha : DE X W e da) (hr : DA X W es dl) (hs : starEach (e :: es) X.env = (false, eval e X.env) :: starEach es X.env := by rfl) : DA X W (e :: es) (dCons da dl) :=
  weakA (pa_cons ha hr hs) fun σ H Q ⟨m, v, h, sr, sl, p⟩ => ⟨m, v, h, sr, sl, (Post.seq p).mono fun m1 H1 h1 u x1 sr1 p1 x rx => ⟨m1, v, h1, sr1, sl.ext x1, (Post.seq p1).mono fun m2 H2 h2 us x2 sr2 p2 xs rs =>
    p2 m2 H2 .refl sr2 (x :: xs) (Reps.cons (rx.ext x2) rs)⟩⟩
theorem de_tup {x1} (h : DA X W es dl) : DE X W (.Tuple es x1 pos) (dTup dl) :=
  weakE (pe_tup h) fun σ H Q ⟨m, v, h, sr, sl, p⟩ => ⟨m, v, h, sr, sl, (Post.seq p).mono fun m1 H1 h1 us x1 sr1 p1 xs rs => by
    obtain ⟨z, h', e, q⟩ := Post.lift p1
    unfold oTup at e
    split at e
    · rename_i hl
      cases e
      refine ⟨by rw [rs.len, sizeLine_eq]; exact hl, fun p np => q m1 _ (.upd_new np) (sr1.more np) _ (sr1.tup np rs)⟩
    · cases e⟩
theorem de_lst (h : DA X W es dl) : DE X W (.List es pos) (dLst dl) :=
  weakE (pe_lst h) fun σ H Q ⟨m, v, h, sr, sl, p⟩ => ⟨m, v, h, sr, sl, (Post.seq p).mono fun m1 H1 h1 us x1 sr1 p1 xs rs => by
    obtain ⟨z, h', e, q⟩ := Post.lift p1
    unfold oLst at e
    split at e
    · rename_i hl
      cases e
      refine ⟨by rw [rs.len, sizeLine_eq]; exact hl, fun p np => q (m1 ++ [p]) _ (.upd_add np) (sr1.addLst np rs) _ (rep_ref' ?_)⟩
      rw [← sr1.len, List.getElem?_append_right (Nat.le_refl _)]
      simp
    · cases e⟩
theorem callD {K : PySem.W.Frag} {σ : L2.St} {H : Hp} {Q : VK} {g : List PV → O PV} (h : TD K W (dFn g dl) σ H Q) : TDA K W dl σ H fun xs H1 => rOL K g xs H1 Q := by
  obtain ⟨m, v, h, sr, sl, p⟩ := h
  refine ⟨m, v, h, sr, sl, (Post.seq p).mono fun m1 H1 h1 us x1 sr1 p1 xs rs => ?_⟩
  obtain ⟨z, h', e, q⟩ := Post.lift p1
  exact ⟨m1, h1, us, z, h', sr1, rs, e, fun m' H' w x2 s2 r2 => q m' H' x2 s2 w r2⟩
theorem de_callB {x : Str} {id : String} {p : Pos} {g : List PV → O PV} (hc : CallR X (.builtin id) (rOL X.K g)) (hg : Gl X x) (hm : X.mg x = none) (hv : bootBuiltins x = some (.builtin id)) (ha : DA X W (e :: es) dl) (hn : x ≠ "__name__" := by decide) (hdb : (x == ("__debug__" : Str)) = false := by decide)
    (he : starEach (e :: es) X.env = (false, eval e X.env) :: starEach es X.env := by rfl) (hpl : (backTo pos (starEach es X.env)).any (·.1) = false := by rfl) : DE X W (.Call (.Name x p) (e :: es) [] pos) (dFn g dl) :=
  weakE (pe_callB hc hg hm hv ha hn hdb he hpl) fun σ H Q h => callD h
theorem de_callTy {x : Str} {T : String} {p : Pos} {g : List PV → O PV} (hc : CallR X (.type T) (rOL X.K g)) (hg : Gl X x) (hm : X.mg x = none) (hv : bootBuiltins x = some (.type T)) (ha : DA X W (e :: es) dl) (hn : x ≠ "__name__" := by decide) (hdb : (x == ("__debug__" : Str)) = false := by decide)
    (he : starEach (e :: es) X.env = (false, eval e X.env) :: starEach es X.env := by rfl) (hpl : (backTo pos (starEach es X.env)).any (·.1) = false := by rfl) : DE X W (.Call (.Name x p) (e :: es) [] pos) (dFn g dl) :=
  weakE (pe_callTy hc hg hm hv ha hn hdb he hpl) fun σ H Q h => callD h
theorem de_callTy0 {x : Str} {T : String} {p : Pos} {g : List PV → O PV} (hc : CallR X (.type T) (rOL X.K g)) (hg : Gl X x) (hm : X.mg x = none) (hv : bootBuiltins x = some (.type T)) (hn : x ≠ "__name__" := by decide) (hdb : (x == ("__debug__" : Str)) = false := by decide) : DE X W (.Call (.Name x p) [] [] pos) (dFn g dNil) :=
  weakE (pe_callTy0 hc hg hm hv hn hdb) fun σ H Q ⟨m, v, h, sr, sl, p⟩ => by
    obtain ⟨z, h', e, q⟩ := Post.lift (Post.seq p m H .refl sr)
    exact ⟨m, h, [], z, h', sr, Reps.nil, e, fun m' H' w x2 s2 r2 => q m' H' x2 s2 w r2⟩
/-- a[b] -/
theorem de_ix {g : PV → PV → O PV} (hr : IxR X (rO2 X.K g)) (ha : DE X W a da) (hb : DE X W b db) (hs : PlainIx b := by intro _ _; rfl) : DE X W (.Subscript a b pos) (dBin g da db) :=
  weakE (pe_ix hr ha hb hs) fun σ H Q ⟨m, v, h, sr, sl, p⟩ => seq2 ⟨m, v, h, sr, sl, _, p, fun m2 H2 h2 a b x y x2 sr2 _ ra rb p2 => rO2_of sr2 ra rb p2⟩
def TDO (K : PySem.W.Frag) (W : WX) (d : Sl → M (Option Int)) : TO := fun σ H Q => ∃ m v h, SR K m h H ∧ SlD K m H v σ ∧ Post K W σ m H (d v h) fun m' H' _ u => Q u H'
abbrev DO (X : Cx) (W : WX) (e : Option Expr) (d : Sl → M (Option Int)) : Prop := PO X e (TDO X.K W d)
theorem weakO {e : Option Expr} {t t' : TO} (h : PO X e t) (w : ∀ σ H Q, t' σ H Q → t σ H Q) : PO X e t' := ⟨fun pins s σ H Q I q => h.run pins s σ H Q I (w σ H Q q)⟩
theorem do_none : DO X W none dPNone := weakO po_none fun σ H Q ⟨m, v, h, sr, sl, p⟩ => p m H .refl sr
theorem do_some (ha : DE X W a da) : DO X W (some a) (dPSome da) := weakO (po_some ha) fun σ H Q ⟨m, v, h, sr, sl, p⟩ => ⟨m, v, h, sr, sl, (Post.seq p).mono fun m1 H1 h1 z x1 sr1 p1 x rx => by
  obtain ⟨k, rfl, p4⟩ := dInt_inv p1
  exact ⟨k, rep_int rx, p4 m1 H1 .refl sr1⟩⟩
theorem de_slice {g : PV → Option Int → Option Int → O PV} {lo hi : Option Expr} {dlo dhi : Sl → M (Option Int)} {p2 : Pos} (hr : L2.SlR X (rOS X.K g)) (he : DE X W e da) (hl : DO X W lo dlo) (hu : DO X W hi dhi) : DE X W (.Subscript e (.Slice lo hi none p2) pos) (dSlice g da dlo dhi) :=
  weakE (pe_slice hr he hl hu) fun σ H Q ⟨m, v, h, sr, sl, p⟩ => ⟨m, v, h, sr, sl, (Post.seq p).mono fun m1 H1 h1 z x1 sr1 p1 x rx => ⟨m1, v, h1, sr1, sl.ext x1, (Post.seq p1).mono fun m2 H2 h2 l x2 sr2 p2 =>
    ⟨m2, v, h2, sr2, sl.ext (x1.trans x2), (Post.seq p2).mono fun m3 H3 h3 u x3 sr3 p3 => by
      obtain ⟨z', h', e, q⟩ := Post.lift p3
      exact ⟨m3, h3, z, z', h', sr3, rx.ext (x2.trans x3), e, fun m' H' w x4 s4 r4 => q m' H' x4 s4 w r4⟩⟩⟩⟩
theorem de_bm {T name id : String} {g : PV → List PV → O PV} {o : Expr} {do_ : Sl → M PV} {apos : Pos} (pa : PlainAttrs T) (slot : Slot T name id) (hty : typeOf (.builtin id) = pure (.type "method_descriptor")) (hm : MtR X id (rOM X.K g)) (ho : DE X W o do_) (ha : DA X W (e :: es) dl) : True := trivial
end
end D

/-! layer D, part 2: what is walked, comprehensions, statements -/
namespace D
open PySem PySem.Spec PyProof.Rows L2

mutual
def PV.beq : PV → PV → Bool
  | .non, .non => true
  | .bl a, .bl b => a == b
  | .int a, .int b => a == b
  | .str a, .str b => decide (a = b)
  | .con a, .con b => decide (a = b)
  | .ref a, .ref b => a == b
  | .tup a, .tup b => PV.beqs a b
  | .rol a, .rol b => PV.beqs a b
  | _, _ => false
def PV.beqs : List PV → List PV → Bool
  | [], [] => true
  | a :: l, b :: r => PV.beq a b && PV.beqs l r
  | _, _ => false
end
mutual
theorem PV.beq_eq : ∀ {a b : PV}, PV.beq a b = true → a = b
  | .non, .non, _ => rfl
  | .bl a, .bl b, h => by simp [PV.beq] at h; rw [h]
  | .int a, .int b, h => by simp [PV.beq] at h; rw [h]
  | .str a, .str b, h => by simp [PV.beq] at h; rw [h]
  | .con a, .con b, h => by simp [PV.beq] at h; rw [h]
  | .ref a, .ref b, h => by simp [PV.beq] at h; rw [h]
  | .tup a, .tup b, h => by simp [PV.beq] at h; rw [PV.beqs_eq h]
  | .rol a, .rol b, h => by simp [PV.beq] at h; rw [PV.beqs_eq h]
  | .non, .bl _, h => by simp [PV.beq] at h
  | .non, .int _, h => by simp [PV.beq] at h
  | .non, .str _, h => by simp [PV.beq] at h
  | .non, .con _, h => by simp [PV.beq] at h
  | .non, .ref _, h => by simp [PV.beq] at h
  | .non, .tup _, h => by simp [PV.beq] at h
  | .non, .rol _, h => by simp [PV.beq] at h
  | .bl _, .non, h => by simp [PV.beq] at h
  | .bl _, .int _, h => by simp [PV.beq] at h
  | .bl _, .str _, h => by simp [PV.beq] at h
  | .bl _, .con _, h => by simp [PV.beq] at h
  | .bl _, .ref _, h => by simp [PV.beq] at h
  | .bl _, .tup _, h => by simp [PV.beq] at h
  | .bl _, .rol _, h => by simp [PV.beq] at h
  | .int _, .non, h => by simp [PV.beq] at h
  | .int _, .bl _, h => by simp [PV.beq] at h
  | .int _, .str _, h => by simp [PV.beq] at h
  | .int _, .con _, h => by simp [PV.beq] at h
  | .int _, .ref _, h => by simp [PV.beq] at h
  | .int _, .tup _, h => by simp [PV.beq] at h
  | .int _, .rol _, h => by simp [PV.beq] at h
  | .str _, .non, h => by simp [PV.beq] at h
  | .str _, .bl _, h => by simp [PV.beq] at h
  | .str _, .int _, h => by simp [PV.beq] at h
  | .str _, .con _, h => by simp [PV.beq] at h
  | .str _, .ref _, h => by simp [PV.beq] at h
  | .str _, .tup _, h => by simp [PV.beq] at h
  | .str _, .rol _, h => by simp [PV.beq] at h
  | .con _, .non, h => by simp [PV.beq] at h
  | .con _, .bl _, h => by simp [PV.beq] at h
  | .con _, .int _, h => by simp [PV.beq] at h
  | .con _, .str _, h => by simp [PV.beq] at h
  | .con _, .ref _, h => by simp [PV.beq] at h
  | .con _, .tup _, h => by simp [PV.beq] at h
  | .con _, .rol _, h => by simp [PV.beq] at h
  | .ref _, .non, h => by simp [PV.beq] at h
  | .ref _, .bl _, h => by simp [PV.beq] at h
  | .ref _, .int _, h => by simp [PV.beq] at h
  | .ref _, .str _, h => by simp [PV.beq] at h
  | .ref _, .con _, h => by simp [PV.beq] at h
  | .ref _, .tup _, h => by simp [PV.beq] at h
  | .ref _, .rol _, h => by simp [PV.beq] at h
  | .tup _, .non, h => by simp [PV.beq] at h
  | .tup _, .bl _, h => by simp [PV.beq] at h
  | .tup _, .int _, h => by simp [PV.beq] at h
  | .tup _, .str _, h => by simp [PV.beq] at h
  | .tup _, .con _, h => by simp [PV.beq] at h
  | .tup _, .ref _, h => by simp [PV.beq] at h
  | .tup _, .rol _, h => by simp [PV.beq] at h
  | .rol _, .non, h => by simp [PV.beq] at h
  | .rol _, .bl _, h => by simp [PV.beq] at h
  | .rol _, .int _, h => by simp [PV.beq] at h
  | .rol _, .str _, h => by simp [PV.beq] at h
  | .rol _, .con _, h => by simp [PV.beq] at h
  | .rol _, .ref _, h => by simp [PV.beq] at h
  | .rol _, .tup _, h => by simp [PV.beq] at h
theorem PV.beqs_eq : ∀ {a b : List PV}, PV.beqs a b = true → a = b
  | [], [], _ => rfl
  | a :: l, b :: r, h => by
    simp [PV.beqs] at h
    rw [PV.beq_eq h.1, PV.beqs_eq h.2]
  | [], _ :: _, h => by simp [PV.beqs] at h
  | _ :: _, [], h => by simp [PV.beqs] at h
end
mutual
theorem PV.beq_refl : ∀ a : PV, PV.beq a a = true
  | .non => rfl
  | .bl _ => by simp [PV.beq]
  | .int _ => by simp [PV.beq]
  | .str _ => by simp [PV.beq]
  | .con _ => by simp [PV.beq]
  | .ref _ => by simp [PV.beq]
  | .tup l => by simp [PV.beq, PV.beqs_refl l]
  | .rol l => by simp [PV.beq, PV.beqs_refl l]
theorem PV.beqs_refl : ∀ l : List PV, PV.beqs l l = true
  | [] => rfl
  | a :: l => by simp [PV.beqs, PV.beq_refl a, PV.beqs_refl l]
end

/-! ### what is walked: the items, and the lists that must stay as they are meanwhile -/
structure Its' where
  items : List PV
  src : List (Nat × List PV) := []
def srcOk (h : VH) (src : List (Nat × List PV)) : Bool := src.all fun p => match h[p.1]? with
  | some (.lst l) => PV.beqs l p.2
  | _ => false
@[simp] theorem srcOk_nil (h : VH) : srcOk h [] = true := rfl
theorem srcOk_mem {h : VH} {src : List (Nat × List PV)} (q : srcOk h src = true) {n : Nat} {l : List PV} (hm : (n, l) ∈ src) : h[n]? = some (.lst l) := by
  unfold srcOk at q
  have := List.all_eq_true.mp q _ hm
  simp only at this
  split at this
  · rename_i l' e
    rw [e, PV.beqs_eq this]
  · cases this
/-- the walk J gives the items -/
def ItD (K : PySem.W.Frag) (J : It) (m : List Addr) (H : Hp) (it : Its') : Prop :=
  ∀ (i : Nat) (m' : List Addr) (h' : VH) (H' : Hp), Ext m H m' H' → SR K m' h' H' → srcOk h' it.src = true →
    (i < it.items.length → J.go i H' ∧ ∀ x H'', J.yld i H' x H'' → ∃ v, it.items[i]? = some v ∧ Rep K m' H'' v x ∧ Ext m' H' m' H'' ∧ SR K m' h' H'') ∧ (i = it.items.length → J.stop i H')
theorem ItD.ext {K : PySem.W.Frag} {J : It} {m m1 : List Addr} {H H1 : Hp} {it : Its'} (t : ItD K J m H it) (p : Ext m H m1 H1) : ItD K J m1 H1 it :=
  fun i m' h' H' x s q => t i m' h' H' (p.trans x) s q
def TDI (K : PySem.W.Frag) (W : WX) (d : Sl → M Its') : TI := fun σ H R => ∃ m v h, SR K m h H ∧ SlD K m H v σ ∧ Post K W σ m H (d v h) fun m' H' h' it => ∀ J, ItD K J m' H' it → R J H'
abbrev DI (X : Cx) (W : WX) (tg e : Expr) (d : Sl → M Its') : Prop := PI X tg e (TDI X.K W d)
theorem weakI {X : Cx} {tg e : Expr} {t t' : TI} (h : PI X tg e t) (w : ∀ σ H Q, t' σ H Q → t σ H Q) : PI X tg e t' := ⟨fun pins s σ H R I q => h.run pins s σ H R I (w σ H R q)⟩

/-- another heap in which the same stands -/
theorem TupAt.dummy : True := trivial
mutual
theorem Rep.re {K : PySem.W.Frag} {m m1 : List Addr} {H H1 : Hp} (p : ∀ (k : Nat) (a : Addr), m[k]? = some a → m1[k]? = some a) (q : ∀ a xs, TupAt K m H a xs → TupAt K m1 H1 a xs) (q2 : ∀ a xs, LstAt K m H a xs → LstAt K m1 H1 a xs) : ∀ (v : PV) (x : V), Rep K m H v x → Rep K m1 H1 v x
  | .non, _, r => r
  | .bl _, _, r => r
  | .int _, _, r => r
  | .str _, _, r => r
  | .con _, _, r => r
  | .ref n, _, r => by
    obtain ⟨a, e, z⟩ := rep_ref r
    subst e
    exact rep_ref' (p n a z)
  | .tup l, _, r => by
    obtain ⟨a, xs, e, z, t⟩ := rep_tup r
    simp only [Rep]
    exact ⟨a, xs, e, q a xs z, Reps.re p q q2 l xs t⟩
  | .rol l, _, r => by
    obtain ⟨a, xs, e, z, t⟩ := rep_rol r
    simp only [Rep]
    exact ⟨a, xs, e, q2 a xs z, Reps.re p q q2 l xs t⟩
theorem Reps.re {K : PySem.W.Frag} {m m1 : List Addr} {H H1 : Hp} (p : ∀ (k : Nat) (a : Addr), m[k]? = some a → m1[k]? = some a) (q : ∀ a xs, TupAt K m H a xs → TupAt K m1 H1 a xs) (q2 : ∀ a xs, LstAt K m H a xs → LstAt K m1 H1 a xs) : ∀ (l : List PV) (xs : List V), Reps K m H l xs → Reps K m1 H1 l xs
  | [], _, r => r
  | v :: l, _, r => by
    obtain ⟨x, t, e, r1, r2⟩ := r.cons_inv
    subst e
    exact Reps.cons (Rep.re p q q2 v x r1) (Reps.re p q q2 l t r2)
end

/-! ### targets -/
def dgName (i : Nat) : PV → Sl → M Sl := fun u v => ret (v.set i (some u))
def TDG (K : PySem.W.Frag) (W : WX) (d : PV → Sl → M Sl) (is : List Nat) : TG := fun x σ H Q => ∃ m v h u, SR K m h H ∧ SlD K m H v σ ∧ Rep K m H u x ∧
  Post K W σ m H (d u v h) fun m' H' _ v' => ∀ σ', SlD K m' H' v' σ' → (∀ vs, (∀ i ∈ is, i ∈ vs) → L2.wipe σ' vs = L2.wipe σ vs) → Q σ' H'
abbrev DG (X : Cx) (W : WX) (tg : Expr) (d : PV → Sl → M Sl) (is : List Nat) : Prop := PG X tg (TDG X.K W d is)
theorem weakG {X : Cx} {tg : Expr} {t t' : TG} (h : PG X tg t) (w : ∀ x σ H Q, t' x σ H Q → t x σ H Q) : PG X tg t' := ⟨fun pins s σ H v u Q I r q => h.run pins s σ H v u Q I r (w v σ H Q q)⟩
theorem wipe_get {σ : L2.St} : ∀ {vs : List Nat} {j : Nat}, j < σ.length → (L2.wipe σ vs)[j]? = if j ∈ vs then some none else σ[j]?
  | [], j, h => by simp [L2.wipe]
  | i :: vs, j, h => by
    unfold L2.wipe
    by_cases e : j = i
    · subst e
      rw [List.getElem?_set_self (by rw [L2.wipe_length]; exact h)]
      simp
    · rw [List.getElem?_set_ne (Ne.symm e), wipe_get h]
      simp [e]
theorem wipe_set {σ : L2.St} {i : Nat} {x : Option V} {vs : List Nat} (hi : i ∈ vs) : L2.wipe (σ.set i x) vs = L2.wipe σ vs := by
  refine List.ext_getElem? fun j => ?_
  by_cases hj : j < σ.length
  · rw [wipe_get (by simpa using hj), wipe_get hj]
    by_cases hm : j ∈ vs
    · simp [hm]
    · rw [if_neg hm, if_neg hm, List.getElem?_set_ne (fun e : i = j => hm (e ▸ hi))]
  · rw [List.getElem?_eq_none (by rw [L2.wipe_length]; simpa using hj), List.getElem?_eq_none (by rw [L2.wipe_length]; simpa using hj)]
section
variable {X : Cx} {W : WX} {pos : Pos}
theorem dg_name (i : Nat) {x : Str} (hN : X.N.Nodup) (hi : X.N[i]? = some x := by rfl) (hx : Loc X.env.scope x := by first | exact Or.inl rfl | exact Or.inr rfl) (hf : X.fn x = true ∨ X.env.scope.names.lookup x = some .local := by first | exact .inl rfl | exact .inr rfl | assumption) : DG X W (.Name x pos) (dgName i) [i] :=
  weakG (pg_name hN hi hx hf) fun x σ H Q ⟨m, v, h, u, sr, sl, r, p⟩ => p m H .refl sr _ (sl.set i r) fun vs hv => wipe_set (hv i (List.mem_singleton.mpr rfl))
/-- several targets, the items in order -/
def dgsNil : List PV → Sl → M Sl := fun us v => match us with
  | [] => ret v
  | _ => bad
def dgsCons (d : PV → Sl → M Sl) (r : List PV → Sl → M Sl) : List PV → Sl → M Sl := fun us v => match us with
  | u :: us => bnd (d u v) fun v' => r us v'
  | [] => bad
/-- the items of a list -/
def lstOf (h : VH) : PV → Option (List PV)
  | .rol l => some l
  | .ref n => match h[n]? with
    | some (.lst l) => some l
    | _ => none
  | _ => none
theorem lst_sq {K : PySem.W.Frag} {m : List Addr} {h : VH} {H : Hp} {b : PV} {l : List PV} {y : V} (s : SR K m h H) (e : lstOf h b = some l) (r : Rep K m H b y) : ∃ a xs, y = .ref a ∧ SqL K H a xs ∧ Reps K m H l xs := by
  cases b <;> try (simp only [lstOf, reduceCtorEq] at e; done)
  · simp only [lstOf] at e
    cases e
    obtain ⟨a, xs, rfl, t, rs⟩ := rep_rol r
    exact ⟨a, xs, rfl, t.sq, rs⟩
  · rename_i n
    simp only [lstOf] at e
    split at e
    · rename_i l' el
      cases e
      obtain ⟨a, rfl, ha⟩ := rep_ref r
      obtain ⟨xs, q, rs⟩ := s.obj n _ a el ha
      exact ⟨a, xs, rfl, .of q, rs⟩
    · cases e
def dgTup (n : Nat) (d : List PV → Sl → M Sl) : PV → Sl → M Sl := fun u v h => match u with
  | .tup l => if l.length = n then d l v h else .bad
  | u => match lstOf h u with
    | some l => if l.length = n then d l v h else .bad
    | none => .bad
def TDGs (K : PySem.W.Frag) (W : WX) (d : List PV → Sl → M Sl) (is : List Nat) : TGs := fun xs σ H Q => ∃ m v h us, SR K m h H ∧ SlD K m H v σ ∧ Reps K m H us xs ∧
  Post K W σ m H (d us v h) fun m' H' _ v' => ∀ σ', SlD K m' H' v' σ' → (∀ vs, (∀ i ∈ is, i ∈ vs) → L2.wipe σ' vs = L2.wipe σ vs) → Q σ' H'
abbrev DGs (X : Cx) (W : WX) (tg : List Expr) (d : List PV → Sl → M Sl) (is : List Nat) : Prop := PGs X tg (TDGs X.K W d is)
theorem weakGs {X : Cx} {tg : List Expr} {t t' : TGs} (h : PGs X tg t) (w : ∀ x σ H Q, t' x σ H Q → t x σ H Q) : PGs X tg t' := ⟨fun pins s σ H v u Q I r q => h.run pins s σ H v u Q I r (w v σ H Q q)⟩
theorem dgs_nil : DGs X W [] dgsNil [] := weakGs pgs_nil fun xs σ H Q ⟨m, v, h, us, sr, sl, r, p⟩ => by
  cases us with
  | nil => exact ⟨r.nil_inv, p m H .refl sr _ sl fun _ _ => rfl⟩
  | cons _ _ => exact p.elim
/-- names alone (no exception, so the wish may speak of the slots) -/
theorem dgs_cons {e : Expr} {es : List Expr} {i : Nat} {d : List PV → Sl → M Sl} {is : List Nat} (h1 : DG X (fun _ _ _ _ => False) e (dgName i) [i]) (h2 : DGs X (fun _ _ _ _ => False) es d is)
    (hs : (assignEach (e :: es) X.env).map (·.2) = assign e X.env :: (assignEach es X.env).map (·.2) := by rfl) : DGs X (fun _ _ _ _ => False) (e :: es) (dgsCons (dgName i) d) (i :: is) :=
  weakGs (pgs_cons h1 h2 hs) fun xs σ H Q ⟨m, v, h, us, sr, sl, r, p⟩ => by
    cases us with
    | nil => exact p.elim
    | cons u us =>
      obtain ⟨x, t, rfl, r1, r2⟩ := r.cons_inv
      refine ⟨x, t, rfl, m, v, h, u, sr, sl, r1, fun m1 H1 x1 sr1 σ1 sl1 w1 => ?_⟩
      refine ⟨m1, _, h, us, sr1, sl1, r2.ext x1, ?_⟩
      have p1 : Post X.K (fun _ _ _ _ => False) σ m H (d us (v.set i (some u)) h) _ := p
      cases e1 : d us (v.set i (some u)) h with
      | ok v2 h2 =>
        rw [e1] at p1
        intro m2 H2 x2 sr2 σ2 sl2 w2
        exact p1 m2 H2 (x1.trans x2) sr2 σ2 sl2 fun vs hv => by
          rw [w2 vs fun j hj => hv j (List.mem_cons_of_mem _ hj), w1 vs fun j hj => hv j (by rw [List.mem_singleton.mp hj]; exact List.mem_cons_self)]
      | ex u2 h2 => rw [e1] at p1; exact fun m2 H2 dd x2 sr2 xr => p1 m2 H2 dd (x1.trans x2) sr2 xr
      | bad => rw [e1] at p1; exact p1
theorem dg_nox {tg : Expr} {d : PV → Sl → M Sl} {is : List Nat} (h : DG X (fun _ _ _ _ => False) tg d is) (hd : ∀ u v h e h', d u v h ≠ .ex e h') : DG X W tg d is :=
  weakG h fun x σ H Q ⟨m, v, h, u, sr, sl, r, p⟩ => ⟨m, v, h, u, sr, sl, r, by
    cases e1 : d u v h with
    | ok v2 h2 => rw [e1] at p; exact p
    | ex u2 h2 => exact absurd e1 (hd _ _ _ _ _)
    | bad => rw [e1] at p; exact p⟩
theorem dg_tup {es : List Expr} {k : Nat} {d : List PV → Sl → M Sl} {is : List Nat} {n : Nat} (hc : X.calm = true) (h : DGs X (fun _ _ _ _ => False) es d is)
    (hn : (assignEach es X.env).length = n := by rfl) (hst : (assignEach es X.env).findIdx? (·.1) = none := by rfl) : DG X (fun _ _ _ _ => False) (.Tuple es k pos) (dgTup n d) is :=
  ⟨fun pins s σ H vv uu Q I r ⟨m, v, hh, u, sr, sl, ru, p⟩ => by
    by_cases isT : ∃ l, u = .tup l
    · obtain ⟨l, rfl⟩ := isT
      obtain ⟨a, xs, rfl, t, rs⟩ := rep_tup ru
      unfold dgTup at p
      simp only at p
      split at p
      · rename_i hl
        exact (pg_tup hc h hn hst).run pins s σ H _ uu Q I r ⟨a, xs, rfl, t.sq, by rw [rs.len, hl], m, v, hh, l, sr, sl, rs, p⟩
      · exact p.elim
    · have e1 : dgTup n d u v hh = match lstOf hh u with
        | some l => if l.length = n then d l v hh else .bad
        | none => .bad := by
        unfold dgTup
        split
        · exact absurd ⟨_, rfl⟩ isT
        · rfl
      rw [e1] at p
      split at p
      · rename_i l el
        split at p
        · rename_i hl
          obtain ⟨a, xs, rfl, q, rs⟩ := lst_sq sr el ru
          exact (pg_unl hc h hn hst).run pins s σ H _ uu Q I r ⟨a, xs, rfl, q, by rw [rs.len, hl], m, v, hh, l, sr, sl, rs, p⟩
        · exact p.elim
      · exact p.elim⟩
/-- o[i] = .. -/
def dgSub (g : PV → PV → PV → O Unit) (a b : Sl → M PV) : PV → Sl → M Sl := fun u v => bnd (a v) fun o => bnd (b v) fun i => bnd (liftO (g o i u)) fun _ => ret v
theorem dg_sub {o i : Expr} {da db : Sl → M PV} {g : PV → PV → PV → O Unit} (ho : DE X W o da) (hi : DE X W i db) (hs : PSet X (rOP X.K g))
    (ha : ∀ v, assign (.Subscript o i pos) X.env v = (do
      let ov ← holding [v] (eval o X.env)
      let iv ← holding [v, ov] (eval i X.env)
      standAt pos
      holding [v, ov, iv] (setItem ov iv v)
      release [v, ov, iv] []) := by intro _; rfl) : DG X W (.Subscript o i pos) (dgSub g da db) [] :=
  weakG (pg_sub ho hi hs ha) fun x σ H Q ⟨m, v, h, u, sr, sl, r, p⟩ => ⟨m, v, h, sr, sl, (Post.seq p).mono fun m1 H1 h1 a x1 sr1 p1 y ry => ⟨m1, v, h1, sr1, sl.ext x1, (Post.seq p1).mono fun m2 H2 h2 b x2 sr2 p2 z rz => by
    obtain ⟨w, h', e, q⟩ := Post.lift (Post.seq p2)
    refine ⟨m2, h2, a, b, u, h', sr2, ry.ext x2, rz, r.ext (x1.trans x2), e, fun m' H' x3 s3 => ?_⟩
    exact q m' H' x3 s3 m' H' .refl s3 σ (sl.ext ((x1.trans x2).trans x3)) fun _ _ => rfl⟩⟩
end

/-! ### lists that no one else knows -/
/-- the value is a list at an address that the virtual heap does not know -/
def TDL (K : PySem.W.Frag) (W : WX) (d : Sl → M (List PV)) : TE := fun σ H Q => ∃ m v h, SR K m h H ∧ SlD K m H v σ ∧
  Post K W σ m H (d v h) fun m' H' _ l => ∀ D xs, H D = none → D ∉ m' → H' D = some (.lst xs) → Reps K m' H' l xs → Q (.ref D) H'
abbrev DL (X : Cx) (W : WX) (e : Expr) (d : Sl → M (List PV)) : Prop := PE X e (TDL X.K W d)
def oNew (l : List PV) : O PV := fun h => some (.ref h.length, h ++ [.lst l])
def dFresh (d : Sl → M (List PV)) : Sl → M PV := fun v => bnd (d v) fun l => liftO (oNew l)
theorem SR.adopt {K : PySem.W.Frag} {m : List Addr} {h : VH} {H : Hp} {D : Addr} {l : List PV} {xs : List V} (s : SR K m h H) (n : D ∉ m) (e : H D = some (.lst xs)) (r : Reps K m H l xs) : SR K (m ++ [D]) (h ++ [.lst l]) H := by
  have rx : ∀ {l : List PV} {xs : List V}, Reps K m H l xs → Reps K (m ++ [D]) H l xs := by
    have key : ∀ a : Addr, ∀ ys, TupAt K m H a ys → TupAt K (m ++ [D]) H a ys := fun a ys t => by
      rcases t with ⟨n1, q⟩ | t
      · refine .inl ⟨fun hm => ?_, q⟩
        rcases List.mem_append.mp hm with z | z
        · exact n1 z
        · rw [List.mem_singleton.mp z] at q
          rcases q with q | ⟨_, q⟩ <;> (rw [e] at q; cases q)
      · exact .inr t
    have key2 : ∀ a : Addr, ∀ ys, LstAt K m H a ys → LstAt K (m ++ [D]) H a ys := fun a ys t => by
      rcases t with ⟨n1, o, q⟩ | t
      · refine .inl ⟨fun hm => ?_, o, q⟩
        rcases List.mem_append.mp hm with z | z
        · exact n1 z
        · rw [List.mem_singleton.mp z] at q
          rw [e] at q; cases q
      · exact .inr t
    intro l xs r
    exact Reps.re (fun k b q => by rw [List.getElem?_append_left (List.getElem?_eq_some_iff.mp q).1]; exact q) key key2 l xs r
  refine ⟨by simp [s.len], ?_, fun k u a e1 e2 => ?_⟩
  · rw [List.nodup_append]
    refine ⟨s.nd, by simp, fun a ha b hb => ?_⟩
    rw [List.mem_singleton.mp hb]
    rintro rfl
    exact n ha
  · by_cases hk : k < h.length
    · rw [List.getElem?_append_left hk] at e1
      rw [List.getElem?_append_left (by rw [s.len]; exact hk)] at e2
      have o := s.obj k u a e1 e2
      cases u with
      | lst l => obtain ⟨ys, q, t⟩ := o; exact ⟨ys, q, rx t⟩
      | dK l => obtain ⟨ys, q, z, t⟩ := o; exact ⟨ys, q, z, rx t⟩
      | ins C l => obtain ⟨dx, ys, q, z, t⟩ := o; exact ⟨dx, ys, q, z, rx t⟩
    · rw [List.getElem?_append_right (by omega)] at e1
      rw [List.getElem?_append_right (by rw [s.len]; omega)] at e2
      have z1 : k - h.length = 0 := by
        have := (List.getElem?_eq_some_iff.mp e1).1
        simp at this; omega
      have z2 : k - m.length = 0 := by rw [s.len]; exact z1
      rw [z1] at e1; rw [z2] at e2
      simp at e1 e2
      subst e1 e2
      exact ⟨xs, e, rx r⟩
theorem Ext.adopt {m m1 : List Addr} {H H1 : Hp} {D : Addr} (x : Ext m H m1 H1) (n : H D = none) : Ext m H (m1 ++ [D]) H1 := by
  obtain ⟨⟨k, rfl, hk⟩, kp, lv⟩ := x
  refine ⟨⟨k ++ [D], by simp, fun a ha => ?_⟩, kp, lv⟩
  rcases List.mem_append.mp ha with z | z
  · exact hk a z
  · rw [List.mem_singleton.mp z]; exact n
section
variable {X : Cx} {W : WX} {e : Expr}
theorem de_fresh {d : Sl → M (List PV)} (h : DL X W e d) : DE X W e (dFresh d) :=
  weakE h fun σ H Q ⟨m, v, h, sr, sl, p⟩ => ⟨m, v, h, sr, sl, by
    unfold dFresh bnd at p
    cases e1 : d v h with
    | ok l h1 =>
      rw [e1] at p
      intro m1 H1 x1 sr1 D xs n1 n2 eD r
      exact p (m1 ++ [D]) H1 (x1.adopt n1) (sr1.adopt n2 eD r) _ (rep_ref' (by rw [← sr1.len, List.getElem?_append_right (Nat.le_refl _)]; simp))
    | ex u h1 => rw [e1] at p; exact p
    | bad => rw [e1] at p; exact p⟩
/-- walked -/
def dTmp (d : Sl → M (List PV)) : Sl → M Its' := fun v => bnd (d v) fun l => ret { items := l }
theorem di_tmp {tg : Expr} {d : Sl → M (List PV)} (h : DL X W e d) : DI X W tg e (dTmp d) :=
  weakI (pi_list h) fun σ H R ⟨m, v, h, sr, sl, p⟩ => ⟨m, v, h, sr, sl, by
    unfold dTmp bnd at p
    cases e1 : d v h with
    | ok l h1 =>
      rw [e1] at p
      intro m1 H1 x1 sr1 D xs n1 n2 eD r
      refine ⟨D, rfl, ⟨xs, .of eD⟩, p m1 H1 x1 sr1 _ ?_⟩
      intro i m' h' H' x s _
      have q : SqL X.K H' D xs := .of (x.keep D _ eD n2)
      have hl := r.len
      refine ⟨fun hi => ?_, fun hi => walk_list.stops H' q |> fun z => by rw [hi]; show (Itl X.K D).stop l.length H'; rw [← hl]; exact z⟩
      have hi' : i < xs.length := by rw [hl]; exact hi
      refine ⟨walk_list.goes i H' hi' q, fun y H'' hy => ?_⟩
      obtain ⟨rfl, e2⟩ := walk_list.yields i H' y H'' hi' q hy
      have r' := r.ext x
      refine ⟨l[i], List.getElem?_eq_getElem hi, ?_, .refl, s⟩
      obtain ⟨z, e3, rz⟩ := r'.get (List.getElem?_eq_getElem hi)
      rw [e2] at e3; cases e3
      exact rz
    | ex u h1 => rw [e1] at p; exact p
    | bad => rw [e1] at p; exact p⟩
end

/-! ### list comprehensions -/
def chk (src : List (Nat × List PV)) : M Unit := fun h => if srcOk h src = true then .ok () h else .bad
def lcF (src : List (Nat × List PV)) (f : PV → M (List PV)) : List PV → M (List PV)
  | [] => bnd (chk src) fun _ => ret []
  | x :: xs => bnd (chk src) fun _ => bnd (f x) fun o => bnd (lcF src f xs) fun r => ret (o ++ r)
def lcBody (g : PV → Sl → M Sl) (t : Sl → M Bool) (e : Sl → M PV) (v : Sl) (x : PV) : M (List PV) := bnd (g x v) fun v' => bnd (t v') fun k => if k = true then bnd (e v') fun y => ret [y] else ret []
def tTrue : Sl → M Bool := fun _ => ret true
def dLc (it : Sl → M Its') (g : PV → Sl → M Sl) (t : Sl → M Bool) (e : Sl → M PV) (own : List Nat) : Sl → M (List PV) := fun v => bnd (it v) fun i =>
  if i.items.length ≤ 16777216 then lcF i.src (lcBody g t e (wipeD v own)) i.items else bad
def F0 : WX := fun _ _ _ _ => False
abbrev DTs (X : Cx) (W : WX) (es : List Expr) (d : Sl → M Bool) : Prop := PTs X es (TDT X.K W d)
theorem Post.via {α β : Type} {K : PySem.W.Frag} {σ σ' : L2.St} {m m5 : List Addr} {H H5 : Hp} {a : M α} {f : α → M β} {h : VH} {Q : List Addr → Hp → VH → β → Prop} (p : Post K F0 σ m H (bnd a f h) Q) (x : Ext m H m5 H5) :
    Post K F0 σ' m5 H5 (a h) fun m' H' h' v => Ext m H m' H' ∧ Post K F0 σ m H (f v h') Q := by
  unfold bnd at p
  cases e : a h with
  | ok v h1 => rw [e] at p; exact fun m' H' x' s => ⟨x.trans x', p⟩
  | ex u h1 => rw [e] at p; exact fun m' H' d x' s xr => (p m' H' d (x.trans x') s xr).elim
  | bad => rw [e] at p; exact p.elim
theorem Post.chk {K : PySem.W.Frag} {W : WX} {σ : L2.St} {m : List Addr} {H : Hp} {β : Type} {src : List (Nat × List PV)} {f : Unit → M β} {h : VH} {Q : List Addr → Hp → VH → β → Prop} (p : Post K W σ m H (bnd (chk src) f h) Q) : srcOk h src = true ∧ Post K W σ m H (f () h) Q := by
  unfold bnd D.chk at p
  by_cases hs : srcOk h src = true
  · rw [if_pos hs] at p; exact ⟨hs, p⟩
  · rw [if_neg hs] at p; exact p.elim
/-- the list at D is written, no one else knows it -/
theorem key_updD {K : PySem.W.Frag} {m : List Addr} {H : Hp} {D : Addr} {xs ys : List V} (e : H D = some (.lst xs)) :
    (∀ a zs, TupAt K m H a zs → TupAt K m (upd H D (.lst ys)) a zs) ∧ (∀ a zs, LstAt K m H a zs → LstAt K m (upd H D (.lst ys)) a zs) := by
  refine ⟨fun a zs t => ?_, fun a zs t => ?_⟩
  · rcases t with ⟨n1, q⟩ | t
    · refine .inl ⟨n1, ?_⟩
      have hb : a ≠ D := fun z => by
        rw [z] at q
        rcases q with q | ⟨_, q⟩ <;> (rw [e] at q; cases q)
      rcases q with q | ⟨o, q⟩
      · exact .inl (by rw [upd_ne hb]; exact q)
      · exact .inr ⟨o, by rw [upd_ne hb]; exact q⟩
    · exact .inr t
  · rcases t with ⟨n1, o, q⟩ | t
    · have hb : a ≠ D := fun z => by rw [z, e] at q; cases q
      exact .inl ⟨n1, o, by rw [upd_ne hb]; exact q⟩
    · exact .inr t
theorem Reps.updD {K : PySem.W.Frag} {m : List Addr} {H : Hp} {D : Addr} {xs ys zs : List V} {l : List PV} (e : H D = some (.lst xs)) (r : Reps K m H l zs) : Reps K m (upd H D (.lst ys)) l zs :=
  Reps.re (fun _ _ q => q) (key_updD e).1 (key_updD e).2 l zs r
theorem SR.updD {K : PySem.W.Frag} {m : List Addr} {h : VH} {H : Hp} {D : Addr} {xs ys : List V} (s : SR K m h H) (n : D ∉ m) (e : H D = some (.lst xs)) : SR K m h (upd H D (.lst ys)) := by
  refine ⟨s.len, s.nd, fun k u a e1 e2 => ?_⟩
  have hb : a ≠ D := fun z => n (by rw [← z]; exact List.mem_of_getElem? e2)
  have o := s.obj k u a e1 e2
  cases u with
  | lst l => obtain ⟨zs, q, t⟩ := o; exact ⟨zs, by rw [upd_ne hb]; exact q, t.updD e⟩
  | dK l => obtain ⟨zs, q, z, t⟩ := o; exact ⟨zs, by rw [upd_ne hb]; exact q, z, t.updD e⟩
  | ins C l => obtain ⟨dx, zs, q, z, t⟩ := o; exact ⟨dx, zs, by rw [upd_ne hb]; exact q, z, t.updD e⟩
theorem Ext.updD {m m1 : List Addr} {H H1 : Hp} {D : Addr} {o : HO} (x : Ext m H m1 H1) (n : H D = none) : Ext m H m1 (upd H1 D o) :=
  ⟨x.app, fun a u e hn => by rw [upd_ne (ne_of_none e n)]; exact x.keep a u e hn, fun a u e => by rw [upd_ne (ne_of_none e n)]; exact x.live a u e⟩
theorem wipe_wipe {σ : L2.St} {vs : List Nat} : L2.wipe (L2.wipe σ vs) vs = L2.wipe σ vs := by
  refine List.ext_getElem? fun j => ?_
  by_cases hj : j < σ.length
  · rw [wipe_get (by rw [L2.wipe_length]; exact hj), wipe_get hj]
    by_cases hm : j ∈ vs <;> simp [hm]
  · rw [List.getElem?_eq_none (by rw [L2.wipe_length, L2.wipe_length]; simpa using hj), List.getElem?_eq_none (by rw [L2.wipe_length]; simpa using hj)]
section
variable {X : Cx} {W : WX}
theorem dts_nil : DTs X W [] tTrue := ⟨fun pins s σ H Q I ⟨m, v, h, sr, sl, p⟩ => pts_nil.run pins s σ H Q I (p m H .refl sr)⟩
theorem dts_one {c : Expr} {t : Sl → M Bool} (h : DT X W c t) : DTs X W [c] t := pts_one h
/-- the reading of a comprehension -/
theorem lc_read {K : PySem.W.Frag} {di : Sl → M Its'} {dg : PV → Sl → M Sl} {dt : Sl → M Bool} {de : Sl → M PV} {own is : List Nat} {σ : L2.St} {H : Hp} {Q : VK} (his : ∀ i ∈ is, i ∈ own)
    (h : TDL K F0 (dLc di dg dt de own) σ H Q) : tLc (TDI K F0 di) (TDG K F0 dg is) (TDT K F0 dt) (TD K F0 de) own σ H Q := by
  obtain ⟨m, v, h, sr, sl, p⟩ := h
  refine ⟨m, v, h, sr, sl, (Post.via p .refl).mono fun m1 H1 h1 it x1 sr1 ⟨_, p1⟩ J hJ D hD => ?_⟩
  split at p1
  case isFalse => exact p1.elim
  rename_i hlen
  have nD0 : H D = none := by
    cases e : H D with
    | none => rfl
    | some o =>
      obtain ⟨o', e'⟩ := x1.live D o e
      rw [hD] at e'; cases e'
  have nD : D ∉ m1 := sr1.fresh hD
  let Qf : List Addr → Hp → VH → List PV → Prop := fun m' H' _ l => ∀ D xs, H D = none → D ∉ m' → H' D = some (.lst xs) → Reps K m' H' l xs → Q (.ref D) H'
  let Inv (i k : Nat) (H5 : Hp) : Prop := k = it.items.length - i ∧ i ≤ it.items.length ∧ ∃ m5 h5 acc accx, Ext m H m5 H5 ∧ Ext m1 H1 m5 H5 ∧ SR K m5 h5 H5 ∧ D ∉ m5 ∧ H5 D = some (.lst accx) ∧ Reps K m5 H5 acc accx ∧ acc.length ≤ i ∧
    Post K F0 σ m H (bnd (lcF it.src (lcBody dg dt de (wipeD v own)) (it.items.drop i)) (fun r => ret (acc ++ r)) h5) Qf
  have p1' : Post K F0 σ m H (bnd (lcF it.src (lcBody dg dt de (wipeD v own)) it.items) (fun r => ret ([] ++ r)) h1) Qf := by
    have : bnd (lcF it.src (lcBody dg dt de (wipeD v own)) it.items) (fun r => ret ([] ++ r)) = lcF it.src (lcBody dg dt de (wipeD v own)) it.items := by
      funext h
      unfold bnd ret
      cases lcF it.src (lcBody dg dt de (wipeD v own)) it.items h <;> rfl
    rw [this]; exact p1
  refine ⟨Inv, ⟨it.items.length, by simp, Nat.zero_le _, m1, h1, [], [], x1.updD nD0, Ext.refl.updD hD, sr1.more hD, nD, upd_same, Reps.nil, Nat.zero_le _, by simpa using p1'⟩, ?_⟩
  rintro i k H5 ⟨rfl, hi, m5, h5, acc, accx, x5, y5, sr5, nD5, eD5, ra, hacc, p6⟩
  by_cases hlt : i < it.items.length
  · have hdrop : it.items.drop i = it.items[i] :: it.items.drop (i + 1) := List.drop_eq_getElem_cons hlt
    rw [hdrop] at p6
    have reass : bnd (lcF it.src (lcBody dg dt de (wipeD v own)) (it.items[i] :: it.items.drop (i + 1))) (fun r => ret (acc ++ r)) =
        bnd (chk it.src) fun _ => bnd (dg it.items[i] (wipeD v own)) fun v' => bnd (dt v') fun k => bnd (if k = true then bnd (de v') fun y => ret [y] else ret []) fun o =>
          bnd (lcF it.src (lcBody dg dt de (wipeD v own)) (it.items.drop (i + 1))) fun r => ret ((acc ++ o) ++ r) := by
      funext h
      show bnd (bnd (chk it.src) _) _ h = _
      unfold lcBody bnd ret
      cases chk it.src h <;> try rfl
      simp only
      cases dg it.items[i] (wipeD v own) _ <;> try rfl
      simp only
      cases dt _ _ <;> try rfl
      rename_i k hk
      simp only
      cases k with
      | true =>
        simp only [if_true]
        cases de _ _ <;> try rfl
        simp only
        cases lcF it.src _ (it.items.drop (i + 1)) _ <;> try rfl
        simp
      | false =>
        simp only [Bool.false_eq_true, if_false]
        cases lcF it.src _ (it.items.drop (i + 1)) _ <;> try rfl
        simp
    rw [reass] at p6
    obtain ⟨hs, p7⟩ := Post.chk p6
    obtain ⟨hgo, _⟩ := hJ i m5 h5 _ y5 sr5 hs
    obtain ⟨go, yl⟩ := hgo hlt
    refine .inr ⟨go, fun H' => ∃ k', k' < it.items.length - i ∧ Inv (i + 1) k' H', fun H' h => h, fun x H7 hy => ?_⟩
    obtain ⟨u, eu, ru, x7, sr7⟩ := yl x H7 hy
    rw [List.getElem?_eq_getElem hlt] at eu
    cases eu
    have slw : SlD K m5 H7 (wipeD v own) (L2.wipe σ own) := ((sl.ext x5).wipe own).ext x7
    refine ⟨m5, wipeD v own, h5, it.items[i], sr7, slw, ru, (Post.via p7 (x5.trans x7)).mono fun m8 H8 h8 v8 x8 sr8 ⟨y8, p8⟩ σ8 sl8 w8 => ⟨(w8 own his).trans wipe_wipe, ?_⟩⟩
    refine ⟨m8, v8, h8, sr8, sl8, (Post.via p8 y8).mono fun m9 H9 h9 b x9 sr9 ⟨y9, p9⟩ => ?_⟩
    have e9 : H9 D = some (.lst accx) ∧ D ∉ m9 := by
      have n7 := x7.notin eD5 nD5
      have e7 := x7.keep D _ eD5 nD5
      have n8 := x8.notin e7 n7
      have e8 := x8.keep D _ e7 n7
      exact ⟨x9.keep D _ e8 n8, x9.notin e8 n8⟩
    have ra9 := ((ra.ext x7).ext x8).ext x9
    have yy9 : Ext m1 H1 m9 H9 := ((y5.trans x7).trans x8).trans x9
    cases b with
    | false =>
      simp only [Bool.false_eq_true, if_false] at p9 ⊢
      refine ⟨it.items.length - (i + 1), by omega, rfl, hlt, m9, h9, acc, accx, y9, yy9, sr9, e9.2, e9.1, ra9, by omega, ?_⟩
      have : Post K F0 σ m H (bnd (lcF it.src (lcBody dg dt de (wipeD v own)) (it.items.drop (i + 1))) (fun r => ret ((acc ++ []) ++ r)) h9) Qf := p9
      simpa using this
    | true =>
      simp only [if_true] at p9 ⊢
      have p9' : Post K F0 σ m H (bnd (de v8) (fun y => bnd (lcF it.src (lcBody dg dt de (wipeD v own)) (it.items.drop (i + 1))) fun r => ret ((acc ++ [y]) ++ r)) h9) Qf := by
        have : bnd (bnd (de v8) fun y => ret [y]) (fun o => bnd (lcF it.src (lcBody dg dt de (wipeD v own)) (it.items.drop (i + 1))) fun r => ret ((acc ++ o) ++ r)) h9 = bnd (de v8) (fun y => bnd (lcF it.src (lcBody dg dt de (wipeD v own)) (it.items.drop (i + 1))) fun r => ret ((acc ++ [y]) ++ r)) h9 := by
          unfold bnd ret
          cases de v8 h9 <;> rfl
        rw [this] at p9; exact p9
      refine ⟨m9, v8, h9, sr9, sl8.ext x9, (Post.via p9' y9).mono fun m10 H10 h10 y x10 sr10 ⟨y10, p10⟩ z rz => ?_⟩
      have e10 := x10.keep D _ e9.1 e9.2
      have n10 := x10.notin e9.1 e9.2
      have hz : accx.length < sizeLine := by
        have := ra9.len
        rw [sizeLine_eq]
        omega
      refine ⟨accx, e10, hz, it.items.length - (i + 1), by omega, rfl, hlt, m10, h10, acc ++ [y], accx ++ [z], y10.updD nD0, (yy9.trans x10).updD hD, sr10.updD n10 e10, n10, upd_same, ?_, by simp; omega, p10⟩
      exact ((ra9.ext x10).append (Reps.cons rz Reps.nil)).updD e10
  · have e : i = it.items.length := by omega
    subst e
    rw [List.drop_length] at p6
    have p6' : Post K F0 σ m H (bnd (chk it.src) (fun _ => ret (acc ++ [])) h5) Qf := by
      have : bnd (lcF it.src (lcBody dg dt de (wipeD v own)) []) (fun r => ret (acc ++ r)) h5 = bnd (chk it.src) (fun _ => ret (acc ++ [])) h5 := by
        show bnd (bnd (chk it.src) fun _ => ret []) _ h5 = _
        unfold bnd ret
        cases chk it.src h5 <;> rfl
      rw [this] at p6; exact p6
    obtain ⟨hs, p7⟩ := Post.chk p6'
    obtain ⟨_, hst⟩ := hJ it.items.length m5 h5 _ y5 sr5 hs
    refine .inl ⟨hst rfl, ?_⟩
    exact p7 m5 H5 x5 sr5 D accx nD0 nD5 eD5 (by rw [List.append_nil]; exact ra)
end
end D

/-! layer D, part 3: statements -/
namespace D
open PySem PySem.Spec PyProof.Rows L2

/-- what a statement does -/
inductive Fl where
  | nx (v : Sl) (h : VH) | rt (u : PV) (h : VH) | bk (v : Sl) (h : VH) | ct (v : Sl) (h : VH) | xc (e : PX) (v : Sl) (h : VH) | bad
abbrev SD := Sl → VH → Fl
def bx {α : Type} (v : Sl) (m : M α) (f : α → VH → Fl) : VH → Fl := fun h => match m h with
  | .ok a h' => f a h'
  | .ex e h' => .xc e v h'
  | .bad => .bad
def PostS (K : PySem.W.Frag) (W : WX) (D : Ends) (m : List Addr) (H : Hp) : Fl → Prop
  | .nx v h => ∀ m' H' σ', Ext m H m' H' → SR K m' h H' → SlD K m' H' v σ' → D.nx σ' H'
  | .bk v h => ∀ m' H' σ', Ext m H m' H' → SR K m' h H' → SlD K m' H' v σ' → D.bk σ' H'
  | .ct v h => ∀ m' H' σ', Ext m H m' H' → SR K m' h H' → SlD K m' H' v σ' → D.ct σ' H'
  | .rt u h => ∀ m' H' x, Ext m H m' H' → SR K m' h H' → Rep K m' H' u x → D.rt x H'
  | .xc e v h => ∀ m' H' σ' d, Ext m H m' H' → SR K m' h H' → SlD K m' H' v σ' → XRep K m' H' e d → W e.cls d σ' H'
  | .bad => False
section
variable {K : PySem.W.Frag} {W : WX} {DD : Ends} {m m1 : List Addr} {H H1 : Hp}
theorem PostS.ext {r : Fl} (p : PostS K W DD m H r) (x : Ext m H m1 H1) : PostS K W DD m1 H1 r := by
  cases r with
  | nx v h => exact fun m' H' σ' y s sl => p m' H' σ' (x.trans y) s sl
  | bk v h => exact fun m' H' σ' y s sl => p m' H' σ' (x.trans y) s sl
  | ct v h => exact fun m' H' σ' y s sl => p m' H' σ' (x.trans y) s sl
  | rt u h => exact fun m' H' z y s r => p m' H' z (x.trans y) s r
  | xc e v h => exact fun m' H' σ' d y s sl xr => p m' H' σ' d (x.trans y) s sl xr
  | bad => exact p
theorem PostS.bx {α : Type} {v : Sl} {a : M α} {f : α → VH → Fl} {h : VH} {σ : L2.St} (p : PostS K W DD m H (bx v a f h)) (sl : SlD K m H v σ) :
    Post K W σ m H (a h) fun m1 H1 h1 u => Ext m H m1 H1 ∧ PostS K W DD m1 H1 (f u h1) := by
  unfold D.bx at p
  cases e : a h with
  | ok u h1 => rw [e] at p; exact fun m1 H1 x1 s1 => ⟨x1, PostS.ext p x1⟩
  | ex u h1 => rw [e] at p; exact fun m1 H1 d x1 s1 xr => p m1 H1 σ d x1 s1 (sl.ext x1) xr
  | bad => rw [e] at p; exact p
end
def TDS (K : PySem.W.Frag) (W : WX) (d : SD) : TS := fun D σ H => ∃ m v h, SR K m h H ∧ SlD K m H v σ ∧ PostS K W D m H (d v h)
abbrev DS (X : Cx) (W : WX) (s : Stmt) (d : SD) : Prop := PS X s (TDS X.K W d)
abbrev DSs (X : Cx) (W : WX) (s : List Stmt) (d : SD) : Prop := PSs X s (TDS X.K W d)
theorem weakS {X : Cx} {s : Stmt} {t t' : TS} (h : PS X s t) (w : ∀ D σ H, t' D σ H → t D σ H) : PS X s t' := ⟨fun pins s σ H D I q => h.run pins s σ H D I (w D σ H q)⟩
theorem weakSs {X : Cx} {s : List Stmt} {t t' : TS} (h : PSs X s t) (w : ∀ D σ H, t' D σ H → t D σ H) : PSs X s t' := ⟨fun pins s σ H D I q => h.run pins s σ H D I (w D σ H q)⟩

/-! ### denotations of statements -/
def sNext : SD := fun v h => .nx v h
def sSeq (a b : SD) : SD := fun v h => match a v h with
  | .nx v' h' => b v' h'
  | r => r
def sAsg (e : Sl → M PV) (g : PV → Sl → M Sl) : SD := fun v => bx v (e v) fun x h1 => bx v (g x v) (fun v' h2 => .nx v' h2) h1
def sExpr (e : Sl → M PV) : SD := fun v => bx v (e v) fun _ h1 => .nx v h1
def sRet (e : Sl → M PV) : SD := fun v => bx v (e v) fun x h1 => .rt x h1
def sRetN : SD := fun _ h => .rt .non h
def sIf (c : Sl → M Bool) (a b : SD) : SD := fun v => bx v (c v) fun k h1 => if k = true then a v h1 else b v h1
def sBreak : SD := fun v h => .bk v h
def sCont : SD := fun v h => .ct v h
def sAug (g : PV → PV → O PV) (i : Nat) (e : Sl → M PV) : SD := fun v => bx v (dVar i v) fun x => bx v (e v) fun y => bx v (liftO (g x y)) fun z h => .nx (v.set i (some z)) h
def sAugS (gg : PV → PV → O PV) (gi : PV → PV → O PV) (gs : PV → PV → PV → O Unit) (o i e : Sl → M PV) : SD := fun v => bx v (o v) fun a => bx v (i v) fun b => bx v (liftO (gg a b)) fun x => bx v (e v) fun y =>
  bx v (liftO (gi x y)) fun z => bx v (liftO (gs a b z)) fun _ h => .nx v h
def forF (src : List (Nat × List PV)) (body : PV → SD) : List PV → SD
  | [], v, h => if srcOk h src = true then .nx v h else .bad
  | x :: xs, v, h => if srcOk h src = true then (match body x v h with
    | .nx v' h' => forF src body xs v' h'
    | .ct v' h' => forF src body xs v' h'
    | .bk v' h' => .nx v' h'
    | r => r) else .bad
def forBody (g : PV → Sl → M Sl) (b : SD) (x : PV) : SD := fun v => bx v (g x v) fun v' h => b v' h
def sFor (it : Sl → M Its') (g : PV → Sl → M Sl) (b : SD) : SD := fun v => bx v (it v) fun i h => forF i.src (forBody g b) i.items v h
def whileF (c : Sl → M Bool) (b : SD) : Nat → SD
  | 0, _, _ => .bad
  | n + 1, v, h => bx v (c v) (fun k h1 => if k = true then (match b v h1 with
    | .nx v' h' => whileF c b n v' h'
    | .ct v' h' => whileF c b n v' h'
    | .bk v' h' => .nx v' h'
    | r => r) else .nx v h1) h
def sWhile (n : Nat) (c : Sl → M Bool) (b : SD) : SD := whileF c b n

section
variable {X : Cx} {W : WX} {e c : Expr} {es : List Expr} {st : Stmt} {rest ba bb : List Stmt} {de : Sl → M PV} {da db : SD} {dc : Sl → M Bool} {pos : Pos}
theorem dss_nil : DSs X W [] sNext := weakSs pss_nil fun D σ H ⟨m, v, h, sr, sl, p⟩ => p m H σ .refl sr sl
theorem dss_cons (h1 : DS X W st da) (h2 : DSs X W rest db) : DSs X W (st :: rest) (sSeq da db) :=
  weakSs (pss_cons h1 h2) fun D σ H ⟨m, v, h, sr, sl, p⟩ => ⟨m, v, h, sr, sl, by
    unfold sSeq at p
    cases e : da v h with
    | nx v1 h1 =>
      rw [e] at p
      exact fun m1 H1 σ1 x1 s1 sl1 => ⟨m1, v1, h1, s1, sl1, PostS.ext p x1⟩
    | _ => rw [e] at p; exact p⟩
theorem dss_one (h1 : DS X W st da) : DSs X W [st] da := pss_one h1
theorem ds_pass : DS X W (.Pass pos) sNext := weakS ps_pass fun D σ H ⟨m, v, h, sr, sl, p⟩ => p m H σ .refl sr sl
theorem ds_break : DS X W (.Break pos) sBreak := weakS ps_break fun D σ H ⟨m, v, h, sr, sl, p⟩ => p m H σ .refl sr sl
theorem ds_continue : DS X W (.Continue pos) sCont := weakS ps_continue fun D σ H ⟨m, v, h, sr, sl, p⟩ => p m H σ .refl sr sl
theorem ds_expr (he : DE X W e de) (hs : swapsWith e none pos.line X.env = pure false := by rfl) : DS X W (.Expr e pos) (sExpr de) :=
  weakS (ps_expr he hs) fun D σ H ⟨m, v, h, sr, sl, p⟩ => ⟨m, v, h, sr, sl, (PostS.bx p sl).mono fun m1 H1 h1 u x1 s1 ⟨y, p1⟩ x rx => p1 m1 H1 σ .refl s1 (sl.ext x1)⟩
theorem ds_ret (he : DE X W e de) : DS X W (.Return (some e) pos) (sRet de) :=
  weakS (ps_ret he) fun D σ H ⟨m, v, h, sr, sl, p⟩ => ⟨m, v, h, sr, sl, (PostS.bx p sl).mono fun m1 H1 h1 u x1 s1 ⟨y, p1⟩ x rx => p1 m1 H1 x .refl s1 rx⟩
theorem ds_retN : DS X W (.Return none pos) sRetN := weakS ps_retN fun D σ H ⟨m, v, h, sr, sl, p⟩ => p m H .non .refl sr rep_non'
theorem ds_if (hc : DT X W c dc) (ha : DSs X W ba da) (hb : DSs X W bb db) : DS X W (.If c ba bb pos) (sIf dc da db) :=
  weakS (ps_if hc ha hb) fun D σ H ⟨m, v, h, sr, sl, p⟩ => ⟨m, v, h, sr, sl, (PostS.bx p sl).mono fun m1 H1 h1 k x1 s1 ⟨y, p1⟩ => by
    cases k with
    | true => exact ⟨m1, v, h1, s1, sl.ext x1, p1⟩
    | false => exact ⟨m1, v, h1, s1, sl.ext x1, p1⟩⟩
theorem asg_read {K : PySem.W.Frag} {g : PV → Sl → M Sl} {is : List Nat} {D : Ends} {σ : L2.St} {H : Hp} (h : TDS K W (sAsg de g) D σ H) : tAsg (TD K W de) (TDG K W g is) D σ H := by
  obtain ⟨m, v, h, sr, sl, p⟩ := h
  refine ⟨m, v, h, sr, sl, (PostS.bx p sl).mono fun m1 H1 h1 u x1 s1 ⟨y, p1⟩ x rx => ⟨m1, v, h1, u, s1, sl.ext x1, rx, (PostS.bx p1 (sl.ext x1)).mono fun m2 H2 h2 v2 x2 s2 ⟨_, p2⟩ σ2 sl2 _ => p2 m2 H2 σ2 .refl s2 sl2⟩⟩
theorem ds_asg {tg : Expr} {g : PV → Sl → M Sl} {is : List Nat} (he : DE X W e de) (hg : DG X W tg g is) (hs : swapsWithSole [tg] e pos.line X.env = pure false := by rfl) (hw : swappedStores [tg] e X.env = pure none := by rfl)
    (h1 : (assignEach [tg] X.env).map (·.2) = [assign tg X.env] := by rfl) : DS X W (.Assign [tg] e pos) (sAsg de g) :=
  weakS (ps_asg he hg hs hw h1) fun D σ H q => asg_read q
theorem name_read {K : PySem.W.Frag} {i : Nat} {D : Ends} {σ : L2.St} {H : Hp} (h : TDS K W (sAsg de (dgName i)) D σ H) : tAsg (TD K W de) (gName i) D σ H := by
  obtain ⟨m, v, h, sr, sl, p⟩ := h
  exact ⟨m, v, h, sr, sl, (PostS.bx p sl).mono fun m1 H1 h1 u x1 s1 ⟨y, p1⟩ x rx => p1 m1 H1 _ .refl s1 ((sl.ext x1).set i rx)⟩
theorem ds_set (i : Nat) {x : Str} {pos' : Pos} (hN : X.N.Nodup) (he : DE X W e de) (hi : X.N[i]? = some x := by rfl) (hx : Loc X.env.scope x := by first | exact Or.inl rfl | exact Or.inr rfl) (hs : swapsWith e (some (.Name x pos')) pos.line X.env = pure false := by rfl)
    (hf : X.fn x = true ∨ X.env.scope.names.lookup x = some .local := by first | exact .inl rfl | exact .inr rfl | assumption) : DS X W (.Assign [.Name x pos'] e pos) (sAsg de (dgName i)) :=
  weakS (ps_set hN hi hx he hs hf) fun D σ H q => name_read q
/-- a, b = x, y at plain locals -/
def sPar (i j : Nat) (d : Sl → M (List PV)) : SD := fun v => bx v (d v) fun l h => match l with
  | [a, b] => .nx ((v.set i (some a)).set j (some b)) h
  | _ => .bad
theorem ds_par (i j : Nat) {x y : Str} {a b : Expr} {px py pt : Pos} {kt k2 pt2} {dl : Sl → M (List PV)} (hc : X.calm = true) (hN : X.N.Nodup) (ha : DA X W [a, b] dl) (hi : X.N[i]? = some x := by rfl) (hj : X.N[j]? = some y := by rfl) (hij : i ≠ j := by decide)
    (hx : X.env.scope.names.lookup x = some .local := by rfl) (hy : X.env.scope.names.lookup y = some .local := by rfl)
    (hw : swappedStores [.Tuple [.Name x px, .Name y py] kt pt] (.Tuple [a, b] k2 pt2) X.env = pure (some [x, y]) := by rfl)
    (hs : swapsWithSole [.Tuple [.Name x px, .Name y py] kt pt] (.Tuple [a, b] k2 pt2) pos.line X.env = pure false := by rfl) :
    DS X W (.Assign [.Tuple [.Name x px, .Name y py] kt pt] (.Tuple [a, b] k2 pt2) pos) (sPar i j dl) :=
  weakS (ps_par hc hN hi hj hij hx hy ha hw hs) fun D σ H ⟨m, v, h, sr, sl, p⟩ => ⟨m, v, h, sr, sl, (PostS.bx p sl).mono fun m1 H1 h1 l x1 s1 ⟨y, p1⟩ xs rs => by
    split at p1
    · obtain ⟨x, t, rfl, r1, t1⟩ := rs.cons_inv
      obtain ⟨z, t2, rfl, r2, t3⟩ := t1.cons_inv
      rw [t3.nil_inv]
      exact ⟨x, z, rfl, p1 m1 H1 _ .refl s1 (((sl.ext x1).set i r1).set j r2)⟩
    · exact p1.elim⟩
theorem ds_aug (i : Nat) {x : Str} {op : Operator} {g : PV → PV → O PV} {pos' : Pos} (hN : X.N.Nodup) (ho : PIp X op (rO2 X.K g)) (he : DE X W e de) (hi : X.N[i]? = some x := by rfl) (hx : Loc X.env.scope x := by first | exact Or.inl rfl | exact Or.inr rfl)
    (hf : X.fn x = true ∨ X.env.scope.names.lookup x = some .local := by first | exact .inl rfl | exact .inr rfl | assumption) : DS X W (.AugAssign (.Name x pos') op e pos) (sAug g i de) :=
  weakS (ps_aug hN hi hx he ho hf) fun D σ H ⟨m, v, h, sr, sl, p⟩ => by
    unfold sAug at p
    have p0 := PostS.bx p sl
    unfold dVar at p0
    split at p0
    · rename_i u eu
      obtain ⟨_, p1⟩ := p0 m H .refl sr
      obtain ⟨x, ex, rx⟩ := sl.at_ i u eu
      refine ⟨x, ex, m, v, h, sr, sl, (PostS.bx p1 sl).mono fun m1 H1 h1 y x1 s1 ⟨_, p2⟩ z rz => ?_⟩
      obtain ⟨w, h', e, q⟩ := Post.lift (PostS.bx p2 (sl.ext x1))
      refine ⟨m1, h1, u, y, w, h', s1, rx.ext x1, rz, e, fun m' H' q' x2 s2 r2 => ?_⟩
      obtain ⟨_, p3⟩ := q m' H' x2 s2
      exact p3 m' H' _ .refl s2 ((sl.ext (x1.trans x2)).set i r2)
    · exact p0.elim
theorem ds_augS {o i : Expr} {do_ di : Sl → M PV} {op : Operator} {tpos : Pos} {gg gi : PV → PV → O PV} {gs : PV → PV → PV → O Unit} (ho : DE X W o do_) (hi : DE X W i di) (hg : PGet X (rO2 X.K gg)) (he : DE X W e de) (hp : PIp X op (rO2 X.K gi)) (hs : PSet X (rOP X.K gs))
    (ha : ∀ ov iv new, augStore i ov iv new = (do holding [new, ov, iv] (setItem ov iv new); release [new, ov, iv] []; pure .next) := by intros; rfl) : DS X W (.AugAssign (.Subscript o i tpos) op e pos) (sAugS gg gi gs do_ di de) :=
  weakS (ps_augS ho hi hg he hp hs ha) fun D σ H ⟨m, v, h, sr, sl, p⟩ => ⟨m, v, h, sr, sl, (PostS.bx p sl).mono fun m1 H1 h1 a x1 s1 ⟨_, p1⟩ ax ra => ⟨m1, v, h1, s1, sl.ext x1, (PostS.bx p1 (sl.ext x1)).mono fun m2 H2 h2 b x2 s2 ⟨_, p2⟩ bx' rb => by
    have sl2 := sl.ext (x1.trans x2)
    obtain ⟨w, h3, e, q⟩ := Post.lift (PostS.bx p2 sl2)
    refine ⟨m2, h2, a, b, w, h3, s2, ra.ext x2, rb, e, fun m3 H3 wx x3 s3 rw_ => ?_⟩
    obtain ⟨_, p3⟩ := q m3 H3 x3 s3
    refine ⟨m3, v, h3, s3, sl2.ext x3, (PostS.bx p3 (sl2.ext x3)).mono fun m4 H4 h4 y x4 s4 ⟨_, p4⟩ yx ry => ?_⟩
    have sl4 := (sl2.ext x3).ext x4
    obtain ⟨z, h5, e2, q2⟩ := Post.lift (PostS.bx p4 sl4)
    refine ⟨m4, h4, w, y, z, h5, s4, rw_.ext x4, ry, e2, fun m5 H5 zx x5 s5 rz => ?_⟩
    obtain ⟨_, p5⟩ := q2 m5 H5 x5 s5
    obtain ⟨_, h6, e3, q3⟩ := Post.lift (PostS.bx p5 (sl4.ext x5))
    refine ⟨m5, h5, a, b, z, h6, s5, ra.ext (((x2.trans x3).trans x4).trans x5), rb.ext ((x3.trans x4).trans x5), rz, e3, fun m6 H6 x6 s6 => ?_⟩
    obtain ⟨_, p6⟩ := q3 m6 H6 x6 s6
    exact p6 m6 H6 σ .refl s6 ((sl4.ext x5).ext x6)⟩⟩
theorem ds_for {tg iter : Expr} {body : List Stmt} {di : Sl → M Its'} {dg : PV → Sl → M Sl} {is : List Nat} (hp : PassesOwn (model X.prog X.w) X.A X.env X.xe) (hc : X.calm = true) (hi : DI X W tg iter di) (hg : DG X W tg dg is) (hb : DSs X W body db)
    (hs : ∀ x, foldedSetIterable iter X.env x = pure x := by intro _; rfl) : DS X W (.For tg iter body [] pos) (sFor di dg db) :=
  weakS (ps_for hp hc hi hg hb hs) fun D σ H ⟨m, v, h, sr, sl, p⟩ => ⟨m, v, h, sr, sl, (PostS.bx p sl).mono fun m1 H1 h1 it x1 s1 ⟨_, p1⟩ J hJ => by
    refine ⟨fun i k σ' H' => k = it.items.length - i ∧ i ≤ it.items.length ∧ ∃ m' v' h', Ext m1 H1 m' H' ∧ SR X.K m' h' H' ∧ SlD X.K m' H' v' σ' ∧ PostS X.K W D m' H' (forF it.src (forBody dg db) (it.items.drop i) v' h'),
      ⟨it.items.length, by simp, Nat.zero_le _, m1, v, h1, .refl, s1, sl.ext x1, by simpa using p1⟩, ?_⟩
    rintro i k σ2 H2 ⟨rfl, hle, m2, v2, h2, x2, s2, sl2, p2⟩
    by_cases hlt : i < it.items.length
    · rw [List.drop_eq_getElem_cons hlt] at p2
      unfold forF at p2
      by_cases hs : srcOk h2 it.src = true
      case neg => rw [if_neg hs] at p2; exact p2.elim
      rw [if_pos hs] at p2
      obtain ⟨hgo, _⟩ := hJ i m2 h2 _ x2 s2 hs
      obtain ⟨go, yl⟩ := hgo hlt
      let N : L2.St → Hp → Prop := fun σ' H' => i + 1 ≤ it.items.length ∧ ∃ m' v' h', Ext m1 H1 m' H' ∧ SR X.K m' h' H' ∧ SlD X.K m' H' v' σ' ∧ PostS X.K W D m' H' (forF it.src (forBody dg db) (it.items.drop (i + 1)) v' h')
      refine .inr ⟨go, N, fun σ' H' n => ⟨it.items.length - (i + 1), by omega, rfl, n⟩, fun x H3 hy => ?_⟩
      obtain ⟨u, eu, ru, x3, s3⟩ := yl x H3 hy
      rw [List.getElem?_eq_getElem hlt] at eu
      cases eu
      have sl3 := sl2.ext x3
      -- the body's end
      have body : PostS X.K W { D with nx := N, ct := N, bk := D.nx } m2 H3 (forBody dg db it.items[i] v2 h2) := by
        have p3 := PostS.ext p2 x3
        have nx : ∀ {v' : Sl} {h' : VH}, PostS X.K W D m2 H3 (forF it.src (forBody dg db) (it.items.drop (i + 1)) v' h') → ∀ m' H' σ', Ext m2 H3 m' H' → SR X.K m' h' H' → SlD X.K m' H' v' σ' → N σ' H' :=
          fun {v' h'} q m' H' σ' x' s' sl' => ⟨hlt, m', v', h', (x2.trans x3).trans x', s', sl', PostS.ext q x'⟩
        cases e : forBody dg db it.items[i] v2 h2 with
        | nx v' h' => rw [e] at p3; exact nx p3
        | ct v' h' => rw [e] at p3; exact nx p3
        | bk v' h' => rw [e] at p3; exact p3
        | rt u' h' => rw [e] at p3; exact p3
        | xc a v' h' => rw [e] at p3; exact p3
        | bad => rw [e] at p3; exact p3
      refine ⟨m2, v2, h2, it.items[i], s3, sl3, ru, (PostS.bx body sl3).mono fun m4 H4 h4 v4 x4 s4 ⟨_, p4⟩ σ4 sl4 _ => ⟨m4, v4, h4, s4, sl4, p4⟩⟩
    · have e : i = it.items.length := by omega
      subst e
      rw [List.drop_length] at p2
      unfold forF at p2
      by_cases hs : srcOk h2 it.src = true
      case neg => rw [if_neg hs] at p2; exact p2.elim
      rw [if_pos hs] at p2
      obtain ⟨_, hst⟩ := hJ it.items.length m2 h2 _ x2 s2 hs
      exact .inl ⟨hst rfl, p2 m2 H2 σ2 .refl s2 sl2⟩⟩
theorem ds_while (n : Nat) {body : List Stmt} (hp : PassesOwn (model X.prog X.w) X.A X.env X.xe) (hc : DT X W c dc) (hb : DSs X W body db) : DS X W (.While c body [] pos) (sWhile n dc db) :=
  weakS (ps_while hp hc hb) fun D σ H ⟨m, v, h, sr, sl, p⟩ => by
    refine ⟨fun k σ' H' => ∃ m' v' h', SR X.K m' h' H' ∧ SlD X.K m' H' v' σ' ∧ PostS X.K W D m' H' (whileF dc db k v' h'), ⟨n, m, v, h, sr, sl, p⟩, ?_⟩
    rintro k σ1 H1 ⟨m1, v1, h1, s1, sl1, p1⟩
    cases k with
    | zero => exact p1.elim
    | succ k =>
      unfold whileF at p1
      refine ⟨m1, v1, h1, s1, sl1, (PostS.bx p1 sl1).mono fun m2 H2 h2 b x2 s2 ⟨_, p2⟩ => ?_⟩
      have sl2 := sl1.ext x2
      cases b with
      | false =>
        simp only [Bool.false_eq_true, if_false] at p2 ⊢
        exact p2 m2 H2 σ1 .refl s2 sl2
      | true =>
        simp only [if_true] at p2 ⊢
        let N : L2.St → Hp → Prop := fun σ' H' => ∃ m' v' h', SR X.K m' h' H' ∧ SlD X.K m' H' v' σ' ∧ PostS X.K W D m' H' (whileF dc db k v' h')
        refine ⟨N, fun σ' H' q => ⟨k, Nat.lt_succ_self _, q⟩, m2, v1, h2, s2, sl2, ?_⟩
        have nx : ∀ {v' : Sl} {h' : VH}, PostS X.K W D m2 H2 (whileF dc db k v' h') → ∀ m' H' σ', Ext m2 H2 m' H' → SR X.K m' h' H' → SlD X.K m' H' v' σ' → N σ' H' :=
          fun {v' h'} q m' H' σ' x' s' sl' => ⟨m', v', h', s', sl', PostS.ext q x'⟩
        cases e : db v1 h2 with
        | nx v' h' => rw [e] at p2; exact nx p2
        | ct v' h' => rw [e] at p2; exact nx p2
        | bk v' h' => rw [e] at p2; exact p2
        | rt u' h' => rw [e] at p2; exact p2
        | xc a v' h' => rw [e] at p2; exact p2
        | bad => rw [e] at p2; exact p2

/-! ### comprehensions -/
def noex {α : Type} (m : M α) : M α := fun h => match m h with
  | .ex _ _ => .bad
  | r => r
def dLcx (it : Sl → M Its') (g : PV → Sl → M Sl) (t : Sl → M Bool) (e : Sl → M PV) (own : List Nat) : Sl → M (List PV) := fun v => noex (dLc it g t e own v)
theorem noex_read {K : PySem.W.Frag} {d : Sl → M (List PV)} {σ : L2.St} {H : Hp} {Q : VK} (h : TDL K W (fun v => noex (d v)) σ H Q) : TDL K F0 d σ H Q := by
  obtain ⟨m, v, h, sr, sl, p⟩ := h
  refine ⟨m, v, h, sr, sl, ?_⟩
  change Post K W σ m H (noex (d v) h) _ at p
  unfold noex at p
  cases e : d v h with
  | ok u h1 => rw [e] at p; exact p
  | ex u h1 => rw [e] at p; exact p.elim
  | bad => rw [e] at p; exact p
section
variable {elt tg iter : Expr} {ifs : List Expr} {scope : Scope} {own : List (Str × Nat)} {di : Sl → M Its'} {dg : PV → Sl → M Sl} {dt : Sl → M Bool} {dee : Sl → M PV} {is : List Nat}
theorem dl_lc (own : List (Str × Nat)) (hc : X.calm = true) (hN : X.N.Nodup) (hi : DI X F0 tg iter di)
    (hg : ∀ (s : Shared) (H : Hp) (C : Addr) (cl : List (Str × Addr)) (fp : List Addr), DG (X.blk s H scope (compEnvC scope cl C X.env) fp) F0 tg dg is)
    (ht : ∀ (s : Shared) (H : Hp) (C : Addr) (cl : List (Str × Addr)) (fp : List Addr), DTs (X.blk s H scope (compEnvC scope cl C X.env) fp) F0 ifs dt)
    (he : ∀ (s : Shared) (H : Hp) (C : Addr) (cl : List (Str × Addr)) (fp : List Addr), DE (X.blk s H scope (compEnvC scope cl C X.env) fp) F0 elt dee)
    (ok : blkC X.N X.env.scope scope own = true := by decide +kernel) (his : ∀ i ∈ is, i ∈ own.map (·.2) := by decide) (hs : ∀ x, foldedSetIterable iter X.env x = pure x := by intro _; rfl) :
    DL X W (.ListComp elt [⟨tg, iter, ifs, 0⟩] scope pos) (dLcx di dg dt dee (own.map (·.2))) :=
  weakE (pe_lc hc hN hi (blkOk_by ok) hg ht he hs) fun σ H Q q => lc_read his (noex_read q)
/-- name = [..] -/
theorem ds_setLc (i : Nat) (own : List (Str × Nat)) {y : Str} {py spos : Pos} (hc : X.calm = true) (hN : X.N.Nodup) (hi : DI X F0 tg iter di)
    (hg : ∀ (s : Shared) (H : Hp) (C : Addr) (cl : List (Str × Addr)) (fp : List Addr), DG (X.blk s H scope (compEnvC scope cl C X.env) fp) F0 tg dg is)
    (ht : ∀ (s : Shared) (H : Hp) (C : Addr) (cl : List (Str × Addr)) (fp : List Addr), DTs (X.blk s H scope (compEnvC scope cl C X.env) fp) F0 ifs dt)
    (he : ∀ (s : Shared) (H : Hp) (C : Addr) (cl : List (Str × Addr)) (fp : List Addr), DE (X.blk s H scope (compEnvC scope cl C X.env) fp) F0 elt dee)
    (hy : X.N[i]? = some y := by rfl) (hyl : X.env.scope.names.lookup y = some .local := by rfl) (hsw : swapsWith (.ListComp elt [⟨tg, iter, ifs, 0⟩] scope pos) (some (.Name y py)) spos.line X.env = pure true := by exact sw_true rfl rfl rfl (by decide +kernel))
    (ok : blkC X.N X.env.scope scope own = true := by decide +kernel) (his : ∀ i ∈ is, i ∈ own.map (·.2) := by decide) (hs : ∀ x, foldedSetIterable iter X.env x = pure x := by intro _; rfl) :
    DS X W (.Assign [.Name y py] (.ListComp elt [⟨tg, iter, ifs, 0⟩] scope pos) spos) (sAsg (dFresh (dLcx di dg dt dee (own.map (·.2)))) (dgName i)) :=
  weakS (ps_setLc hc hN hy hyl hsw hi (blkOk_by ok) hg ht he hs) fun D σ H q => by
    have q1 := name_read q
    have fr : ∀ {K : PySem.W.Frag} {d : Sl → M (List PV)} {σ : L2.St} {H : Hp} {Q : VK}, TD K W (dFresh d) σ H Q → TDL K W d σ H Q := fun {K d σ H Q} ⟨m, v, h, sr, sl, p⟩ => ⟨m, v, h, sr, sl, by
      unfold dFresh bnd at p
      cases e1 : d v h with
      | ok l h1 =>
        rw [e1] at p
        intro m1 H1 x1 sr1 D xs n1 n2 eD r
        exact p (m1 ++ [D]) H1 (x1.adopt n1) (sr1.adopt n2 eD r) _ (rep_ref' (by rw [← sr1.len, List.getElem?_append_right (Nat.le_refl _)]; simp))
      | ex u h1 => rw [e1] at p; exact p
      | bad => rw [e1] at p; exact p⟩
    exact lc_read his (noex_read (fr q1))
end
end
end D

/-! layer D, part 4: functions -/
namespace D
open PySem PySem.Spec PyProof.Rows L2

/-- a def that lets no exception out -/
def fn0 (N : Nat) (b : SD) : List PV → M PV := fun as h => match b (as.map some ++ List.replicate (N - as.length) none) h with
  | .rt u h' => .ok u h'
  | .nx _ h' => .ok .non h'
  | _ => .bad
/-- a def that may -/
def fnX (N : Nat) (b : SD) : List PV → M PV := fun as h => match b (as.map some ++ List.replicate (N - as.length) none) h with
  | .rt u h' => .ok u h'
  | .nx _ h' => .ok .non h'
  | .xc e _ h' => .ex e h'
  | _ => .bad
def spD (K : PySem.W.Frag) (n : Nat) (f : List PV → M PV) : Sp := fun vs H Q E => ∃ m h as, SR K m h H ∧ Reps K m H as vs ∧ as.length = n ∧
  Post K (fun c d _ H' => E c d H') [] m H (f as h) fun m' H' _ u => ∀ x, Rep K m' H' u x → Q x H'
theorem spD_len {K : PySem.W.Frag} {n : Nat} {f : List PV → M PV} {vs : List V} {H : Hp} {Q : VK} {E : XK} (h : spD K n f vs H Q E) : vs.length = n := by
  obtain ⟨m, h, as, _, r, e, _⟩ := h
  rw [r.len, e]
theorem sl_start {K : PySem.W.Frag} {m : List Addr} {H : Hp} {N : List Str} {as : List PV} {vs : List V} (r : Reps K m H as vs) : SlD K m H (as.map some ++ List.replicate (N.length - as.length) none) (L2.start N vs) := by
  unfold L2.start
  rw [← r.len]
  refine ⟨by simp [r.len], fun i u e => ?_⟩
  by_cases hi : i < as.length
  · rw [List.getElem?_append_left (by simpa using hi), List.getElem?_map, List.getElem?_eq_getElem hi] at e
    have e' : as[i] = u := by simpa using e
    obtain ⟨x, ex, rx⟩ := r.get (List.getElem?_eq_getElem hi)
    rw [e'] at rx
    refine ⟨x, ?_, rx⟩
    rw [List.getElem?_append_left (by rw [List.length_map, r.len]; exact hi), List.getElem?_map, ex]
    rfl
  · rw [List.getElem?_append_right (by simpa using hi), List.getElem?_replicate] at e
    split at e <;> cases e
theorem body0 {K : PySem.W.Frag} {N : List Str} {b : SD} {n : Nat} {vs : List V} {H : Hp} {Q : VK} {E : XK} (h : spD K n (fn0 N.length b) vs H Q E) : TDS K F0 b { nx := fun _ H' => Q .non H', rt := Q } (L2.start N vs) H := by
  obtain ⟨m, h, as, sr, r, e, p⟩ := h
  refine ⟨m, _, h, sr, sl_start r, ?_⟩
  unfold fn0 at p
  cases e1 : b (as.map some ++ List.replicate (N.length - as.length) none) h with
  | rt u h' => rw [e1] at p; exact fun m' H' x y s q => p m' H' y s x q
  | nx v h' => rw [e1] at p; exact fun m' H' x y s q => p m' H' y s _ rep_non'
  | _ => rw [e1] at p; exact p.elim
theorem bodyX {K : PySem.W.Frag} {N : List Str} {b : SD} {n : Nat} {vs : List V} {H : Hp} {Q : VK} {E : XK} (h : spD K n (fnX N.length b) vs H Q E) : TDS K (fun c d _ H' => E c d H') b { nx := fun _ H' => Q .non H', rt := Q } (L2.start N vs) H := by
  obtain ⟨m, h, as, sr, r, e, p⟩ := h
  refine ⟨m, _, h, sr, sl_start r, ?_⟩
  unfold fnX at p
  cases e1 : b (as.map some ++ List.replicate (N.length - as.length) none) h with
  | rt u h' => rw [e1] at p; exact fun m' H' x y s q => p m' H' y s x q
  | nx v h' => rw [e1] at p; exact fun m' H' x y s q => p m' H' y s _ rep_non'
  | xc a v h' => rw [e1] at p; exact fun m' H' σ' d x s sl xr => p m' H' d x s xr
  | _ => rw [e1] at p; exact p.elim

section
variable {P : Program} {w : World} {K : PySem.W.Frag} {mg : Str → Option Value} {base : Heap}
/-- where a def of the text stands -/
structure Stands (K : PySem.W.Frag) (mg : Str → Option Value) (x : Str) (st : Stmt) (ps : List Str) (f : Addr) (fd : FuncData) : Prop where
  at_ : mg x = some (.ref f)
  fn : Fun K x x st f fd
  bd : Binds K fd ps []
/-- a def is there, and does f -/
def Has (P : Program) (w : World) (K : PySem.W.Frag) (mg : Str → Option Value) (base : Heap) (CX : CXT) (x : Str) (n k : Nat) (f : List PV → M PV) : Prop :=
  ∃ (fa : Addr) (fd : FuncData) (ps : List Str), mg x = some (.ref fa) ∧ PySem.W.keepIn K (.ref fa) = true ∧ Binds K fd ps [] ∧ FnOk P w K mg base CX k fa fd ps (spD K n f)
theorem Has.mono {CX : CXT} {x : Str} {n j k : Nat} {f : List PV → M PV} (h : Has P w K mg base CX x n j f) (l : j ≤ k) : Has P w K mg base CX x n k f := by
  obtain ⟨fa, fd, ps, a, b, c, d⟩ := h
  exact ⟨fa, fd, ps, a, b, c, d.mono l⟩
/-- the context of a def's body, nothing raised -/
abbrev cx0 (P : Program) (w : World) (K : PySem.W.Frag) (mg : Str → Option Value) (base : Heap) (N : List Str) (x : Str) (st : Stmt) (f : Addr) (cdv : Value) (A : Around) (outer : List Env) (s : Shared) (H : Hp) (E : XK) : Cx :=
  (cxOf CX0 P w K mg base N x (defScope st) f cdv A outer s H E).nox
abbrev cxX (P : Program) (w : World) (K : PySem.W.Frag) (mg : Str → Option Value) (base : Heap) (N : List Str) (x : Str) (st : Stmt) (f : Addr) (cdv : Value) (A : Around) (outer : List Env) (s : Shared) (H : Hp) (E : XK) : Cx :=
  cxOf (L2.CX P w) P w K mg base N x (defScope st) f cdv A outer s H E
theorem has0 {x : Str} {st : Stmt} {ps N : List Str} {k : Nat} {b : SD} {f : Addr} {fd : FuncData} (T : Stands K mg x st ps f fd) (S : FnScope N ps (defScope st))
    (hb : ∀ (cdv : Value) (A : Around) (outer : List Env) (s : Shared) (H : Hp) (E : XK), Room k (A.deeper (envOfC x (defScope st) s.heap.objs.size f cdv)) → DSs (cx0 P w K mg base N x st f cdv A outer s H E) F0 (defBody st) b) :
    Has P w K mg base CX0 x ps.length (k + 1) (fn0 N.length b) :=
  ⟨f, fd, ps, T.at_, T.fn.kp, T.bd, T.fn.ok S (fun vs H Q E h => spD_len h) fun cdv A outer s H vs Q E hr h => ⟨_, hb cdv A outer s H E hr, body0 h⟩⟩
theorem hasX {x : Str} {st : Stmt} {ps N : List Str} {k : Nat} {b : SD} {f : Addr} {fd : FuncData} (T : Stands K mg x st ps f fd) (S : FnScope N ps (defScope st))
    (hb : ∀ (cdv : Value) (A : Around) (outer : List Env) (s : Shared) (H : Hp) (E : XK), Room k (A.deeper (envOfC x (defScope st) s.heap.objs.size f cdv)) → Takes (cxX P w K mg base N x st f cdv A outer s H E) (fun c d _ H' => E c d H') →
      PassesOwn (model P w) (cxX P w K mg base N x st f cdv A outer s H E).A (cxX P w K mg base N x st f cdv A outer s H E).env (cxX P w K mg base N x st f cdv A outer s H E).xe → DSs (cxX P w K mg base N x st f cdv A outer s H E) (fun c d _ H' => E c d H') (defBody st) b) :
    Has P w K mg base (L2.CX P w) x ps.length (k + 1) (fnX N.length b) :=
  ⟨f, fd, ps, T.at_, T.fn.kp, T.bd, T.fn.okX S (fun vs H Q E h => spD_len h) fun cdv A outer s H vs Q E hr h => ⟨_, hb cdv A outer s H E hr (takes_of rfl rfl rfl rfl) (passes_of rfl), bodyX h⟩⟩
end

section
variable {X : Cx} {W : WX} {CX : CXT} {x : Str} {n k : Nat} {f : List PV → M PV} {e : Expr} {es : List Expr} {dl : Sl → M (List PV)} {p pos : Pos}
/-- so many arguments -/
def ArgN (n : Nat) (dl : Sl → M (List PV)) : Prop := ∀ v h as h', dl v h = .ok as h' → as.length = n
theorem argN_nil : ArgN 0 dNil := fun v h as h' e => by cases e; rfl
theorem argN_cons {n : Nat} {d : Sl → M PV} {dl : Sl → M (List PV)} (h : ArgN n dl) : ArgN (n + 1) (dCons d dl) := fun v h0 as h' e => by
  unfold dCons bnd at e
  cases e1 : d v h0 with
  | ok x h1 =>
    rw [e1] at e
    simp only at e
    cases e2 : dl v h1 with
    | ok xs h2 =>
      rw [e2] at e
      cases e
      rw [List.length_cons, h v h1 xs _ e2]
    | ex _ _ => rw [e2] at e; cases e
    | bad => rw [e2] at e; cases e
  | ex _ _ => rw [e1] at e; cases e
  | bad => rw [e1] at e; cases e
theorem pass0At {σ : L2.St} {E : XK} : PassesAt CX0 X σ E := fun _ _ _ _ _ _ h => h.elim
theorem callS_read {K : PySem.W.Frag} {σ : L2.St} {H : Hp} {Q : VK} (hl : ArgN n dl) (q : TD K W (dCall f dl) σ H Q) : TDA K W dl σ H fun vs H1 => spD K n f vs H1 Q (WE W σ) := by
  obtain ⟨m, v, h, sr, sl, p⟩ := q
  refine ⟨m, v, h, sr, sl, ?_⟩
  unfold dCall at p
  cases e1 : dl v h with
  | ok as h1 =>
    have hlen := hl v h as h1 e1
    unfold bnd at p
    rw [e1] at p
    intro m1 H1 x1 s1 xs rs
    refine ⟨m1, h1, as, s1, rs, hlen, ?_⟩
    simp only at p
    cases e2 : f as h1 with
    | ok u h2 => rw [e2] at p; exact fun m2 H2 x2 s2 => p m2 H2 (x1.trans x2) s2
    | ex u h2 => rw [e2] at p; exact fun m2 H2 d x2 s2 xr => p m2 H2 d (x1.trans x2) s2 xr
    | bad => rw [e2] at p; exact p
  | ex u h1 => unfold bnd at p; rw [e1] at p; exact p
  | bad => unfold bnd at p; rw [e1] at p; exact p
theorem de_call (F : Has X.prog X.w X.K X.mg X.base CX x n k f) (hr : Room k X.A) (hx : ∀ σ, PassesAt CX X σ (WE W σ)) (ha : DA X W (e :: es) dl) (hl : ArgN n dl) (hg : Gl X x := by rfl)
    (hdb : (x == ("__debug__" : Str)) = false := by decide) (he : starEach (e :: es) X.env = (false, eval e X.env) :: starEach es X.env := by rfl) (hpl : (backTo pos (starEach es X.env)).any (·.1) = false := by rfl) :
    DE X W (.Call (.Name x p) (e :: es) [] pos) (dCall f dl) := by
  obtain ⟨fa, fd, ps, a, b, c, d⟩ := F
  exact weakE (pe_callS (E := WE W) d hr hg a b c hx ha hdb he hpl) fun σ H Q q => callS_read hl q
end
end D

/-! layer D, part 5: functions that ask for repr (no guard is held around them), the law's own end -/
namespace D
open PySem PySem.Spec PyProof.Rows L2

/-- as FnOk, where no guard is held around the call -/
structure FnG (P : Program) (w : World) (K : PySem.W.Frag) (mg : Str → Option Value) (base : Heap) (CX : CXT) (k : Nat) (f : Addr) (fd : FuncData) (ps : List Str) (sp : Sp) : Prop where
  arity : ∀ vs H Q E, sp vs H Q E → vs.length = ps.length
  go : ∀ (A : Around) (outer : List Env) (s : Shared) (H : Hp) (args : Args) (us : List Value) (vs : List V) (Q : VK) (E : XK), A.guards = some [] → Room k A →
    Env0 P w K mg base A outer s H → BindsTo s fd args (ps.zip us) → Vals vs us → sp vs H Q E → codeAny (model P w) A (.call (.ref f) args) (CR CX outer P w H s Q E) s
theorem FnG.of {P : Program} {w : World} {K : PySem.W.Frag} {mg : Str → Option Value} {base : Heap} {CX : CXT} {k : Nat} {f : Addr} {fd : FuncData} {ps : List Str} {sp : Sp} (F : FnOk P w K mg base CX k f fd ps sp) : FnG P w K mg base CX k f fd ps sp :=
  ⟨F.len, fun A outer s H args us vs Q E _ hr => F.run A outer s H args us vs Q E hr⟩
theorem FnG.up {P : Program} {w : World} {K : PySem.W.Frag} {mg : Str → Option Value} {base : Heap} {CX : CXT} {j k : Nat} {f : Addr} {fd : FuncData} {ps : List Str} {sp : Sp} (F : FnG P w K mg base CX j f fd ps sp) (l : j ≤ k) : FnG P w K mg base CX k f fd ps sp :=
  ⟨F.arity, fun A outer s H args us vs Q E g hr => F.go A outer s H args us vs Q E g (hr.mono l)⟩

section
variable {P : Program} {w : World} {K : PySem.W.Frag} {mg : Str → Option Value} {base : Heap} {CX : CXT}
/-- a def of the text, its body read where no guard is held -/
theorem fnG_of {k : Nat} {f : Addr} {x : Str} {st : Stmt} {fd : FuncData} {N ps : List Str} {sp : Sp} (F : Fun K x x st f fd) (S : FnScope N ps (defScope st)) (len : ∀ vs H Q E, sp vs H Q E → vs.length = ps.length)
    (body : ∀ (cdv : Value) (A : Around) (outer : List Env) (s : Shared) (H : Hp) (vs : List V) (Q : VK) (E : XK), A.guards = some [] → Room k (A.deeper (envOfC x (defScope st) s.heap.objs.size f cdv)) → sp vs H Q E →
      ∃ t, PSs (cxOf CX P w K mg base N x (defScope st) f cdv A outer s H E) (defBody st) t ∧ t { nx := fun _ H' => Q .non H', rt := Q } (L2.start N vs) H) : FnG P w K mg base CX (k + 1) f fd ps sp := by
  obtain ⟨oc, od, kV, doc, pm, an, cdv, ct, osl, e, lk, code⟩ := F.ex
  subst e
  constructor
  · exact len
  intro A outer s H args us vs Q E g room e0 bt rv q
  have inK : K.In s.heap := e0.mod.kin.keeps (fun b o z => (e0.bs b o z).1)
  have free : s.heap.NoLimit := e0.mod.nolimit.keeps (fun b o z => (e0.bs b o z).1)
  have kinds : ∀ y ∈ ps.zip us, (defScope st).names.lookup y.1 = some .local ∨ ((defScope st).names.lookup y.1 = some .cell ∧ ((cellsFrom (s.heap.objs.size + 1) (defScope st).names []).lookup y.1).isSome = true) := by
    rintro ⟨n, v⟩ hy
    cases S.par n (List.of_mem_zip hy).1 with
    | inl z => exact Or.inl z
    | inr z => exact Or.inr ⟨z, PySem.W.cellsFrom_some _ _ _ (Or.inl z)⟩
  apply codeAny_call_function room.depth (inK _ _ lk) rfl S.co S.gen rfl (PySem.W.codeRec_of inK code)
  apply bt
  apply wpAny_newFunctionEnv_cells S.kind kinds
  rintro env rfl s1 x1
  refine And.intro (free.keeps x1.toInCall.keep) (codeAny_func ?_)
  obtain ⟨t, ht, hq⟩ := body cdv A outer s H vs Q E g (room.deeper _) q
  have I := inv_start (CX := CX) (P := P) (w := w) (K := K) (mg := mg) (base := base) (f := f) (cd := cdv) (E := E) S room.hd e0 (len _ _ _ _ q) rv x1
  apply wpAny_mono (ht.run [] s1 (L2.start N vs) H _ I hq)
  · intro fl s' hs
    have out : ∀ {σ' : L2.St} {H' : Hp} {v : V} {u : Value}, Inv (cxOf CX P w K mg base N x (defScope st) f cdv A outer s H E) [] σ' H' s' → RelV v u → Q v H' → CE outer P w H s Q u s' := by
      intro σ' H' v u J rv q
      exact ⟨v, H', J.os, J.bare, J.base, J.hok, rv, q⟩
    match fl, hs with
    | .ret u, ⟨v, σ', H', J, rv, q⟩ => exact out J rv q
    | .next, ⟨σ', H', J, q⟩ => exact out (v := .non) (u := Value.none) J rfl q
    | .brk, ⟨_, _, _, q⟩ => exact q.elim
    | .cont, ⟨_, _, _, q⟩ => exact q.elim
  · exact fun e s' z => z
def HasG (P : Program) (w : World) (K : PySem.W.Frag) (mg : Str → Option Value) (base : Heap) (CX : CXT) (x : Str) (n k : Nat) (f : List PV → M PV) : Prop :=
  ∃ (fa : Addr) (fd : FuncData) (ps : List Str), mg x = some (.ref fa) ∧ PySem.W.keepIn K (.ref fa) = true ∧ Binds K fd ps [] ∧ FnG P w K mg base CX k fa fd ps (spD K n f)
theorem Has.g {x : Str} {n k : Nat} {f : List PV → M PV} (h : Has P w K mg base CX x n k f) : HasG P w K mg base CX x n k f := by
  obtain ⟨fa, fd, ps, a, b, c, d⟩ := h
  exact ⟨fa, fd, ps, a, b, c, .of d⟩
theorem HasG.mono {x : Str} {n j k : Nat} {f : List PV → M PV} (h : HasG P w K mg base CX x n j f) (l : j ≤ k) : HasG P w K mg base CX x n k f := by
  obtain ⟨fa, fd, ps, a, b, c, d⟩ := h
  exact ⟨fa, fd, ps, a, b, c, d.up l⟩
theorem fnG0 {x : Str} {st : Stmt} {ps N : List Str} {k : Nat} {b : SD} {f : Addr} {fd : FuncData} (T : Stands K mg x st ps f fd) (S : FnScope N ps (defScope st))
    (hb : ∀ (cdv : Value) (A : Around) (outer : List Env) (s : Shared) (H : Hp) (E : XK), A.guards = some [] → Room k (A.deeper (envOfC x (defScope st) s.heap.objs.size f cdv)) → DSs (cx0 P w K mg base N x st f cdv A outer s H E) F0 (defBody st) b) :
    FnG P w K mg base CX0 (k + 1) f fd ps (spD K ps.length (fn0 N.length b)) :=
  fnG_of T.fn S (fun vs H Q E h => spD_len h) fun cdv A outer s H vs Q E g hr h => ⟨_, (hb cdv A outer s H E g hr).nox, body0 h⟩
theorem hasG0 {x : Str} {st : Stmt} {ps N : List Str} {k : Nat} {b : SD} {f : Addr} {fd : FuncData} (T : Stands K mg x st ps f fd) (S : FnScope N ps (defScope st))
    (hb : ∀ (cdv : Value) (A : Around) (outer : List Env) (s : Shared) (H : Hp) (E : XK), A.guards = some [] → Room k (A.deeper (envOfC x (defScope st) s.heap.objs.size f cdv)) → DSs (cx0 P w K mg base N x st f cdv A outer s H E) F0 (defBody st) b) :
    HasG P w K mg base CX0 x ps.length (k + 1) (fn0 N.length b) := ⟨f, fd, ps, T.at_, T.fn.kp, T.bd, fnG0 T S hb⟩
theorem fnGX {x : Str} {st : Stmt} {ps N : List Str} {k : Nat} {b : SD} {f : Addr} {fd : FuncData} (T : Stands K mg x st ps f fd) (S : FnScope N ps (defScope st))
    (hb : ∀ (cdv : Value) (A : Around) (outer : List Env) (s : Shared) (H : Hp) (E : XK), A.guards = some [] → Room k (A.deeper (envOfC x (defScope st) s.heap.objs.size f cdv)) → Takes (cxX P w K mg base N x st f cdv A outer s H E) (fun c d _ H' => E c d H') →
      PassesOwn (model P w) (cxX P w K mg base N x st f cdv A outer s H E).A (cxX P w K mg base N x st f cdv A outer s H E).env (cxX P w K mg base N x st f cdv A outer s H E).xe → DSs (cxX P w K mg base N x st f cdv A outer s H E) (fun c d _ H' => E c d H') (defBody st) b) :
    FnG P w K mg base (L2.CX P w) (k + 1) f fd ps (spD K ps.length (fnX N.length b)) :=
  fnG_of T.fn S (fun vs H Q E h => spD_len h) fun cdv A outer s H vs Q E g hr h => ⟨_, hb cdv A outer s H E g hr (takes_of rfl rfl rfl rfl) (passes_of rfl), bodyX h⟩
theorem hasGX {x : Str} {st : Stmt} {ps N : List Str} {k : Nat} {b : SD} {f : Addr} {fd : FuncData} (T : Stands K mg x st ps f fd) (S : FnScope N ps (defScope st))
    (hb : ∀ (cdv : Value) (A : Around) (outer : List Env) (s : Shared) (H : Hp) (E : XK), A.guards = some [] → Room k (A.deeper (envOfC x (defScope st) s.heap.objs.size f cdv)) → Takes (cxX P w K mg base N x st f cdv A outer s H E) (fun c d _ H' => E c d H') →
      PassesOwn (model P w) (cxX P w K mg base N x st f cdv A outer s H E).A (cxX P w K mg base N x st f cdv A outer s H E).env (cxX P w K mg base N x st f cdv A outer s H E).xe → DSs (cxX P w K mg base N x st f cdv A outer s H E) (fun c d _ H' => E c d H') (defBody st) b) :
    HasG P w K mg base (L2.CX P w) x ps.length (k + 1) (fnX N.length b) := ⟨f, fd, ps, T.at_, T.fn.kp, T.bd, fnGX T S hb⟩
end

section
variable {X : Cx} {W : WX} {CX : CXT} {x : Str} {n k : Nat} {f : List PV → M PV} {e : Expr} {es : List Expr} {dl : Sl → M (List PV)} {p pos : Pos}
/-- a call of such a def -/
theorem de_callG (hG : X.A.guards = some []) (F : HasG X.prog X.w X.K X.mg X.base CX x n k f) (hr : Room k X.A) (hx : ∀ σ, PassesAt CX X σ (WE W σ)) (ha : DA X W (e :: es) dl) (hl : ArgN n dl) (hg : Gl X x := by rfl)
    (hdb : (x == ("__debug__" : Str)) = false := by decide) (he : starEach (e :: es) X.env = (false, eval e X.env) :: starEach es X.env := by rfl) (hpl : (backTo pos (starEach es X.env)).any (·.1) = false := by rfl) :
    DE X W (.Call (.Name x p) (e :: es) [] pos) (dCall f dl) := by
  obtain ⟨fa, fd, ps, a, b, c, d⟩ := F
  refine ⟨fun pins s σ H Q I q => ?_⟩
  apply wpAny_Call_Name_kw
  apply ld_glob I hg a _ hdb
  apply PySem.W.callWith_K I.ok.mod.kin b _ he hpl
  refine thn (ha.run pos pins s σ H _ I (callS_read hl q)) ?_
  rintro us s1 ⟨vs, H1, I1, r, q1⟩
  refine ⟨I1.kIn, wpAny_call (codeAny_mono (d.go X.A X.stack s1 H1 ⟨us, []⟩ us vs Q (WE W σ) hG hr I1.env0 ?_ r q1) ?_)⟩
  · have := c s1 us I1.kIn (by rw [List.append_nil, ← r.length]; exact d.arity _ _ _ _ q1)
    simpa using this
  · intro res s2 z
    match res, z with
    | .error ee, z => exact hx σ pins H1 s1 ee s2 I1 z
    | .ok (.ret u), z => exact I1.after z
    | .ok .next, z => exact z.elim
    | .ok .brk, z => exact z.elim
    | .ok .cont, z => exact z.elim
end
end D

/-! layer D, part 6: the law's own end -/
namespace D
open PySem PySem.Spec PyProof.Rows L2

/-- nothing is tracked but the script at a -/
structure OnlyAt (a : Addr) (H : Hp) : Prop where
  else_ : ∀ b, b ≠ a → H b = none
  frozen : ∀ o, H a = some o → ∃ ob xs, o = .frz ob (.lst xs)

section
variable {P : Program} {w : World} {K : PySem.W.Frag} {mg mb : Str → Option Value} {CX : CXT} {k : Nat} {fa a : Addr} {fd : FuncData} {x : Str} {sp : Sp} {s1 : Shared} {vs : List Value} {ns : List Int}
theorem law_run (KX : K.In s1.heap) (hns : s1.heap.Ns mainGlobals mg) (hb : s1.heap.Ns builtinsNs mb) (hbb : ∀ x : Str, x ≠ "__name__" → mb x = bootBuiltins x) (hlim : s1.heap.NoLimit) (hg : s1.gens = #[])
    (ha : s1.heap.get? a = some { cls := .type "list", data := .seq vs.toArray }) (room : Room k callerA)
    (F : ∀ base : Heap, K.In base → base.Ns mainGlobals mg → FnG P w K mg base CX k fa fd [x] sp) (hbind : ∀ (s : Shared) (u : Value), BindsTo s fd ⟨[u], []⟩ [(x, u)])
    {H : Hp} (only : OnlyAt a H) (ok : HOk P w H s1.heap) (apart : H a ≠ none → K.lookup a = none) (q : sp [.ref a] H (fun v _ => v = .bl true) fun _ _ _ => False)
    (noX : ∀ e s', CX [] H s1 (fun _ _ _ => False) e s' → False) :
    codeAny (model P w) callerA (.call (.ref fa) ⟨[.ref a], []⟩) (fun r s' => r = .ok (.ret (.bool true)) ∧ OldK s1.heap s'.heap ∧ s'.os = s1.os ∧ AllBare s'.gens) s1 := by
  have untracked : ∀ {b : Addr} {o : Obj} {es : Array DictEntry} {n : Nat}, s1.heap.get? b = some o → o.data = .dict es n → H b = none := by
    intro b o es n e d
    by_cases z : b = a
    · subst z
      rw [ha] at e
      injection e with e
      subst e
      exact absurd d (by simp)
    · exact only.else_ b z
  have space : ∀ {b : Addr} {m : Str → Option Value}, s1.heap.Ns b m → (hidT s1.heap H).Ns b m := by
    rintro b m ⟨o, es, n, e, d, r⟩
    exact ⟨o, es, n, hidT_get e (untracked e d), d, r⟩
  have kin : K.In (hidT s1.heap H) := by
    intro b o e
    refine hidT_get (KX b o e) ?_
    by_cases z : b = a
    · subst z
      cases y : H b with
      | none => rfl
      | some u => rw [apart (by rw [y]; simp)] at e; cases e
    · exact only.else_ b z
  have md : Mod K mg (hidT s1.heap H) := by
    obtain ⟨mc, h1, h2⟩ := hlim
    exact ⟨kin, space hns, ⟨mb, space hb, hbb⟩, mc, space h1, h2⟩
  have e0 : Env0 P w K mg (hidT s1.heap H) callerA [] s1 H :=
    { frames := rfl, mod := md, bs := fun b o e => of_hidT e, bsz := Nat.le_of_eq (hidT_size _ _), funs := trivial, frf := fun b z => absurd (show b ∈ ([] : List Addr) from z) List.not_mem_nil, hok := ok, bare := .of_eq hg }
  apply codeAny_mono ((F _ kin (space hns)).go callerA [] s1 H ⟨[.ref a], []⟩ [.ref a] [.ref a] _ _ rfl room e0 (hbind s1 (.ref a)) (.cons rfl .nil) q)
  intro r s' z
  match r, z with
  | .error e, z => exact (noX e s' z).elim
  | .ok .next, z => exact z.elim
  | .ok .brk, z => exact z.elim
  | .ok .cont, z => exact z.elim
  | .ok (.ret u), ⟨v, H', os, bare, un, ok', rv, e⟩ =>
    have e : v = .bl true := e
    subst e
    obtain rfl : u = Value.bool true := rv
    refine ⟨rfl, OldK.of_keep ?_, os, bare⟩
    intro b o eb
    cases y : H b with
    | none => exact un.keep b o eb y (fun z => absurd (show b ∈ ([] : List Addr) from z) List.not_mem_nil) List.not_mem_nil
    | some u =>
      have z : b = a := by
        cases Classical.em (b = a) with
        | inl z => exact z
        | inr z => rw [only.else_ b z] at y; cases y
      subst z
      obtain ⟨ob, xs, rfl⟩ := only.frozen u y
      have f2 := un.frzs b ob _ y
      obtain ⟨g1, _⟩ := ok b _ y
      obtain ⟨g2, _⟩ := ok' b _ f2
      rw [eb] at g1
      cases g1
      exact g2
/-- the law's promise: with the script it gives True -/
theorem law_call' {f : List PV → M PV} (KX : K.In s1.heap) (hns : s1.heap.Ns mainGlobals mg) (hb : s1.heap.Ns builtinsNs mb) (hbb : ∀ x : Str, x ≠ "__name__" → mb x = bootBuiltins x) (hlim : s1.heap.NoLimit) (hg : s1.gens = #[])
    (ha : s1.heap.get? a = some { cls := .type "list", data := .seq vs.toArray }) (hi : IntsAre vs ns) (small : ns.length ≤ sizeLine) (room : Room k callerA)
    (F : ∀ base : Heap, K.In base → base.Ns mainGlobals mg → FnG P w K mg base CX k fa fd [x] (spD K 1 f)) (hbind : ∀ (s : Shared) (u : Value), BindsTo s fd ⟨[u], []⟩ [(x, u)])
    (law : ∃ h', f [.rol (ns.map PV.int)] [] = .ok (.bl true) h') (noX : ∀ H e s', CX [] H s1 (fun _ _ _ => False) e s' → False) :
    codeAny (model P w) callerA (.call (.ref fa) ⟨[.ref a], []⟩) (fun r s' => r = .ok (.ret (.bool true)) ∧ OldK s1.heap s'.heap ∧ s'.os = s1.os ∧ AllBare s'.gens) s1 := by
  have rv := vals_ints hi
  have many := hi.length
  have reps : ∀ (H : Hp) (l : List Int), Reps K [] H (l.map PV.int) (l.map V.int) := by
    intro H l
    induction l with
    | nil => exact Reps.nil
    | cons i l ih => exact Reps.cons rep_int' ih
  have sp : ∀ H, LstAt K [] H a (ns.map V.int) → spD K 1 f [.ref a] H (fun v _ => v = .bl true) fun _ _ _ => False := by
    intro H at_
    refine ⟨[], [], [.rol (ns.map PV.int)], ⟨rfl, List.nodup_nil, fun n o b e _ => by simp at e⟩, Reps.cons ?_ Reps.nil, rfl, ?_⟩
    · simp only [Rep]
      exact ⟨a, _, rfl, at_, reps H ns⟩
    · obtain ⟨h', e⟩ := law
      rw [e]
      exact fun m' H' _ _ y ry => rep_bl ry
  cases hk : K.lookup a with
  | some o =>
    have e := KX a o hk
    rw [ha] at e
    injection e with e
    subst e
    refine law_run (H := fun _ => none) KX hns hb hbb hlim hg ha room F hbind ⟨fun _ _ => rfl, fun o z => nomatch z⟩ (fun b u z => nomatch z) (fun z => absurd rfl z) (sp _ (.inr fun H' => .inr ?_)) (noX _)
    exact ⟨_, vs.toArray, _, hk, rfl, rfl, rfl, by rw [List.size_toArray, many]; exact small, by simpa using rv⟩
  | none =>
    have at_ : (if a = a then some (HO.frz { cls := .type "list", data := .seq vs.toArray } (.lst (ns.map V.int))) else none) = some (HO.frz { cls := .type "list", data := .seq vs.toArray } (.lst (ns.map V.int))) := if_pos rfl
    refine law_run (H := fun b => if b = a then some (.frz { cls := .type "list", data := .seq vs.toArray } (.lst (ns.map V.int))) else none) KX hns hb hbb hlim hg ha room F hbind ⟨fun b z => if_neg z, fun o z => ?_⟩ ?_ (fun _ => hk) (sp _ (.inl ⟨List.not_mem_nil, _, at_⟩)) (noX _)
    · have z' := at_.symm.trans z
      injection z' with z'
      exact ⟨_, _, z'.symm⟩
    · intro b u z
      by_cases hba : b = a
      · subst hba
        have z' := at_.symm.trans z
        injection z' with z'
        subst z'
        exact ⟨ha, by rw [List.length_map]; exact small, vs, _, rv, ha⟩
      · have z' := (if_neg hba).symm.trans z
        cases z'
end

/-- the goal that the head leaves, from the law's function -/
theorem walk_D {l : PySem.W.OpenLaw} {n k : Nat} {q : Program} {loose : List Str} {XP : (Str → Option Value) → Heap → Prop} {YP : World → Heap → Prop} {d : DefRec} {K : Params → PySem.W.Frag} {CX : World → CXT} {x : Str} {f : World → List PV → M PV}
    (hn : l.most = some n) (hn2 : n ≤ sizeLine) (hdf : d.params.defaults = []) (hr : Room k callerA) (hY : ∀ (w : World) (h : Heap), YP w h → (K w.params).In h)
    (F : ∀ (w : World) (mg : Str → Option Value) (fa : Addr) (h : Heap), (K w.params).In h → h.Ns mainGlobals mg → mg d.name = some (.ref fa) →
      ∃ fd : FuncData, (∀ (s : Shared) (u : Value), BindsTo s fd ⟨[u], []⟩ [(x, u)]) ∧ ∀ base : Heap, (K w.params).In base → base.Ns mainGlobals mg → FnG l.prog w (K w.params) mg base (CX w) k fa fd [x] (spD (K w.params) 1 (f w)))
    (law : ∀ (w : World) (ns : List Int), ns.length ≤ n → ∃ h', f w [.rol (ns.map PV.int)] [] = .ok (.bl true) h')
    (noX : ∀ (w : World) (H : Hp) (s : Shared) (e : Value) (s' : Shared), CX w [] H s (fun _ _ _ => False) e s' → False) :
    PySem.W.WalkO q loose XP YP l.row.toRowW d [] (fun f vs => PySem.call f vs) := by
  apply Att.attach_call hn hdf
  intro w s0 s1 mg mb fa o pm cd doc a vs ns G Y ho hd hcd hmg hobj hints hlen hg
  have KX := hY w _ Y
  obtain ⟨fd, hb, hF⟩ := F w mg fa _ KX G.T.g hmg
  exact law_call' KX G.T.g G.T.b G.T.builtins G.T.nolimit hg hobj hints (Nat.le_trans hlen hn2) hr hF hb (law w ns hlen) fun H e s' => noX w H s1 e s'
end D

/-! layer D, part 7: operators -/
namespace D
open PySem PySem.Spec PyProof.Rows L2

/-! ### values as data -/
mutual
def pdat (r : Nat → Option PyData) : PV → Option PyData
  | .non => some .none
  | .bl b => some (.bool b)
  | .int i => some (.int i)
  | .str x => some (.str x)
  | .tup l => match pdats r l with
    | some ds => some (.tuple ds)
    | none => none
  | .rol l => match pdats r l with
    | some ds => some (.list ds)
    | none => none
  | .ref n => r n
  | .con _ => none
def pdats (r : Nat → Option PyData) : List PV → Option (List PyData)
  | [] => some []
  | v :: l => match pdat r v with
    | some d => match pdats r l with
      | some ds => some (d :: ds)
      | none => none
    | none => none
end
def rdat (h : VH) : Nat → Nat → Option PyData
  | 0, _ => none
  | n + 1, k => match h[k]? with
    | some (.lst l) => match pdats (rdat h n) l with
      | some ds => some (.list ds)
      | none => none
    | _ => none
def dat (h : VH) (v : PV) : Option PyData := pdat (rdat h 4) v
section
variable {K : PySem.W.Frag} {m : List Addr} {h : VH} {H : Hp}
mutual
theorem pdat_dp {r : Nat → Option PyData} (hr : ∀ n d a, r n = some d → m[n]? = some a → Dp K H (.ref a) d) : ∀ (v : PV) (d : PyData) (x : V), pdat r v = some d → Rep K m H v x → Dp K H x d
  | .non, d, x, e, q => by simp only [pdat] at e; cases e; rw [rep_non q]; exact .non
  | .bl b, d, x, e, q => by simp only [pdat] at e; cases e; rw [rep_bl q]; exact .bl b
  | .int i, d, x, e, q => by simp only [pdat] at e; cases e; rw [rep_int q]; exact .int i
  | .str z, d, x, e, q => by simp only [pdat] at e; cases e; rw [rep_str q]; exact .str z
  | .con _, d, x, e, q => by simp only [pdat] at e; cases e
  | .ref n, d, x, e, q => by
    simp only [pdat] at e
    obtain ⟨a, rfl, z⟩ := rep_ref q
    exact hr n d a e z
  | .tup l, d, x, e, q => by
    simp only [pdat] at e
    split at e
    · rename_i ds eds
      cases e
      obtain ⟨a, xs, rfl, t, rs⟩ := rep_tup q
      exact .tup t.sq (pdats_dp hr l ds xs eds rs)
    · cases e
  | .rol l, d, x, e, q => by
    simp only [pdat] at e
    split at e
    · rename_i ds eds
      cases e
      obtain ⟨a, xs, rfl, t, rs⟩ := rep_rol q
      exact .lst t.sq (pdats_dp hr l ds xs eds rs)
    · cases e
theorem pdats_dp {r : Nat → Option PyData} (hr : ∀ n d a, r n = some d → m[n]? = some a → Dp K H (.ref a) d) : ∀ (l : List PV) (ds : List PyData) (xs : List V), pdats r l = some ds → Reps K m H l xs → DpAll K H xs ds
  | [], ds, xs, e, q => by simp only [pdats] at e; cases e; rw [q.nil_inv]; exact .nil
  | v :: l, ds, xs, e, q => by
    simp only [pdats] at e
    split at e
    · rename_i d ed
      split at e
      · rename_i ds' eds
        cases e
        obtain ⟨x, t, rfl, r1, r2⟩ := q.cons_inv
        exact .cons (pdat_dp hr v d x ed r1) (pdats_dp hr l ds' t eds r2)
      · cases e
    · cases e
end
theorem rdat_dp (s : SR K m h H) : ∀ (k n : Nat) (d : PyData) (a : Addr), rdat h k n = some d → m[n]? = some a → Dp K H (.ref a) d
  | 0, n, d, a, e, _ => by simp only [rdat] at e; cases e
  | k + 1, n, d, a, e, ha => by
    simp only [rdat] at e
    split at e
    · rename_i l el
      split at e
      · rename_i ds eds
        cases e
        obtain ⟨xs, q, rs⟩ := s.obj n _ a el ha
        exact .lst (.of q) (pdats_dp (rdat_dp s k) l ds xs eds rs)
      · cases e
    · cases e
theorem dat_dp (s : SR K m h H) {v : PV} {d : PyData} {x : V} (e : dat h v = some d) (r : Rep K m H v x) : Dp K H x d := pdat_dp (rdat_dp s 4) v d x e r
end

/-! ### arithmetic -/
def oAdd : PV → PV → O PV
  | .int i, .int j => fun h => some (.int (i + j), h)
  | .tup l, .tup k => fun h => if l.length + k.length ≤ 16777216 then some (.tup (l ++ k), h) else none
  | .str x, .str y => fun h => if x.length + y.length ≤ 16777216 then some (.str (x ++ y), h) else none
  | .ref a, .ref b => fun h => match h[a]?, h[b]? with
    | some (.lst l), some (.lst k) => if l.length + k.length ≤ 16777216 then some (.ref h.length, h ++ [.lst (l ++ k)]) else none
    | _, _ => none
  | _, _ => fun _ => none
def oInt2 (f : Int → Int → Option PV) : PV → PV → O PV
  | .int i, .int j => fun h => match f i j with
    | some z => some (z, h)
    | none => none
  | _, _ => fun _ => none
def oSub : PV → PV → O PV := oInt2 fun i j => some (.int (i - j))
/-- a bound below which products are let -/
def big : Int := 2 ^ 64
def oMul : PV → PV → O PV
  | .int i, .int j => fun h => if (-big < i ∧ i < big) ∨ (-big < j ∧ j < big) then some (.int (i * j), h) else none
  | .ref a, .int k => fun h => match h[a]? with
    | some (.lst l) => if 0 ≤ k ∧ k ≤ 1000 ∧ l.length ≤ 1000 then some (.ref h.length, h ++ [.lst (List.replicate k.toNat l).flatten]) else none
    | _ => none
  | _, _ => fun _ => none
def oFdiv : PV → PV → O PV := oInt2 fun i j => if 0 < j ∧ j.natAbs < 2 ^ 9000 then some (.int (i / j)) else none
def oMod : PV → PV → O PV := oInt2 fun i j => if 0 < j then some (.int (i % j)) else none
def oPow : PV → PV → O PV := oInt2 fun i j => if 0 ≤ j ∧ j ≤ 1000000 ∧ i.natAbs < 2 ^ 64 then some (.int (i ^ j.toNat)) else none
def oShl : PV → PV → O PV := oInt2 fun i j => if 0 ≤ j ∧ j ≤ 1000000 ∧ i.natAbs < 2 ^ 64 then some (.int (i * 2 ^ j.toNat)) else none
def oShr : PV → PV → O PV := oInt2 fun i j => if 0 ≤ j then some (.int (i / 2 ^ j.toNat)) else none
def oAnd : PV → PV → O PV := oInt2 fun i j => some (.int (Builtin.bitAnd i j))
def oOr : PV → PV → O PV := oInt2 fun i j => some (.int (Builtin.bitOr i j))
def uNeg : PV → O PV
  | .int i => fun h => some (.int (-i), h)
  | _ => fun _ => none
def uInv : PV → O PV
  | .int i => fun h => some (.int (Builtin.bitNot i), h)
  | _ => fun _ => none

theorem tup_not_lst {X : Cx} {pins : List (Addr × Obj)} {σ : L2.St} {H : Hp} {s : Shared} {a : Addr} {xs ys : List V} (I : Inv X pins σ H s) (h : SqT X.K H a xs) (h' : SqL X.K H a ys) : False := by
  obtain ⟨its, _, ⟨o, e, c, _⟩, _⟩ := I.tuple h
  obtain ⟨its', _, ⟨o', _, e', c', _⟩, _⟩ := I.list h'
  rw [e] at e'
  cases e'
  rw [c] at c'
  exact absurd c' (by decide +kernel)
section
variable {X : Cx}
theorem oInt2_ok {f : Value → Value → Sem Value} {g : Int → Int → Option PV} (h : ∀ i j z, g i j = some z → ∃ C : Int → Int → Prop, ∃ z' : Int → Int → Int, OpR X f (rI C fun i j => .int (z' i j)) ∧ C i j ∧ z = .int (z' i j)) : OpR X f (rO2 X.K (oInt2 g)) := by
  intro pins s σ H x y v u Q I rx ry ⟨m, hh, a, b, z, h', sr, ra, rb, e, q⟩
  cases a <;> cases b <;> try (simp only [oInt2, reduceCtorEq] at e; done)
  rename_i i j
  simp only [oInt2] at e
  cases eg : g i j with
  | none => rw [eg] at e; cases e
  | some w =>
    rw [eg] at e
    cases e
    obtain ⟨C, z', op, c, e2⟩ := h i j _ eg
    subst e2
    rw [rep_int ra] at rx; rw [rep_int rb] at ry
    exact op pins s σ H _ _ v u Q I rx ry ⟨i, j, rfl, rfl, c, q m H _ .refl sr rep_int'⟩
theorem weakR {f : Value → Value → Sem Value} {g : Int → Int → Int} (h : OpR X f (rI0 fun i j => .int (g i j))) : OpR X f (rI (fun _ _ => True) fun i j => .int (g i j)) := by
  intro pins s σ H x y v u Q I rx ry ⟨i, j, a, b, _, q⟩
  exact h pins s σ H x y v u Q I rx ry ⟨i, j, a, b, q⟩
theorem p_sub : OpR X (binaryOp .Sub) (rO2 X.K oSub) := oInt2_ok fun i j z e => ⟨_, _, weakR op_sub, trivial, by cases e; rfl⟩
theorem p_mod : OpR X (binaryOp .Mod) (rO2 X.K oMod) := oInt2_ok fun i j z e => by
  by_cases c : 0 < j
  · rw [if_pos c] at e; cases e; exact ⟨_, _, op_mod, c, rfl⟩
  · rw [if_neg c] at e; cases e
theorem p_fdiv : OpR X (binaryOp .FloorDiv) (rO2 X.K oFdiv) := oInt2_ok fun i j z e => by
  by_cases c : 0 < j ∧ j.natAbs < 2 ^ 9000
  · rw [if_pos c] at e; cases e; exact ⟨_, _, op_fdivW, wide_div c.1 c.2 (by decide) (by decide), rfl⟩
  · rw [if_neg c] at e; cases e
theorem p_pow : OpR X (binaryOp .Pow) (rO2 X.K oPow) := oInt2_ok fun i j z e => by
  by_cases c : 0 ≤ j ∧ j ≤ 1000000 ∧ i.natAbs < 2 ^ 64
  · rw [if_pos c] at e; cases e; exact ⟨_, _, op_pow, c, rfl⟩
  · rw [if_neg c] at e; cases e
theorem p_shl : OpR X (binaryOp .LShift) (rO2 X.K oShl) := oInt2_ok fun i j z e => by
  by_cases c : 0 ≤ j ∧ j ≤ 1000000 ∧ i.natAbs < 2 ^ 64
  · rw [if_pos c] at e; cases e; exact ⟨_, _, op_shl, c, rfl⟩
  · rw [if_neg c] at e; cases e
theorem p_shr : OpR X (binaryOp .RShift) (rO2 X.K oShr) := oInt2_ok fun i j z e => by
  by_cases c : 0 ≤ j
  · rw [if_pos c] at e; cases e; exact ⟨_, _, op_shr, c, rfl⟩
  · rw [if_neg c] at e; cases e
theorem p_and : OpR X (binaryOp .BitAnd) (rO2 X.K oAnd) := oInt2_ok fun i j z e => ⟨_, _, weakR op_and, trivial, by cases e; rfl⟩
theorem p_or : OpR X (binaryOp .BitOr) (rO2 X.K oOr) := oInt2_ok fun i j z e => ⟨_, _, weakR op_or, trivial, by cases e; rfl⟩
theorem ip_sub : PIp X .Sub (rO2 X.K oSub) := oInt2_ok (f := inplaceOp .Sub) fun i j z e => ⟨_, _, weakR iop_sub, trivial, by cases e; rfl⟩
theorem ip_addI : PIp X .Add (rO2 X.K (oInt2 fun i j => some (.int (i + j)))) := oInt2_ok (f := inplaceOp .Add) fun i j z e => ⟨_, _, weakR iop_add, trivial, by cases e; rfl⟩
theorem p_neg : UnR X (unaryOp .USub) (rO1 X.K uNeg) := by
  intro pins s σ H x v Q I rx ⟨m, h, a, z, h', sr, ra, e, q⟩
  cases a <;> try (simp only [uNeg, reduceCtorEq] at e; done)
  rename_i i
  cases e
  rw [rep_int ra] at rx
  exact un_neg pins s σ H _ v Q I rx ⟨i, rfl, q m H _ .refl sr rep_int'⟩
theorem p_inv : UnR X (unaryOp .Invert) (rO1 X.K uInv) := by
  intro pins s σ H x v Q I rx ⟨m, h, a, z, h', sr, ra, e, q⟩
  cases a <;> try (simp only [uInv, reduceCtorEq] at e; done)
  rename_i i
  cases e
  rw [rep_int ra] at rx
  exact un_inv pins s σ H _ v Q I rx ⟨i, rfl, q m H _ .refl sr rep_int'⟩
theorem rep_get {K : PySem.W.Frag} {m : List Addr} {h : VH} {H : Hp} {n : Nat} {l : List PV} {a : Addr} (s : SR K m h H) (e : h[n]? = some (.lst l)) (ha : m[n]? = some a) : ∃ xs, H a = some (.lst xs) ∧ Reps K m H l xs := s.obj n _ a e ha
theorem p_add : OpR X (binaryOp .Add) (rO2 X.K oAdd) := by
  intro pins s σ H x y v u Q I rx ry ⟨m, hh, a, b, z, h', sr, ra, rb, e, q⟩
  cases a <;> cases b <;> try (simp only [oAdd, reduceCtorEq] at e; done)
  · rename_i i j
    simp only [oAdd] at e
    cases e
    rw [rep_int ra] at rx; rw [rep_int rb] at ry
    exact op_add pins s σ H _ _ v u Q I rx ry ⟨i, j, rfl, rfl, q m H _ .refl sr rep_int'⟩
  · rename_i i j
    simp only [oAdd] at e
    split at e
    · rename_i c
      cases e
      rw [rep_str ra] at rx; rw [rep_str rb] at ry
      exact op_add_str pins s σ H _ _ v u Q I rx ry ⟨i, j, rfl, rfl, by rw [sizeLine_eq]; exact c, q m H _ .refl sr rep_str'⟩
    · cases e
  · rename_i l k
    simp only [oAdd] at e
    split at e
    · rename_i c
      cases e
      obtain ⟨a, xs, rfl, ta, rsa⟩ := rep_tup ra
      obtain ⟨b, ys, rfl, tb, rsb⟩ := rep_tup rb
      refine op_catA pins s σ H _ _ v u Q I rx ry ⟨a, b, xs, ys, rfl, rfl, ta.sq, tb.sq, by rw [rsa.len, rsb.len, sizeLine_eq]; exact c, fun z => ?_, fun _ z => ?_, fun _ _ p np => ?_⟩
      · subst z
        refine q m H _ .refl sr ?_
        have : l = [] := List.eq_nil_of_length_eq_zero (by have := rsa.len; simpa using this.symm)
        subst this
        simpa using rb
      · subst z
        refine q m H _ .refl sr ?_
        have : k = [] := List.eq_nil_of_length_eq_zero (by have := rsb.len; simpa using this.symm)
        subst this
        simpa using ra
      · exact q m _ _ (.upd_new np) (sr.more np) (sr.tup np (rsa.append rsb))
    · cases e
  · rename_i n k
    simp only [oAdd] at e
    split at e
    · rename_i l1 l2 e1 e2
      split at e
      · rename_i c
        cases e
        obtain ⟨a, rfl, ha⟩ := rep_ref ra
        obtain ⟨b, rfl, hb⟩ := rep_ref rb
        obtain ⟨xs, ea, rsa⟩ := rep_get sr e1 ha
        obtain ⟨ys, eb, rsb⟩ := rep_get sr e2 hb
        refine op_cat pins s σ H _ _ v u Q I rx ry ⟨a, b, xs, ys, rfl, rfl, ea, eb, by rw [rsa.len, rsb.len, sizeLine_eq]; exact c, fun p np => ?_⟩
        exact q (m ++ [p]) _ _ (.upd_add np) (sr.addLst np (rsa.append rsb)) (rep_ref' (by rw [← sr.len, List.getElem?_append_right (Nat.le_refl _)]; simp))
      · cases e
    · cases e
theorem Reps.rep {K : PySem.W.Frag} {m : List Addr} {H : Hp} {l : List PV} {xs : List V} (r : Reps K m H l xs) : ∀ k : Nat, Reps K m H (List.replicate k l).flatten (List.replicate k xs).flatten
  | 0 => Reps.nil
  | k + 1 => by
    rw [List.replicate_succ, List.replicate_succ, List.flatten_cons, List.flatten_cons]
    exact r.append (Reps.rep r k)
theorem p_mul : OpR X (binaryOp .Mult) (rO2 X.K oMul) := by
  intro pins s σ H x y v u Q I rx ry ⟨m, hh, a, b, z, h', sr, ra, rb, e, q⟩
  cases a <;> cases b <;> try (simp only [oMul, reduceCtorEq] at e; done)
  · rename_i i j
    simp only [oMul] at e
    split at e
    · rename_i c
      cases e
      rw [rep_int ra] at rx; rw [rep_int rb] at ry
      exact op_mul pins s σ H _ _ v u Q I rx ry ⟨i, j, rfl, rfl, c, q m H _ .refl sr rep_int'⟩
    · cases e
  · rename_i n k
    simp only [oMul] at e
    split at e
    · rename_i l el
      split at e
      · rename_i c
        cases e
        obtain ⟨a, rfl, ha⟩ := rep_ref ra
        rw [rep_int rb] at ry
        obtain ⟨xs, ea, rsa⟩ := rep_get sr el ha
        have hl := rsa.len
        refine op_rep pins s σ H _ _ v u Q I rx ry ⟨a, k, xs, rfl, rfl, ea, by omega, by omega, ?_, fun p np => ?_⟩
        · rw [hl, sizeLine_eq]
          have h1 : k.toNat ≤ 1000 := by omega
          exact Nat.le_trans (Nat.mul_le_mul c.2.2 h1) (by decide)
        · exact q (m ++ [p]) _ _ (.upd_add np) (sr.addLst np (rsa.rep k.toNat)) (rep_ref' (by rw [← sr.len, List.getElem?_append_right (Nat.le_refl _)]; simp))
      · cases e
    · cases e

/-! ### comparisons -/
def shapedD (d : PyData) : Bool := SeqAt.shaped d
def bothS : PV → PV → Option (Str × Str)
  | .str x, .str y => some (x, y)
  | _, _ => none
theorem bothS_inv {a b : PV} {x y : Str} (e : bothS a b = some (x, y)) : a = .str x ∧ b = .str y := by
  cases a <;> cases b <;> simp only [bothS, reduceCtorEq, Option.some.injEq, Prod.mk.injEq] at e
  exact ⟨by rw [e.1], by rw [e.2]⟩
def oEq (a b : PV) : O PV := fun h => if let some (x, y) := bothS a b then some (.bl (decide (x = y)), h) else match dat h a, dat h b with
  | some d, some e => if SeqAt.shaped d = true ∧ SeqAt.shaped e = true then some (.bl (PyData.eqv d e), h) else none
  | _, _ => none
def oNe (a b : PV) : O PV := fun h => if let some (x, y) := bothS a b then some (.bl (!decide (x = y)), h) else match dat h a, dat h b with
  | some d, some e => if SeqAt.shaped d = true ∧ SeqAt.shaped e = true then some (.bl (!PyData.eqv d e), h) else none
  | _, _ => none
theorem p_eq (hu : X.A.units + 64 < cLine) : OpR X (compareOp .Eq) (rO2 X.K oEq) := by
  intro pins s σ H x y v u Q I rx ry ⟨m, hh, a, b, z, h', sr, ra, rb, e, q⟩
  unfold oEq at e
  split at e
  · rename_i x' y' e0
    cases e
    obtain ⟨rfl, rfl⟩ := bothS_inv e0
    rw [rep_str ra] at rx; rw [rep_str rb] at ry
    refine op_eq pins s σ H _ _ v u Q I rx ry ⟨rfl, ?_⟩
    have : decide (V.str x' = V.str y') = decide (x' = y') := by simp
    rw [this]
    exact q m H _ .refl sr rep_bl'
  split at e
  · rename_i d1 d2 e1 e2
    split at e
    · rename_i c
      cases e
      exact op_eqD hu pins s σ H x y v u Q I rx ry ⟨d1, d2, dat_dp sr e1 ra, dat_dp sr e2 rb, c.1, c.2, q m H _ .refl sr rep_bl'⟩
    · cases e
  · cases e
theorem p_ne (hu : X.A.units + 64 < cLine) : OpR X (compareOp .NotEq) (rO2 X.K oNe) := by
  intro pins s σ H x y v u Q I rx ry ⟨m, hh, a, b, z, h', sr, ra, rb, e, q⟩
  unfold oNe at e
  split at e
  · rename_i x' y' e0
    cases e
    obtain ⟨rfl, rfl⟩ := bothS_inv e0
    rw [rep_str ra] at rx; rw [rep_str rb] at ry
    refine op_ne pins s σ H _ _ v u Q I rx ry ⟨rfl, ?_⟩
    have : decide (V.str x' = V.str y') = decide (x' = y') := by simp
    rw [this]
    exact q m H _ .refl sr rep_bl'
  split at e
  · rename_i d1 d2 e1 e2
    split at e
    · rename_i c
      cases e
      exact op_neD hu pins s σ H x y v u Q I rx ry ⟨d1, d2, dat_dp sr e1 ra, dat_dp sr e2 rb, c.1, c.2, q m H _ .refl sr rep_bl'⟩
    · cases e
  · cases e
def isNonP : PV → Bool
  | .non => true
  | .con v => decide (v = .non)
  | _ => false
theorem rep_isNon {K : PySem.W.Frag} {m : List Addr} {H : Hp} {a : PV} {x : V} (r : Rep K m H a x) : decide (x = .non) = isNonP a := by
  cases a with
  | non => rw [rep_non r]; rfl
  | bl _ => rw [rep_bl r]; rfl
  | int _ => rw [rep_int r]; rfl
  | str _ => rw [rep_str r]; rfl
  | con _ => rw [rep_con r]; rfl
  | tup _ => obtain ⟨a, xs, rfl, _⟩ := rep_tup r; rfl
  | rol _ => obtain ⟨a, xs, rfl, _⟩ := rep_rol r; rfl
  | ref _ => obtain ⟨a, rfl, _⟩ := rep_ref r; rfl
/-- is None, is True .. -/
def oIs (a : PV) : PV → O PV
  | .non => fun h => some (.bl (isNonP a), h)
  | .bl b => fun h => match a with
    | .bl c => some (.bl (decide (c = b)), h)
    | _ => none
  | _ => fun _ => none
def oIsNot (a : PV) : PV → O PV
  | .non => fun h => some (.bl (!isNonP a), h)
  | .bl b => fun h => match a with
    | .bl c => some (.bl (!decide (c = b)), h)
    | _ => none
  | _ => fun _ => none
theorem p_is : OpR X (compareOp .Is) (rO2 X.K oIs) := by
  intro pins s σ H x y v u Q I rx ry ⟨m, hh, a, b, z, h', sr, ra, rb, e, q⟩
  cases b <;> try (simp only [oIs, reduceCtorEq] at e; done)
  · simp only [oIs] at e
    cases e
    rw [rep_non rb] at ry
    exact op_isN pins s σ H x _ v u Q I rx ry ⟨rfl, by rw [rep_isNon ra]; exact q m H _ .refl sr rep_bl'⟩
  · cases a <;> try (simp only [oIs, reduceCtorEq] at e; done)
    simp only [oIs] at e
    cases e
    rw [rep_bl ra] at rx; rw [rep_bl rb] at ry
    exact op_is_bl pins s σ H _ _ v u Q I rx ry ⟨_, _, rfl, rfl, q m H _ .refl sr rep_bl'⟩
theorem p_isNot : OpR X (compareOp .IsNot) (rO2 X.K oIsNot) := by
  intro pins s σ H x y v u Q I rx ry ⟨m, hh, a, b, z, h', sr, ra, rb, e, q⟩
  cases b <;> try (simp only [oIsNot, reduceCtorEq] at e; done)
  · simp only [oIsNot] at e
    cases e
    rw [rep_non rb] at ry
    exact op_notN pins s σ H x _ v u Q I rx ry ⟨rfl, by rw [rep_isNon ra]; exact q m H _ .refl sr rep_bl'⟩
  · cases a <;> try (simp only [oIsNot, reduceCtorEq] at e; done)
    simp only [oIsNot] at e
    cases e
    rw [rep_bl ra] at rx; rw [rep_bl rb] at ry
    exact op_isnot_bl pins s σ H _ _ v u Q I rx ry ⟨_, _, rfl, rfl, q m H _ .refl sr rep_bl'⟩

/-- a tuple of ints -/
def intsP : List PV → Option (List Int)
  | [] => some []
  | .int i :: l => match intsP l with
    | some r => some (i :: r)
    | none => none
  | _ => none
theorem intsP_rep {K : PySem.W.Frag} {m : List Addr} {H : Hp} : ∀ {l : List PV} {ns : List Int} {xs : List V}, intsP l = some ns → Reps K m H l xs → xs = ns.map V.int
  | [], ns, xs, e, r => by simp only [intsP] at e; cases e; rw [r.nil_inv]; rfl
  | v :: l, ns, xs, e, r => by
    obtain ⟨x, t, rfl, r1, r2⟩ := r.cons_inv
    cases v <;> try (simp only [intsP, reduceCtorEq] at e; done)
    simp only [intsP] at e
    split at e
    · rename_i r' e'
      cases e
      rw [rep_int r1, intsP_rep e' r2]
      rfl
    · cases e
def oLt : PV → PV → O PV
  | .int i, .int j => fun h => some (.bl (decide (i < j)), h)
  | .str x, .str y => fun h => some (.bl (decide (x.cps.toList < y.cps.toList)), h)
  | .tup l, .tup k => fun h => match intsP l, intsP k with
    | some ns, some ms => some (.bl (HT.lexLt ns ms), h)
    | _, _ => none
  | _, _ => fun _ => none
def oLe : PV → PV → O PV := oInt2 fun i j => some (.bl (decide (i ≤ j)))
def oGt : PV → PV → O PV := oInt2 fun i j => some (.bl (decide (j < i)))
def oGe : PV → PV → O PV := oInt2 fun i j => some (.bl (decide (j ≤ i)))
theorem p_lt (hu : X.A.units + 65 < cLine) : OpR X (compareOp .Lt) (rO2 X.K oLt) := by
  intro pins s σ H x y v u Q I rx ry ⟨m, hh, a, b, z, h', sr, ra, rb, e, q⟩
  cases a <;> cases b <;> try (simp only [oLt, reduceCtorEq] at e; done)
  · simp only [oLt] at e
    cases e
    rw [rep_int ra] at rx; rw [rep_int rb] at ry
    exact op_lt pins s σ H _ _ v u Q I rx ry ⟨_, _, rfl, rfl, q m H _ .refl sr rep_bl'⟩
  · simp only [oLt] at e
    cases e
    rw [rep_str ra] at rx; rw [rep_str rb] at ry
    exact op_lt_str pins s σ H _ _ v u Q I rx ry ⟨_, _, rfl, rfl, q m H _ .refl sr rep_bl'⟩
  · simp only [oLt] at e
    split at e
    · rename_i ns ms e1 e2
      cases e
      obtain ⟨a, xs, rfl, ta, rsa⟩ := rep_tup ra
      obtain ⟨b, ys, rfl, tb, rsb⟩ := rep_tup rb
      have h1 := intsP_rep e1 rsa
      have h2 := intsP_rep e2 rsb
      subst h1 h2
      exact op_ltT (by omega) pins s σ H _ _ v u Q I rx ry ⟨a, b, ns, ms, rfl, rfl, ta.sq, tb.sq, q m H _ .refl sr rep_bl'⟩
    · cases e
theorem oIntB_ok {f : Value → Value → Sem Value} {g : Int → Int → Bool} (h : OpR X f (rI0 fun i j => .bl (g i j))) : OpR X f (rO2 X.K (oInt2 fun i j => some (.bl (g i j)))) := by
  intro pins s σ H x y v u Q I rx ry ⟨m, hh, a, b, z, h', sr, ra, rb, e, q⟩
  cases a <;> cases b <;> try (simp only [oInt2, reduceCtorEq] at e; done)
  simp only [oInt2] at e
  cases e
  rw [rep_int ra] at rx; rw [rep_int rb] at ry
  exact h pins s σ H _ _ v u Q I rx ry ⟨_, _, rfl, rfl, q m H _ .refl sr rep_bl'⟩
theorem p_le : OpR X (compareOp .LtE) (rO2 X.K oLe) := oIntB_ok op_le
theorem p_gt : OpR X (compareOp .Gt) (rO2 X.K oGt) := oIntB_ok op_gt
theorem p_ge : OpR X (compareOp .GtE) (rO2 X.K oGe) := oIntB_ok op_ge

/-! ### in -/
/-- the items of a tuple or a list -/
def itemsOf (h : VH) : PV → Option (List PV)
  | .tup l => some l
  | .rol l => some l
  | .ref n => match h[n]? with
    | some (.lst l) => some l
    | _ => none
  | _ => none
def oInB (neg : Bool) (a b : PV) : O PV := fun h => match a, b with
  | .str x, .str y => some (.bl (neg ^^ !(Builtin.Str.occurrences y x 0 y.length 1).isEmpty), h)
  | a, b => match itemsOf h b with
    | some l => match dat h a, pdats (rdat h 4) l with
      | some d, some ds => if SeqAt.shaped d = true ∧ SeqAt.shaped (.list ds) = true then some (.bl (neg ^^ ds.any fun z => PyData.eqv z d), h) else none
      | _, _ => none
    | none => none
def oIn : PV → PV → O PV := oInB false
def oNotIn : PV → PV → O PV := oInB true
theorem items_dp {K : PySem.W.Frag} {m : List Addr} {h : VH} {H : Hp} {b : PV} {l : List PV} {ds : List PyData} {y : V} (s : SR K m h H) (e : itemsOf h b = some l) (ed : pdats (rdat h 4) l = some ds) (r : Rep K m H b y) : Dp K H y (.list ds) ∨ Dp K H y (.tuple ds) := by
  cases b <;> try (simp only [itemsOf, reduceCtorEq] at e; done)
  · simp only [itemsOf] at e
    cases e
    obtain ⟨a, xs, rfl, t, rs⟩ := rep_tup r
    exact .inr (.tup t.sq (pdats_dp (rdat_dp s 4) _ ds xs ed rs))
  · simp only [itemsOf] at e
    cases e
    obtain ⟨a, xs, rfl, t, rs⟩ := rep_rol r
    exact .inl (.lst t.sq (pdats_dp (rdat_dp s 4) _ ds xs ed rs))
  · rename_i n
    simp only [itemsOf] at e
    split at e
    · rename_i l' el
      cases e
      obtain ⟨a, rfl, ha⟩ := rep_ref r
      obtain ⟨xs, q, rs⟩ := rep_get s el ha
      exact .inl (.lst (.of q) (pdats_dp (rdat_dp s 4) _ ds xs ed rs))
    · cases e
theorem shaped_lt {ds : List PyData} (h : SeqAt.shaped (.list ds) = true) : PyData.canLayAll0 ds = true := by
  have := SeqAt.canLay_of_shaped h
  simpa only [PyData.canLay0] using this
theorem in_of {d : PyData} {ds : List PyData} {pins : List (Addr × Obj)} {σ : L2.St} {H : Hp} {s : Shared} {x y : V} {v u : Value} {Q : VK} (hu : X.A.units + 65 < cLine) (I : Inv X pins σ H s) (rx : RelV x v) (ry : RelV y u) (hd : Dp X.K H x d) (he : Dp X.K H y (.list ds) ∨ Dp X.K H y (.tuple ds))
    (sd : SeqAt.shaped d = true) (se : SeqAt.shaped (.list ds) = true) (q : Q (.bl (ds.any fun z => PyData.eqv z d)) H) : wpAny (model X.prog X.w) X.A (compareOp .In v u) (EP X pins σ Q) X.xe s := by
  obtain ⟨as, r1⟩ := Dp.reads I d x v hd rx
  rcases he with he | he
  · obtain ⟨bs, r2⟩ := Dp.reads I (.list ds) y u he ry
    exact SeqAt.in_list_reads r2 r1 (shaped_lt se) (SeqAt.canLay_of_shaped sd) (room_in_shaped sd hu) ⟨.bl _, H, I, rfl, q⟩
  · obtain ⟨bs, r2⟩ := Dp.reads I (.tuple ds) y u he ry
    exact SeqAt.in_tuple_reads r2 r1 (shaped_lt se) (SeqAt.canLay_of_shaped sd) (room_in_shaped sd hu) ⟨.bl _, H, I, rfl, q⟩
theorem notIn_of {d : PyData} {ds : List PyData} {pins : List (Addr × Obj)} {σ : L2.St} {H : Hp} {s : Shared} {x y : V} {v u : Value} {Q : VK} (hu : X.A.units + 65 < cLine) (I : Inv X pins σ H s) (rx : RelV x v) (ry : RelV y u) (hd : Dp X.K H x d) (he : Dp X.K H y (.list ds) ∨ Dp X.K H y (.tuple ds))
    (sd : SeqAt.shaped d = true) (se : SeqAt.shaped (.list ds) = true) (q : Q (.bl (!ds.any fun z => PyData.eqv z d)) H) : wpAny (model X.prog X.w) X.A (compareOp .NotIn v u) (EP X pins σ Q) X.xe s := by
  obtain ⟨as, r1⟩ := Dp.reads I d x v hd rx
  rcases he with he | he
  · obtain ⟨bs, r2⟩ := Dp.reads I (.list ds) y u he ry
    exact SeqAt.notIn_list_reads r2 r1 (shaped_lt se) (SeqAt.canLay_of_shaped sd) (room_in_shaped sd hu) ⟨.bl _, H, I, rfl, q⟩
  · obtain ⟨bs, r2⟩ := Dp.reads I (.tuple ds) y u he ry
    exact SeqAt.notIn_tuple_reads r2 r1 (shaped_lt se) (SeqAt.canLay_of_shaped sd) (room_in_shaped sd hu) ⟨.bl _, H, I, rfl, q⟩
theorem p_in (hu : X.A.units + 65 < cLine) : OpR X (compareOp .In) (rO2 X.K oIn) := by
  intro pins s σ H x y v u Q I rx ry ⟨m, hh, a, b, z, h', sr, ra, rb, e, q⟩
  unfold oIn oInB at e
  split at e
  · cases e
    rw [rep_str ra] at rx; rw [rep_str rb] at ry
    exact op_in_str pins s σ H _ _ v u Q I rx ry ⟨_, _, rfl, rfl, by simpa using q m H _ .refl sr rep_bl'⟩
  · split at e
    · rename_i l el
      split at e
      · rename_i d ds e1 e2
        split at e
        · rename_i c
          cases e
          exact in_of hu I rx ry (dat_dp sr e1 ra) (items_dp sr el e2 rb) c.1 c.2 (by simpa using q m H _ .refl sr rep_bl')
        · cases e
      · cases e
    · cases e
theorem p_notIn (hu : X.A.units + 65 < cLine) : OpR X (compareOp .NotIn) (rO2 X.K oNotIn) := by
  intro pins s σ H x y v u Q I rx ry ⟨m, hh, a, b, z, h', sr, ra, rb, e, q⟩
  unfold oNotIn oInB at e
  split at e
  · cases e
    rw [rep_str ra] at rx; rw [rep_str rb] at ry
    exact op_notin_str pins s σ H _ _ v u Q I rx ry ⟨_, _, rfl, rfl, by simpa using q m H _ .refl sr rep_bl'⟩
  · split at e
    · rename_i l el
      split at e
      · rename_i d ds e1 e2
        split at e
        · rename_i c
          cases e
          exact notIn_of hu I rx ry (dat_dp sr e1 ra) (items_dp sr el e2 rb) c.1 c.2 (by simpa using q m H _ .refl sr rep_bl')
        · cases e
      · cases e
    · cases e

/-! ### subscripts, slices, stores -/
def oIx : PV → PV → O PV
  | a, .int i => fun h => match a with
    | .str z => if z.length ≤ 16777216 then (match atI z.cps.toList i with
      | some c => some (.str ⟨#[c]⟩, h)
      | none => none) else none
    | a => match itemsOf h a with
      | some l => match atI l i with
        | some v => some (v, h)
        | none => none
      | none => none
  | _, _ => fun _ => none
theorem Reps.atI {K : PySem.W.Frag} {m : List Addr} {H : Hp} {l : List PV} {xs : List V} {i : Int} {v : PV} (r : Reps K m H l xs) (e : L2.atI l i = some v) : ∃ x, L2.atI xs i = some x ∧ Rep K m H v x := by
  unfold L2.atI at e ⊢
  rw [r.len]
  cases e1 : ixN l.length i with
  | none => rw [e1] at e; cases e
  | some j =>
    rw [e1] at e
    exact r.get e
theorem items_sq {K : PySem.W.Frag} {m : List Addr} {h : VH} {H : Hp} {b : PV} {l : List PV} {y : V} (s : SR K m h H) (e : itemsOf h b = some l) (r : Rep K m H b y) : ∃ a xs, y = .ref a ∧ (SqL K H a xs ∨ SqT K H a xs) ∧ Reps K m H l xs := by
  cases b <;> try (simp only [itemsOf, reduceCtorEq] at e; done)
  · simp only [itemsOf] at e
    cases e
    obtain ⟨a, xs, rfl, t, rs⟩ := rep_tup r
    exact ⟨a, xs, rfl, .inr t.sq, rs⟩
  · simp only [itemsOf] at e
    cases e
    obtain ⟨a, xs, rfl, t, rs⟩ := rep_rol r
    exact ⟨a, xs, rfl, .inl t.sq, rs⟩
  · rename_i n
    simp only [itemsOf] at e
    split at e
    · rename_i l' el
      cases e
      obtain ⟨a, rfl, ha⟩ := rep_ref r
      obtain ⟨xs, q, rs⟩ := rep_get s el ha
      exact ⟨a, xs, rfl, .inl (.of q), rs⟩
    · cases e
theorem p_ix : IxR X (rO2 X.K oIx) := by
  intro value slice pins s σ H x y v u Q I rx ry ⟨m, hh, a, b, z, h', sr, ra, rb, e, q⟩ hs
  cases b <;> try (simp only [oIx, reduceCtorEq] at e; done)
  rename_i i
  rw [rep_int rb] at ry
  simp only [oIx] at e
  split at e
  · rename_i z0
    rw [rep_str ra] at rx
    split at e
    · rename_i hz
      split at e
      · rename_i c ec
        cases e
        exact ix_str value slice pins s σ H _ _ v u Q I rx ry ⟨z0, i, c, rfl, rfl, by rw [sizeLine_eq]; exact hz, ec, q m H _ .refl sr rep_str'⟩ hs
      · cases e
    · cases e
  · split at e
    · rename_i l el
      split at e
      · rename_i w ew
        cases e
        obtain ⟨p, xs, rfl, sq, rs⟩ := items_sq sr el ra
        obtain ⟨x', ex, rx'⟩ := rs.atI ew
        have qq := q m H _ .refl sr rx'
        rcases sq with sq | sq
        · exact ix_list value slice pins s σ H _ _ v u Q I rx ry ⟨p, xs, i, x', rfl, rfl, sq, ex, qq⟩ hs
        · exact ix_tup value slice pins s σ H _ _ v u Q I rx ry ⟨p, xs, i, x', rfl, rfl, sq, ex, qq⟩ hs
      · cases e
    · cases e
def cutP (l : List PV) (lo hi : Option Int) : List PV := (l.drop (HT.sIx l.length 0 lo)).take (HT.sIx l.length l.length hi - HT.sIx l.length 0 lo)
def oSl (a : PV) (lo hi : Option Int) : O PV := fun h => match a with
  | .tup l => some (.tup (cutP l lo hi), h)
  | a => match itemsOf h a with
    | some l => some (.ref h.length, h ++ [.lst (cutP l lo hi)])
    | none => none
theorem Reps.cut {K : PySem.W.Frag} {m : List Addr} {H : Hp} {l : List PV} {xs : List V} (lo hi : Option Int) (r : Reps K m H l xs) : Reps K m H (cutP l lo hi) (cutV xs lo hi) := by
  unfold cutP cutV
  rw [r.len]
  exact (r.drop _).take _
theorem p_sl : L2.SlR X (rOS X.K oSl) := by
  intro pins s σ H x v vl vu lo hi sl Q I rx hs pl pu ⟨m, h, a, z, h', sr, ra, e, q⟩
  unfold oSl at e
  by_cases isT : ∃ l, a = .tup l
  · obtain ⟨l, rfl⟩ := isT
    simp only at e
    cases e
    obtain ⟨p, xs, rfl, t, rs⟩ := rep_tup ra
    refine sl_tupA pins s σ H _ v vl vu lo hi sl Q I rx hs pl pu ⟨p, xs, rfl, t.sq, fun ⟨w1, w2⟩ => ?_, fun _ p np => q m _ _ (.upd_new np) (sr.more np) (sr.tup np (rs.cut lo hi))⟩
    refine q m H _ .refl sr ?_
    have : cutP l lo hi = l := by
      unfold cutP
      rw [← rs.len, w1, w2]
      simp [rs.len]
    rw [this]
    exact ra
  · have e : (match itemsOf h a with
      | some l => some (PV.ref h.length, h ++ [VO.lst (cutP l lo hi)])
      | none => none) = some (z, h') := by
      cases a with
      | tup l => exact absurd ⟨l, rfl⟩ isT
      | _ => exact e
    split at e
    · rename_i l el
      cases e
      obtain ⟨p, xs, rfl, sq, rs⟩ := items_sq sr el ra
      rcases sq with sq | sq
      · refine sl_list pins s σ H _ v vl vu lo hi sl Q I rx hs pl pu ⟨p, xs, rfl, sq, fun p np => ?_⟩
        exact q (m ++ [p]) _ _ (.upd_add np) (sr.addLst np (rs.cut lo hi)) (rep_ref' (by rw [← sr.len, List.getElem?_append_right (Nat.le_refl _)]; simp))
      · -- a tuple has been met above
        exfalso
        cases a <;> try (simp only [itemsOf, reduceCtorEq] at el; done)
        · exact isT ⟨_, rfl⟩
        · rename_i l0
          obtain ⟨a', ys, e1, t, _⟩ := rep_rol ra
          cases e1
          exact tup_not_lst I sq t.sq
        · rename_i n
          obtain ⟨a', e1, ha⟩ := rep_ref ra
          cases e1
          simp only [itemsOf] at el
          split at el
          · rename_i l' el'
            obtain ⟨ys, qy, _⟩ := rep_get sr el' ha
            exact tup_not_lst I sq (.of qy)
          · cases el
    · cases e
def oSetIx (a b v : PV) : O Unit := fun h => match a, b with
  | .ref n, .int i => match h[n]? with
    | some (.lst l) => match ixN l.length i with
      | some j => some ((), h.set n (.lst (l.set j v)))
      | none => none
    | _ => none
  | _, _ => none
theorem p_setIx : PSet X (rOP X.K oSetIx) := by
  intro pins s σ H o i v ov iv u Q I ro ri rv ⟨m, h, a, b, c, h', sr, ra, rb, rc, e, q⟩
  unfold oSetIx at e
  split at e
  · rename_i n k
    split at e
    · rename_i l el
      split at e
      · rename_i j ej
        cases e
        obtain ⟨p, rfl, hp⟩ := rep_ref ra
        rw [rep_int rb] at ri
        obtain ⟨xs, ex, rs⟩ := rep_get sr el hp
        refine set_list pins s σ H _ _ v ov iv u Q I ro ri rv ⟨p, xs, k, j, rfl, rfl, ex, by rw [rs.len]; exact ej, ?_⟩
        exact q m _ (.upd_set (List.mem_of_getElem? hp)) (sr.putLst hp (rs.set j rc))
      · cases e
    · cases e
  · cases e
/-! ### methods of lists -/
def mAppend (a : PV) (as : List PV) : O PV := fun h => match a, as with
  | .ref n, [v] => match h[n]? with
    | some (.lst l) => if l.length < 16777216 then some (.non, h.set n (.lst (l ++ [v]))) else none
    | _ => none
  | _, _ => none
theorem p_append : MtR X "list.append" (rOM X.K mAppend) := by
  intro pins s σ H x xs v us Q I rx rs ⟨m, h, a, as, z, h', sr, ra, rbs, e, q⟩
  unfold mAppend at e
  split at e
  · rename_i n w
    split at e
    · rename_i l el
      split at e
      · rename_i c
        cases e
        obtain ⟨p, rfl, hp⟩ := rep_ref ra
        obtain ⟨y, t, rfl, r1, r2⟩ := rbs.cons_inv
        have ht := r2.nil_inv
        subst ht
        obtain ⟨ys, ey, rys⟩ := rep_get sr el hp
        refine mt_append pins s σ H _ _ v us Q I rx rs ⟨p, ys, y, rfl, rfl, ey, by rw [rys.len, sizeLine_eq]; exact c, ?_⟩
        exact q m _ _ (.upd_set (List.mem_of_getElem? hp)) (sr.putLst hp (rys.append (Reps.cons r1 Reps.nil))) rep_non'
      · cases e
    · cases e
  · cases e
def mPop (a : PV) (as : List PV) : O PV := fun h => match a, as with
  | .ref n, [] => match h[n]? with
    | some (.lst l) => match l[l.length - 1]? with
      | some v => some (v, h.set n (.lst l.dropLast))
      | none => none
    | _ => none
  | _, _ => none
theorem Reps.dropLast {K : PySem.W.Frag} {m : List Addr} {H : Hp} {l : List PV} {xs : List V} (r : Reps K m H l xs) : Reps K m H l.dropLast xs.dropLast := by
  rw [List.dropLast_eq_take, List.dropLast_eq_take, r.len]
  exact r.take _
theorem p_pop : MtR X "list.pop" (rOM X.K mPop) := by
  intro pins s σ H x xs v us Q I rx rs ⟨m, h, a, as, z, h', sr, ra, rbs, e, q⟩
  unfold mPop at e
  split at e
  · rename_i n
    split at e
    · rename_i l el
      split at e
      · rename_i w ew
        cases e
        obtain ⟨p, rfl, hp⟩ := rep_ref ra
        have hx := rbs.nil_inv
        subst hx
        obtain ⟨ys, ey, rys⟩ := rep_get sr el hp
        obtain ⟨y, e1, ry⟩ := rys.get ew
        refine mt_pop pins s σ H _ _ v us Q I rx rs ⟨p, ys, y, rfl, rfl, ey, by rw [rys.len]; exact e1, ?_⟩
        exact q m _ _ (.upd_set (List.mem_of_getElem? hp)) (sr.putLst hp rys.dropLast) (ry.ext (.upd_set (List.mem_of_getElem? hp)))
      · cases e
    · cases e
  · cases e
def mExtend (a : PV) (as : List PV) : O PV := fun h => match a, as with
  | .ref n, [.ref k] => match h[n]?, h[k]? with
    | some (.lst l), some (.lst r) => if l.length + r.length ≤ 16777216 then some (.non, h.set n (.lst (l ++ r))) else none
    | _, _ => none
  | _, _ => none
theorem p_extend : MtR X "list.extend" (rOM X.K mExtend) := by
  intro pins s σ H x xs v us Q I rx rs ⟨m, h, a, as, z, h', sr, ra, rbs, e, q⟩
  unfold mExtend at e
  split at e
  · rename_i n k
    split at e
    · rename_i l r el er
      split at e
      · rename_i c
        cases e
        obtain ⟨p, rfl, hp⟩ := rep_ref ra
        obtain ⟨y, t, rfl, r1, r2⟩ := rbs.cons_inv
        have ht := r2.nil_inv
        subst ht
        obtain ⟨p2, rfl, hp2⟩ := rep_ref r1
        obtain ⟨ys, ey, rys⟩ := rep_get sr el hp
        obtain ⟨zs, ez, rzs⟩ := rep_get sr er hp2
        refine mt_extend pins s σ H _ _ v us Q I rx rs ⟨p, p2, ys, zs, rfl, rfl, ey, ez, by rw [rys.len, rzs.len, sizeLine_eq]; exact c, ?_⟩
        exact q m _ _ (.upd_set (List.mem_of_getElem? hp)) (sr.putLst hp (rys.append rzs)) rep_non'
      · cases e
    · cases e
  · cases e
end
end D

/-! layer D, part 8: methods, builtins, walks -/
namespace D
open PySem PySem.Spec PySem.W PyProof.Rows L2

/-! ### methods of lists and strings -/
def isLst (h : VH) : PV → Bool
  | .rol _ => true
  | .ref n => match h[n]? with
    | some (.lst _) => true
    | _ => false
  | _ => false
def isStr (_ : VH) : PV → Bool
  | .str _ => true
  | _ => false
/-- a kind of receiver -/
structure Kd (K : PySem.W.Frag) (T : String) (c : VH → PV → Bool) : Prop where
  ok : ∀ (m : List Addr) (h : VH) (H : Hp) (a : PV) (x : V), SR K m h H → Rep K m H a x → c h a = true → tyV K T x H
theorem kd_list {K : PySem.W.Frag} : Kd K "list" isLst := ⟨fun m h H a x s r e => by
  cases a <;> try (simp only [isLst, reduceCtorEq] at e; done)
  · obtain ⟨a, xs, rfl, t, _⟩ := rep_rol r
    exact .inl ⟨rfl, xs, t.sq⟩
  · rename_i n
    obtain ⟨a, rfl, ha⟩ := rep_ref r
    simp only [isLst] at e
    split at e
    · rename_i l el
      obtain ⟨xs, q, _⟩ := rep_get s el ha
      exact .inl ⟨rfl, xs, .of q⟩
    · cases e⟩
theorem kd_str {K : PySem.W.Frag} : Kd K "str" isStr := ⟨fun m h H a x s r e => by
  cases a <;> try (simp only [isStr, reduceCtorEq, Bool.false_eq_true] at e; done)
  rw [rep_str r]
  rfl⟩
def dMeth (c : VH → PV → Bool) (g : PV → List PV → O PV) (o : Sl → M PV) (a : Sl → M (List PV)) : Sl → M PV := fun v => bnd (o v) fun x h => if c h x = true then bnd (a v) (fun l => liftO (g x l)) h else .bad
section
variable {X : Cx} {W : WX} {e o : Expr} {es : List Expr} {do_ : Sl → M PV} {dl : Sl → M (List PV)} {name : Str} {apos cpos : Pos} {T id : String} {g : PV → List PV → O PV} {c : VH → PV → Bool}
theorem de_bm1 (kd : Kd X.K T c) (pa : PlainAttrs T) (slot : Slot T name id) (hty : typeOf (.builtin id) = pure (.type "method_descriptor")) (hm : MtR X id (rOM X.K g)) (ho : DE X W o do_) (ha : DA X W (e :: es) dl)
    (hbase : attributeBase o name X.env (eval o X.env) = eval o X.env := by rfl)
    (hfew : ((backTo cpos (starEach (e :: es) X.env)).all (fun x => !x.1) && (backToKw cpos (keywordEach [] X.env)).all (fun x => x.1.isSome)
      && decide ((e :: es).length + ([] : List Keyword).length + (if ([] : List Keyword).isEmpty then 0 else 1) < 30)) = true := by rfl)
    (hline : (apos.endLine == cpos.line) = true := by rfl) (hs : starEach (e :: es) X.env = (false, eval e X.env) :: starEach es X.env := by rfl) (hplain : (backTo cpos (starEach es X.env)).any (·.1) = false := by rfl) :
    DE X W (.Call (.Attribute o name apos) (e :: es) [] cpos) (dMeth c g do_ dl) :=
  weakE (pe_bm pa slot hty hm ho ha hbase hfew hline hs hplain) fun σ H Q ⟨m, v, h, sr, sl, p⟩ => ⟨m, v, h, sr, sl, (Post.seq p).mono fun m1 H1 h1 u x1 sr1 p1 x rx => by
    by_cases hc : c h1 u = true
    case neg => rw [if_neg hc] at p1; exact p1.elim
    rw [if_pos hc] at p1
    refine ⟨kd.ok _ _ _ _ _ sr1 rx hc, m1, v, h1, sr1, sl.ext x1, (Post.seq p1).mono fun m2 H2 h2 us x2 sr2 p2 xs rs => ?_⟩
    obtain ⟨z, h', e, q⟩ := Post.lift p2
    exact ⟨m2, h2, u, us, z, h', sr2, rx.ext x2, rs, e, fun m' H' w x3 s3 r3 => q m' H' x3 s3 w r3⟩⟩
theorem de_bm0 (kd : Kd X.K T c) (pa : PlainAttrs T) (slot : Slot T name id) (hty : typeOf (.builtin id) = pure (.type "method_descriptor")) (hm : MtR X id (rOM X.K g)) (ho : DE X W o do_)
    (hbase : attributeBase o name X.env (eval o X.env) = eval o X.env := by rfl) (hline : (apos.endLine == cpos.line) = true := by rfl) : DE X W (.Call (.Attribute o name apos) [] [] cpos) (dMeth c g do_ dNil) :=
  weakE (pe_bm0 pa slot hty hm ho hbase hline) fun σ H Q ⟨m, v, h, sr, sl, p⟩ => ⟨m, v, h, sr, sl, (Post.seq p).mono fun m1 H1 h1 u x1 sr1 p1 x rx => by
    by_cases hc : c h1 u = true
    case neg => rw [if_neg hc] at p1; exact p1.elim
    rw [if_pos hc] at p1
    refine ⟨kd.ok _ _ _ _ _ sr1 rx hc, ?_⟩
    obtain ⟨z, h', e, q⟩ := Post.lift (Post.seq p1 m1 H1 .refl sr1)
    exact ⟨m1, h1, u, [], z, h', sr1, rx, Reps.nil, e, fun m' H' w x3 s3 r3 => q m' H' x3 s3 w r3⟩⟩
end

/-! ### builtins of one walked thing -/
/-- from the items of a list or a tuple -/
def rBI (K : PySem.W.Frag) (g : List PV → O PV) : List V → Hp → VK → Prop := fun xs H Q => ∃ m h l z h' a ys, SR K m h H ∧ xs = [.ref a] ∧ (SqL K H a ys ∨ SqT K H a ys) ∧ Reps K m H l ys ∧ g l h = some (z, h') ∧
  ∀ m' H' w, Ext m H m' H' → SR K m' h' H' → Rep K m' H' z w → Q w H'
def oBI (g : List PV → O PV) : List PV → O PV := fun as h => match as with
  | [v] => match itemsOf h v with
    | some l => g l h
    | none => none
  | _ => none
theorem bi_of {X : Cx} {f : Value} {g : List PV → O PV} (h : CallR X f (rBI X.K g)) : CallR X f (rOL X.K (oBI g)) := by
  intro pins s σ H xs us Q I rx ⟨m, hh, as, z, h', sr, rs, e, q⟩
  unfold oBI at e
  split at e
  · rename_i v
    split at e
    · rename_i l el
      obtain ⟨x, t, rfl, r1, r2⟩ := rs.cons_inv
      have ht := r2.nil_inv
      subst ht
      obtain ⟨a, ys, rfl, sq, rl⟩ := items_sq sr el r1
      exact h pins s σ H _ us Q I rx ⟨m, hh, l, z, h', a, ys, sr, rfl, sq, rl, e, q⟩
    · cases e
  · cases e
def dTmpFn (g : List PV → O PV) (d : Sl → M (List PV)) : Sl → M PV := fun v => bnd (d v) fun l => liftO (g l)
theorem tl_read {K : PySem.W.Frag} {W : WX} {d : Sl → M (List PV)} {g : List PV → O PV} {σ : L2.St} {H : Hp} {Q : VK} (q : TD K W (dTmpFn g d) σ H Q) : tCons (TDL K W d) tNil σ H fun xs H1 => rBI K g xs H1 Q := by
  obtain ⟨m, v, h, sr, sl, p⟩ := q
  refine ⟨m, v, h, sr, sl, ?_⟩
  unfold dTmpFn bnd at p
  cases e1 : d v h with
  | ok l h1 =>
    rw [e1] at p
    intro m1 H1 x1 sr1 D xs n1 n2 eD r
    show rBI K g [.ref D] H1 Q
    simp only at p
    unfold liftO at p
    cases e2 : g l h1 with
    | none => rw [e2] at p; exact p.elim
    | some z =>
      rw [e2] at p
      exact ⟨m1, h1, l, z.1, z.2, D, xs, sr1, rfl, .inl (.of eD), r, e2, fun m' H' w x2 s2 r2 => p m' H' (x1.trans x2) s2 w r2⟩
  | ex u h1 => rw [e1] at p; exact p
  | bad => rw [e1] at p; exact p
section
variable {X : Cx} {W : WX} {e : Expr} {d : Sl → M (List PV)} {g : List PV → O PV} {pos : Pos}
theorem de_callBL {x : Str} {id : String} {p : Pos} (hc : CallR X (.builtin id) (rBI X.K g)) (hg : Gl X x) (hm : X.mg x = none) (hv : bootBuiltins x = some (.builtin id)) (h : DL X W e d) (hn : x ≠ "__name__" := by decide) (hdb : (x == ("__debug__" : Str)) = false := by decide)
    (hs : starEach [e] X.env = (false, eval e X.env) :: starEach [] X.env := by rfl) : DE X W (.Call (.Name x p) [e] [] pos) (dTmpFn g d) :=
  weakE (pe_callB hc hg hm hv (pa_cons h pa_nil hs) hn hdb hs rfl) fun σ H Q q => tl_read q
theorem de_callTyL {x : Str} {T : String} {p : Pos} (hc : CallR X (.type T) (rBI X.K g)) (hg : Gl X x) (hm : X.mg x = none) (hv : bootBuiltins x = some (.type T)) (h : DL X W e d) (hn : x ≠ "__name__" := by decide) (hdb : (x == ("__debug__" : Str)) = false := by decide)
    (hs : starEach [e] X.env = (false, eval e X.env) :: starEach [] X.env := by rfl) : DE X W (.Call (.Name x p) [e] [] pos) (dTmpFn g d) :=
  weakE (pe_callTy hc hg hm hv (pa_cons h pa_nil hs) hn hdb hs rfl) fun σ H Q q => tl_read q
end
/-! which -/
def gTuple (l : List PV) : O PV := fun h => some (.tup l, h)
def gList (l : List PV) : O PV := fun h => some (.ref h.length, h ++ [.lst l])
def gLen (l : List PV) : O PV := fun h => some (.int l.length, h)
def gMax (l : List PV) : O PV := fun h => match intsP l with
  | some (n :: ns) => some (.int (ns.foldl max n), h)
  | _ => none
def gMin (l : List PV) : O PV := fun h => match intsP l with
  | some (n :: ns) => some (.int (ns.foldl min n), h)
  | _ => none
/-- truth values -/
def blsP : List PV → Option (List Bool)
  | [] => some []
  | .bl i :: l => match blsP l with
    | some r => some (i :: r)
    | none => none
  | _ => none
theorem blsP_rep {K : PySem.W.Frag} {m : List Addr} {H : Hp} : ∀ {l : List PV} {ns : List Bool} {xs : List V}, blsP l = some ns → Reps K m H l xs → xs = ns.map V.bl
  | [], ns, xs, e, r => by simp only [blsP] at e; cases e; rw [r.nil_inv]; rfl
  | v :: l, ns, xs, e, r => by
    obtain ⟨x, t, rfl, r1, r2⟩ := r.cons_inv
    cases v <;> try (simp only [blsP, reduceCtorEq] at e; done)
    simp only [blsP] at e
    split at e
    · rename_i r' e'
      cases e
      rw [rep_bl r1, blsP_rep e' r2]
      rfl
    · cases e
def gAll (l : List PV) : O PV := fun h => match blsP l with
  | some bs => some (.bl (bs.all id), h)
  | none => none
def gAny (l : List PV) : O PV := fun h => match blsP l with
  | some bs => some (.bl (bs.any id), h)
  | none => none
section
variable {X : Cx}
theorem tupAt_of {K : PySem.W.Frag} {m : List Addr} {h : VH} {H : Hp} {a : Addr} {ys : List V} (s : SR K m h H) (q : SqT K H a ys) : TupAt K m H a ys := by
  rcases q with q | q
  · refine .inl ⟨fun hm => ?_, q⟩
    obtain ⟨u, e, mu⟩ := s.mem hm
    rcases q with q | ⟨o, q⟩ <;> (rw [q] at e; cases e; exact mu)
  · exact .inr fun H' => .inr q
theorem c_tuple : CallR X (.type "tuple") (rBI X.K gTuple) := by
  intro pins s σ H xs us Q I rx ⟨m, h, l, z, h', a, ys, sr, e1, sq, rl, e, q⟩
  cases e
  refine call_tuple_of pins s σ H xs us Q I rx ⟨a, ys, e1, ?_⟩
  rcases sq with sq | sq
  · exact .inl ⟨sq, fun p np => q m _ _ (.upd_new np) (sr.more np) (sr.tup np rl)⟩
  · refine .inr ⟨sq, q m _ _ .refl sr ?_⟩
    simp only [Rep]
    exact ⟨a, ys, rfl, tupAt_of sr sq, rl⟩
theorem c_list : CallR X (.type "list") (rBI X.K gList) := by
  intro pins s σ H xs us Q I rx ⟨m, h, l, z, h', a, ys, sr, e1, sq, rl, e, q⟩
  cases e
  refine call_list_of pins s σ H xs us Q I rx ⟨a, ys, e1, sq, fun p np => ?_⟩
  exact q (m ++ [p]) _ _ (.upd_add np) (sr.addLst np rl) (rep_ref' (by rw [← sr.len, List.getElem?_append_right (Nat.le_refl _)]; simp))
theorem c_len : CallR X (.builtin "len") (rBI X.K gLen) := by
  intro pins s σ H xs us Q I rx ⟨m, h, l, z, h', a, ys, sr, e1, sq, rl, e, q⟩
  cases e
  refine call_len_seq pins s σ H xs us Q I rx ⟨a, ys, e1, sq, q m _ _ .refl sr ?_⟩
  rw [rl.len]; exact rep_int'
/-- the items as they stand in the heap -/
theorem seq_at {pins : List (Addr × Obj)} {σ : L2.St} {H : Hp} {s : Shared} {a : Addr} {ys : List V} (I : Inv X pins σ H s) (q : SqL X.K H a ys ∨ SqT X.K H a ys) : ∃ its : List Value, Vals ys its ∧ (s.heap.IsList a its.toArray ∨ s.heap.IsTuple a its.toArray) := by
  rcases q with q | q
  · obtain ⟨its, rv, p, _⟩ := I.list q
    exact ⟨its, rv, .inl p.isList⟩
  · obtain ⟨its, rv, p, _⟩ := I.tuple q
    exact ⟨its, rv, .inr p⟩
theorem dpInts {K : PySem.W.Frag} {H : Hp} : ∀ ns : List Int, DpAll K H (ns.map V.int) (ns.map PyData.int)
  | [] => .nil
  | n :: ns => .cons (.int n) (dpInts ns)
theorem dpBls {K : PySem.W.Frag} {H : Hp} : ∀ ns : List Bool, DpAll K H (ns.map V.bl) (ns.map PyData.bool)
  | [] => .nil
  | n :: ns => .cons (.bl n) (dpBls ns)
theorem dAll_ints : ∀ ns : List Int, PyData.depthAll (ns.map PyData.int) = 0
  | [] => rfl
  | n :: ns => by simp [PyData.depthAll, PyData.depth, dAll_ints ns]
theorem alike_ints (ns : List Int) : AlikeAll (ns.map PyData.int) := by
  refine ⟨fun x hx y hy => ?_, fun x hx => ?_⟩
  · obtain ⟨i, _, rfl⟩ := List.mem_map.mp hx
    obtain ⟨j, _, rfl⟩ := List.mem_map.mp hy
    simp [alike]
  · obtain ⟨i, _, rfl⟩ := List.mem_map.mp hx
    exact fun h => nomatch h
theorem reads_int_inv {h : Heap} {v : Value} {n : Int} {bs : List Addr} (r : Reads h v (.int n) bs) : RelV (.int n) v := by
  cases r with
  | int _ t => exact ⟨t, rfl⟩
theorem c_max (hc : X.calm = true) (hu : X.A.units + 64 < cLine) : CallR X (.builtin "max") (rBI X.K gMax) := by
  intro pins s σ H xs us Q I rx ⟨m, h, l, z, h', a, ys, sr, e1, sq, rl, e, q⟩
  unfold gMax at e
  split at e
  · rename_i n ns el
    cases e
    obtain ⟨its, rv, at_⟩ := seq_at I sq
    have hy := intsP_rep el rl
    subst hy
    obtain ⟨as, r⟩ := Dp.readsAll I _ _ _ (dpInts (n :: ns)) rv
    subst e1
    rw [Vals.ref1 rx]
    have hd : X.A.units + 1 + PyData.depthAll (PyData.int n :: ns.map PyData.int) < cLine := by
      have := dAll_ints (n :: ns)
      rw [List.map_cons] at this
      rw [this]; omega
    have fin : ∀ (i : Nat) v h' tk bs, its.toArray[i]? = some v → Reads h' v (maxD (.int n) (ns.map PyData.int)) bs → (∀ b o, s.heap.get? b = some o → h'.get? b = some o) → EP X pins σ Q v { s with heap := h', toks := tk } := by
      intro i v h' tk bs _ r k
      rw [maxD_ints] at r
      exact ⟨_, H, I.kept k, reads_int_inv r, q m _ _ .refl sr rep_int'⟩
    rcases at_ with at_ | at_
    · exact max_list_data (I.ok.hd hc) at_ (by simpa using r) (alike_ints (n :: ns)) hd fin
    · exact max_tuple_data (I.ok.hd hc) at_ (by simpa using r) (alike_ints (n :: ns)) hd fin
  · cases e
theorem c_min (hc : X.calm = true) (hu : X.A.units + 64 < cLine) : CallR X (.builtin "min") (rBI X.K gMin) := by
  intro pins s σ H xs us Q I rx ⟨m, h, l, z, h', a, ys, sr, e1, sq, rl, e, q⟩
  unfold gMin at e
  split at e
  · rename_i n ns el
    cases e
    obtain ⟨its, rv, at_⟩ := seq_at I sq
    have hy := intsP_rep el rl
    subst hy
    obtain ⟨as, r⟩ := Dp.readsAll I _ _ _ (dpInts (n :: ns)) rv
    subst e1
    rw [Vals.ref1 rx]
    have hd : X.A.units + 1 + PyData.depthAll (PyData.int n :: ns.map PyData.int) < cLine := by
      have := dAll_ints (n :: ns)
      rw [List.map_cons] at this
      rw [this]; omega
    have fin : ∀ (i : Nat) v h' tk bs, its.toArray[i]? = some v → Reads h' v (minD (.int n) (ns.map PyData.int)) bs → (∀ b o, s.heap.get? b = some o → h'.get? b = some o) → EP X pins σ Q v { s with heap := h', toks := tk } := by
      intro i v h' tk bs _ r k
      rw [minD_ints] at r
      exact ⟨_, H, I.kept k, reads_int_inv r, q m _ _ .refl sr rep_int'⟩
    rcases at_ with at_ | at_
    · exact min_list_data (I.ok.hd hc) at_ (by simpa using r) (alike_ints (n :: ns)) hd fin
    · exact min_tuple_data (I.ok.hd hc) at_ (by simpa using r) (alike_ints (n :: ns)) hd fin
  · cases e
theorem plain_bls : ∀ ns : List Bool, PyData.plainAll (ns.map PyData.bool) = true
  | [] => rfl
  | n :: ns => by simp [PyData.plainAll, PyData.plain, plain_bls ns]
theorem c_all (hc : X.calm = true) : CallR X (.builtin "all") (rBI X.K gAll) := by
  intro pins s σ H xs us Q I rx ⟨m, h, l, z, h', a, ys, sr, e1, sq, rl, e, q⟩
  unfold gAll at e
  split at e
  · rename_i ns el
    cases e
    obtain ⟨its, rv, at_⟩ := seq_at I sq
    have hy := blsP_rep el rl
    subst hy
    obtain ⟨as, r⟩ := Dp.readsAll I _ _ _ (dpBls ns) rv
    subst e1
    rw [Vals.ref1 rx]
    have ft : ∀ x ∈ ns.map PyData.bool, x.fits63 := fun x hx => by
      obtain ⟨b, _, rfl⟩ := List.mem_map.mp hx
      trivial
    have fin : ∀ h' tk, (∀ b o, s.heap.get? b = some o → h'.get? b = some o) → EP X pins σ Q (.bool ((ns.map PyData.bool).all PyData.truthy)) { s with heap := h', toks := tk } := by
      intro h' tk k
      refine ⟨.bl (ns.all id), H, I.kept k, ?_, q m _ _ .refl sr rep_bl'⟩
      have : (ns.map PyData.bool).all PyData.truthy = ns.all id := by
        rw [List.all_map]; rfl
      rw [this]; rfl
    rcases at_ with at_ | at_
    · exact all_list_data (I.ok.hd hc) at_ (by simpa using r) (plain_bls ns) ft fin
    · exact all_tuple_data (I.ok.hd hc) at_ (by simpa using r) (plain_bls ns) ft fin
  · cases e
theorem c_any (hc : X.calm = true) : CallR X (.builtin "any") (rBI X.K gAny) := by
  intro pins s σ H xs us Q I rx ⟨m, h, l, z, h', a, ys, sr, e1, sq, rl, e, q⟩
  unfold gAny at e
  split at e
  · rename_i ns el
    cases e
    obtain ⟨its, rv, at_⟩ := seq_at I sq
    have hy := blsP_rep el rl
    subst hy
    obtain ⟨as, r⟩ := Dp.readsAll I _ _ _ (dpBls ns) rv
    subst e1
    rw [Vals.ref1 rx]
    have ft : ∀ x ∈ ns.map PyData.bool, x.fits63 := fun x hx => by
      obtain ⟨b, _, rfl⟩ := List.mem_map.mp hx
      trivial
    have fin : ∀ h' tk, (∀ b o, s.heap.get? b = some o → h'.get? b = some o) → EP X pins σ Q (.bool ((ns.map PyData.bool).any PyData.truthy)) { s with heap := h', toks := tk } := by
      intro h' tk k
      refine ⟨.bl (ns.any id), H, I.kept k, ?_, q m _ _ .refl sr rep_bl'⟩
      have : (ns.map PyData.bool).any PyData.truthy = ns.any id := by
        rw [List.any_map]; rfl
      rw [this]; rfl
    rcases at_ with at_ | at_
    · exact any_list_data (I.ok.hd hc) at_ (by simpa using r) (plain_bls ns) ft fin
    · exact any_tuple_data (I.ok.hd hc) at_ (by simpa using r) (plain_bls ns) ft fin
  · cases e
end

/-! ### of lists alone -/
def rBL (K : PySem.W.Frag) (g : List PV → O PV) : List V → Hp → VK → Prop := fun xs H Q => ∃ m h l z h' a ys, SR K m h H ∧ xs = [.ref a] ∧ SqL K H a ys ∧ Reps K m H l ys ∧ g l h = some (z, h') ∧
  ∀ m' H' w, Ext m H m' H' → SR K m' h' H' → Rep K m' H' z w → Q w H'
def oBL (g : List PV → O PV) : List PV → O PV := fun as h => match as with
  | [v] => match lstOf h v with
    | some l => g l h
    | none => none
  | _ => none
theorem bl_of {X : Cx} {f : Value} {g : List PV → O PV} (h : CallR X f (rBL X.K g)) : CallR X f (rOL X.K (oBL g)) := by
  intro pins s σ H xs us Q I rx ⟨m, hh, as, z, h', sr, rs, e, q⟩
  unfold oBL at e
  split at e
  · rename_i v
    split at e
    · rename_i l el
      obtain ⟨x, t, rfl, r1, r2⟩ := rs.cons_inv
      have ht := r2.nil_inv
      subst ht
      obtain ⟨a, ys, rfl, sq, rl⟩ := lst_sq sr el r1
      exact h pins s σ H _ us Q I rx ⟨m, hh, l, z, h', a, ys, sr, rfl, sq, rl, e, q⟩
    · cases e
  · cases e
theorem bl_read {K : PySem.W.Frag} {W : WX} {d : Sl → M (List PV)} {g : List PV → O PV} {σ : L2.St} {H : Hp} {Q : VK} (q : TD K W (dTmpFn g d) σ H Q) : tCons (TDL K W d) tNil σ H fun xs H1 => rBL K g xs H1 Q := by
  obtain ⟨m, v, h, sr, sl, p⟩ := q
  refine ⟨m, v, h, sr, sl, ?_⟩
  unfold dTmpFn bnd at p
  cases e1 : d v h with
  | ok l h1 =>
    rw [e1] at p
    intro m1 H1 x1 sr1 D xs n1 n2 eD r
    show rBL K g [.ref D] H1 Q
    simp only at p
    unfold liftO at p
    cases e2 : g l h1 with
    | none => rw [e2] at p; exact p.elim
    | some z =>
      rw [e2] at p
      exact ⟨m1, h1, l, z.1, z.2, D, xs, sr1, rfl, .of eD, r, e2, fun m' H' w x2 s2 r2 => p m' H' (x1.trans x2) s2 w r2⟩
  | ex u h1 => rw [e1] at p; exact p
  | bad => rw [e1] at p; exact p
theorem de_callBLl {X : Cx} {W : WX} {e : Expr} {d : Sl → M (List PV)} {g : List PV → O PV} {pos : Pos} {x : Str} {id : String} {p : Pos} (hc : CallR X (.builtin id) (rBL X.K g)) (hg : Gl X x) (hm : X.mg x = none) (hv : bootBuiltins x = some (.builtin id)) (h : DL X W e d) (hn : x ≠ "__name__" := by decide) (hdb : (x == ("__debug__" : Str)) = false := by decide)
    (hs : starEach [e] X.env = (false, eval e X.env) :: starEach [] X.env := by rfl) : DE X W (.Call (.Name x p) [e] [] pos) (dTmpFn g d) :=
  weakE (pe_callB hc hg hm hv (pa_cons h pa_nil hs) hn hdb hs rfl) fun σ H Q q => bl_read q
def gSum (l : List PV) : O PV := fun h => match intsP l with
  | some ns => some (.int ns.sum, h)
  | none => none
theorem c_sum {X : Cx} (hc : X.calm = true) : CallR X (.builtin "sum") (rBL X.K gSum) := by
  intro pins s σ H xs us Q I rx ⟨m, h, l, z, h', a, ys, sr, e1, sq, rl, e, q⟩
  unfold gSum at e
  split at e
  · rename_i ns el
    cases e
    have hy := intsP_rep el rl
    subst hy
    exact cr_sum hc pins s σ H xs us Q I rx ⟨a, ns, e1, sq, q m _ _ .refl sr rep_int'⟩
  · cases e

/-! ### others -/
def oAbs (as : List PV) : O PV := fun h => match as with
  | [.int i] => some (.int (if i < 0 then -i else i), h)
  | _ => none
def oInt (as : List PV) : O PV := fun h => match as with
  | [.int i] => some (.int i, h)
  | [.bl k] => some (.int (if k then 1 else 0), h)
  | _ => none
def oMax2 (as : List PV) : O PV := fun h => match as with
  | [.int i, .int j] => some (.int (if j > i then j else i), h)
  | _ => none
def oMin2 (as : List PV) : O PV := fun h => match as with
  | [.int i, .int j] => some (.int (if j < i then j else i), h)
  | _ => none
def oLenS (as : List PV) : O PV := fun h => match as with
  | [.str z] => if z.length ≤ 16777216 then some (.int z.length, h) else none
  | [v] => match itemsOf h v with
    | some l => some (.int l.length, h)
    | none => none
  | _ => none
def isaD : String → Option (PyData → Bool)
  | "int" => some PyData.isInt
  | "bool" => some PyData.isBool
  | "str" => some PyData.isStr
  | "tuple" => some PyData.isTuple
  | "list" => some PyData.isList
  | "dict" => some PyData.isDict
  | _ => none
def oIsa (as : List PV) : O PV := fun h => match as with
  | [a, .con (.ty T)] => match dat h a, isaD T with
    | some d, some f => some (.bl (f d), h)
    | _, _ => none
  | _ => none
def isInts : PyData → Bool
  | .int _ => true
  | _ => false
def oRepr (as : List PV) : O PV := fun h => match as with
  | [.int i] => if i.natAbs.log2 < 1920 then some (.str (toString i), h) else none
  | [a] => match itemsOf h a, dat h a with
    | some _, some d => if d.showable = true ∧ d.hasDict = false ∧ d.depth < 64 ∧ d.shown.length ≤ 16777216 then some (.str d.shown, h) else none
    | _, _ => none
  | _ => none
section
variable {X : Cx}
theorem c_abs : CallR X (.builtin "abs") (rOL X.K oAbs) := by
  intro pins s σ H xs us Q I rx ⟨m, h, as, z, h', sr, rs, e, q⟩
  unfold oAbs at e
  split at e
  · cases e
    obtain ⟨x, t, rfl, r1, r2⟩ := rs.cons_inv
    rw [rep_int r1, r2.nil_inv] at rx
    exact call_abs pins s σ H _ us Q I rx ⟨_, rfl, q m _ _ .refl sr rep_int'⟩
  · cases e
theorem c_int : CallR X (.type "int") (rOL X.K oInt) := by
  intro pins s σ H xs us Q I rx ⟨m, h, as, z, h', sr, rs, e, q⟩
  unfold oInt at e
  split at e
  · cases e
    obtain ⟨x, t, rfl, r1, r2⟩ := rs.cons_inv
    rw [rep_int r1, r2.nil_inv] at rx
    exact call_int1 pins s σ H _ us Q I rx (.inl ⟨_, rfl, q m _ _ .refl sr rep_int'⟩)
  · cases e
    obtain ⟨x, t, rfl, r1, r2⟩ := rs.cons_inv
    rw [rep_bl r1, r2.nil_inv] at rx
    exact call_int1 pins s σ H _ us Q I rx (.inr ⟨_, rfl, q m _ _ .refl sr rep_int'⟩)
  · cases e
theorem c_max2 (hc : X.calm = true) : CallR X (.builtin "max") (rOL X.K oMax2) := by
  intro pins s σ H xs us Q I rx ⟨m, h, as, z, h', sr, rs, e, q⟩
  unfold oMax2 at e
  split at e
  · cases e
    obtain ⟨x, t, rfl, r1, r2⟩ := rs.cons_inv
    obtain ⟨y, t2, rfl, r3, r4⟩ := r2.cons_inv
    rw [rep_int r1, rep_int r3, r4.nil_inv] at rx
    exact call_max2 hc pins s σ H _ us Q I rx ⟨_, _, rfl, q m _ _ .refl sr rep_int'⟩
  · cases e
theorem c_min2 (hc : X.calm = true) : CallR X (.builtin "min") (rOL X.K oMin2) := by
  intro pins s σ H xs us Q I rx ⟨m, h, as, z, h', sr, rs, e, q⟩
  unfold oMin2 at e
  split at e
  · cases e
    obtain ⟨x, t, rfl, r1, r2⟩ := rs.cons_inv
    obtain ⟨y, t2, rfl, r3, r4⟩ := r2.cons_inv
    rw [rep_int r1, rep_int r3, r4.nil_inv] at rx
    exact call_min2 hc pins s σ H _ us Q I rx ⟨_, _, rfl, q m _ _ .refl sr rep_int'⟩
  · cases e
def oMax3 (as : List PV) : O PV := fun h => match as with
  | [.int i, .int j, .int k] => some (.int (max (max i j) k), h)
  | _ => none
def oMin3 (as : List PV) : O PV := fun h => match as with
  | [.int i, .int j, .int k] => some (.int (min (min i j) k), h)
  | _ => none
theorem nu_max2 (i j : Int) : nuMax2 (.int i) (.int j) = some (.int (max i j)) := by
  have : nuMax2 (.int i) (.int j) = some (if decide (i < j) = true then V.int j else V.int i) := rfl
  rw [this]
  by_cases h : i < j
  · rw [if_pos (by simpa using h), Int.max_eq_right (by omega)]
  · rw [if_neg (by simpa using h), Int.max_eq_left (by omega)]
theorem nu_min2 (i j : Int) : nuMin2 (.int i) (.int j) = some (.int (min i j)) := by
  have : nuMin2 (.int i) (.int j) = some (if decide (j < i) = true then V.int j else V.int i) := rfl
  rw [this]
  by_cases h : j < i
  · rw [if_pos (by simpa using h), Int.min_eq_right (by omega)]
  · rw [if_neg (by simpa using h), Int.min_eq_left (by omega)]
theorem nu_max3 (i j k : Int) : nuMax3 (.int i) (.int j) (.int k) = some (.int (max (max i j) k)) := by
  unfold nuMax3
  rw [nu_max2]
  exact nu_max2 _ _
theorem nu_min3 (i j k : Int) : nuMin3 (.int i) (.int j) (.int k) = some (.int (min (min i j) k)) := by
  unfold nuMin3
  rw [nu_min2]
  exact nu_min2 _ _
theorem c_max3 (hc : X.calm = true) : CallR X (.builtin "max") (rOL X.K oMax3) := by
  intro pins s σ H xs us Q I rx ⟨m, h, as, z, h', sr, rs, e, q⟩
  unfold oMax3 at e
  split at e
  · cases e
    obtain ⟨x, t, rfl, r1, r2⟩ := rs.cons_inv
    obtain ⟨y, t2, rfl, r3, r4⟩ := r2.cons_inv
    obtain ⟨y2, t3, rfl, r5, r6⟩ := r4.cons_inv
    rw [rep_int r1, rep_int r3, rep_int r5, r6.nil_inv] at rx
    exact call_max3Nu hc pins s σ H _ us Q I rx ⟨_, _, _, _, rfl, nu_max3 _ _ _, q m _ _ .refl sr rep_int'⟩
  · cases e
theorem c_min3 (hc : X.calm = true) : CallR X (.builtin "min") (rOL X.K oMin3) := by
  intro pins s σ H xs us Q I rx ⟨m, h, as, z, h', sr, rs, e, q⟩
  unfold oMin3 at e
  split at e
  · cases e
    obtain ⟨x, t, rfl, r1, r2⟩ := rs.cons_inv
    obtain ⟨y, t2, rfl, r3, r4⟩ := r2.cons_inv
    obtain ⟨y2, t3, rfl, r5, r6⟩ := r4.cons_inv
    rw [rep_int r1, rep_int r3, rep_int r5, r6.nil_inv] at rx
    exact call_min3Nu hc pins s σ H _ us Q I rx ⟨_, _, _, _, rfl, nu_min3 _ _ _, q m _ _ .refl sr rep_int'⟩
  · cases e
theorem c_lenS : CallR X (.builtin "len") (rOL X.K oLenS) := by
  intro pins s σ H xs us Q I rx ⟨m, h, as, z, h', sr, rs, e, q⟩
  unfold oLenS at e
  split at e
  · split at e
    · rename_i c
      cases e
      obtain ⟨x, t, rfl, r1, r2⟩ := rs.cons_inv
      rw [rep_str r1, r2.nil_inv] at rx
      exact call_len_str pins s σ H _ us Q I rx ⟨_, rfl, by rw [sizeLine_eq]; exact c, q m _ _ .refl sr rep_int'⟩
    · cases e
  · rename_i v _
    split at e
    · rename_i l el
      cases e
      obtain ⟨x, t, rfl, r1, r2⟩ := rs.cons_inv
      have ht := r2.nil_inv
      subst ht
      obtain ⟨a, ys, rfl, sq, rl⟩ := items_sq sr el r1
      exact call_len_seq pins s σ H _ us Q I rx ⟨a, ys, rfl, sq, q m _ _ .refl sr (by rw [rl.len]; exact rep_int')⟩
    · cases e
  · cases e
theorem c_isa : CallR X (.builtin "isinstance") (rOL X.K oIsa) := by
  intro pins s σ H xs us Q I rx ⟨m, h, as, z, h', sr, rs, e, q⟩
  unfold oIsa at e
  split at e
  · rename_i a T
    split at e
    · rename_i d f ed ef
      cases e
      obtain ⟨x, t, rfl, r1, r2⟩ := rs.cons_inv
      obtain ⟨y, t2, rfl, r3, r4⟩ := r2.cons_inv
      rw [rep_con r3, r4.nil_inv] at rx
      obtain ⟨u, w', rfl, ru, rw_⟩ := vals2 rx
      have hw : w' = Value.type T := rw_
      subst hw
      obtain ⟨bs, rd⟩ := Dp.reads I d x u (dat_dp sr ed r1) ru
      have fin : ∀ tk, s.toks ≤ tk → EP X pins σ Q (.bool (f d)) { s with toks := tk } := fun tk _ => ⟨.bl (f d), H, I.tok _, rfl, q m _ _ .refl sr rep_bl'⟩
      unfold isaD at ef
      split at ef <;> cases ef
      · exact isinstance_int_data rd fin
      · exact isinstance_bool_data rd fin
      · exact isinstance_str_data rd fin
      · exact isinstance_tuple_data rd fin
      · exact isinstance_list_data rd fin
      · exact isinstance_dict_data rd fin
    · cases e
  · cases e
theorem c_repr (hG : X.A.guards = some []) (hu : X.A.units + 128 < cLine) : CallR X (.builtin "repr") (rOL X.K oRepr) := by
  intro pins s σ H xs us Q I rx ⟨m, h, as, z, h', sr, rs, e, q⟩
  unfold oRepr at e
  split at e
  · split at e
    · rename_i c
      cases e
      obtain ⟨x, t, rfl, r1, r2⟩ := rs.cons_inv
      rw [rep_int r1, r2.nil_inv] at rx
      exact SkE.call_repr_int pins s σ H _ us Q I rx ⟨_, rfl, c, q m _ _ .refl sr rep_str'⟩
    · cases e
  · rename_i a _
    split at e
    · rename_i l d el ed
      split at e
      · rename_i c
        cases e
        obtain ⟨x, t, rfl, r1, r2⟩ := rs.cons_inv
        have ht := r2.nil_inv
        subst ht
        have dp := dat_dp sr ed r1
        obtain ⟨p, ys, rfl, sq, rl⟩ := items_sq sr el r1
        rw [Vals.ref1 rx]
        obtain ⟨bs, rd⟩ := Dp.reads I d _ (Value.ref p) dp rfl
        exact repr_of_reads' rd c.1 (fun z => by rw [c.2.1] at z; cases z) hG (by have := c.2.2.1; omega) (fun _ _ e => e) (fun h' u tk k => ⟨.str d.shown, H, I.kept k, ⟨u, rfl⟩, q m _ _ .refl sr rep_str'⟩) (by rw [sizeLine_eq]; exact c.2.2.2)
      · cases e
    · cases e
  · cases e
end
end D

/-! layer D, part 9: walks -/
namespace D
open PySem PySem.Spec PySem.W PyProof.Rows L2

/-- the thing at a holds the items as long as its source does -/
def Held (K : PySem.W.Frag) (m : List Addr) (H : Hp) (t : Bool) (a : Addr) (l : List PV) (src : List (Nat × List PV)) : Prop :=
  ∀ (m' : List Addr) (h' : VH) (H' : Hp), Ext m H m' H' → SR K m' h' H' → srcOk h' src = true → ∃ xs, (if t = true then SqT K H' a xs else SqL K H' a xs) ∧ Reps K m' H' l xs
/-- where a value's items come from -/
def srcOf (h : VH) : PV → Option (Bool × List PV × List (Nat × List PV))
  | .tup l => some (true, l, [])
  | .rol l => some (false, l, [])
  | .ref n => match h[n]? with
    | some (.lst l) => some (false, l, [(n, l)])
    | _ => none
  | _ => none
section
variable {K : PySem.W.Frag} {m : List Addr} {h : VH} {H : Hp}
theorem held_of {v : PV} {x : V} {t : Bool} {l : List PV} {src : List (Nat × List PV)} (s : SR K m h H) (e : srcOf h v = some (t, l, src)) (r : Rep K m H v x) : ∃ a, x = .ref a ∧ Held K m H t a l src := by
  cases v <;> try (simp only [srcOf, reduceCtorEq] at e; done)
  · simp only [srcOf] at e
    cases e
    obtain ⟨a, xs, rfl, q, rs⟩ := rep_tup r
    exact ⟨a, rfl, fun m' h' H' x s' _ => ⟨xs, by rw [if_pos rfl]; exact (q.ext x).sq, rs.ext x⟩⟩
  · simp only [srcOf] at e
    cases e
    obtain ⟨a, xs, rfl, q, rs⟩ := rep_rol r
    exact ⟨a, rfl, fun m' h' H' x s' _ => ⟨xs, by rw [if_neg (by decide)]; exact (q.ext x).sq, rs.ext x⟩⟩
  · rename_i n
    simp only [srcOf] at e
    split at e
    · rename_i l' el
      cases e
      obtain ⟨a, rfl, ha⟩ := rep_ref r
      refine ⟨a, rfl, fun m' h' H' x s' ok => ?_⟩
      obtain ⟨xs, q, rs⟩ := rep_get s' (srcOk_mem ok (List.mem_singleton.mpr rfl)) (x.get ha)
      exact ⟨xs, by rw [if_neg (by decide)]; exact .of q, rs⟩
    · cases e
theorem held_tmp {D : Addr} {l : List PV} {xs : List V} (n : D ∉ m) (e : H D = some (.lst xs)) (r : Reps K m H l xs) : Held K m H false D l [] := fun m' h' H' x s' _ =>
  ⟨xs, by rw [if_neg (by decide)]; exact .of (x.keep D _ e n), r.ext x⟩
theorem Held.now {t : Bool} {a : Addr} {l : List PV} {src : List (Nat × List PV)} (w : Held K m H t a l src) (s : SR K m h H) (ok : srcOk h src = true) : ∃ xs, (if t = true then SqT K H a xs else SqL K H a xs) ∧ Reps K m H l xs := w m h H .refl s ok
theorem src_now {v : PV} {t : Bool} {l : List PV} {src : List (Nat × List PV)} (e : srcOf h v = some (t, l, src)) : srcOk h src = true := by
  cases v <;> try (simp only [srcOf, reduceCtorEq] at e; done)
  · cases e; rfl
  · cases e; rfl
  · rename_i n
    simp only [srcOf] at e
    split at e
    · rename_i l' el
      cases e
      simp [srcOk, el, PV.beqs_refl]
    · cases e
end

/-! ### a value walked -/
def dVal (d : Sl → M PV) : Sl → M Its' := fun v => bnd (d v) fun x h => match srcOf h x with
  | some (_, l, src) => .ok { items := l, src := src } h
  | none => match x with
    | .str z => .ok { items := z.cps.toList.map fun c => .str ⟨#[c]⟩ } h
    | _ => .bad
section
variable {K : PySem.W.Frag} {m : List Addr} {h : VH} {H : Hp}
theorem itD_L {a : Addr} {l : List PV} {src : List (Nat × List PV)} (w : Held K m H false a l src) : ItD K (Itl K a) m H { items := l, src := src } := by
  intro i m' h' H' x s ok
  obtain ⟨xs, q, rs⟩ := w m' h' H' x s ok
  rw [if_neg (by decide)] at q
  have hl := rs.len
  refine ⟨fun hi => ?_, fun hi => ⟨xs, q, by rw [hl, hi]; exact Nat.le_refl _⟩⟩
  have hi' : i < xs.length := by rw [hl]; exact hi
  refine ⟨⟨xs, xs[i], q, List.getElem?_eq_getElem hi'⟩, fun y H'' hy => ?_⟩
  obtain ⟨rfl, f⟩ := hy
  have e2 := f xs q
  refine ⟨l[i]'hi, List.getElem?_eq_getElem hi, ?_, .refl, s⟩
  obtain ⟨z, e3, rz⟩ := rs.get (List.getElem?_eq_getElem hi)
  rw [e2] at e3; cases e3
  exact rz
theorem itD_T {a : Addr} {l : List PV} {src : List (Nat × List PV)} (w : Held K m H true a l src) : ItD K (Itt K a) m H { items := l, src := src } := by
  intro i m' h' H' x s ok
  obtain ⟨xs, q, rs⟩ := w m' h' H' x s ok
  rw [if_pos rfl] at q
  have hl := rs.len
  refine ⟨fun hi => ?_, fun hi => ⟨xs, q, by rw [hl, hi]; exact Nat.le_refl _⟩⟩
  have hi' : i < xs.length := by rw [hl]; exact hi
  refine ⟨⟨xs, xs[i], q, List.getElem?_eq_getElem hi'⟩, fun y H'' hy => ?_⟩
  obtain ⟨rfl, f⟩ := hy
  have e2 := f xs q
  refine ⟨l[i]'hi, List.getElem?_eq_getElem hi, ?_, .refl, s⟩
  obtain ⟨z, e3, rz⟩ := rs.get (List.getElem?_eq_getElem hi)
  rw [e2] at e3; cases e3
  exact rz
theorem itD_R {lo : Int} {n : Nat} : ItD K (Itr lo n) m H { items := (List.range n).map fun i => .int (lo + (i : Nat)) } := by
  intro i m' h' H' x s _
  refine ⟨fun hi => ?_, fun hi => by simp at hi; show n ≤ i; omega⟩
  have hi' : i < n := by simpa using hi
  refine ⟨hi', fun y H'' hy => ?_⟩
  obtain ⟨rfl, rfl⟩ := hy
  exact ⟨.int (lo + (i : Nat)), by simp [hi'], rep_int', .refl, s⟩
end
section
variable {X : Cx} {W : WX} {tg e : Expr} {pos : Pos}
theorem di_val {d : Sl → M PV} (he : DE X W e d) : DI X W tg e (dVal d) := by
  refine ⟨fun pins s σ H R I ⟨m, v, h, sr, sl, p⟩ => ?_⟩
  unfold dVal bnd at p
  cases e1 : d v h with
  | bad => rw [e1] at p; exact p.elim
  | ex u h1 =>
    rw [e1] at p
    exact (pi_list he).run pins s σ H R I ⟨m, v, h, sr, sl, by rw [e1]; exact p⟩
  | ok x h1 =>
    rw [e1] at p
    simp only at p
    cases e2 : srcOf h1 x with
    | some z =>
      obtain ⟨t, l, src⟩ := z
      rw [e2] at p
      simp only at p
      cases t with
      | false =>
        refine (pi_list he).run pins s σ H R I ⟨m, v, h, sr, sl, ?_⟩
        rw [e1]
        intro m1 H1 x1 s1 y ry
        obtain ⟨a, rfl, w⟩ := held_of s1 e2 ry
        obtain ⟨xs, q, _⟩ := w.now s1 (src_now e2)
        rw [if_neg (by decide)] at q
        exact ⟨a, rfl, ⟨xs, q⟩, p m1 H1 x1 s1 _ (itD_L w)⟩
      | true =>
        refine (pi_tup he).run pins s σ H R I ⟨m, v, h, sr, sl, ?_⟩
        rw [e1]
        intro m1 H1 x1 s1 y ry
        obtain ⟨a, rfl, w⟩ := held_of s1 e2 ry
        obtain ⟨xs, q, _⟩ := w.now s1 (src_now e2)
        rw [if_pos rfl] at q
        exact ⟨a, rfl, ⟨xs, q⟩, p m1 H1 x1 s1 _ (itD_T w)⟩
    | none =>
      rw [e2] at p
      simp only at p
      cases x <;> try (exact p.elim)
      rename_i z
      refine (pi_str he).run pins s σ H R I ⟨m, v, h, sr, sl, ?_⟩
      rw [e1]
      intro m1 H1 x1 s1 y ry
      rw [rep_str ry]
      refine ⟨z, rfl, p m1 H1 x1 s1 _ ?_⟩
      intro i m' h' H' x s _
      refine ⟨fun hi => ?_, fun hi => ?_⟩
      · have hi' : i < z.cps.size := by simpa using hi
        refine ⟨hi', fun y H'' hy => ?_⟩
        obtain ⟨rfl, c, ec, ey⟩ := hy
        refine ⟨.str ⟨#[c]⟩, ?_, ?_, .refl, s⟩
        · simp [ec]
        · rw [ey]; exact rep_str'
      · simp at hi
        show z.cps.size ≤ i
        omega
/-! ### range -/
def dRng1 (d : Sl → M (List PV)) : Sl → M Its' := fun v => bnd (d v) fun as h => match as with
  | [.int j] => if -1000000000 < j ∧ j < 1000000000 then .ok { items := (List.range j.toNat).map fun i => .int (0 + (i : Nat)) } h else .bad
  | _ => .bad
def dRng2 (d : Sl → M (List PV)) : Sl → M Its' := fun v => bnd (d v) fun as h => match as with
  | [.int k, .int j] => if -1000000000 < k ∧ k < 1000000000 ∧ -1000000000 < j ∧ j < 1000000000 then .ok { items := (List.range (j - k).toNat).map fun i => .int (k + (i : Nat)) } h else .bad
  | _ => .bad
theorem di_range1 {a : Expr} {d : Sl → M (List PV)} {p : Pos} (hg : Gl X "range") (hm : X.mg "range" = none) (ha : DA X W [a] d) (hs : starEach [a] X.env = [(false, eval a X.env)] := by rfl) : DI X W tg (.Call (.Name "range" p) [a] [] pos) (dRng1 d) :=
  weakI (pi_range1 hg hm ha hs) fun σ H R ⟨m, v, h, sr, sl, p⟩ => ⟨m, v, h, sr, sl, (Post.seq p).mono fun m1 H1 h1 as x1 s1 p1 xs rs => by
    split at p1
    · rename_i j
      split at p1
      case isFalse => exact p1.elim
      rename_i hj
      obtain ⟨x, t, rfl, r1, r2⟩ := rs.cons_inv
      rw [rep_int r1, r2.nil_inv]
      exact ⟨j, rfl, by omega, by omega, p1 m1 H1 .refl s1 _ itD_R⟩
    · exact p1.elim⟩
theorem di_range2 {a b : Expr} {d : Sl → M (List PV)} {p : Pos} (hg : Gl X "range") (hm : X.mg "range" = none) (ha : DA X W [a, b] d) (hs : starEach [a, b] X.env = [(false, eval a X.env), (false, eval b X.env)] := by rfl) (hs2 : starEach [b] X.env = [(false, eval b X.env)] := by rfl) :
    DI X W tg (.Call (.Name "range" p) [a, b] [] pos) (dRng2 d) :=
  weakI (pi_range2 hg hm ha hs hs2) fun σ H R ⟨m, v, h, sr, sl, p⟩ => ⟨m, v, h, sr, sl, (Post.seq p).mono fun m1 H1 h1 as x1 s1 p1 xs rs => by
    split at p1
    · rename_i k j
      split at p1
      case isFalse => exact p1.elim
      rename_i hj
      obtain ⟨x, t, rfl, r1, r2⟩ := rs.cons_inv
      obtain ⟨y, t2, rfl, r3, r4⟩ := r2.cons_inv
      rw [rep_int r1, rep_int r3, r4.nil_inv]
      exact ⟨k, j, rfl, ⟨by omega, by omega, by omega, by omega⟩, p1 m1 H1 .refl s1 _ itD_R⟩
    · exact p1.elim⟩
end

/-! ### enumerate -/
def IteU (K : PySem.W.Frag) (t : Bool) (a : Addr) : It where
  go i H := ∃ (xs : List V) (x : V), (if t = true then SqT K H a xs else SqL K H a xs) ∧ xs[i]? = some x
  yld i H v H' := ∃ T x, v = .ref T ∧ H T = none ∧ H' = upd H T (.tup [.int (i : Nat), x]) ∧ ∀ xs, (if t = true then SqT K H a xs else SqL K H a xs) → xs[i]? = some x
  stop i H := ∃ xs : List V, (if t = true then SqT K H a xs else SqL K H a xs) ∧ xs.length = i
/-- its parts, for a tuple -/
theorem turn_enumU {P : Program} {w : World} {K : PySem.W.Frag} {elts : List Expr} {kk : Nat} {tpos : Pos} (a e it : Addr) :
    Turn P w K (.Tuple elts kk tpos) (IteU K true a) [e, it] e (fun i h => (∃ old, IsEnum h e it ((i : Nat) : Int) old) ∧ (h.IsTupleIter it a i ∧ e ≠ it ∧ a ≠ it ∧ e ≠ a)) where
  mem := by simp
  obj := by
    rintro i h ⟨⟨old, en⟩, ⟨o, ho, hc, hd⟩, _⟩ b hb
    rcases (by simpa using hb : b = e ∨ b = it) with rfl | rfl
    · exact ⟨_, en, fun v q => nomatch q⟩
    · exact ⟨o, ho, fun v q => by rw [hd] at q; cases q⟩
  keep := by
    rintro i h h' ⟨⟨old, en⟩, hi, ne⟩ k
    exact ⟨⟨old, k e (by simp) _ en⟩, hi.at fun o q => k it (by simp) o q, ne⟩
  item := by
    intro X hP hw hK hc i pins s σ H E I hf st hg
    subst hP hw hK
    obtain ⟨⟨old, en⟩, tit, n1, n2, n3⟩ := st
    obtain ⟨xs, x, hq, hx⟩ := hg
    rw [if_pos rfl] at hq
    obtain ⟨its, rv, p, _⟩ := I.tuple hq
    obtain ⟨u, hu, ru⟩ := rv.get hx
    have hel : e < s.heap.objs.size := Heap.lt_size en
    have hil : it < s.heap.objs.size := by obtain ⟨_, q, _⟩ := tit; exact Heap.lt_size q
    have hn : i < its.length := (List.getElem?_eq_some_iff.mp hu).1
    refine wpAny_pyNext_enum_itemC (Draws.tuple (A := X.A.in1) (I.ok.hd hc) it a n2 its.toArray) en ⟨tit, p⟩ (by simpa using hn) n1 (fun hm => (by simpa using hm : e = it ∨ e = a).elim n1 n3) fun x' h' tk hP' ho hs' hT hsz hk => ?_
    have ex : x' = u := by
      have := hP'
      simp only [List.getElem?_toArray] at this
      rw [hu] at this
      exact (Option.some.inj this).symm
    subst ex
    refine ⟨_, rfl, wpAny_letOwnedTupleGo_enum (s := { s with heap := h', toks := tk + 1 }) ho fun h'' he' sb => ?_⟩
    have hT2 : h''.get? s.heap.objs.size = some { cls := .type "tuple", data := .seq #[.int i tk, x'] } := (sb.2 _ (Nat.ne_of_gt hel)).trans hT
    have made : ObjOk X.prog X.w (upd H s.heap.objs.size (.tup [.int (i : Nat), x])) h'' s.heap.objs.size (.tup [.int (i : Nat), x]) :=
      ⟨by show 2 ≤ sizeLine; decide, [.int i tk, x'], .cons ⟨tk, rfl⟩ (.cons ru .nil), ⟨_, hT2, rfl, _, rfl⟩⟩
    have I1 : Inv X pins σ (upd H s.heap.objs.size (.tup [.int (i : Nat), x])) { s with heap := h'', toks := tk + 1 } :=
      I.turnedNew (ch := [e, it]) (fun b ob nb q => (sb.2 b (fun z => nb (by simp [z]))).trans (hk b ob (fun z => nb (by simp [z])) (fun z => nb (by simp [z])) q)) hf (Nat.le_refl _) made
    refine ⟨.ref s.heap.objs.size, _, I1, rfl, ⟨_, x, rfl, I.hok.fresh (Nat.le_refl _), rfl, fun ys hy => by rw [if_pos rfl] at hy; rw [I.tuple_inj hy hq]; exact hx⟩, ⟨⟨x', ?_⟩, hs'.1.at fun o q => (sb.2 it (Ne.symm n1)).trans q, n1, n2, n3⟩, fun b hb => ?_⟩
    · rw [show ((i + 1 : Nat) : Int) = (i : Int) + 1 by omega]; exact he'
    · have lt : b < s.heap.objs.size := by
        rcases (by simpa using hb : b = e ∨ b = it) with rfl | rfl
        · exact hel
        · exact hil
      rw [upd_ne (Nat.ne_of_lt lt)]
      exact (hf b hb).1
  done := by
    intro X hP hw hK hc i pins s σ H E I hf st hg
    subst hP hw hK
    obtain ⟨⟨old, en⟩, tit, n1, n2, n3⟩ := st
    obtain ⟨xs, hq, hx⟩ := hg
    rw [if_pos rfl] at hq
    obtain ⟨its, rv, p, _⟩ := I.tuple hq
    obtain ⟨f0, f1, f2, f3, f4, f5⟩ := hf it (by simp)
    subst hx
    have hz : its.toArray.size = xs.length := by simp [rv.length]
    refine wpAny_pyNext_enum_endD (Draws.tuple (A := X.A.in1) (I.ok.hd hc) it a n2 its.toArray) en (by rw [hz]; exact ⟨tit, p⟩) fun h' eb => ?_
    exact ⟨rfl, I.turned (t' := s.toks) (fun b o nb q => eb b o nb q) f0 f1 f3 f4 f5⟩
  self := fun A i s Q E st h => let ⟨⟨_, en⟩, _⟩ := st; wpAny_pyIter_enum en h
def iEnumU (K : PySem.W.Frag) (ta : TA) : TI := fun σ H R => ta σ H fun vs H1 => ∃ a xs, vs = [.ref a] ∧ ((SqL K H1 a xs ∧ R (Ite K a) H1) ∨ (SqT K H1 a xs ∧ R (IteU K true a) H1))
section
variable {prog : Program} {w : World} {A : Around} {E : Value → Shared → Prop} {s : Shared}
theorem meets_enumB1 {v : Value} {o : Obj} {H : Heap → Prop} (B : Begins v o H) :
    Meets (Builtin.«enumerate.__new__» ⟨[.type "enumerate", v], []⟩) (fun _ R s => H s.heap ∧
      R (.ok (.ret (.ref (s.heap.push o).objs.size))) { s with heap := (s.heap.push o).push { cls := .type "enumerate", data := .fields #[.none, .bool false, .ref s.heap.objs.size, rawInt 0, .none, .none] } }) :=
  .of_wp fun prog w A R s h => by
    obtain ⟨hp, g, d, tk, os⟩ := s; obtain ⟨hv, h⟩ := h
    have hsub := sub_enumerate
    have step : ∀ {A' : Around} {E : Value → Shared → Prop} {Q : Value → Shared → Prop}, Q (.ref hp.objs.size) ⟨hp.push o, g, d, tk, os⟩ → wpAny (model prog w) A' (pyIter v) Q E ⟨hp, g, d, tk, os⟩ :=
      fun q => B.iter prog w _ _ ⟨hp, g, d, tk, os⟩ _ hv q
    wp_walk using step
    refine wpAny_stack_any fun st => wpAny_pure ?_
    split
    · rename_i c _ _ _ _ _
      cases (c == Value.type "enumerate")
      · wp_walk using step
        exact ⟨_, rfl, h⟩
      · wp_walk using step
        exact ⟨_, rfl, h⟩
    · wp_walk using step
      exact ⟨_, rfl, h⟩
theorem enum_of {v : Value} {o : Obj} {H : Heap → Prop} {Q : Value → Shared → Prop} (B : Begins v o H) (hv : H s.heap)
    (h : ∀ h', IsEnum h' (s.heap.objs.size + 1) s.heap.objs.size 0 .none → h'.get? s.heap.objs.size = some o → h'.objs.size = s.heap.objs.size + 2 →
      (∀ b o, s.heap.get? b = some o → h'.get? b = some o) → Q (.ref (s.heap.objs.size + 1)) { s with heap := h' }) :
    wpAny (model prog w) A (call (.type "enumerate") [v]) Q E s := by
  refine callType_new F.called_enumerate (by decide) (F.typeCall_enumerate_1 _) (F.newCall_enumerate_1 _) (fun obj => F.args_object_init_2 obj _) F.entry_enumerate_new (meets_enumB1 B) ⟨hv, ?_⟩
  have hz : (s.heap.push o).objs.size = s.heap.objs.size + 1 := Heap.size_push ..
  show _ ∧ _
  rw [hz]
  have he := Heap.get?_push_size (s.heap.push o) (o := { cls := .type "enumerate", data := .fields #[.none, .bool false, .ref s.heap.objs.size, rawInt 0, .none, .none] }) rfl
  rw [hz] at he
  exact ⟨⟨_, he, rfl⟩, h _ he (Heap.get?_push_of_some _ (Heap.get?_push_size _ B.free)) (by rw [Heap.size_push, hz]) fun b o x => Heap.get?_push_of_some _ (Heap.get?_push_of_some _ x)⟩
end
theorem pi_enumU {X : Cx} {e : Expr} {ta : TA} {p pos tpos : Pos} {elts : List Expr} {kk : Nat} (hg : Gl X "enumerate") (hm : X.mg "enumerate" = none) (ha : PA X [e] ta) (hs : starEach [e] X.env = [(false, eval e X.env)] := by rfl) :
    PI X (.Tuple elts kk tpos) (.Call (.Name "enumerate" p) [e] [] pos) (iEnumU X.K ta) := by
  refine ⟨fun pins s σ H R I h => ?_⟩
  refine Call_ (ld_blt I hg hm boot_enumerate (PyProof.Rows.callWith_type1 (thn (ha.run pos pins s σ H _ I h) fun us s1 ⟨vs, H1, I1, rv, q1⟩ => ?_) hs rfl))
  obtain ⟨a, xs, rfl, q1⟩ := q1
  rw [Vals.ref1 rv]
  have fr : ∀ b, b ∈ [s1.heap.objs.size + 1, s1.heap.objs.size] → FpOk X pins H1 b := fun b hb => by
    have hle : s1.heap.objs.size ≤ b := by
      rcases (by simpa using hb : b = s1.heap.objs.size + 1 ∨ b = s1.heap.objs.size) with z | z <;> (rw [z]; omega)
    exact I1.fpOk hle (I1.hok.fresh hle)
  rcases q1 with ⟨hq, q⟩ | ⟨hq, q⟩
  · obtain ⟨its, _, pl, _⟩ := I1.list hq
    refine call_enumerate_list pl.isList fun h' he hit hsz hk => wpAny_pyIter_enum he ?_
    exact ⟨s1.heap.objs.size + 1, [s1.heap.objs.size + 1, s1.heap.objs.size], _, _, H1, rfl, I1.kept (t' := s1.toks) hk, turn_enum a (s1.heap.objs.size + 1) s1.heap.objs.size, ⟨⟨.none, he⟩, hit, Nat.succ_ne_self _⟩, fr, q⟩
  · obtain ⟨its, _, pl, _⟩ := I1.tuple hq
    have la : a < s1.heap.objs.size := pl.lt
    refine enum_of (begins_tuple a its.toArray) pl fun h' he hit hsz hk => wpAny_pyIter_enum he ?_
    refine ⟨s1.heap.objs.size + 1, [s1.heap.objs.size + 1, s1.heap.objs.size], _, _, H1, rfl, I1.kept (t' := s1.toks) hk, turn_enumU a (s1.heap.objs.size + 1) s1.heap.objs.size, ⟨⟨.none, he⟩, ⟨_, hit, rfl, rfl⟩, Nat.succ_ne_self _, Nat.ne_of_lt la, Ne.symm (Nat.ne_of_lt (Nat.lt_succ_of_lt la))⟩, fr, q⟩

def numbered (l : List PV) : List PV := (List.range l.length).zipWith (fun i x => .tup [.int ((i : Nat) : Int), x]) l
theorem numbered_len (l : List PV) : (numbered l).length = l.length := by simp [numbered]
theorem numbered_get {l : List PV} {i : Nat} (h : i < l.length) : (numbered l)[i]? = some (.tup [.int ((i : Nat) : Int), l[i]]) := by
  simp [numbered, h]
section
variable {K : PySem.W.Frag} {m : List Addr} {h : VH} {H : Hp}
theorem itD_en {J : It} {t : Bool} {a : Addr} {l : List PV} {src : List (Nat × List PV)} (w : Held K m H t a l src)
    (go : ∀ i H (xs : List V) x, (if t = true then SqT K H a xs else SqL K H a xs) → xs[i]? = some x → J.go i H)
    (yl : ∀ i H v H', J.yld i H v H' → ∃ T x, v = .ref T ∧ H T = none ∧ H' = upd H T (.tup [.int (i : Nat), x]) ∧ ∀ xs, (if t = true then SqT K H a xs else SqL K H a xs) → xs[i]? = some x)
    (st : ∀ i H (xs : List V), (if t = true then SqT K H a xs else SqL K H a xs) → xs.length = i → J.stop i H) : ItD K J m H { items := numbered l, src := src } := by
  intro i m' h' H' x s ok
  obtain ⟨xs, q, rs⟩ := w m' h' H' x s ok
  have hl := rs.len
  refine ⟨fun hi => ?_, fun hi => st i H' xs q (by rw [hl, hi]; exact (numbered_len l).symm)⟩
  have hi0 : i < l.length := by simpa [numbered_len] using hi
  have hi' : i < xs.length := by rw [hl]; exact hi0
  refine ⟨go i H' xs xs[i] q (List.getElem?_eq_getElem hi'), fun y H'' hy => ?_⟩
  obtain ⟨T, z, rfl, nT, rfl, f⟩ := yl i H' y H'' hy
  have e2 := f xs q
  obtain ⟨z', e3, rz⟩ := rs.get (List.getElem?_eq_getElem hi0)
  rw [e2] at e3; cases e3
  exact ⟨_, numbered_get hi0, s.tup nT (Reps.cons rep_int' (Reps.cons rz Reps.nil)), .upd_new nT, s.more nT⟩
end
def dEnum (d : Sl → M PV) : Sl → M Its' := fun v => bnd (d v) fun x h => match srcOf h x with
  | some (_, l, src) => .ok { items := numbered l, src := src } h
  | none => .bad
def dEnumT (d : Sl → M (List PV)) : Sl → M Its' := fun v => bnd (d v) fun l => ret { items := numbered l }
section
variable {X : Cx} {W : WX} {e : Expr} {p pos tpos : Pos} {elts : List Expr} {kk : Nat}
theorem di_enum {d : Sl → M PV} (hg : Gl X "enumerate") (hm : X.mg "enumerate" = none) (he : DE X W e d) (hs : starEach [e] X.env = [(false, eval e X.env)] := by rfl) (hs' : starEach [e] X.env = (false, eval e X.env) :: starEach [] X.env := by rfl) :
    DI X W (.Tuple elts kk tpos) (.Call (.Name "enumerate" p) [e] [] pos) (dEnum d) :=
  weakI (pi_enumU hg hm (pa_cons he pa_nil hs') hs) fun σ H R ⟨m, v, h, sr, sl, p⟩ => ⟨m, v, h, sr, sl, (Post.seq p).mono fun m1 H1 h1 x x1 s1 p1 y ry => by
    show ∃ a xs, [y] = [V.ref a] ∧ _
    split at p1
    · rename_i t l src e2
      obtain ⟨a, rfl, w⟩ := held_of s1 e2 ry
      obtain ⟨xs, q, _⟩ := w.now s1 (src_now e2)
      refine ⟨a, xs, rfl, ?_⟩
      cases t with
      | false =>
        rw [if_neg (by decide)] at q
        refine .inl ⟨q, p1 m1 H1 .refl s1 _ (itD_en w ?_ ?_ ?_)⟩
        · intro i H xs x hx e; rw [if_neg (by decide)] at hx; exact ⟨xs, x, hx, e⟩
        · rintro i H v H' ⟨T, x, a1, a2, a3, a4⟩
          exact ⟨T, x, a1, a2, a3, fun xs hx => by rw [if_neg (by decide)] at hx; exact a4 xs hx⟩
        · intro i H xs hx e; rw [if_neg (by decide)] at hx; exact ⟨xs, hx, by omega⟩
      | true =>
        rw [if_pos rfl] at q
        refine .inr ⟨q, p1 m1 H1 .refl s1 _ (itD_en w ?_ ?_ ?_)⟩
        · intro i H xs x hx e; exact ⟨xs, x, hx, e⟩
        · rintro i H v H' ⟨T, x, a1, a2, a3, a4⟩
          exact ⟨T, x, a1, a2, a3, a4⟩
        · intro i H xs hx e; exact ⟨xs, hx, e⟩
    · exact p1.elim⟩
theorem di_enumT {d : Sl → M (List PV)} (hg : Gl X "enumerate") (hm : X.mg "enumerate" = none) (he : DL X W e d) (hs : starEach [e] X.env = [(false, eval e X.env)] := by rfl) (hs' : starEach [e] X.env = (false, eval e X.env) :: starEach [] X.env := by rfl) :
    DI X W (.Tuple elts kk tpos) (.Call (.Name "enumerate" p) [e] [] pos) (dEnumT d) :=
  weakI (pi_enumU hg hm (pa_cons he pa_nil hs') hs) fun σ H R ⟨m, v, h, sr, sl, p⟩ => ⟨m, v, h, sr, sl, by
    unfold dEnumT bnd at p
    cases e1 : d v h with
    | ok l h1 =>
      rw [e1] at p
      intro m1 H1 x1 s1 D xs n1 n2 eD r
      show ∃ a xs, [V.ref D] = [V.ref a] ∧ _
      have w := held_tmp n2 eD r
      refine ⟨D, xs, rfl, .inl ⟨.of eD, p m1 H1 x1 s1 _ (itD_en w ?_ ?_ ?_)⟩⟩
      · intro i H xs x hx e; rw [if_neg (by decide)] at hx; exact ⟨xs, x, hx, e⟩
      · rintro i H v H' ⟨T, x, a1, a2, a3, a4⟩
        exact ⟨T, x, a1, a2, a3, fun xs hx => by rw [if_neg (by decide)] at hx; exact a4 xs hx⟩
      · intro i H xs hx e; rw [if_neg (by decide)] at hx; exact ⟨xs, hx, by omega⟩
    | ex u h1 => rw [e1] at p; exact p
    | bad => rw [e1] at p; exact p⟩
end

/-! ### zip -/
def paired (l r : List PV) : List PV := l.zipWith (fun x y => .tup [x, y]) r
def dZip (d : Sl → M (List PV)) : Sl → M Its' := fun v => bnd (d v) fun as h => match as with
  | [x, y] => match srcOf h x, srcOf h y with
    | some (t, l, s1), some (u, r, s2) => if t = u then .ok { items := paired l r, src := s1 ++ s2 } h else .bad
    | _, _ => .bad
  | _ => .bad
theorem srcOk_app {h : VH} {a b : List (Nat × List PV)} (q : srcOk h (a ++ b) = true) : srcOk h a = true ∧ srcOk h b = true := by
  unfold srcOk at q ⊢
  rw [List.all_append, Bool.and_eq_true] at q
  exact q
section
variable {K : PySem.W.Frag} {m : List Addr} {h : VH} {H : Hp}
theorem paired_len (l r : List PV) : (paired l r).length = min l.length r.length := by simp [paired]
theorem itD_zp {J : It} {t : Bool} {a b : Addr} {l r : List PV} {s1 s2 : List (Nat × List PV)} (w1 : Held K m H t a l s1) (w2 : Held K m H t b r s2)
    (go : ∀ i H (xs ys : List V) x y, (if t = true then SqT K H a xs else SqL K H a xs) → (if t = true then SqT K H b ys else SqL K H b ys) → xs[i]? = some x → ys[i]? = some y → J.go i H)
    (yl : ∀ i H v H', J.yld i H v H' → ∃ T x y, v = .ref T ∧ H T = none ∧ H' = upd H T (.tup [x, y]) ∧ (∀ xs, (if t = true then SqT K H a xs else SqL K H a xs) → xs[i]? = some x) ∧ ∀ ys, (if t = true then SqT K H b ys else SqL K H b ys) → ys[i]? = some y)
    (st : ∀ i H (xs ys : List V), (if t = true then SqT K H a xs else SqL K H a xs) → (if t = true then SqT K H b ys else SqL K H b ys) → xs.length ≤ i ∨ ys.length ≤ i → J.stop i H) : ItD K J m H { items := paired l r, src := s1 ++ s2 } := by
  intro i m' h' H' x s ok
  obtain ⟨ok1, ok2⟩ := srcOk_app ok
  obtain ⟨xs, q1, rs1⟩ := w1 m' h' H' x s ok1
  obtain ⟨ys, q2, rs2⟩ := w2 m' h' H' x s ok2
  have hl1 := rs1.len
  have hl2 := rs2.len
  refine ⟨fun hi => ?_, fun hi => st i H' xs ys q1 q2 ?_⟩
  · have hi0 : i < min l.length r.length := by simpa [paired_len] using hi
    have hia : i < l.length := by omega
    have hib : i < r.length := by omega
    have hi1 : i < xs.length := by omega
    have hi2 : i < ys.length := by omega
    refine ⟨go i H' xs ys xs[i] ys[i] q1 q2 (List.getElem?_eq_getElem hi1) (List.getElem?_eq_getElem hi2), fun z H'' hy => ?_⟩
    obtain ⟨T, z1, z2, rfl, nT, rfl, f1, f2⟩ := yl i H' z H'' hy
    have e1 := f1 xs q1
    have e2 := f2 ys q2
    obtain ⟨z1', e3, rz1⟩ := rs1.get (List.getElem?_eq_getElem hia)
    obtain ⟨z2', e4, rz2⟩ := rs2.get (List.getElem?_eq_getElem hib)
    rw [e1] at e3; cases e3
    rw [e2] at e4; cases e4
    exact ⟨.tup [l[i], r[i]], by show (paired l r)[i]? = _; rw [paired, List.getElem?_zipWith, List.getElem?_eq_getElem hia, List.getElem?_eq_getElem hib], s.tup nT (Reps.cons rz1 (Reps.cons rz2 Reps.nil)), .upd_new nT, s.more nT⟩
  · have : (paired l r).length = i := hi.symm
    rw [paired_len] at this
    omega
end
section
variable {X : Cx} {W : WX} {e e2 : Expr} {p pos tpos : Pos} {elts : List Expr} {kk : Nat}
theorem di_zip {d : Sl → M (List PV)} (hg : Gl X "zip") (hm : X.mg "zip" = none) (ha : DA X W [e, e2] d) (hs : starEach [e, e2] X.env = (false, eval e X.env) :: starEach [e2] X.env := by rfl) (hpl : (backTo pos (starEach [e2] X.env)).any (·.1) = false := by rfl) :
    DI X W (.Tuple elts kk tpos) (.Call (.Name "zip" p) [e, e2] [] pos) (dZip d) :=
  weakI (RZ.pi_zipA hg hm ha hs hpl) fun σ H R ⟨m, v, h, sr, sl, p⟩ => ⟨m, v, h, sr, sl, (Post.seq p).mono fun m1 H1 h1 as x1 s1 p1 xs rs => by
    split at p1
    · rename_i x y
      split at p1
      · rename_i t l sa u r sb ea eb
        split at p1
        case isFalse => exact p1.elim
        rename_i htu
        subst htu
        obtain ⟨a', t', rfl, r1, r2⟩ := rs.cons_inv
        obtain ⟨b', t2, rfl, r3, r4⟩ := r2.cons_inv
        obtain ⟨a, rfl, w1⟩ := held_of s1 ea r1
        obtain ⟨b, rfl, w2⟩ := held_of s1 eb r3
        obtain ⟨xs, q1, _⟩ := w1.now s1 (src_now ea)
        obtain ⟨ys, q2, _⟩ := w2.now s1 (src_now eb)
        rw [r4.nil_inv]
        refine ⟨a, b, xs, ys, rfl, ?_⟩
        cases t with
        | false =>
          rw [if_neg (by decide)] at q1 q2
          refine .inl ⟨q1, q2, p1 m1 H1 .refl s1 _ (itD_zp w1 w2 ?_ ?_ ?_)⟩
          · intro i H xs ys x y h1 h2 e1 e2; rw [if_neg (by decide)] at h1 h2; exact ⟨xs, ys, x, y, h1, h2, e1, e2⟩
          · rintro i H v H' ⟨T, x, y, a1, a2, a3, a4, a5⟩
            exact ⟨T, x, y, a1, a2, a3, fun xs hx => by rw [if_neg (by decide)] at hx; exact a4 xs hx, fun xs hx => by rw [if_neg (by decide)] at hx; exact a5 xs hx⟩
          · intro i H xs ys h1 h2 e; rw [if_neg (by decide)] at h1 h2; exact ⟨xs, ys, h1, h2, e⟩
        | true =>
          rw [if_pos rfl] at q1 q2
          refine .inr ⟨q1, q2, p1 m1 H1 .refl s1 _ (itD_zp w1 w2 ?_ ?_ ?_)⟩
          · intro i H xs ys x y h1 h2 e1 e2; exact ⟨xs, ys, x, y, h1, h2, e1, e2⟩
          · rintro i H v H' ⟨T, x, y, a1, a2, a3, a4, a5⟩
            exact ⟨T, x, y, a1, a2, a3, a4, a5⟩
          · intro i H xs ys h1 h2 e; exact ⟨xs, ys, h1, h2, e⟩
      · exact p1.elim
    · exact p1.elim⟩
end
end D

/-! layer D, part 10: odds and ends -/
namespace D
open PySem PySem.Spec PySem.W PyProof.Rows L2

/-- the fuel is at its end: nothing is said -/
theorem has_bad {P : Program} {w : World} {K : PySem.W.Frag} {mg : Str → Option Value} {base : Heap} {x : Str} {st : Stmt} {ps : List Str} {f : Addr} {fd : FuncData} {n k : Nat} (T : Stands K mg x st ps f fd) :
    Has P w K mg base CX0 x n k (fun _ => bad) := by
  have no : ∀ vs H Q E, ¬ spD K n (fun _ => bad) vs H Q E := fun vs H Q E h => by
    obtain ⟨m, h, as, _, _, _, p⟩ := h
    exact p
  exact ⟨f, fd, ps, T.at_, T.fn.kp, T.bd, ⟨fun vs H Q E h => (no vs H Q E h).elim, fun A outer s H args us vs Q E _ _ _ _ h => (no vs H Q E h).elim⟩⟩
section
variable {P : Program} {w : World} {K : PySem.W.Frag} {mg : Str → Option Value} {base : Heap} {x : Str} {st : Stmt} {ps N : List Str} {b : SD} {f : Addr} {fd : FuncData}
/-- the same, the numbers told -/
theorem has0n (n NN k : Nat) (T : Stands K mg x st ps f fd) (S : FnScope N ps (defScope st)) (hn : ps.length = n) (hN : N.length = NN)
    (hb : ∀ (cdv : Value) (A : Around) (outer : List Env) (s : Shared) (H : Hp) (E : XK), Room k (A.deeper (envOfC x (defScope st) s.heap.objs.size f cdv)) → DSs (cx0 P w K mg base N x st f cdv A outer s H E) F0 (defBody st) b) :
    Has P w K mg base CX0 x n (k + 1) (fn0 NN b) := by
  subst hn hN
  exact has0 T S hb
theorem hasG0n (n NN k : Nat) (T : Stands K mg x st ps f fd) (S : FnScope N ps (defScope st)) (hn : ps.length = n) (hN : N.length = NN)
    (hb : ∀ (cdv : Value) (A : Around) (outer : List Env) (s : Shared) (H : Hp) (E : XK), A.guards = some [] → Room k (A.deeper (envOfC x (defScope st) s.heap.objs.size f cdv)) → DSs (cx0 P w K mg base N x st f cdv A outer s H E) F0 (defBody st) b) :
    HasG P w K mg base CX0 x n (k + 1) (fn0 NN b) := by
  subst hn hN
  exact hasG0 T S hb
theorem fnG0n (n NN k : Nat) (T : Stands K mg x st ps f fd) (S : FnScope N ps (defScope st)) (hn : ps.length = n) (hN : N.length = NN)
    (hb : ∀ (cdv : Value) (A : Around) (outer : List Env) (s : Shared) (H : Hp) (E : XK), A.guards = some [] → Room k (A.deeper (envOfC x (defScope st) s.heap.objs.size f cdv)) → DSs (cx0 P w K mg base N x st f cdv A outer s H E) F0 (defBody st) b) :
    FnG P w K mg base CX0 (k + 1) f fd ps (spD K n (fn0 NN b)) := by
  subst hn hN
  exact fnG0 T S hb
end
/-- an inner block's names, by the outer one's -/
def relab (scope sc : Scope) : Scope := { scope with names := scope.names.map fun (n, k) => if (k == .free && sc.kind == .function && sc.names.lookup n == some .cell) then (n, .cell) else (n, k) }
theorem relabel_eq (scope : Scope) (env : Env) : relabel scope env = relab scope env.scope := rfl
def oAddI : PV → PV → O PV := oInt2 fun i j => some (.int (i + j))
end D

/-! layer D, part 11: what a denotation gives, by rules -/
namespace D
open PySem PySem.Spec PySem.W PyProof.Rows L2

@[irreducible] def OK {α : Type} (r : R α) (Q : α → VH → Prop) : Prop := match r with
  | .ok a h => Q a h
  | _ => False
@[irreducible] def OO {α : Type} (r : Option (α × VH)) (Q : α → VH → Prop) : Prop := match r with
  | some (a, h) => Q a h
  | none => False
/-- ends of a statement -/
structure En where
  nx : Sl → VH → Prop := fun _ _ => False
  ct : Sl → VH → Prop := fun _ _ => False
  bk : Sl → VH → Prop := fun _ _ => False
  rt : PV → VH → Prop := fun _ _ => False
@[irreducible] def FO (r : Fl) (E : En) : Prop := match r with
  | .nx v h => E.nx v h
  | .ct v h => E.ct v h
  | .bk v h => E.bk v h
  | .rt u h => E.rt u h
  | _ => False
section
variable {α β : Type} {Q : α → VH → Prop} {Q' : β → VH → Prop} {P : PV → VH → Prop} {h : VH} {v : Sl} {E : En}
theorem OK.mono {r : R α} {Q1 Q2 : α → VH → Prop} (p : OK r Q1) (i : ∀ a h, Q1 a h → Q2 a h) : OK r Q2 := by
  unfold OK at p ⊢
  cases r with
  | ok a h => exact i a h p
  | _ => exact p
theorem OK.get {r : R α} {Q1 : α → VH → Prop} (p : OK r Q1) : ∃ a h, r = .ok a h ∧ Q1 a h := by
  unfold OK at p
  cases r with
  | ok a h => exact ⟨a, h, rfl, p⟩
  | _ => exact p.elim
theorem OO.mono {r : Option (α × VH)} {Q1 Q2 : α → VH → Prop} (p : OO r Q1) (i : ∀ a h, Q1 a h → Q2 a h) : OO r Q2 := by
  unfold OO at p ⊢
  cases r with
  | some y => exact i y.1 y.2 p
  | _ => exact p
theorem fo_nx {v : Sl} {h : VH} {E : En} : FO (.nx v h) E = E.nx v h := by with_unfolding_all rfl
theorem fo_ct {v : Sl} {h : VH} {E : En} : FO (.ct v h) E = E.ct v h := by with_unfolding_all rfl
theorem fo_bk {v : Sl} {h : VH} {E : En} : FO (.bk v h) E = E.bk v h := by with_unfolding_all rfl
theorem fo_rt {u : PV} {h : VH} {E : En} : FO (.rt u h) E = E.rt u h := by with_unfolding_all rfl
theorem fo_xc {e : PX} {v : Sl} {h : VH} {E : En} : FO (.xc e v h) E = False := by with_unfolding_all rfl
theorem fo_bad {E : En} : FO .bad E = False := by with_unfolding_all rfl
theorem ok_bad : OK .bad Q = False := by with_unfolding_all rfl
theorem ok_ok {a : α} : OK (.ok a h) Q = Q a h := by with_unfolding_all rfl
theorem ok_ret {a : α} : OK (ret a h) Q = Q a h := by with_unfolding_all rfl
theorem ok_bnd {m : M β} {f : β → M α} : OK (bnd m f h) Q = OK (m h) fun a h' => OK (f a h') Q := by
  unfold bnd
  cases m h <;> with_unfolding_all rfl
theorem ok_lift {f : O α} : OK (liftO f h) Q = OO (f h) Q := by
  unfold liftO
  cases f h <;> with_unfolding_all rfl
def Vr (o : Option (Option PV)) (q : PV → Prop) : Prop := match o with
  | some (some u) => q u
  | _ => False
theorem vr_some {u : PV} {q : PV → Prop} : Vr (some (some u)) q = q u := by with_unfolding_all rfl
theorem ok_var {i : Nat} : OK (dVar i v h) P = Vr v[i]? fun u => P u h := by
  unfold dVar
  generalize v[i]? = o
  rcases o with _ | _ | u <;> with_unfolding_all rfl
theorem ok_c {u : PV} : OK (dC u v h) P = P u h := by with_unfolding_all rfl
theorem ok_bin {g : PV → PV → O PV} {a b : Sl → M PV} : OK (dBin g a b v h) P = OK (a v h) fun x h1 => OK (b v h1) fun y h2 => OO (g x y h2) P := by
  unfold dBin; simp only [ok_bnd, ok_lift]
theorem ok_un {g : PV → O PV} {a : Sl → M PV} : OK (dUn g a v h) P = OK (a v h) fun x h1 => OO (g x h1) P := by
  unfold dUn; simp only [ok_bnd, ok_lift]
/-- a truth value -/
def Tr (u : PV) (q : Bool → Prop) : Prop := match u with
  | .bl b => q b
  | _ => False
theorem tr_bl {b : Bool} {q : Bool → Prop} : Tr (.bl b) q = q b := by with_unfolding_all rfl
theorem ok_asB {u : PV} {Q : Bool → VH → Prop} : OK (asB u h) Q = Tr u fun b => Q b h := by
  cases u <;> with_unfolding_all rfl
theorem ok_and {a b : Sl → M PV} : OK (dAnd a b v h) P = OK (a v h) fun x h1 => Tr x fun c => if c = true then OK (b v h1) P else P (.bl false) h1 := by
  unfold dAnd; simp only [ok_bnd, ok_asB]; congr 1; funext x h1; congr 1; funext c; cases c <;> with_unfolding_all rfl
theorem ok_or {a b : Sl → M PV} : OK (dOr a b v h) P = OK (a v h) fun x h1 => Tr x fun c => if c = true then P (.bl true) h1 else OK (b v h1) P := by
  unfold dOr; simp only [ok_bnd, ok_asB]; congr 1; funext x h1; congr 1; funext c; cases c <;> with_unfolding_all rfl
theorem ok_not {a : Sl → M PV} : OK (dNot a v h) P = OK (a v h) fun x h1 => Tr x fun c => P (.bl (!c)) h1 := by
  unfold dNot; simp only [ok_bnd, ok_asB, ok_ret]
theorem ok_chain {g g' : PV → PV → O PV} {a b c : Sl → M PV} : OK (dChain g g' a b c v h) P = OK (a v h) fun x h1 => OK (b v h1) fun y h2 => OO (g x y h2) fun z h3 => Tr z fun k => if k = true then OK (c v h3) fun w h4 => OO (g' y w h4) P else P (.bl false) h3 := by
  unfold dChain; simp only [ok_bnd, ok_asB, ok_lift]; congr 1; funext x h1; congr 1; funext y h2; congr 1; funext z h3; congr 1; funext k; cases k <;> simp [ok_bnd, ok_lift, ok_ret]
theorem ok_nil {Q : List PV → VH → Prop} : OK (dNil v h) Q = Q [] h := by with_unfolding_all rfl
theorem ok_cons {Q : List PV → VH → Prop} {a : Sl → M PV} {r : Sl → M (List PV)} : OK (dCons a r v h) Q = OK (a v h) fun x h1 => OK (r v h1) fun xs h2 => Q (x :: xs) h2 := by
  unfold dCons; simp only [ok_bnd, ok_ret]
theorem ok_tup {a : Sl → M (List PV)} : OK (dTup a v h) P = OK (a v h) fun l h1 => OO (oTup l h1) P := by
  unfold dTup; simp only [ok_bnd, ok_lift]
theorem ok_lst {a : Sl → M (List PV)} : OK (dLst a v h) P = OK (a v h) fun l h1 => OO (oLst l h1) P := by
  unfold dLst; simp only [ok_bnd, ok_lift]
theorem ok_fn {g : List PV → O PV} {a : Sl → M (List PV)} : OK (dFn g a v h) P = OK (a v h) fun l h1 => OO (g l h1) P := by
  unfold dFn; simp only [ok_bnd, ok_lift]
theorem ok_tmp {g : List PV → O PV} {a : Sl → M (List PV)} : OK (dTmpFn g a v h) P = OK (a v h) fun l h1 => OO (g l h1) P := by
  unfold dTmpFn; simp only [ok_bnd, ok_lift]
theorem ok_call {f : List PV → M PV} {a : Sl → M (List PV)} : OK (dCall f a v h) P = OK (a v h) fun l h1 => OK (f l h1) P := by
  unfold dCall; simp only [ok_bnd]
theorem ok_meth {c : VH → PV → Bool} {g : PV → List PV → O PV} {o : Sl → M PV} {a : Sl → M (List PV)} : OK (dMeth c g o a v h) P = OK (o v h) fun x h1 => c h1 x = true ∧ OK (a v h1) fun l h2 => OO (g x l h2) P := by
  unfold dMeth; simp only [ok_bnd]; congr 1; funext x h1
  by_cases hc : c h1 x = true
  · rw [if_pos hc]; simp only [ok_bnd, ok_lift, hc, true_and]
  · rw [if_neg hc]; rw [Bool.not_eq_true] at hc; rw [hc, ok_bad]; simp only [Bool.false_eq_true, false_and]
theorem ok_tval {Q : Bool → VH → Prop} {a : Sl → M PV} : OK (tVal a v h) Q = OK (a v h) fun x h1 => Tr x fun c => Q c h1 := by
  unfold tVal; simp only [ok_bnd, ok_asB]
theorem ok_tand {Q : Bool → VH → Prop} {a b : Sl → M Bool} : OK (tAndD a b v h) Q = OK (a v h) fun c h1 => if c = true then OK (b v h1) Q else Q false h1 := by
  unfold tAndD; simp only [ok_bnd]; congr 1; funext c h1; cases c <;> with_unfolding_all rfl
theorem ok_tor {Q : Bool → VH → Prop} {a b : Sl → M Bool} : OK (tOrD a b v h) Q = OK (a v h) fun c h1 => if c = true then Q true h1 else OK (b v h1) Q := by
  unfold tOrD; simp only [ok_bnd]; congr 1; funext c h1; cases c <;> with_unfolding_all rfl
theorem ok_tnot {Q : Bool → VH → Prop} {a : Sl → M Bool} : OK (tNotD a v h) Q = OK (a v h) fun c h1 => Q (!c) h1 := by
  unfold tNotD; simp only [ok_bnd, ok_ret]
theorem ok_if {c : Sl → M Bool} {a b : Sl → M PV} : OK (dIf c a b v h) P = OK (c v h) fun k h1 => if k = true then OK (a v h1) P else OK (b v h1) P := by
  unfold dIf; simp only [ok_bnd]; congr 1; funext k h1; cases k <;> with_unfolding_all rfl
theorem ok_pnone {Q : Option Int → VH → Prop} : OK (dPNone v h) Q = Q none h := by with_unfolding_all rfl
def In (u : PV) (q : Int → Prop) : Prop := match u with
  | .int i => q i
  | _ => False
theorem in_int {i : Int} {q : Int → Prop} : In (.int i) q = q i := by with_unfolding_all rfl
theorem ok_psome {Q : Option Int → VH → Prop} {a : Sl → M PV} : OK (dPSome a v h) Q = OK (a v h) fun x h1 => In x fun i => Q (some i) h1 := by
  unfold dPSome; simp only [ok_bnd]; congr 1; funext x h1; cases x <;> with_unfolding_all rfl
theorem ok_slice {g : PV → Option Int → Option Int → O PV} {a : Sl → M PV} {lo hi : Sl → M (Option Int)} : OK (dSlice g a lo hi v h) P = OK (a v h) fun x h1 => OK (lo v h1) fun l h2 => OK (hi v h2) fun u h3 => OO (g x l u h3) P := by
  unfold dSlice; simp only [ok_bnd, ok_lift]
theorem ok_fresh {d : Sl → M (List PV)} : OK (dFresh d v h) P = OK (d v h) fun l h1 => P (.ref h1.length) (h1 ++ [.lst l]) := by
  unfold dFresh; simp only [ok_bnd]; with_unfolding_all rfl
theorem ok_noex {m : M α} : OK (noex m h) Q = OK (m h) Q := by
  unfold noex; cases m h <;> with_unfolding_all rfl
theorem ok_lcx {it : Sl → M Its'} {g : PV → Sl → M Sl} {t : Sl → M Bool} {e : Sl → M PV} {own : List Nat} {Q : List PV → VH → Prop} :
    OK (dLcx it g t e own v h) Q = OK (it v h) fun i h1 => i.items.length ≤ 16777216 ∧ OK (lcF i.src (lcBody g t e (wipeD v own)) i.items h1) Q := by
  unfold dLcx dLc; simp only [ok_noex, ok_bnd]; congr 1; funext i h1
  by_cases hc : i.items.length ≤ 16777216
  · rw [if_pos hc]; simp only [hc, true_and]
  · rw [if_neg hc]; simp only [hc, false_and]; with_unfolding_all rfl
theorem ok_body {g : PV → Sl → M Sl} {t : Sl → M Bool} {e : Sl → M PV} {x : PV} {Q : List PV → VH → Prop} : OK (lcBody g t e v x h) Q = OK (g x v h) fun v' h1 => OK (t v' h1) fun k h2 => if k = true then OK (e v' h2) fun y h3 => Q [y] h3 else Q [] h2 := by
  unfold lcBody; simp only [ok_bnd]; congr 1; funext v' h1; congr 1; funext k h2; cases k <;> simp [ok_bnd, ok_ret]
theorem ok_true {Q : Bool → VH → Prop} : OK (tTrue v h) Q = Q true h := by with_unfolding_all rfl
theorem ok_dtmp {d : Sl → M (List PV)} {Q : Its' → VH → Prop} : OK (dTmp d v h) Q = OK (d v h) fun l h1 => Q { items := l } h1 := by
  unfold dTmp; simp only [ok_bnd, ok_ret]
/-- what is walked -/
def Wk (h : VH) (x : PV) (q : List PV → List (Nat × List PV) → Prop) : Prop := match srcOf h x with
  | some (_, l, src) => q l src
  | none => match x with
    | .str z => q (z.cps.toList.map fun c => .str ⟨#[c]⟩) []
    | _ => False
theorem wk_tup {l : List PV} {q : List PV → List (Nat × List PV) → Prop} : Wk h (.tup l) q = q l [] := by with_unfolding_all rfl
theorem wk_rol {l : List PV} {q : List PV → List (Nat × List PV) → Prop} : Wk h (.rol l) q = q l [] := by with_unfolding_all rfl
theorem wk_str {z : Str} {q : List PV → List (Nat × List PV) → Prop} : Wk h (.str z) q = q (z.cps.toList.map fun c => .str ⟨#[c]⟩) [] := by with_unfolding_all rfl
theorem wk_ref {n : Nat} {l : List PV} {q : List PV → List (Nat × List PV) → Prop} (e : h[n]? = some (.lst l)) : Wk h (.ref n) q = q l [(n, l)] := by
  have : srcOf h (.ref n) = some (false, l, [(n, l)]) := by simp only [srcOf, e]
  unfold Wk; rw [this]
theorem ok_dval {d : Sl → M PV} {Q : Its' → VH → Prop} : OK (dVal d v h) Q = OK (d v h) fun x h1 => Wk h1 x fun l src => Q { items := l, src := src } h1 := by
  unfold dVal; simp only [ok_bnd]; congr 1; funext x h1
  unfold Wk
  cases e : srcOf h1 x with
  | some z => with_unfolding_all rfl
  | none => cases x <;> with_unfolding_all rfl
def Ra1 (as : List PV) (q : Int → Prop) : Prop := match as with
  | [.int j] => q j
  | _ => False
theorem ra1 {j : Int} {q : Int → Prop} : Ra1 [.int j] q = q j := by with_unfolding_all rfl
def Ra2 (as : List PV) (q : Int → Int → Prop) : Prop := match as with
  | [.int i, .int j] => q i j
  | _ => False
theorem ra2 {i j : Int} {q : Int → Int → Prop} : Ra2 [.int i, .int j] q = q i j := by with_unfolding_all rfl
def rng (lo : Int) (n : Nat) : List PV := (List.range n).map fun i => .int (lo + (i : Nat))
theorem rng_len (lo : Int) (n : Nat) : (rng lo n).length = n := by simp [rng]
theorem rng_get {lo : Int} {n i : Nat} {x : PV} (e : (rng lo n)[i]? = some x) : i < n ∧ x = .int (lo + (i : Nat)) := by
  unfold rng at e
  rw [List.getElem?_map] at e
  by_cases hi : i < n
  · rw [List.getElem?_range hi] at e
    exact ⟨hi, (Option.some.inj e).symm⟩
  · rw [List.getElem?_eq_none (by simpa using hi)] at e
    cases e
theorem ok_rng1 {d : Sl → M (List PV)} {Q : Its' → VH → Prop} : OK (dRng1 d v h) Q = OK (d v h) fun as h1 => Ra1 as fun j => (-1000000000 < j ∧ j < 1000000000) ∧ Q { items := rng 0 j.toNat } h1 := by
  unfold dRng1; simp only [ok_bnd]; congr 1; funext as h1
  rcases as with _ | ⟨a, _ | ⟨b, t⟩⟩
  · with_unfolding_all rfl
  · cases a <;> try with_unfolding_all rfl
    rename_i j
    show OK (if _ then _ else _) Q = _
    by_cases c : -1000000000 < j ∧ j < 1000000000
    · rw [if_pos c, ra1]; simp only [c, and_self, true_and]; with_unfolding_all rfl
    · rw [if_neg c, ra1]; simp only [c, false_and]; with_unfolding_all rfl
  · cases a <;> with_unfolding_all rfl
theorem ok_rng2 {d : Sl → M (List PV)} {Q : Its' → VH → Prop} : OK (dRng2 d v h) Q = OK (d v h) fun as h1 => Ra2 as fun k j => (-1000000000 < k ∧ k < 1000000000 ∧ -1000000000 < j ∧ j < 1000000000) ∧ Q { items := rng k (j - k).toNat } h1 := by
  unfold dRng2; simp only [ok_bnd]; congr 1; funext as h1
  rcases as with _ | ⟨a, _ | ⟨b, _ | ⟨c, t⟩⟩⟩
  · with_unfolding_all rfl
  · cases a <;> with_unfolding_all rfl
  · cases a <;> try with_unfolding_all rfl
    cases b <;> try with_unfolding_all rfl
    rename_i k j
    show OK (if _ then _ else _) Q = _
    by_cases c : -1000000000 < k ∧ k < 1000000000 ∧ -1000000000 < j ∧ j < 1000000000
    · rw [if_pos c, ra2]; simp only [c, and_self, true_and]; with_unfolding_all rfl
    · rw [if_neg c, ra2]; simp only [c, false_and]; with_unfolding_all rfl
  · cases a <;> try with_unfolding_all rfl
    cases b <;> with_unfolding_all rfl
def Sr (o : Option (Bool × List PV × List (Nat × List PV))) (q : Bool → List PV → List (Nat × List PV) → Prop) : Prop := match o with
  | some (t, l, s) => q t l s
  | none => False
theorem sr_some {t : Bool} {l : List PV} {s : List (Nat × List PV)} {q : Bool → List PV → List (Nat × List PV) → Prop} : Sr (some (t, l, s)) q = q t l s := by with_unfolding_all rfl
theorem ok_enum {d : Sl → M PV} {Q : Its' → VH → Prop} : OK (dEnum d v h) Q = OK (d v h) fun x h1 => Sr (srcOf h1 x) fun _ l src => Q { items := numbered l, src := src } h1 := by
  unfold dEnum; simp only [ok_bnd]; congr 1; funext x h1
  cases e : srcOf h1 x <;> with_unfolding_all rfl
theorem ok_enumT {d : Sl → M (List PV)} {Q : Its' → VH → Prop} : OK (dEnumT d v h) Q = OK (d v h) fun l h1 => Q { items := numbered l } h1 := by
  unfold dEnumT; simp only [ok_bnd, ok_ret]
def Zp (h : VH) (as : List PV) (q : List PV → List (Nat × List PV) → Prop) : Prop := match as with
  | [x, y] => Sr (srcOf h x) fun t l s1 => Sr (srcOf h y) fun u r s2 => t = u ∧ q (paired l r) (s1 ++ s2)
  | _ => False
theorem zp_two {x y : PV} {q : List PV → List (Nat × List PV) → Prop} : Zp h [x, y] q = Sr (srcOf h x) fun t l s1 => Sr (srcOf h y) fun u r s2 => t = u ∧ q (paired l r) (s1 ++ s2) := by with_unfolding_all rfl
theorem ok_zip {d : Sl → M (List PV)} {Q : Its' → VH → Prop} : OK (dZip d v h) Q = OK (d v h) fun as h1 => Zp h1 as fun l s => Q { items := l, src := s } h1 := by
  unfold dZip; simp only [ok_bnd]; congr 1; funext as h1
  rcases as with _ | ⟨a, _ | ⟨b, _ | ⟨c, t⟩⟩⟩ <;> try with_unfolding_all rfl
  rw [zp_two]
  simp only
  cases e1 : srcOf h1 a with
  | none => with_unfolding_all rfl
  | some z =>
    cases e2 : srcOf h1 b with
    | none => with_unfolding_all rfl
    | some y =>
      obtain ⟨t, l, s1⟩ := z
      obtain ⟨u, r, s2⟩ := y
      rw [sr_some, sr_some]
      simp only
      by_cases c : t = u
      · rw [if_pos c]; simp only [c, true_and]; with_unfolding_all rfl
      · rw [if_neg c]; simp only [c, false_and]; with_unfolding_all rfl
theorem ok_gname {i : Nat} {u : PV} {Q : Sl → VH → Prop} : OK (dgName i u v h) Q = Q (v.set i (some u)) h := by with_unfolding_all rfl
theorem ok_gsnil {Q : Sl → VH → Prop} : OK (dgsNil [] v h) Q = Q v h := by with_unfolding_all rfl
theorem ok_gscons {d : PV → Sl → M Sl} {r : List PV → Sl → M Sl} {u : PV} {us : List PV} {Q : Sl → VH → Prop} : OK (dgsCons d r (u :: us) v h) Q = OK (d u v h) fun v' h1 => OK (r us v' h1) Q := by
  unfold dgsCons; simp only [ok_bnd]
theorem ok_gtup {n : Nat} {d : List PV → Sl → M Sl} {l : List PV} {Q : Sl → VH → Prop} : OK (dgTup n d (.tup l) v h) Q = (l.length = n ∧ OK (d l v h) Q) := by
  unfold dgTup
  by_cases c : l.length = n
  · simp only [c, if_true, true_and]
  · simp only [c, if_false, false_and]; with_unfolding_all rfl
theorem ok_gsub {g : PV → PV → PV → O Unit} {a b : Sl → M PV} {u : PV} {Q : Sl → VH → Prop} : OK (dgSub g a b u v h) Q = OK (a v h) fun o h1 => OK (b v h1) fun i h2 => OO (g o i u h2) fun _ h3 => Q v h3 := by
  unfold dgSub; simp only [ok_bnd, ok_lift, ok_ret]
/-! statements -/
theorem fo_bx {m : M α} {f : α → VH → Fl} : FO (bx v m f h) E = OK (m h) fun a h1 => FO (f a h1) E := by
  unfold bx; cases m h <;> with_unfolding_all rfl
theorem fo_next : FO (sNext v h) E = E.nx v h := by with_unfolding_all rfl
theorem fo_seq {a b : SD} : FO (sSeq a b v h) E = FO (a v h) { E with nx := fun v' h' => FO (b v' h') E } := by
  unfold sSeq; cases a v h <;> with_unfolding_all rfl
theorem fo_asg {e : Sl → M PV} {g : PV → Sl → M Sl} : FO (sAsg e g v h) E = OK (e v h) fun x h1 => OK (g x v h1) fun v' h2 => E.nx v' h2 := by
  unfold sAsg; simp only [fo_bx]; with_unfolding_all rfl
theorem fo_expr {e : Sl → M PV} : FO (sExpr e v h) E = OK (e v h) fun _ h1 => E.nx v h1 := by
  unfold sExpr; simp only [fo_bx]; with_unfolding_all rfl
theorem fo_ret {e : Sl → M PV} : FO (sRet e v h) E = OK (e v h) fun x h1 => E.rt x h1 := by
  unfold sRet; simp only [fo_bx]; with_unfolding_all rfl
theorem fo_retN : FO (sRetN v h) E = E.rt .non h := by with_unfolding_all rfl
theorem fo_if {c : Sl → M Bool} {a b : SD} : FO (sIf c a b v h) E = OK (c v h) fun k h1 => if k = true then FO (a v h1) E else FO (b v h1) E := by
  unfold sIf; simp only [fo_bx]; congr 1; funext k h1; cases k <;> with_unfolding_all rfl
theorem fo_break : FO (sBreak v h) E = E.bk v h := by with_unfolding_all rfl
theorem fo_cont : FO (sCont v h) E = E.ct v h := by with_unfolding_all rfl
def Pa2 (l : List PV) (q : PV → PV → Prop) : Prop := match l with
  | [a, b] => q a b
  | _ => False
theorem pa2 {a b : PV} {q : PV → PV → Prop} : Pa2 [a, b] q = q a b := by with_unfolding_all rfl
theorem fo_par {i j : Nat} {d : Sl → M (List PV)} : FO (sPar i j d v h) E = OK (d v h) fun l h1 => Pa2 l fun a b => E.nx ((v.set i (some a)).set j (some b)) h1 := by
  unfold sPar; simp only [fo_bx]; congr 1; funext l h1
  rcases l with _ | ⟨a, _ | ⟨b, _ | ⟨c, t⟩⟩⟩ <;> with_unfolding_all rfl
theorem fo_aug {g : PV → PV → O PV} {i : Nat} {e : Sl → M PV} : FO (sAug g i e v h) E = OK (dVar i v h) fun x h1 => OK (e v h1) fun y h2 => OO (g x y h2) fun z h3 => E.nx (v.set i (some z)) h3 := by
  unfold sAug; simp only [fo_bx, ok_lift]; with_unfolding_all rfl
theorem fo_for {it : Sl → M Its'} {g : PV → Sl → M Sl} {b : SD} : FO (sFor it g b v h) E = OK (it v h) fun i h1 => FO (forF i.src (forBody g b) i.items v h1) E := by
  unfold sFor; simp only [fo_bx]
theorem fo_body {g : PV → Sl → M Sl} {b : SD} {x : PV} : FO (forBody g b x v h) E = OK (g x v h) fun v' h1 => FO (b v' h1) E := by
  unfold forBody; simp only [fo_bx]
theorem ok_fn0 {N : Nat} {b : SD} {as : List PV} : OK (fn0 N b as h) P = FO (b (as.map some ++ List.replicate (N - as.length) none) h) { nx := fun _ h' => P .non h', rt := P } := by
  unfold fn0; cases b (as.map some ++ List.replicate (N - as.length) none) h <;> with_unfolding_all rfl
/-- a loop, by what holds ahead of each turn -/
theorem fo_loop {src : List (Nat × List PV)} {body : PV → SD} (I : Nat → Sl → VH → Prop) : ∀ {items : List PV} {k : Nat} {v : Sl} {h : VH}, I k v h →
    (∀ i v h, i ≤ items.length → I (k + i) v h → srcOk h src = true) → (∀ (i : Nat) x v h, items[i]? = some x → I (k + i) v h → FO (body x v h) { nx := I (k + i + 1), ct := I (k + i + 1), bk := E.nx, rt := E.rt }) → (∀ v h, I (k + items.length) v h → E.nx v h) →
    FO (forF src body items v h) E
  | [], k, v, h, h0, ok, _, dn => by
    unfold forF
    rw [if_pos (ok 0 v h (Nat.le_refl _) h0), fo_nx]
    exact dn v h h0
  | x :: xs, k, v, h, h0, ok, st, dn => by
    unfold forF
    rw [if_pos (ok 0 v h (Nat.zero_le _) h0)]
    have p := st 0 x v h rfl h0
    have next : ∀ v' h', I (k + 1) v' h' → FO (forF src body xs v' h') E := fun v' h' q =>
      fo_loop I (k := k + 1) q (fun i v h hi q => ok (i + 1) v h (by simpa using hi) (by rw [show k + (i + 1) = k + 1 + i by omega]; exact q))
        (fun i y v h e q => by
          have := st (i + 1) y v h (by simpa using e) (by rw [show k + (i + 1) = k + 1 + i by omega]; exact q)
          rw [show k + (i + 1) + 1 = k + 1 + i + 1 by omega] at this
          exact this)
        (fun v h q => dn v h (by rw [List.length_cons, show k + (xs.length + 1) = k + 1 + xs.length by omega]; exact q))
    cases e : body x v h with
    | nx v' h' => rw [e, fo_nx] at p; exact next v' h' p
    | ct v' h' => rw [e, fo_ct] at p; exact next v' h' p
    | bk v' h' => rw [e, fo_bk] at p; show FO (.nx v' h') E; rw [fo_nx]; exact p
    | rt u h' => rw [e, fo_rt] at p; show FO (.rt u h') E; rw [fo_rt]; exact p
    | xc a v' h' => rw [e, fo_xc] at p; exact p.elim
    | bad => rw [e, fo_bad] at p; exact p.elim
theorem fo_loop0 {src : List (Nat × List PV)} {body : PV → SD} {items : List PV} (I : Nat → Sl → VH → Prop) (h0 : I 0 v h)
    (ok : ∀ i v h, i ≤ items.length → I i v h → srcOk h src = true) (st : ∀ (i : Nat) x v h, items[i]? = some x → I i v h → FO (body x v h) { nx := I (i + 1), ct := I (i + 1), bk := E.nx, rt := E.rt }) (dn : ∀ v h, I items.length v h → E.nx v h) :
    FO (forF src body items v h) E :=
  fo_loop I (k := 0) h0 (fun i v h hi q => ok i v h hi (by simpa using q)) (fun i x v h e q => by simpa using st i x v h e (by simpa using q)) (fun v h q => dn v h (by simpa using q))
/-- a comprehension, by what holds ahead of each item -/
theorem ok_lc {src : List (Nat × List PV)} {f : PV → M (List PV)} (I : Nat → List PV → VH → Prop) : ∀ {items : List PV} {k : Nat} {acc : List PV} {h : VH} {Q : List PV → VH → Prop}, I k acc h →
    (∀ i acc h, i ≤ items.length → I (k + i) acc h → srcOk h src = true) → (∀ (i : Nat) x acc h, items[i]? = some x → I (k + i) acc h → OK (f x h) fun o h' => I (k + i + 1) (acc ++ o) h') → (∀ acc h, I (k + items.length) acc h → Q acc h) →
    OK (lcF src f items h) fun r h' => Q (acc ++ r) h'
  | [], k, acc, h, Q, h0, ok, _, dn => by
    unfold lcF chk
    simp only [ok_bnd]
    rw [if_pos (ok 0 acc h (Nat.le_refl _) h0)]
    rw [ok_ok, ok_ret]
    rw [List.append_nil]
    exact dn acc h h0
  | x :: xs, k, acc, h, Q, h0, ok, st, dn => by
    unfold lcF chk
    simp only [ok_bnd]
    rw [if_pos (ok 0 acc h (Nat.zero_le _) h0), ok_ok]
    refine OK.mono (st 0 x acc h rfl h0) fun o h' q => ?_
    have := ok_lc I (items := xs) (k := k + 1) (acc := acc ++ o) (h := h') (Q := Q) q (fun i a h hi q => ok (i + 1) a h (by simpa using hi) (by rw [show k + (i + 1) = k + 1 + i by omega]; exact q))
      (fun i y a h e q => by
        have := st (i + 1) y a h (by simpa using e) (by rw [show k + (i + 1) = k + 1 + i by omega]; exact q)
        rw [show k + (i + 1) + 1 = k + 1 + i + 1 by omega] at this
        exact this)
      (fun a h q => dn a h (by rw [List.length_cons, show k + (xs.length + 1) = k + 1 + xs.length by omega]; exact q))
    refine OK.mono this fun r h'' q => ?_
    rw [ok_ret]
    rw [← List.append_assoc]
    exact q
theorem ok_lc0 {src : List (Nat × List PV)} {f : PV → M (List PV)} {items : List PV} {Q : List PV → VH → Prop} (I : Nat → List PV → VH → Prop) (h0 : I 0 [] h)
    (ok : ∀ i acc h, i ≤ items.length → I i acc h → srcOk h src = true) (st : ∀ (i : Nat) x acc h, items[i]? = some x → I i acc h → OK (f x h) fun o h' => I (i + 1) (acc ++ o) h') (dn : ∀ acc h, I items.length acc h → Q acc h) :
    OK (lcF src f items h) Q := by
  have := ok_lc I (k := 0) (acc := []) (Q := Q) h0 (fun i a h hi q => ok i a h hi (by simpa using q)) (fun i x a h e q => by simpa using st i x a h e (by simpa using q)) (fun a h q => dn a h (by simpa using q))
  simpa using this
/-- a while, by a measure -/
theorem fo_while {c : Sl → M Bool} {b : SD} (I : Nat → Sl → VH → Prop) (st : ∀ k v h, I k v h → OK (c v h) fun t h1 => if t = true then ∃ j, k = j + 1 ∧ FO (b v h1) { nx := I j, ct := I j, bk := E.nx, rt := E.rt } else E.nx v h1) : ∀ {n k : Nat} {v : Sl} {h : VH}, k < n → I k v h → FO (whileF c b n v h) E
  | 0, k, v, h, hk, _ => absurd hk (Nat.not_lt_zero _)
  | n + 1, k, v, h, hk, q => by
    unfold whileF
    rw [fo_bx]
    refine OK.mono (st k v h q) fun t h1 p => ?_
    cases t with
    | false =>
      simp only [Bool.false_eq_true, if_false] at p ⊢
      rw [fo_nx]
      exact p
    | true =>
      simp only [if_true] at p ⊢
      obtain ⟨j, rfl, p⟩ := p
      cases e : b v h1 with
      | nx v' h' => rw [e, fo_nx] at p; exact fo_while I st (by omega) p
      | ct v' h' => rw [e, fo_ct] at p; exact fo_while I st (by omega) p
      | bk v' h' => rw [e, fo_bk] at p; show FO (.nx v' h') E; rw [fo_nx]; exact p
      | rt u h' => rw [e, fo_rt] at p; show FO (.rt u h') E; rw [fo_rt]; exact p
      | xc a v' h' => rw [e, fo_xc] at p; exact p.elim
      | bad => rw [e, fo_bad] at p; exact p.elim
end
end D

/-! layer D, part 12: what the operators give -/
namespace D
open PySem PySem.Spec PySem.W PyProof.Rows L2
section
variable {Q : PV → VH → Prop} {h : VH} {i j : Int}
theorem oo_some {α : Type} {a : α} {Q : α → VH → Prop} : OO (some (a, h)) Q = Q a h := by with_unfolding_all rfl
theorem oo_add : OO (oAdd (.int i) (.int j) h) Q = Q (.int (i + j)) h := by with_unfolding_all rfl
theorem oo_addI : OO (oAddI (.int i) (.int j) h) Q = Q (.int (i + j)) h := by with_unfolding_all rfl
theorem oo_sub : OO (oSub (.int i) (.int j) h) Q = Q (.int (i - j)) h := by with_unfolding_all rfl
theorem oo_if {α : Type} {c : Prop} [Decidable c] {a : α} {Q : α → VH → Prop} : OO (if c then some (a, h) else none) Q = (c ∧ Q a h) := by
  by_cases e : c
  · rw [if_pos e]; simp only [e, true_and]; with_unfolding_all rfl
  · rw [if_neg e]; simp only [e, false_and]; with_unfolding_all rfl
theorem oInt2_if {c : Prop} [Decidable c] {z : PV} {f : Int → Int → Option PV} (hf : f i j = if c then some z else none) : OO (oInt2 f (.int i) (.int j) h) Q = (c ∧ Q z h) := by
  unfold oInt2
  simp only [hf]
  by_cases e : c
  · simp only [e, if_true, true_and]; with_unfolding_all rfl
  · simp only [e, if_false, false_and]; with_unfolding_all rfl
theorem oo_mul : OO (oMul (.int i) (.int j) h) Q = (((-big < i ∧ i < big) ∨ (-big < j ∧ j < big)) ∧ Q (.int (i * j)) h) := oo_if
theorem oo_fdiv : OO (oFdiv (.int i) (.int j) h) Q = ((0 < j ∧ j.natAbs < 2 ^ 9000) ∧ Q (.int (i / j)) h) := oInt2_if rfl
theorem oo_mod : OO (oMod (.int i) (.int j) h) Q = (0 < j ∧ Q (.int (i % j)) h) := oInt2_if rfl
theorem oo_pow : OO (oPow (.int i) (.int j) h) Q = ((0 ≤ j ∧ j ≤ 1000000 ∧ i.natAbs < 2 ^ 64) ∧ Q (.int (i ^ j.toNat)) h) := oInt2_if rfl
theorem oo_shl : OO (oShl (.int i) (.int j) h) Q = ((0 ≤ j ∧ j ≤ 1000000 ∧ i.natAbs < 2 ^ 64) ∧ Q (.int (i * 2 ^ j.toNat)) h) := oInt2_if rfl
theorem oo_shr : OO (oShr (.int i) (.int j) h) Q = (0 ≤ j ∧ Q (.int (i / 2 ^ j.toNat)) h) := oInt2_if rfl
theorem oo_and : OO (oAnd (.int i) (.int j) h) Q = Q (.int (Builtin.bitAnd i j)) h := by with_unfolding_all rfl
theorem oo_or : OO (oOr (.int i) (.int j) h) Q = Q (.int (Builtin.bitOr i j)) h := by with_unfolding_all rfl
theorem oo_neg : OO (uNeg (.int i) h) Q = Q (.int (-i)) h := by with_unfolding_all rfl
theorem oo_inv : OO (uInv (.int i) h) Q = Q (.int (Builtin.bitNot i)) h := by with_unfolding_all rfl
theorem oo_le : OO (oLe (.int i) (.int j) h) Q = Q (.bl (decide (i ≤ j))) h := by with_unfolding_all rfl
theorem oo_gt : OO (oGt (.int i) (.int j) h) Q = Q (.bl (decide (j < i))) h := by with_unfolding_all rfl
theorem oo_ge : OO (oGe (.int i) (.int j) h) Q = Q (.bl (decide (j ≤ i))) h := by with_unfolding_all rfl
theorem oo_lt : OO (oLt (.int i) (.int j) h) Q = Q (.bl (decide (i < j))) h := by with_unfolding_all rfl
theorem eqv_int : PyData.eqv (.int i) (.int j) = decide (i = j) := by
  simp only [PyData.eqv]
  by_cases c : i = j <;> simp [c]
theorem oo_eq : OO (oEq (.int i) (.int j) h) Q = Q (.bl (decide (i = j))) h := by
  rw [← eqv_int]; with_unfolding_all rfl
theorem oo_ne : OO (oNe (.int i) (.int j) h) Q = Q (.bl (!decide (i = j))) h := by
  rw [← eqv_int]; with_unfolding_all rfl
theorem oo_eqb {a b : Bool} : OO (oEq (.bl a) (.bl b) h) Q = Q (.bl (decide (a = b))) h := by
  cases a <;> cases b <;> with_unfolding_all rfl
theorem oo_neb {a b : Bool} : OO (oNe (.bl a) (.bl b) h) Q = Q (.bl (!decide (a = b))) h := by
  cases a <;> cases b <;> with_unfolding_all rfl
theorem oo_isB {a b : Bool} : OO (oIs (.bl a) (.bl b) h) Q = Q (.bl (decide (a = b))) h := by with_unfolding_all rfl
theorem oo_isNotB {a b : Bool} : OO (oIsNot (.bl a) (.bl b) h) Q = Q (.bl (!decide (a = b))) h := by with_unfolding_all rfl
theorem oo_is0 {a : PV} : OO (oIs a .non h) Q = Q (.bl (isNonP a)) h := by with_unfolding_all rfl
theorem oo_isNot0 {a : PV} : OO (oIsNot a .non h) Q = Q (.bl (!isNonP a)) h := by with_unfolding_all rfl
theorem eqv_str {a b : Str} : PyData.eqv (.str a) (.str b) = decide (a = b) := by
  simp only [PyData.eqv]
  by_cases c : a = b <;> simp [c]
theorem oo_nes {a b : Str} : OO (oNe (.str a) (.str b) h) Q = Q (.bl (!decide (a = b))) h := by with_unfolding_all rfl
theorem oo_eqs {a b : Str} : OO (oEq (.str a) (.str b) h) Q = Q (.bl (decide (a = b))) h := by with_unfolding_all rfl
theorem oo_addT {l k : List PV} : OO (oAdd (.tup l) (.tup k) h) Q = (l.length + k.length ≤ 16777216 ∧ Q (.tup (l ++ k)) h) := oo_if
theorem oo_tup {l : List PV} : OO (oTup l h) Q = (l.length ≤ 16777216 ∧ Q (.tup l) h) := oo_if
theorem oo_lst {l : List PV} : OO (oLst l h) Q = (l.length ≤ 16777216 ∧ Q (.ref h.length) (h ++ [.lst l])) := oo_if
theorem oo_addL {a b : Nat} {l k : List PV} (ea : h[a]? = some (.lst l)) (eb : h[b]? = some (.lst k)) : OO (oAdd (.ref a) (.ref b) h) Q = (l.length + k.length ≤ 16777216 ∧ Q (.ref h.length) (h ++ [.lst (l ++ k)])) := by
  unfold oAdd; simp only [ea, eb]; exact oo_if
theorem oo_mulL {a : Nat} {l : List PV} {k : Int} (ea : h[a]? = some (.lst l)) : OO (oMul (.ref a) (.int k) h) Q = ((0 ≤ k ∧ k ≤ 1000 ∧ l.length ≤ 1000) ∧ Q (.ref h.length) (h ++ [.lst (List.replicate k.toNat l).flatten])) := by
  unfold oMul; simp only [ea]; exact oo_if
theorem atI_nn {α : Type} {l : List α} {v : α} (h0 : 0 ≤ i) (e : l[i.toNat]? = some v) : L2.atI l i = some v := by
  unfold L2.atI ixN
  have := (List.getElem?_eq_some_iff.mp e).1
  rw [if_pos h0, if_pos (by omega)]
  exact e
theorem oo_ixT {l : List PV} {v : PV} (h0 : 0 ≤ i) (e : l[i.toNat]? = some v) : OO (oIx (.tup l) (.int i) h) Q = Q v h := by
  have : oIx (.tup l) (.int i) h = some (v, h) := by simp only [oIx, itemsOf, atI_nn h0 e]
  rw [this]; with_unfolding_all rfl
theorem oo_ixR {l : List PV} {v : PV} (h0 : 0 ≤ i) (e : l[i.toNat]? = some v) : OO (oIx (.rol l) (.int i) h) Q = Q v h := by
  have : oIx (.rol l) (.int i) h = some (v, h) := by simp only [oIx, itemsOf, atI_nn h0 e]
  rw [this]; with_unfolding_all rfl
theorem oo_ixL {a : Nat} {l : List PV} {v : PV} (ea : h[a]? = some (.lst l)) (h0 : 0 ≤ i) (e : l[i.toNat]? = some v) : OO (oIx (.ref a) (.int i) h) Q = Q v h := by
  have : oIx (.ref a) (.int i) h = some (v, h) := by simp only [oIx, itemsOf, ea, atI_nn h0 e]
  rw [this]; with_unfolding_all rfl
theorem oo_setIx {a : Nat} {l : List PV} {v : PV} {Q : Unit → VH → Prop} (ea : h[a]? = some (.lst l)) (h0 : 0 ≤ i) (hi : i.toNat < l.length) : OO (oSetIx (.ref a) (.int i) v h) Q = Q () (h.set a (.lst (l.set i.toNat v))) := by
  have : ixN l.length i = some i.toNat := by
    unfold ixN
    rw [if_pos h0, if_pos (by omega)]
  have : oSetIx (.ref a) (.int i) v h = some ((), h.set a (.lst (l.set i.toNat v))) := by simp only [oSetIx, ea, this]
  rw [this]; with_unfolding_all rfl
theorem oo_append {a : Nat} {l : List PV} {v : PV} (ea : h[a]? = some (.lst l)) : OO (mAppend (.ref a) [v] h) Q = (l.length < 16777216 ∧ Q .non (h.set a (.lst (l ++ [v])))) := by
  unfold mAppend; simp only [ea]; exact oo_if
theorem isLst_ref {a : Nat} {l : List PV} (ea : h[a]? = some (.lst l)) : isLst h (.ref a) = true := by
  simp only [isLst, ea]
theorem oo_abs : OO (oAbs [.int i] h) Q = Q (.int (if i < 0 then -i else i)) h := by with_unfolding_all rfl
theorem oo_int : OO (oInt [.int i] h) Q = Q (.int i) h := by with_unfolding_all rfl
theorem oo_intb {b : Bool} : OO (oInt [.bl b] h) Q = Q (.int (if b = true then 1 else 0)) h := by cases b <;> with_unfolding_all rfl
theorem oo_max2 : OO (oMax2 [.int i, .int j] h) Q = Q (.int (max i j)) h := by
  have : OO (oMax2 [.int i, .int j] h) Q = Q (.int (if j > i then j else i)) h := by with_unfolding_all rfl
  rw [this]
  by_cases c : j > i
  · rw [if_pos c, Int.max_eq_right (by omega)]
  · rw [if_neg c, Int.max_eq_left (by omega)]
theorem oo_min2 : OO (oMin2 [.int i, .int j] h) Q = Q (.int (min i j)) h := by
  have : OO (oMin2 [.int i, .int j] h) Q = Q (.int (if j < i then j else i)) h := by with_unfolding_all rfl
  rw [this]
  by_cases c : j < i
  · rw [if_pos c, Int.min_eq_right (by omega)]
  · rw [if_neg c, Int.min_eq_left (by omega)]
theorem oo_max3 {k : Int} : OO (oMax3 [.int i, .int j, .int k] h) Q = Q (.int (max (max i j) k)) h := by with_unfolding_all rfl
theorem oo_min3 {k : Int} : OO (oMin3 [.int i, .int j, .int k] h) Q = Q (.int (min (min i j) k)) h := by with_unfolding_all rfl
theorem oo_lenT {l : List PV} : OO (oLenS [.tup l] h) Q = Q (.int l.length) h := by with_unfolding_all rfl
theorem oo_lenR {l : List PV} : OO (oLenS [.rol l] h) Q = Q (.int l.length) h := by with_unfolding_all rfl
theorem oo_lenL {a : Nat} {l : List PV} (ea : h[a]? = some (.lst l)) : OO (oLenS [.ref a] h) Q = Q (.int l.length) h := by
  have : oLenS [.ref a] h = some (.int l.length, h) := by simp only [oLenS, itemsOf, ea]
  rw [this]; with_unfolding_all rfl
theorem oo_gTuple {l : List PV} : OO (gTuple l h) Q = Q (.tup l) h := by with_unfolding_all rfl
theorem oo_gList {l : List PV} : OO (gList l h) Q = Q (.ref h.length) (h ++ [.lst l]) := by with_unfolding_all rfl
theorem oo_gLen {l : List PV} : OO (gLen l h) Q = Q (.int l.length) h := by with_unfolding_all rfl
/-- intL as values -/
def intL (ns : List Int) : List PV := ns.map PV.int
theorem intL_len (ns : List Int) : (intL ns).length = ns.length := by simp [intL]
theorem intsP_ints : ∀ ns : List Int, intsP (intL ns) = some ns
  | [] => rfl
  | n :: ns => by
    have := intsP_ints ns
    show intsP (.int n :: intL ns) = _
    simp only [intsP, this]
theorem oo_gMax {n : Int} {ns : List Int} : OO (gMax (intL (n :: ns)) h) Q = Q (.int (ns.foldl max n)) h := by
  unfold gMax; rw [intsP_ints]; with_unfolding_all rfl
theorem oo_gMin {n : Int} {ns : List Int} : OO (gMin (intL (n :: ns)) h) Q = Q (.int (ns.foldl min n)) h := by
  unfold gMin; rw [intsP_ints]; with_unfolding_all rfl
theorem oo_gSum {ns : List Int} : OO (gSum (intL ns) h) Q = Q (.int ns.sum) h := by
  unfold gSum; rw [intsP_ints]; with_unfolding_all rfl
def bls (bs : List Bool) : List PV := bs.map PV.bl
theorem blsP_bls : ∀ ns : List Bool, blsP (bls ns) = some ns
  | [] => rfl
  | n :: ns => by
    have := blsP_bls ns
    show blsP (.bl n :: bls ns) = _
    simp only [blsP, this]
theorem oo_gAll {ns : List Bool} : OO (gAll (bls ns) h) Q = Q (.bl (ns.all id)) h := by
  unfold gAll; rw [blsP_bls]; with_unfolding_all rfl
theorem oo_gAny {ns : List Bool} : OO (gAny (bls ns) h) Q = Q (.bl (ns.any id)) h := by
  unfold gAny; rw [blsP_bls]; with_unfolding_all rfl
theorem oo_biT {g : List PV → O PV} {l : List PV} : OO (oBI g [.tup l] h) Q = OO (g l h) Q := by with_unfolding_all rfl
theorem oo_biR {g : List PV → O PV} {l : List PV} : OO (oBI g [.rol l] h) Q = OO (g l h) Q := by with_unfolding_all rfl
theorem oo_biL {g : List PV → O PV} {a : Nat} {l : List PV} (ea : h[a]? = some (.lst l)) : OO (oBI g [.ref a] h) Q = OO (g l h) Q := by
  unfold oBI; simp only [itemsOf, ea]
theorem oo_blL {g : List PV → O PV} {a : Nat} {l : List PV} (ea : h[a]? = some (.lst l)) : OO (oBL g [.ref a] h) Q = OO (g l h) Q := by
  unfold oBL; simp only [lstOf, ea]
theorem oo_slT {l : List PV} {lo hi : Option Int} : OO (oSl (.tup l) lo hi h) Q = Q (.tup (cutP l lo hi)) h := by with_unfolding_all rfl
theorem oo_slR {l : List PV} {lo hi : Option Int} : OO (oSl (.rol l) lo hi h) Q = Q (.ref h.length) (h ++ [.lst (cutP l lo hi)]) := by with_unfolding_all rfl
theorem oo_slL {a : Nat} {l : List PV} {lo hi : Option Int} (ea : h[a]? = some (.lst l)) : OO (oSl (.ref a) lo hi h) Q = Q (.ref h.length) (h ++ [.lst (cutP l lo hi)]) := by
  unfold oSl; simp only [itemsOf, ea]; with_unfolding_all rfl
theorem oo_isaII : OO (oIsa [.int i, .con (.ty "int")] h) Q = Q (.bl true) h := by with_unfolding_all rfl
theorem oo_isaIB : OO (oIsa [.int i, .con (.ty "bool")] h) Q = Q (.bl false) h := by with_unfolding_all rfl
theorem oo_isaIT : OO (oIsa [.int i, .con (.ty "tuple")] h) Q = Q (.bl false) h := by with_unfolding_all rfl
theorem oo_isaIS : OO (oIsa [.int i, .con (.ty "str")] h) Q = Q (.bl false) h := by with_unfolding_all rfl
theorem oo_isaBI {b : Bool} : OO (oIsa [.bl b, .con (.ty "int")] h) Q = Q (.bl true) h := by with_unfolding_all rfl
theorem oo_isaBB {b : Bool} : OO (oIsa [.bl b, .con (.ty "bool")] h) Q = Q (.bl true) h := by with_unfolding_all rfl
theorem oo_isaBT {b : Bool} : OO (oIsa [.bl b, .con (.ty "tuple")] h) Q = Q (.bl false) h := by with_unfolding_all rfl
theorem oo_isaBS {b : Bool} : OO (oIsa [.bl b, .con (.ty "str")] h) Q = Q (.bl false) h := by with_unfolding_all rfl
theorem oo_isaNT : OO (oIsa [.non, .con (.ty "tuple")] h) Q = Q (.bl false) h := by with_unfolding_all rfl
/-- data all through -/
def isDat (h : VH) (l : List PV) : Prop := ∃ ds, pdats (rdat h 4) l = some ds
theorem oo_isaTT {l : List PV} (d : isDat h l) : OO (oIsa [.tup l, .con (.ty "tuple")] h) Q = Q (.bl true) h := by
  obtain ⟨ds, e⟩ := d
  have : oIsa [.tup l, .con (.ty "tuple")] h = some (.bl true, h) := by
    simp only [oIsa, dat, pdat, e]; with_unfolding_all rfl
  rw [this]; with_unfolding_all rfl
/-- a list that stands in the heap -/
def Lo (o : Option VO) (q : List PV → Prop) : Prop := match o with
  | some (.lst l) => q l
  | _ => False
theorem lo_lst {l : List PV} {q : List PV → Prop} : Lo (some (.lst l)) q = q l := by with_unfolding_all rfl
def AtI (l : List PV) (i : Int) (q : PV → Prop) : Prop := match L2.atI l i with
  | some v => q v
  | none => False
theorem atI_0 {a : PV} {l : List PV} {q : PV → Prop} : AtI (a :: l) 0 q = q a := by
  unfold AtI; rw [atI_nn (Int.le_refl 0) (v := a) rfl]
theorem atI_1 {a b : PV} {l : List PV} {q : PV → Prop} : AtI (a :: b :: l) 1 q = q b := by
  unfold AtI; rw [atI_nn (by decide) (v := b) rfl]
theorem atI_2 {a b c : PV} {l : List PV} {q : PV → Prop} : AtI (a :: b :: c :: l) 2 q = q c := by
  unfold AtI; rw [atI_nn (by decide) (v := c) rfl]
theorem atI_of {l : List PV} {v : PV} {q : PV → Prop} (h0 : 0 ≤ i) (e : l[i.toNat]? = some v) (p : q v) : AtI l i q := by
  unfold AtI; rw [atI_nn h0 e]; exact p
def IxN (n : Nat) (i : Int) (q : Nat → Prop) : Prop := match L2.ixN n i with
  | some j => q j
  | none => False
theorem ixN_of {n : Nat} {q : Nat → Prop} (h0 : 0 ≤ i) (hi : i.toNat < n) (p : q i.toNat) : IxN n i q := by
  unfold IxN L2.ixN
  rw [if_pos h0, if_pos (by omega)]
  exact p
theorem ixN_0 {n : Nat} {q : Nat → Prop} : IxN (n + 1) 0 q = q 0 := by
  unfold IxN L2.ixN
  rw [if_pos (by decide), if_pos (by omega)]
  with_unfolding_all rfl
theorem ixN_1 {n : Nat} {q : Nat → Prop} : IxN (n + 1 + 1) 1 q = q 1 := by
  unfold IxN L2.ixN
  rw [if_pos (by decide), if_pos (by omega)]
  with_unfolding_all rfl
theorem or_ix {a : Nat} : OO (oIx (.ref a) (.int i) h) Q = Lo h[a]? fun l => AtI l i fun v => Q v h := by
  unfold oIx itemsOf
  simp only
  generalize h[a]? = o
  rcases o with _ | _ | _ | _ <;> try with_unfolding_all rfl
  rename_i l
  rw [lo_lst]
  unfold AtI
  simp only
  cases L2.atI l i <;> with_unfolding_all rfl
theorem ot_ix {l : List PV} : OO (oIx (.tup l) (.int i) h) Q = AtI l i fun v => Q v h := by
  unfold oIx itemsOf AtI
  simp only
  cases L2.atI l i <;> with_unfolding_all rfl
theorem ol_ix {l : List PV} : OO (oIx (.rol l) (.int i) h) Q = AtI l i fun v => Q v h := by
  unfold oIx itemsOf AtI
  simp only
  cases L2.atI l i <;> with_unfolding_all rfl
theorem or_set {a : Nat} {v : PV} {Q : Unit → VH → Prop} : OO (oSetIx (.ref a) (.int i) v h) Q = Lo h[a]? fun l => IxN l.length i fun j => Q () (h.set a (.lst (l.set j v))) := by
  unfold oSetIx
  simp only
  generalize h[a]? = o
  rcases o with _ | l | _ | _ <;> try with_unfolding_all rfl
  rw [lo_lst]
  unfold IxN
  simp only
  cases L2.ixN l.length i <;> with_unfolding_all rfl
theorem or_len {a : Nat} : OO (oLenS [.ref a] h) Q = Lo h[a]? fun l => Q (.int l.length) h := by
  unfold oLenS itemsOf
  simp only
  generalize h[a]? = o
  rcases o with _ | _ | _ | _ <;> with_unfolding_all rfl
theorem or_add {a b : Nat} : OO (oAdd (.ref a) (.ref b) h) Q = Lo h[a]? fun l => Lo h[b]? fun k => (l.length + k.length ≤ 16777216 ∧ Q (.ref h.length) (h ++ [.lst (l ++ k)])) := by
  unfold oAdd
  simp only
  generalize h[a]? = o
  generalize h[b]? = u
  rcases o with _ | _ | _ | _ <;> try with_unfolding_all rfl
  rcases u with _ | _ | _ | _ <;> try with_unfolding_all rfl
  exact oo_if
theorem or_mul {a : Nat} {k : Int} : OO (oMul (.ref a) (.int k) h) Q = Lo h[a]? fun l => ((0 ≤ k ∧ k ≤ 1000 ∧ l.length ≤ 1000) ∧ Q (.ref h.length) (h ++ [.lst (List.replicate k.toNat l).flatten])) := by
  unfold oMul
  simp only
  generalize h[a]? = o
  rcases o with _ | _ | _ | _ <;> try with_unfolding_all rfl
  exact oo_if
theorem or_append {a : Nat} {v : PV} : OO (mAppend (.ref a) [v] h) Q = Lo h[a]? fun l => (l.length < 16777216 ∧ Q .non (h.set a (.lst (l ++ [v])))) := by
  unfold mAppend
  simp only
  generalize h[a]? = o
  rcases o with _ | _ | _ | _ <;> try with_unfolding_all rfl
  exact oo_if
theorem or_isLst {a : Nat} {p : Prop} : (isLst h (.ref a) = true ∧ p) = Lo h[a]? fun _ => p := by
  unfold isLst
  simp only
  generalize h[a]? = o
  rcases o with _ | _ | _ | _ <;> simp [Lo]
theorem or_bi {a : Nat} {g : List PV → O PV} : OO (oBI g [.ref a] h) Q = Lo h[a]? fun l => OO (g l h) Q := by
  unfold oBI itemsOf
  simp only
  generalize h[a]? = o
  rcases o with _ | _ | _ | _ <;> with_unfolding_all rfl
theorem or_bl {a : Nat} {g : List PV → O PV} : OO (oBL g [.ref a] h) Q = Lo h[a]? fun l => OO (g l h) Q := by
  unfold oBL lstOf
  simp only
  generalize h[a]? = o
  rcases o with _ | _ | _ | _ <;> with_unfolding_all rfl
theorem or_sl {a : Nat} {lo hi : Option Int} : OO (oSl (.ref a) lo hi h) Q = Lo h[a]? fun l => Q (.ref h.length) (h ++ [.lst (cutP l lo hi)]) := by
  unfold oSl itemsOf
  simp only
  generalize h[a]? = o
  rcases o with _ | _ | _ | _ <;> with_unfolding_all rfl
theorem or_wk {a : Nat} {q : List PV → List (Nat × List PV) → Prop} : Wk h (.ref a) q = Lo h[a]? fun l => q l [(a, l)] := by
  unfold Wk srcOf
  simp only
  generalize h[a]? = o
  rcases o with _ | _ | _ | _ <;> with_unfolding_all rfl
theorem or_sr {a : Nat} {q : Bool → List PV → List (Nat × List PV) → Prop} : Sr (srcOf h (.ref a)) q = Lo h[a]? fun l => q false l [(a, l)] := by
  unfold srcOf
  simp only
  generalize h[a]? = o
  rcases o with _ | _ | _ | _ <;> with_unfolding_all rfl
theorem ot_sr {l : List PV} {q : Bool → List PV → List (Nat × List PV) → Prop} : Sr (srcOf h (.tup l)) q = q true l [] := by with_unfolding_all rfl
theorem or_gtup {n a : Nat} {d : List PV → Sl → M Sl} {v : Sl} {Q : Sl → VH → Prop} : OK (dgTup n d (.ref a) v h) Q = Lo h[a]? fun l => (l.length = n ∧ OK (d l v h) Q) := by
  unfold dgTup lstOf
  simp only
  generalize h[a]? = o
  rcases o with _ | l | _ | _ <;> try with_unfolding_all rfl
  rw [lo_lst]
  by_cases c : l.length = n
  · simp only [c, if_true, true_and]
  · simp only [c, if_false, false_and]; with_unfolding_all rfl
theorem srcOk_one {a : Nat} {l : List PV} (e : h[a]? = some (.lst l)) : srcOk h [(a, l)] = true := by
  simp [srcOk, e, PV.beqs_refl]
/-- heaps -/
theorem hg_set_ne {a b : Nat} {o : VO} (n : b ≠ a) : (h.set a o)[b]? = h[b]? := List.getElem?_set_ne (Ne.symm n)
theorem hg_set {a : Nat} {o : VO} (n : a < h.length) : (h.set a o)[a]? = some o := List.getElem?_set_self n
theorem hg_app {a : Nat} {o : VO} {k : VH} (e : h[a]? = some o) : (h ++ k)[a]? = some o := by
  rw [List.getElem?_append_left (List.getElem?_eq_some_iff.mp e).1]; exact e
theorem hg_new {o : VO} : (h ++ [o])[h.length]? = some o := by simp
theorem hg_lt {a : Nat} {o : VO} (e : h[a]? = some o) : a < h.length := (List.getElem?_eq_some_iff.mp e).1
end
end D

/-! layer D, part 13: the deck, matrices -/
namespace D
open PySem PySem.Spec PySem.W PyProof.Rows L2
/-- the deck: its cells, how many draws were made -/
structure Dk (d c : Nat) (k : Int) (cells : List Int) (h : VH) : Prop where
  dk : h[d]? = some (.lst [.ref c, .int k])
  cl : h[c]? = some (.lst (intL cells))
  ne : d ≠ c
  pos : ∀ x ∈ cells, 0 ≤ x
  k0 : 0 ≤ k
  len : cells.length ≤ 63
def Deck (d c : Nat) (B : Int) (h : VH) : Prop := ∃ k cells, Dk d c k cells h ∧ k ≤ B
def Grow (d c : Nat) (h h' : VH) : Prop := h.length ≤ h'.length ∧ ∀ n o, n ≠ d → n ≠ c → h[n]? = some o → h'[n]? = some o
theorem Grow.refl {d c : Nat} {h : VH} : Grow d c h h := ⟨Nat.le_refl _, fun _ _ _ _ e => e⟩
theorem Grow.trans {d c : Nat} {h h1 h2 : VH} (p : Grow d c h h1) (q : Grow d c h1 h2) : Grow d c h h2 := ⟨Nat.le_trans p.1 q.1, fun n o a b e => q.2 n o a b (p.2 n o a b e)⟩
theorem Grow.app {d c : Nat} {h : VH} {k : VH} : Grow d c h (h ++ k) := ⟨by simp, fun n o _ _ e => hg_app e⟩
theorem Dk.app {d c : Nat} {k : Int} {cells : List Int} {h x : VH} (D : Dk d c k cells h) : Dk d c k cells (h ++ x) := ⟨hg_app D.dk, hg_app D.cl, D.ne, D.pos, D.k0, D.len⟩
theorem Deck.app {d c : Nat} {B : Int} {h x : VH} (D : Deck d c B h) : Deck d c B (h ++ x) := by
  obtain ⟨k, cells, D, e⟩ := D
  exact ⟨k, cells, D.app, e⟩
theorem Dk.upd {d c a : Nat} {k : Int} {cells : List Int} {h : VH} {o : VO} (D : Dk d c k cells h) (n1 : a ≠ d) (n2 : a ≠ c) : Dk d c k cells (h.set a o) :=
  ⟨(hg_set_ne (Ne.symm n1)).trans D.dk, (hg_set_ne (Ne.symm n2)).trans D.cl, D.ne, D.pos, D.k0, D.len⟩
theorem Deck.upd {d c a : Nat} {B : Int} {h : VH} {o : VO} (D : Deck d c B h) (n1 : a ≠ d) (n2 : a ≠ c) : Deck d c B (h.set a o) := by
  obtain ⟨k, cells, D, e⟩ := D
  exact ⟨k, cells, D.upd n1 n2, e⟩
theorem intL_get {ns : List Int} {i : Nat} (hi : i < ns.length) : (intL ns)[i]? = some (.int ns[i]) := by
  simp [intL, hi]
theorem intL_set {ns : List Int} {i : Nat} {x : Int} : (intL ns).set i (.int x) = intL (ns.set i x) := by
  simp [intL, List.map_set]

theorem Deck.mono {d c : Nat} {B B' : Int} {h : VH} (D : Deck d c B h) (e : B ≤ B') : Deck d c B' h := by
  obtain ⟨k, cells, D, q⟩ := D
  exact ⟨k, cells, D, Int.le_trans q e⟩

theorem atI_nat' {l : List PV} {i : Nat} {v : PV} {q : PV → Prop} (e : l[i]? = some v) (p : q v) : AtI l (i : Nat) q := atI_of (by omega) (by simpa using e) p
theorem ixN_nat {n i : Nat} {q : Nat → Prop} (hi : i < n) (p : q i) : IxN n (i : Nat) q := ixN_of (by omega) (by simpa using hi) (by simpa using p)
theorem rng0_get {n i : Nat} {x : PV} (e : (rng 0 n)[i]? = some x) : i < n ∧ x = .int (i : Nat) := by
  obtain ⟨a, b⟩ := rng_get e
  exact ⟨a, by rw [b, Int.zero_add]⟩
theorem map_get {α : Type} {f : α → PV} {l : List α} {i : Nat} {x : α} (e : l[i]? = some x) : (l.map f)[i]? = some (f x) := by rw [List.getElem?_map, e]; rfl
theorem intL_at {ns : List Int} {i : Nat} (hi : i < ns.length) : ∃ x, ns[i]? = some x ∧ (intL ns)[i]? = some (.int x) ∧ x ∈ ns := ⟨ns[i], List.getElem?_eq_getElem hi, intL_get hi, List.getElem_mem hi⟩
theorem hg_lt' {α : Type} {l : List α} {i : Nat} {x : α} (e : l[i]? = some x) : i < l.length := (List.getElem?_eq_some_iff.mp e).1
/-! ### matrices in the heap -/
/-- a list of lists of ints, n by n, all new above L, all entries from 0 to M -/
structure Mat (L : Nat) (h : VH) (a : Nat) (rs : List Nat) (n : Nat) (M : Int) : Prop where
  ha : h[a]? = some (.lst (rs.map PV.ref))
  la : L ≤ a
  len : rs.length = n
  nd : rs.Nodup
  an : a ∉ rs
  row : ∀ r ∈ rs, L ≤ r ∧ ∃ v, h[r]? = some (.lst (intL v)) ∧ v.length = n ∧ ∀ x ∈ v, 0 ≤ x ∧ x ≤ M
section
variable {L a n d c : Nat} {h h' h0 : VH} {rs : List Nat} {M N B : Int}
theorem Mat.mono (m : Mat L h a rs n M) (e : M ≤ N) : Mat L h a rs n N := ⟨m.ha, m.la, m.len, m.nd, m.an, fun r hr => by
  obtain ⟨p, v, q1, q2, q3⟩ := m.row r hr
  exact ⟨p, v, q1, q2, fun x hx => ⟨(q3 x hx).1, Int.le_trans (q3 x hx).2 e⟩⟩⟩
theorem Mat.at (m : Mat L h a rs n M) {i : Nat} (hi : i < n) : ∃ r v, rs[i]? = some r ∧ r ∈ rs ∧ L ≤ r ∧ h[r]? = some (.lst (intL v)) ∧ v.length = n ∧ ∀ x ∈ v, 0 ≤ x ∧ x ≤ M := by
  have hi' : i < rs.length := by rw [m.len]; exact hi
  obtain ⟨p, v, q1, q2, q3⟩ := m.row rs[i] (List.getElem_mem hi')
  exact ⟨rs[i], v, List.getElem?_eq_getElem hi', List.getElem_mem hi', p, q1, q2, q3⟩
/-- the same under a heap that keeps all at L and above -/
theorem Mat.keep (m : Mat L h a rs n M) (k : ∀ (x : Nat) o, L ≤ x → h[x]? = some o → h'[x]? = some o) : Mat L h' a rs n M := ⟨k _ _ m.la m.ha, m.la, m.len, m.nd, m.an, fun r hr => by
  obtain ⟨p, v, q1, q2⟩ := m.row r hr
  exact ⟨p, v, k _ _ p q1, q2⟩⟩
theorem Mat.set (m : Mat L h a rs n M) {r j : Nat} {v : List Int} {x : Int} (hr : r ∈ rs) (hv : h[r]? = some (.lst (intL v))) (hx : 0 ≤ x ∧ x ≤ M) : Mat L (h.set r (.lst (intL (v.set j x)))) a rs n M := by
  have ar : a ≠ r := fun e => m.an (by rw [e]; exact hr)
  refine ⟨(hg_set_ne ar).trans m.ha, m.la, m.len, m.nd, m.an, fun s hs => ?_⟩
  obtain ⟨p, w, q1, q2, q3⟩ := m.row s hs
  by_cases e : s = r
  · subst e
    rw [hv] at q1
    have ew : intL v = intL w := by injection (Option.some.inj q1)
    have ev : v = w := by
      have := congrArg intsP ew
      rw [intsP_ints, intsP_ints] at this
      exact Option.some.inj this
    subst ev
    refine ⟨p, v.set j x, hg_set (hg_lt hv), by simpa using q2, fun y hy => ?_⟩
    rcases List.mem_or_eq_of_mem_set hy with z | z
    · exact q3 y z
    · rw [z]; exact hx
  · exact ⟨p, w, (hg_set_ne e).trans q1, q2, q3⟩
/-- rows alone -/
structure Rows (L : Nat) (h : VH) (rs : List Nat) (k n : Nat) (M : Int) : Prop where
  len : rs.length = k
  nd : rs.Nodup
  row : ∀ r ∈ rs, L ≤ r ∧ ∃ v, h[r]? = some (.lst (intL v)) ∧ v.length = n ∧ ∀ x ∈ v, 0 ≤ x ∧ x ≤ M
theorem Rows.mat {k : VH} (q : Rows h0.length (h0 ++ k) rs n n M) : Mat h0.length ((h0 ++ k) ++ [.lst (rs.map PV.ref)]) (h0 ++ k).length rs n M :=
  ⟨hg_new, by simp, q.len, q.nd, fun hm => by
    obtain ⟨_, v, hv, _⟩ := q.row _ hm
    exact absurd (hg_lt hv) (Nat.lt_irrefl _), fun r hr => by
    obtain ⟨p, v, q1, q2⟩ := q.row r hr
    exact ⟨p, v, hg_app q1, q2⟩⟩
theorem Rows.snoc {k : Nat} {v : List Int} {x y : VH} (q : Rows h0.length (h0 ++ x) rs k n M) (hv : v.length = n) (hb : ∀ z ∈ v, 0 ≤ z ∧ z ≤ M) : Rows h0.length (h0 ++ (x ++ (y ++ [.lst (intL v)]))) (rs ++ [(h0 ++ (x ++ y)).length]) (k + 1) n M := by
  have e : h0 ++ (x ++ (y ++ [VO.lst (intL v)])) = (h0 ++ x) ++ (y ++ [.lst (intL v)]) := by simp
  have e2 : h0 ++ (x ++ (y ++ [VO.lst (intL v)])) = (h0 ++ (x ++ y)) ++ [.lst (intL v)] := by simp
  refine ⟨by simp [q.len], ?_, fun r hr => ?_⟩
  · rw [List.nodup_append]
    refine ⟨q.nd, by simp, fun y' hy z hz => ?_⟩
    rw [List.mem_singleton.mp hz]
    rintro rfl
    obtain ⟨_, v, hv, _⟩ := q.row _ hy
    have := hg_lt hv
    simp at this
    omega
  · rcases List.mem_append.mp hr with z | z
    · obtain ⟨p, w, q1, q2⟩ := q.row r z
      exact ⟨p, w, by rw [e]; exact hg_app q1, q2⟩
    · rw [List.mem_singleton.mp z]
      exact ⟨by simp, v, by rw [e2]; exact hg_new, hv, hb⟩
/-- the state of a matrix that is being made with a deck -/
structure MS (d c : Nat) (h0 : VH) (B : Int) (a : Nat) (rs : List Nat) (n : Nat) (M : Int) (h : VH) : Prop where
  deck : Deck d c B h
  mat : Mat h0.length h a rs n M
  gr : Grow d c h0 h
  dl : d < h0.length
  cl : c < h0.length
theorem MS.mono {B' : Int} (m : MS d c h0 B a rs n M h) (e : M ≤ N) (eb : B ≤ B') : MS d c h0 B' a rs n N h := ⟨m.deck.mono eb, m.mat.mono e, m.gr, m.dl, m.cl⟩
theorem MS.set {r j : Nat} {v : List Int} {x : Int} (m : MS d c h0 B a rs n M h) (hr : r ∈ rs) (hv : h[r]? = some (.lst (intL v))) (hx : 0 ≤ x ∧ x ≤ M) : MS d c h0 B a rs n M (h.set r (.lst (intL (v.set j x)))) := by
  obtain ⟨lr, _⟩ := m.mat.row r hr
  have := m.dl
  have := m.cl
  refine ⟨m.deck.upd (by omega) (by omega), m.mat.set hr hv hx, ⟨by simpa using m.gr.1, fun n o n1 n2 e => ?_⟩, m.dl, m.cl⟩
  have := hg_lt e
  exact (hg_set_ne (by omega)).trans (m.gr.2 n o n1 n2 e)
theorem MS.app {k : VH} (m : MS d c h0 B a rs n M h) : MS d c h0 B a rs n M (h ++ k) := ⟨m.deck.app, m.mat.keep fun x o _ e => hg_app e, m.gr.trans .app, m.dl, m.cl⟩
theorem MS.ge (m : MS d c h0 B a rs n M h) : h0.length ≤ h.length := m.gr.1
theorem km_mono {K K' : Nat} (e : K ≤ K') (m0 : 0 ≤ M) : (K : Int) * M ≤ (K' : Int) * M := Int.mul_le_mul_of_nonneg_right (by omega) m0
theorem km_add {K : Nat} {x y : Int} (hx : x ≤ (K : Int) * M) (hy : y ≤ M) : x + y ≤ ((K + 1 : Nat) : Int) * M := by
  have : ((K + 1 : Nat) : Int) * M = (K : Int) * M + M := by rw [Int.natCast_add, Int.add_mul]; simp
  omega
/-- a list of ints beside it -/
structure Beside (h0 : VH) (rs : List Nat) (b : Nat) (ns : List Int) (h : VH) : Prop where
  at_ : h[b]? = some (.lst (intL ns))
  ge : h0.length ≤ b
  out : b ∉ rs
theorem Beside.new {ns : List Int} (m : MS d c h0 B a rs n M h) : Beside h0 rs h.length ns (h ++ [.lst (intL ns)]) := ⟨hg_new, m.ge, fun hm => by
  obtain ⟨_, v, hv, _⟩ := m.mat.row _ hm
  exact absurd (hg_lt hv) (Nat.lt_irrefl _)⟩
theorem Beside.set {ns : List Int} {b r : Nat} {o : VO} (q : Beside h0 rs b ns h) (hr : r ∈ rs) : Beside h0 rs b ns (h.set r o) := ⟨(hg_set_ne fun e => q.out (by rw [e]; exact hr)).trans q.at_, q.ge, q.out⟩
theorem Beside.drawn {ns : List Int} {b : Nat} (q : Beside h0 rs b ns h) (m : MS d c h0 B a rs n M h) (g : Grow d c h h') : Beside h0 rs b ns h' := by
  have := m.dl
  have := m.cl
  have := q.ge
  exact ⟨g.2 _ _ (by omega) (by omega) q.at_, q.ge, q.out⟩
/-- draws leave it -/
theorem MS.drawn {B' : Int} (m : MS d c h0 B a rs n M h) (D : Deck d c B' h') (g : Grow d c h h') : MS d c h0 B' a rs n M h' := by
  have := m.dl
  have := m.cl
  exact ⟨D, m.mat.keep fun x o hx e => g.2 x o (by omega) (by omega) e, m.gr.trans g, m.dl, m.cl⟩
end
section
variable {P : PV → VH → Prop} {h : VH}
theorem wset_ne {σ : Sl} {i j : Nat} {x : Option PV} (n : i ≠ j) : ((σ.set j none).set j x)[i]? = σ[i]? := by
  rw [List.getElem?_set_ne (Ne.symm n), List.getElem?_set_ne (Ne.symm n)]
theorem wset_eq {σ : Sl} {j : Nat} {x : Option PV} (n : j < σ.length) : ((σ.set j none).set j x)[j]? = some x := by
  rw [List.getElem?_set_self (by simpa using n)]
theorem flat_one (k : Nat) (x : PV) : (List.replicate k [x]).flatten = List.replicate k x := by
  induction k with
  | zero => rfl
  | succ k ih => rw [List.replicate_succ, List.flatten_cons, ih]; rfl
theorem rep_intL (k : Nat) (x : Int) : List.replicate k (PV.int x) = intL (List.replicate k x) := by simp [intL]
/-- [[0] * n for _ in range(n)] -/
theorem zeros_lc {σ : Sl} {i j : Nat} {n : Int} (e : σ[i]? = some (some (.int n))) (ij : i ≠ j) (n0 : 0 ≤ n) (n8 : n ≤ 8) :
    OK (lcF [] (lcBody (dgName j) tTrue (dBin oMul (dLst (dCons (dC (.int 0)) dNil)) (dVar i)) σ) (rng 0 n.toNat) h) fun l h' => ∃ rs k, l = rs.map PV.ref ∧ h' = h ++ k ∧ Rows h.length (h ++ k) rs n.toNat n.toNat 0 := by
  refine ok_lc0 (fun t acc h' => ∃ rs k, acc = rs.map PV.ref ∧ h' = h ++ k ∧ Rows h.length (h ++ k) rs t n.toNat 0) ⟨[], [], rfl, by simp, rfl, List.nodup_nil, by simp⟩ (fun _ _ _ _ _ => rfl) ?_ ?_
  · rintro t x acc h' hx ⟨rs, k, rfl, rfl, q⟩
    have g1 : (σ.set j (some x))[i]? = some (some (.int n)) := (List.getElem?_set_ne (Ne.symm ij)).trans e
    have g2 : ((h ++ k) ++ [VO.lst [PV.int 0]])[(h ++ k).length]? = some (.lst [.int 0]) := hg_new
    try simp only [ok_ret, ok_bnd, ok_lift, ok_var, ok_c, ok_bin, ok_un, ok_asB, ok_and, ok_or, ok_not, ok_chain, ok_nil, ok_cons, ok_tup, ok_lst, ok_fn, ok_tmp, ok_call, ok_meth, ok_tval, ok_tand, ok_tor, ok_tnot, ok_if, ok_pnone, ok_psome, ok_slice, ok_fresh, ok_lcx, ok_body, ok_true, ok_dtmp, ok_dval, ok_rng1, ok_rng2, ok_enum, ok_enumT, ok_zip, ok_gname, ok_gsnil, ok_gscons, ok_gtup, ok_gsub, fo_next, fo_seq, fo_asg, fo_expr, fo_ret, fo_retN, fo_if, fo_break, fo_cont, fo_par, fo_aug, fo_for, fo_body, vr_some, ra1, ra2, in_int, tr_bl, pa2, zp_two, sr_some, wk_tup, wk_rol, wk_str, oo_add, oo_addI, oo_sub, oo_mul, oo_fdiv, oo_mod, oo_pow, oo_shl, oo_shr, oo_and, oo_or, oo_neg, oo_inv, oo_le, oo_gt, oo_ge, oo_lt, oo_eq, oo_ne, oo_eqb, oo_is0, oo_isNot0, oo_nes, oo_eqs, oo_addT, oo_tup, oo_lst, oo_abs, oo_int, oo_intb, oo_max2, oo_min2, oo_max3, oo_min3, oo_lenT, oo_lenR, oo_gTuple, oo_gList, oo_gLen, oo_biT, oo_biR, oo_slT, oo_slR, oo_isaII, oo_isaIB, oo_isaIT, oo_isaIS, oo_isaBI, oo_isaBB, oo_isaBT, oo_isaBS, oo_isaNT, lo_lst, atI_0, atI_1, atI_2, ixN_0, ixN_1, or_ix, ot_ix, ol_ix, or_set, or_len, or_add, or_mul, or_append, or_isLst, or_bi, or_bl, or_sl, or_wk, or_sr, ot_sr, or_gtup, oo_neb, oo_isB, oo_isNotB, List.getElem?_cons_zero, List.getElem?_cons_succ, List.set_cons_zero, List.set_cons_succ, List.map_cons, List.map_nil, List.replicate_succ, List.replicate_zero, List.length_cons, List.length_nil, List.cons_append, List.nil_append, wipeD, if_true, if_false, Bool.false_eq_true, Nat.reduceAdd, Nat.reduceSub, Nat.reduceLeDiff, decide_eq_true_eq, true_and, and_true, Int.reduceNeg, g1, g2]
    refine ⟨⟨n0, by omega⟩, rs ++ [(h ++ (k ++ [VO.lst [PV.int 0]])).length], k ++ ([.lst [.int 0]] ++ [.lst (intL (List.replicate n.toNat 0))]), ?_, ?_, q.snoc (by simp) fun x hx => ?_⟩
    · simp
    · rw [flat_one, rep_intL]; simp
    · rw [List.eq_of_mem_replicate hx]; exact ⟨Int.le_refl _, Int.le_refl _⟩
  · rintro acc h' ⟨rs, k, rfl, rfl, q⟩
    rw [rng_len] at q
    exact ⟨rs, k, rfl, rfl, q⟩
/-- [list(row) for row in square] -/
theorem copy_lc {σ : Sl} {j a L n : Nat} {rs : List Nat} {M : Int} (hj : j < σ.length) (m : Mat L h a rs n M) :
    OK (lcF [(a, rs.map PV.ref)] (lcBody (dgName j) tTrue (dFn (oBI gList) (dCons (dVar j) dNil)) σ) (rs.map PV.ref) h) fun l h' => ∃ rs' k, l = rs'.map PV.ref ∧ h' = h ++ k ∧ Rows h.length (h ++ k) rs' n n M := by
  refine ok_lc0 (fun t acc h' => ∃ rs' k, acc = rs'.map PV.ref ∧ h' = h ++ k ∧ Rows h.length (h ++ k) rs' t n M) ⟨[], [], rfl, by simp, rfl, List.nodup_nil, by simp⟩ ?_ ?_ ?_
  · rintro t acc h' _ ⟨rs', k, rfl, rfl, _⟩
    exact srcOk_one (hg_app m.ha)
  · rintro t x acc h' hx ⟨rs', k, rfl, rfl, q⟩
    rw [List.getElem?_map] at hx
    obtain ⟨r, hr1, rfl⟩ := Option.map_eq_some_iff.mp hx
    obtain ⟨_, v, q1, q2, q3⟩ := m.row r (List.mem_of_getElem? hr1)
    have g1 : (σ.set j (some (PV.ref r)))[j]? = some (some (.ref r)) := List.getElem?_set_self hj
    have g2 : (h ++ k)[r]? = some (.lst (intL v)) := hg_app q1
    try simp only [ok_ret, ok_bnd, ok_lift, ok_var, ok_c, ok_bin, ok_un, ok_asB, ok_and, ok_or, ok_not, ok_chain, ok_nil, ok_cons, ok_tup, ok_lst, ok_fn, ok_tmp, ok_call, ok_meth, ok_tval, ok_tand, ok_tor, ok_tnot, ok_if, ok_pnone, ok_psome, ok_slice, ok_fresh, ok_lcx, ok_body, ok_true, ok_dtmp, ok_dval, ok_rng1, ok_rng2, ok_enum, ok_enumT, ok_zip, ok_gname, ok_gsnil, ok_gscons, ok_gtup, ok_gsub, fo_next, fo_seq, fo_asg, fo_expr, fo_ret, fo_retN, fo_if, fo_break, fo_cont, fo_par, fo_aug, fo_for, fo_body, vr_some, ra1, ra2, in_int, tr_bl, pa2, zp_two, sr_some, wk_tup, wk_rol, wk_str, oo_add, oo_addI, oo_sub, oo_mul, oo_fdiv, oo_mod, oo_pow, oo_shl, oo_shr, oo_and, oo_or, oo_neg, oo_inv, oo_le, oo_gt, oo_ge, oo_lt, oo_eq, oo_ne, oo_eqb, oo_is0, oo_isNot0, oo_nes, oo_eqs, oo_addT, oo_tup, oo_lst, oo_abs, oo_int, oo_intb, oo_max2, oo_min2, oo_max3, oo_min3, oo_lenT, oo_lenR, oo_gTuple, oo_gList, oo_gLen, oo_biT, oo_biR, oo_slT, oo_slR, oo_isaII, oo_isaIB, oo_isaIT, oo_isaIS, oo_isaBI, oo_isaBB, oo_isaBT, oo_isaBS, oo_isaNT, lo_lst, atI_0, atI_1, atI_2, ixN_0, ixN_1, or_ix, ot_ix, ol_ix, or_set, or_len, or_add, or_mul, or_append, or_isLst, or_bi, or_bl, or_sl, or_wk, or_sr, ot_sr, or_gtup, oo_neb, oo_isB, oo_isNotB, List.getElem?_cons_zero, List.getElem?_cons_succ, List.set_cons_zero, List.set_cons_succ, List.map_cons, List.map_nil, List.replicate_succ, List.replicate_zero, List.length_cons, List.length_nil, List.cons_append, List.nil_append, wipeD, if_true, if_false, Bool.false_eq_true, Nat.reduceAdd, Nat.reduceSub, Nat.reduceLeDiff, decide_eq_true_eq, true_and, and_true, Int.reduceNeg, g1, g2, or_bi]
    refine ⟨rs' ++ [(h ++ (k ++ [])).length], k ++ ([] ++ [.lst (intL v)]), by simp, by simp, q.snoc q2 q3⟩
  · rintro acc h' ⟨rs', k, rfl, rfl, q⟩
    rw [List.length_map, m.len] at q
    exact ⟨rs', k, rfl, rfl, q⟩
/-- [draw(..) for _ in ..] -/
theorem draws_lc {σ : Sl} {j d c : Nat} {B m : Int} {e : Sl → M PV} {items : List PV} (hB : B + items.length < 2 ^ 40) (D : Deck d c B h)
    (he : ∀ x B h, Deck d c B h → B < 2 ^ 40 → OK (e (σ.set j (some x)) h) fun v h' => ∃ r, v = .int r ∧ 0 ≤ r ∧ r < m ∧ Deck d c (B + 1) h' ∧ Grow d c h h') :
    OK (lcF [] (lcBody (dgName j) tTrue e σ) items h) fun l h' => ∃ ns, l = intL ns ∧ ns.length = items.length ∧ (∀ x ∈ ns, 0 ≤ x ∧ x < m) ∧ Deck d c (B + items.length) h' ∧ Grow d c h h' := by
  refine ok_lc0 (fun t acc h' => t ≤ items.length ∧ ∃ ns, acc = intL ns ∧ ns.length = t ∧ (∀ x ∈ ns, 0 ≤ x ∧ x < m) ∧ Deck d c (B + t) h' ∧ Grow d c h h') ⟨Nat.zero_le _, [], rfl, rfl, by simp, by simpa using D, .refl⟩ (fun _ _ _ _ _ => rfl) ?_ ?_
  · rintro t x acc h' hx ⟨ht, ns, rfl, hn, hb, D', g⟩
    have lt : t < items.length := hg_lt' hx
    try simp only [ok_ret, ok_bnd, ok_lift, ok_var, ok_c, ok_bin, ok_un, ok_asB, ok_and, ok_or, ok_not, ok_chain, ok_nil, ok_cons, ok_tup, ok_lst, ok_fn, ok_tmp, ok_call, ok_meth, ok_tval, ok_tand, ok_tor, ok_tnot, ok_if, ok_pnone, ok_psome, ok_slice, ok_fresh, ok_lcx, ok_body, ok_true, ok_dtmp, ok_dval, ok_rng1, ok_rng2, ok_enum, ok_enumT, ok_zip, ok_gname, ok_gsnil, ok_gscons, ok_gtup, ok_gsub, fo_next, fo_seq, fo_asg, fo_expr, fo_ret, fo_retN, fo_if, fo_break, fo_cont, fo_par, fo_aug, fo_for, fo_body, vr_some, ra1, ra2, in_int, tr_bl, pa2, zp_two, sr_some, wk_tup, wk_rol, wk_str, oo_add, oo_addI, oo_sub, oo_mul, oo_fdiv, oo_mod, oo_pow, oo_shl, oo_shr, oo_and, oo_or, oo_neg, oo_inv, oo_le, oo_gt, oo_ge, oo_lt, oo_eq, oo_ne, oo_eqb, oo_is0, oo_isNot0, oo_nes, oo_eqs, oo_addT, oo_tup, oo_lst, oo_abs, oo_int, oo_intb, oo_max2, oo_min2, oo_max3, oo_min3, oo_lenT, oo_lenR, oo_gTuple, oo_gList, oo_gLen, oo_biT, oo_biR, oo_slT, oo_slR, oo_isaII, oo_isaIB, oo_isaIT, oo_isaIS, oo_isaBI, oo_isaBB, oo_isaBT, oo_isaBS, oo_isaNT, lo_lst, atI_0, atI_1, atI_2, ixN_0, ixN_1, or_ix, ot_ix, ol_ix, or_set, or_len, or_add, or_mul, or_append, or_isLst, or_bi, or_bl, or_sl, or_wk, or_sr, ot_sr, or_gtup, oo_neb, oo_isB, oo_isNotB, List.getElem?_cons_zero, List.getElem?_cons_succ, List.set_cons_zero, List.set_cons_succ, List.map_cons, List.map_nil, List.replicate_succ, List.replicate_zero, List.length_cons, List.length_nil, List.cons_append, List.nil_append, wipeD, if_true, if_false, Bool.false_eq_true, Nat.reduceAdd, Nat.reduceSub, Nat.reduceLeDiff, decide_eq_true_eq, true_and, and_true, Int.reduceNeg]
    refine OK.mono (he x (B + t) h' D' (by omega)) ?_
    rintro v h'' ⟨r, rfl, r0, r1, D'', g'⟩
    refine ⟨lt, ns ++ [r], by simp [intL], by simp [hn], fun y hy => ?_, by rw [show B + ((t + 1 : Nat) : Int) = B + t + 1 by omega]; exact D'', g.trans g'⟩
    rcases List.mem_append.mp hy with z | z
    · exact hb y z
    · rw [List.mem_singleton.mp z]; exact ⟨r0, r1⟩
  · rintro acc h' ⟨_, ns, rfl, hn, hb, D', g⟩
    exact ⟨ns, rfl, hn, hb, D', g⟩
/-- a choice of two -/
theorem atI_two {e : Prop} [Decidable e] {a b : Int} {q : PV → Prop} (p : q (.int (if e then b else a))) : AtI [.int a, .int b] (if e then 1 else 0) q := by
  by_cases c : e
  · rw [if_pos c] at p ⊢; rw [atI_1]; exact p
  · rw [if_neg c] at p ⊢; rw [atI_0]; exact p
/-! ### tables -/
def tabV (t : List (List Int)) : PV := .tup (t.map fun r => .tup (intL r))
def Tab (n : Nat) (M : Int) (t : List (List Int)) : Prop := t.length = n ∧ ∀ r ∈ t, r.length = n ∧ ∀ x ∈ r, 0 ≤ x ∧ x ≤ M
theorem Tab.mono {n : Nat} {M N : Int} {t : List (List Int)} (p : Tab n M t) (e : M ≤ N) : Tab n N t := ⟨p.1, fun r hr => ⟨(p.2 r hr).1, fun x hx => ⟨((p.2 r hr).2 x hx).1, Int.le_trans ((p.2 r hr).2 x hx).2 e⟩⟩⟩
/-- rows as tuples in a list of the heap, a deck beside -/
structure TL (d c : Nat) (h0 : VH) (B : Int) (a : Nat) (t : List (List Int)) (n : Nat) (M : Int) (h : VH) : Prop where
  deck : Deck d c B h
  at_ : h[a]? = some (.lst (t.map fun r => PV.tup (intL r)))
  ge : h0.length ≤ a
  row : ∀ r ∈ t, r.length = n ∧ ∀ x ∈ r, 0 ≤ x ∧ x ≤ M
  gr : Grow d c h0 h
  dl : d < h0.length
  cl : c < h0.length
theorem TL.snoc {d c a n : Nat} {h0 h : VH} {B M : Int} {t : List (List Int)} {r : List Int} (q : TL d c h0 B a t n M h) (hr : r.length = n) (hb : ∀ x ∈ r, 0 ≤ x ∧ x ≤ M) :
    TL d c h0 B a (t ++ [r]) n M (h.set a (.lst ((t.map fun r => PV.tup (intL r)) ++ [.tup (intL r)]))) := by
  have := q.dl
  have := q.cl
  have := q.ge
  refine ⟨q.deck.upd (by omega) (by omega), by rw [hg_set (hg_lt q.at_)]; simp, q.ge, fun s hs => ?_, ⟨by simpa using q.gr.1, fun n o n1 n2 e => ?_⟩, q.dl, q.cl⟩
  · rcases List.mem_append.mp hs with z | z
    · exact q.row s z
    · rw [List.mem_singleton.mp z]; exact ⟨hr, hb⟩
  · have := hg_lt e
    exact (hg_set_ne (by omega)).trans (q.gr.2 n o n1 n2 e)
theorem TL.drawn {d c a n : Nat} {h0 h h' : VH} {B B' M : Int} {t : List (List Int)} (q : TL d c h0 B a t n M h) (D : Deck d c B' h') (g : Grow d c h h') : TL d c h0 B' a t n M h' := by
  have := q.dl
  have := q.cl
  have := q.ge
  exact ⟨D, g.2 _ _ (by omega) (by omega) q.at_, q.ge, q.row, q.gr.trans g, q.dl, q.cl⟩
theorem TL.mono {d c a n : Nat} {h0 h : VH} {B B' M M' : Int} {t : List (List Int)} (q : TL d c h0 B a t n M h) (e : B ≤ B') (e2 : M ≤ M') : TL d c h0 B' a t n M' h := ⟨q.deck.mono e, q.at_, q.ge, fun r hr => ⟨(q.row r hr).1, fun x hx => ⟨((q.row r hr).2 x hx).1, Int.le_trans ((q.row r hr).2 x hx).2 e2⟩⟩, q.gr, q.dl, q.cl⟩
theorem TL.app {d c a n : Nat} {h0 h k : VH} {B M : Int} {t : List (List Int)} (q : TL d c h0 B a t n M h) : TL d c h0 B a t n M (h ++ k) := ⟨q.deck.app, hg_app q.at_, q.ge, q.row, q.gr.trans .app, q.dl, q.cl⟩
/-- tuple([tuple(row) for row in made]) -/
theorem tuples_lc {σ : Sl} {j a L n : Nat} {rs : List Nat} {M : Int} (hj : j < σ.length) (m : Mat L h a rs n M) :
    OK (lcF [(a, rs.map PV.ref)] (lcBody (dgName j) tTrue (dFn (oBI gTuple) (dCons (dVar j) dNil)) σ) (rs.map PV.ref) h) fun l h' => h' = h ∧ ∃ t, PV.tup l = tabV t ∧ Tab n M t := by
  refine ok_lc0 (fun k acc h' => h' = h ∧ ∃ t : List (List Int), acc = t.map (fun r => PV.tup (intL r)) ∧ t.length = k ∧ ∀ r ∈ t, r.length = n ∧ ∀ x ∈ r, 0 ≤ x ∧ x ≤ M) ⟨rfl, [], rfl, rfl, by simp⟩ ?_ ?_ ?_
  · rintro k acc h' _ ⟨rfl, _⟩
    exact srcOk_one m.ha
  · rintro k x acc h' hx ⟨rfl, t, rfl, ht, hr⟩
    rw [List.getElem?_map] at hx
    obtain ⟨r, hr1, rfl⟩ := Option.map_eq_some_iff.mp hx
    obtain ⟨_, v, q1, q2, q3⟩ := m.row r (List.mem_of_getElem? hr1)
    have g1 : (σ.set j (some (PV.ref r)))[j]? = some (some (.ref r)) := List.getElem?_set_self hj
    try simp only [ok_ret, ok_bnd, ok_lift, ok_var, ok_c, ok_bin, ok_un, ok_asB, ok_and, ok_or, ok_not, ok_chain, ok_nil, ok_cons, ok_tup, ok_lst, ok_fn, ok_tmp, ok_call, ok_meth, ok_tval, ok_tand, ok_tor, ok_tnot, ok_if, ok_pnone, ok_psome, ok_slice, ok_fresh, ok_lcx, ok_body, ok_true, ok_dtmp, ok_dval, ok_rng1, ok_rng2, ok_enum, ok_enumT, ok_zip, ok_gname, ok_gsnil, ok_gscons, ok_gtup, ok_gsub, fo_next, fo_seq, fo_asg, fo_expr, fo_ret, fo_retN, fo_if, fo_break, fo_cont, fo_par, fo_aug, fo_for, fo_body, vr_some, ra1, ra2, in_int, tr_bl, pa2, zp_two, sr_some, wk_tup, wk_rol, wk_str, oo_add, oo_addI, oo_sub, oo_mul, oo_fdiv, oo_mod, oo_pow, oo_shl, oo_shr, oo_and, oo_or, oo_neg, oo_inv, oo_le, oo_gt, oo_ge, oo_lt, oo_eq, oo_ne, oo_eqb, oo_is0, oo_isNot0, oo_nes, oo_eqs, oo_addT, oo_tup, oo_lst, oo_abs, oo_int, oo_intb, oo_max2, oo_min2, oo_max3, oo_min3, oo_lenT, oo_lenR, oo_gTuple, oo_gList, oo_gLen, oo_biT, oo_biR, oo_slT, oo_slR, oo_isaII, oo_isaIB, oo_isaIT, oo_isaIS, oo_isaBI, oo_isaBB, oo_isaBT, oo_isaBS, oo_isaNT, lo_lst, atI_0, atI_1, atI_2, ixN_0, ixN_1, or_ix, ot_ix, ol_ix, or_set, or_len, or_add, or_mul, or_append, or_isLst, or_bi, or_bl, or_sl, or_wk, or_sr, ot_sr, or_gtup, oo_neb, oo_isB, oo_isNotB, List.getElem?_cons_zero, List.getElem?_cons_succ, List.set_cons_zero, List.set_cons_succ, List.map_cons, List.map_nil, List.replicate_succ, List.replicate_zero, List.length_cons, List.length_nil, List.cons_append, List.nil_append, wipeD, if_true, if_false, Bool.false_eq_true, Nat.reduceAdd, Nat.reduceSub, Nat.reduceLeDiff, decide_eq_true_eq, true_and, and_true, Int.reduceNeg, g1, q1]
    refine ⟨t ++ [v], by simp, by simp [ht], fun s hs => ?_⟩
    rcases List.mem_append.mp hs with z | z
    · exact hr s z
    · rw [List.mem_singleton.mp z]; exact ⟨q2, q3⟩
  · rintro acc h' ⟨rfl, t, rfl, ht, hr⟩
    exact ⟨rfl, t, rfl, by rw [ht]; simpa using m.len, hr⟩
theorem paired_get {l r : List PV} {i : Nat} {z : PV} (e : (paired l r)[i]? = some z) : ∃ a b, l[i]? = some a ∧ r[i]? = some b ∧ z = .tup [a, b] := by
  unfold paired at e
  rw [List.getElem?_zipWith] at e
  cases e1 : l[i]? with
  | none => rw [e1] at e; cases e
  | some a =>
    cases e2 : r[i]? with
    | none => rw [e1, e2] at e; cases e
    | some b =>
      rw [e1, e2] at e
      exact ⟨a, b, rfl, rfl, (Option.some.inj e).symm⟩
theorem intL_inv {ns : List Int} {i : Nat} {z : PV} (e : (intL ns)[i]? = some z) : ∃ x, ns[i]? = some x ∧ z = .int x ∧ x ∈ ns := by
  unfold intL at e
  rw [List.getElem?_map] at e
  obtain ⟨x, e1, rfl⟩ := Option.map_eq_some_iff.mp e
  exact ⟨x, e1, rfl, List.mem_of_getElem? e1⟩
theorem rowL_inv {t : List (List Int)} {i : Nat} {z : PV} (e : (t.map fun r => PV.tup (intL r))[i]? = some z) : ∃ r, t[i]? = some r ∧ z = .tup (intL r) ∧ r ∈ t := by
  rw [List.getElem?_map] at e
  obtain ⟨x, e1, rfl⟩ := Option.map_eq_some_iff.mp e
  exact ⟨x, e1, rfl, List.mem_of_getElem? e1⟩
theorem le_foldl_max {b : Int} : ∀ {ns : List Int} {a : Int}, b ≤ a → b ≤ ns.foldl max a
  | [], _, h => h
  | x :: ns, a, h => le_foldl_max (ns := ns) (Int.le_trans h (Int.le_max_left ..))
theorem foldl_max_le {b : Int} : ∀ {ns : List Int} {a : Int}, a ≤ b → (∀ x ∈ ns, x ≤ b) → ns.foldl max a ≤ b
  | [], _, h, _ => h
  | x :: ns, a, h, q => foldl_max_le (ns := ns) (Int.max_le.mpr ⟨h, q x List.mem_cons_self⟩) fun y hy => q y (List.mem_cons_of_mem _ hy)
theorem mem_le_foldl_max {x : Int} : ∀ {ns : List Int} {a : Int}, x ∈ ns → x ≤ ns.foldl max a
  | y :: ns, a, h => by
    rcases List.mem_cons.mp h with rfl | h
    · exact le_foldl_max (ns := ns) (Int.le_max_right ..)
    · exact mem_le_foldl_max (ns := ns) h
/-- each item made anew from a list of rows -/
theorem rows_lc {σ : Sl} {g : PV → Sl → M Sl} {e : Sl → M PV} {items : List PV} {src : List (Nat × List PV)} {n : Nat} {M : Int} (hs : srcOk h src = true)
    (he : ∀ (i : Nat) x, items[i]? = some x → OK (g x σ h) fun v' h1 => OK (e v' h1) fun u h2 => h2 = h ∧ ∃ r : List Int, u = .tup (intL r) ∧ r.length = n ∧ ∀ x ∈ r, 0 ≤ x ∧ x ≤ M) :
    OK (lcF src (lcBody g tTrue e σ) items h) fun l h' => h' = h ∧ ∃ t : List (List Int), l = t.map (fun r => PV.tup (intL r)) ∧ t.length = items.length ∧ ∀ r ∈ t, r.length = n ∧ ∀ x ∈ r, 0 ≤ x ∧ x ≤ M := by
  refine ok_lc0 (fun k acc h' => h' = h ∧ ∃ t : List (List Int), acc = t.map (fun r => PV.tup (intL r)) ∧ t.length = k ∧ ∀ r ∈ t, r.length = n ∧ ∀ x ∈ r, 0 ≤ x ∧ x ≤ M) ⟨rfl, [], rfl, rfl, by simp⟩ (fun _ _ _ _ q => by rw [q.1]; exact hs) ?_ fun _ _ q => q
  rintro k x acc h' hx ⟨rfl, t, rfl, ht, hb⟩
  simp only [ok_body, ok_true, if_true]
  refine OK.mono (he k x hx) ?_
  intro v' h1 q
  refine OK.mono q ?_
  rintro u h2 ⟨rfl, r, rfl, hr, hrb⟩
  refine ⟨rfl, t ++ [r], by simp, by simp [ht], fun s hs => ?_⟩
  rcases List.mem_append.mp hs with z | z
  · exact hb s z
  · rw [List.mem_singleton.mp z]; exact ⟨hr, hrb⟩
/-- each item an int -/
theorem ints_lc {σ : Sl} {g : PV → Sl → M Sl} {e : Sl → M PV} {items : List PV} {src : List (Nat × List PV)} {C : Int → Prop} (hs : srcOk h src = true)
    (he : ∀ (i : Nat) x, items[i]? = some x → OK (g x σ h) fun v' h1 => OK (e v' h1) fun u h2 => h2 = h ∧ ∃ r : Int, u = .int r ∧ C r) :
    OK (lcF src (lcBody g tTrue e σ) items h) fun l h' => h' = h ∧ ∃ t : List Int, l = intL t ∧ t.length = items.length ∧ ∀ r ∈ t, C r := by
  refine ok_lc0 (fun k acc h' => h' = h ∧ ∃ t : List Int, acc = intL t ∧ t.length = k ∧ ∀ r ∈ t, C r) ⟨rfl, [], rfl, rfl, by simp⟩ (fun _ _ _ _ q => by rw [q.1]; exact hs) ?_ fun _ _ q => q
  rintro k x acc h' hx ⟨rfl, t, rfl, ht, hb⟩
  simp only [ok_body, ok_true, if_true]
  refine OK.mono (he k x hx) ?_
  intro v' h1 q
  refine OK.mono q ?_
  rintro u h2 ⟨rfl, r, rfl, hr⟩
  refine ⟨rfl, t ++ [r], by simp [intL], by simp [ht], fun s hs => ?_⟩
  rcases List.mem_append.mp hs with z | z
  · exact hb s z
  · rw [List.mem_singleton.mp z]; exact hr
end
end D

/-! layer D, part 14: data that repr tells -/
namespace D
open PySem PySem.Spec PySem.W PyProof.Rows L2
/-- small data: so deep at most, so many parts -/
structure Gd (d : PyData) (k N : Nat) : Prop where
  sh : d.showable = true
  nd : d.hasDict = false
  dp : d.depth ≤ k
  ls : d.leavesShort 2000 = true
  bk : d.bulk ≤ N
theorem Gd.mono {d : PyData} {k N k' N' : Nat} (g : Gd d k N) (h1 : k ≤ k') (h2 : N ≤ N') : Gd d k' N' := ⟨g.sh, g.nd, Nat.le_trans g.dp h1, g.ls, Nat.le_trans g.bk h2⟩
theorem log_small {i : Int} (h : i.natAbs < 2 ^ 1000) : i.natAbs.log2 < 1920 := by
  by_cases z : i.natAbs = 0
  · rw [z]; decide
  · have := (Nat.log2_lt z (k := 1000)).mpr h
    omega
theorem gd_int {i : Int} (h : i.natAbs < 2 ^ 1000) : Gd (.int i) 0 0 := by
  have h' := log_small h
  refine ⟨by simp only [PyData.showable]; exact decide_eq_true h', rfl, Nat.le_refl _, ?_, Nat.le_refl _⟩
  simp only [PyData.leavesShort, decide_eq_true_eq]
  have := int_text_len_1921 h'
  show (PySem.Str.ofString (toString i)).length ≤ 2000
  omega
theorem gd_bool {b : Bool} : Gd (.bool b) 0 0 := ⟨rfl, rfl, Nat.le_refl _, rfl, Nat.le_refl _⟩
theorem gd_none : Gd .none 0 0 := ⟨rfl, rfl, Nat.le_refl _, rfl, Nat.le_refl _⟩
structure GdAll (ds : List PyData) (k N : Nat) : Prop where
  sh : PyData.showableAll ds = true
  nd : PyData.hasDictAll ds = false
  dp : PyData.depthAll ds ≤ k
  ls : PyData.leavesShortAll 2000 ds = true
  bk : PyData.bulkAll ds ≤ ds.length * (N + 1)
theorem gdAll_of {k N : Nat} : ∀ {ds : List PyData}, (∀ d ∈ ds, Gd d k N) → GdAll ds k N
  | [], _ => ⟨rfl, rfl, Nat.zero_le _, rfl, by simp [PyData.bulkAll]⟩
  | d :: ds, h => by
    have g := h d List.mem_cons_self
    have t := gdAll_of fun x hx => h x (List.mem_cons_of_mem _ hx)
    refine ⟨by simp only [PyData.showableAll, g.sh, t.sh, Bool.and_self], by simp only [PyData.hasDictAll, g.nd, t.nd, Bool.or_self], ?_, by simp only [PyData.leavesShortAll, g.ls, t.ls, Bool.and_self], ?_⟩
    · simp only [PyData.depthAll]
      have := g.dp
      have := t.dp
      omega
    · simp only [PyData.bulkAll, List.length_cons]
      have := g.bk
      have := t.bk
      rw [Nat.add_mul]
      omega
theorem gd_tuple {ds : List PyData} {k N m : Nat} (h : ∀ d ∈ ds, Gd d k N) (hm : ds.length ≤ m) : Gd (.tuple ds) (k + 1) (m * (N + 1)) := by
  have g := gdAll_of h
  refine ⟨by simp only [PyData.showable, g.sh], by simp only [PyData.hasDict, g.nd], by simp only [PyData.depth]; have := g.dp; omega, by simp only [PyData.leavesShort, g.ls], ?_⟩
  simp only [PyData.bulk]
  exact Nat.le_trans g.bk (Nat.mul_le_mul_right _ hm)
theorem gd_list {ds : List PyData} {k N m : Nat} (h : ∀ d ∈ ds, Gd d k N) (hm : ds.length ≤ m) : Gd (.list ds) (k + 1) (m * (N + 1)) := by
  have g := gdAll_of h
  refine ⟨by simp only [PyData.showable, g.sh], by simp only [PyData.hasDict, g.nd], by simp only [PyData.depth]; have := g.dp; omega, by simp only [PyData.leavesShort, g.ls], ?_⟩
  simp only [PyData.bulk]
  exact Nat.le_trans g.bk (Nat.mul_le_mul_right _ hm)
theorem Gd.len {d : PyData} {k N : Nat} (g : Gd d k N) (h : N ≤ 8000) : d.shown.length ≤ 16777216 := by
  have h1 := PyData.shown_le_bulk 2000 (by decide) d g.ls
  have h2 : (2000 + 2) * d.bulk ≤ (2000 + 2) * 8000 := Nat.mul_le_mul_left _ (Nat.le_trans g.bk h)
  omega
section
variable {Q : PV → VH → Prop} {h : VH}
theorem oo_repr {a : PV} {l : List PV} {d : PyData} {k N : Nat} (ei : itemsOf h a = some l) (ed : dat h a = some d) (g : Gd d k N) (hk : k < 64) (hN : N ≤ 8000) : OO (oRepr [a] h) Q = Q (.str d.shown) h := by
  have : oRepr [a] h = some (.str d.shown, h) := by
    unfold oRepr
    split
    · rename_i e
      cases e
      simp only [itemsOf] at ei
      cases ei
    · rename_i a' e1 e2
      cases e2
      simp only [ei, ed]
      rw [if_pos ⟨g.sh, g.nd, Nat.lt_of_le_of_lt g.dp hk, g.len hN⟩]
    · rename_i e
      exact absurd rfl (e a)
  rw [this]
  with_unfolding_all rfl
theorem pdats_intL (r : Nat → Option PyData) : ∀ ns : List Int, pdats r (intL ns) = some (ns.map PyData.int)
  | [] => rfl
  | n :: ns => by
    have := pdats_intL r ns
    show pdats r (.int n :: intL ns) = _
    simp only [pdats, pdat, this, List.map_cons]
theorem pdats_rows (r : Nat → Option PyData) : ∀ t : List (List Int), pdats r (t.map fun r => PV.tup (intL r)) = some (t.map fun r => PyData.tuple (r.map PyData.int))
  | [] => rfl
  | n :: ns => by
    have := pdats_rows r ns
    simp only [List.map_cons, pdats, pdat, pdats_intL, this]
def tabD (t : List (List Int)) : PyData := .tuple (t.map fun r => PyData.tuple (r.map PyData.int))
theorem dat_tab {t : List (List Int)} : dat h (tabV t) = some (tabD t) := by
  simp only [dat, tabV, pdat, pdats_rows, tabD]
theorem gd_row {r : List Int} {m : Nat} {M : Int} (hl : r.length ≤ m) (hM : M ≤ 2 ^ 900) (h : ∀ x ∈ r, 0 ≤ x ∧ x ≤ M) : Gd (.tuple (r.map PyData.int)) 1 (m * 1) := by
  refine gd_tuple (k := 0) (N := 0) (fun d hd => ?_) (by simpa using hl)
  obtain ⟨x, hx, rfl⟩ := List.mem_map.mp hd
  have := h x hx
  refine gd_int (Nat.lt_of_le_of_lt (show x.natAbs ≤ 2 ^ 900 by omega) (Nat.pow_lt_pow_right (by decide) (by decide)))
theorem gd_tab {t : List (List Int)} {n : Nat} {M : Int} (T : Tab n M t) (n8 : n ≤ 8) (hM : M ≤ 2 ^ 900) : Gd (tabD t) 2 72 := by
  refine gd_tuple (k := 1) (N := 8) (m := 8) (fun d hd => ?_) (by simpa using (by rw [T.1]; exact n8 : t.length ≤ 8))
  obtain ⟨r, hr, rfl⟩ := List.mem_map.mp hd
  exact gd_row (m := 8) (by rw [(T.2 r hr).1]; exact n8) hM (T.2 r hr).2
theorem oo_reprTab {t : List (List Int)} {n : Nat} {M : Int} (T : Tab n M t) (n8 : n ≤ 8) (hM : M ≤ 2 ^ 900) : OO (oRepr [tabV t] h) Q = Q (.str (tabD t).shown) h :=
  oo_repr (l := t.map fun r => PV.tup (intL r)) rfl dat_tab (gd_tab T n8 hM) (by decide) (by decide)
theorem oo_isaIL {ns : List Int} : OO (oIsa [.tup (intL ns), .con (.ty "tuple")] h) Q = Q (.bl true) h := oo_isaTT ⟨_, pdats_intL _ ns⟩
end
end D

/-! layer D, part 15: more of tables; membership; choices -/
namespace D
open PySem PySem.Spec PySem.W PyProof.Rows L2
def at2 (t : List (List Int)) (a b : Int) : Int := ((t[a.toNat]?.getD [])[b.toNat]?).getD 0
theorem tab_ix {t : List (List Int)} {n : Nat} {M a b : Int} {h : VH} {Q : PV → VH → Prop} (T : Tab n M t) (ha : 0 ≤ a ∧ a < n) (hb : 0 ≤ b ∧ b < n) :
    (AtI (t.map fun r => PV.tup (intL r)) a fun v => OO (oIx v (.int b) h) Q) = Q (.int (at2 t a b)) h := by
  have l1 : a.toNat < t.length := by rw [T.1]; omega
  have l2 : b.toNat < t[a.toNat].length := by rw [(T.2 _ (List.getElem_mem l1)).1]; omega
  have e1 : (t.map fun r => PV.tup (intL r))[a.toNat]? = some (.tup (intL t[a.toNat])) := map_get (f := fun r => PV.tup (intL r)) (List.getElem?_eq_getElem l1)
  have e2 : at2 t a b = t[a.toNat][b.toNat] := by
    unfold at2
    rw [List.getElem?_eq_getElem l1, Option.getD_some, List.getElem?_eq_getElem l2, Option.getD_some]
  unfold AtI
  rw [atI_nn ha.1 e1]
  simp only
  rw [oo_ixT hb.1 (intL_get l2), e2]
theorem at2_pos {t : List (List Int)} {n : Nat} {M a b : Int} (T : Tab n M t) (ha : 0 ≤ a ∧ a < n) (hb : 0 ≤ b ∧ b < n) : 0 ≤ at2 t a b ∧ at2 t a b ≤ M := by
  have l1 : a.toNat < t.length := by rw [T.1]; omega
  have l2 : b.toNat < t[a.toNat].length := by rw [(T.2 _ (List.getElem_mem l1)).1]; omega
  have e2 : at2 t a b = t[a.toNat][b.toNat] := by
    unfold at2
    rw [List.getElem?_eq_getElem l1, Option.getD_some, List.getElem?_eq_getElem l2, Option.getD_some]
  rw [e2]
  exact (T.2 _ (List.getElem_mem l1)).2 _ (List.getElem_mem l2)
theorem oo_max3T {a b c : Int} {h : VH} {Q : PV → VH → Prop} : OO (gMax [.int a, .int b, .int c] h) Q = Q (.int (max (max a b) c)) h := by with_unfolding_all rfl
theorem oo_max2T {a b : Int} {h : VH} {Q : PV → VH → Prop} : OO (gMax [.int a, .int b] h) Q = Q (.int (max a b)) h := by with_unfolding_all rfl

section
variable {Q : PV → VH → Prop} {h : VH}
theorem canLay_ints : ∀ ns : List Int, PyData.canLayAll0 (ns.map PyData.int) = true
  | [] => rfl
  | n :: ns => by simp only [List.map_cons, PyData.canLayAll0, PyData.canLay0, canLay_ints ns, Bool.and_self]
theorem shaped_ints (ns : List Int) : SeqAt.shaped (.list (ns.map PyData.int)) = true := by
  simp only [SeqAt.shaped, PyData.canLay0, canLay_ints, PyData.depth, dAll_ints, Bool.true_and]
  decide
theorem any_ints {i : Int} : ∀ ns : List Int, ((ns.map PyData.int).any fun z => PyData.eqv z (.int i)) = decide (i ∈ ns)
  | [] => rfl
  | n :: ns => by
    rw [List.map_cons, List.any_cons, any_ints ns, eqv_int]
    by_cases e : n = i
    · subst e; simp
    · have : ¬ i = n := fun z => e z.symm
      simp [e, this]
theorem oo_inT {i : Int} {ns : List Int} : OO (oIn (.int i) (.tup (intL ns)) h) Q = Q (.bl (decide (i ∈ ns))) h := by
  have : oIn (.int i) (.tup (intL ns)) h = some (.bl (decide (i ∈ ns)), h) := by
    simp only [oIn, oInB, itemsOf, dat, pdat, pdats_intL]
    rw [if_pos ⟨rfl, shaped_ints ns⟩, any_ints]
    simp
  rw [this]; with_unfolding_all rfl
theorem oo_notInT {i : Int} {ns : List Int} : OO (oNotIn (.int i) (.tup (intL ns)) h) Q = Q (.bl (!decide (i ∈ ns))) h := by
  have : oNotIn (.int i) (.tup (intL ns)) h = some (.bl (!decide (i ∈ ns)), h) := by
    simp only [oNotIn, oInB, itemsOf, dat, pdat, pdats_intL]
    rw [if_pos ⟨rfl, shaped_ints ns⟩, any_ints]
    simp
  rw [this]; with_unfolding_all rfl
theorem foldl_min_mem : ∀ {ns : List Int} {a : Int}, ns.foldl min a ∈ a :: ns
  | [], _ => List.mem_cons_self
  | x :: ns, a => by
    have := foldl_min_mem (ns := ns) (a := min a x)
    rw [List.foldl_cons]
    rcases List.mem_cons.mp this with e | e
    · rw [e]
      by_cases c : a ≤ x
      · rw [Int.min_eq_left c]; exact List.mem_cons_self
      · rw [Int.min_eq_right (by omega)]; exact List.mem_cons_of_mem _ List.mem_cons_self
    · exact List.mem_cons_of_mem _ (List.mem_cons_of_mem _ e)
theorem foldl_max_mem : ∀ {ns : List Int} {a : Int}, ns.foldl max a ∈ a :: ns
  | [], _ => List.mem_cons_self
  | x :: ns, a => by
    have := foldl_max_mem (ns := ns) (a := max a x)
    rw [List.foldl_cons]
    rcases List.mem_cons.mp this with e | e
    · rw [e]
      by_cases c : a ≤ x
      · rw [Int.max_eq_right c]; exact List.mem_cons_of_mem _ List.mem_cons_self
      · rw [Int.max_eq_left (by omega)]; exact List.mem_cons_self
    · exact List.mem_cons_of_mem _ (List.mem_cons_of_mem _ e)
theorem foldl_min_le {b : Int} : ∀ {ns : List Int} {a : Int}, a ≤ b → ns.foldl min a ≤ b
  | [], _, h => h
  | x :: ns, a, h => foldl_min_le (ns := ns) (Int.le_trans (Int.min_le_left ..) h)
theorem foldl_min_le_mem {x : Int} : ∀ {ns : List Int} {a : Int}, x ∈ a :: ns → ns.foldl min a ≤ x
  | [], a, h => by rw [List.mem_singleton.mp h]; exact Int.le_refl _
  | y :: ns, a, h => by
    rw [List.foldl_cons]
    rcases List.mem_cons.mp h with rfl | h
    · exact foldl_min_le (Int.min_le_left ..)
    · rcases List.mem_cons.mp h with rfl | h
      · exact foldl_min_le (Int.min_le_right ..)
      · exact foldl_min_le_mem (List.mem_cons_of_mem _ h)
theorem le_foldl_max_mem {x : Int} : ∀ {ns : List Int} {a : Int}, x ∈ a :: ns → x ≤ ns.foldl max a
  | [], a, h => by rw [List.mem_singleton.mp h]; exact Int.le_refl _
  | y :: ns, a, h => by
    rw [List.foldl_cons]
    rcases List.mem_cons.mp h with rfl | h
    · exact le_foldl_max (Int.le_max_left ..)
    · rcases List.mem_cons.mp h with rfl | h
      · exact le_foldl_max (Int.le_max_right ..)
      · exact le_foldl_max_mem (List.mem_cons_of_mem _ h)
/-- numbers of a range that a test lets by -/
def pickN (n : Nat) (p : Nat → Bool) : List Int := ((List.range n).filter p).map fun k => ((k : Nat) : Int)
theorem mem_pickN {n : Nat} {p : Nat → Bool} {x : Int} : x ∈ pickN n p ↔ 0 ≤ x ∧ x < n ∧ p x.toNat = true := by
  unfold pickN
  simp only [List.mem_map, List.mem_filter, List.mem_range]
  constructor
  · rintro ⟨k, ⟨hk, hp⟩, rfl⟩
    exact ⟨by omega, by omega, by simpa using hp⟩
  · rintro ⟨h0, h1, h2⟩
    exact ⟨x.toNat, ⟨by omega, h2⟩, by omega⟩
theorem pickN_lt (n : Nat) (p : Nat → Bool) : (pickN n p).Pairwise (· < ·) := by
  unfold pickN
  rw [List.pairwise_map]
  refine List.Pairwise.filter _ ?_
  exact (List.pairwise_lt_range (n := n)).imp fun h => by omega
theorem pickN_len (n : Nat) (p : Nat → Bool) : (pickN n p).length ≤ n := by
  unfold pickN
  rw [List.length_map]
  exact Nat.le_trans (List.length_filter_le _ _) (by simp)
theorem pickN_lc {σ : Sl} {g : PV → Sl → M Sl} {t : Sl → M Bool} {e : Sl → M PV} {n : Nat} {p : Nat → Bool}
    (he : ∀ k, k < n → OK (g (.int (k : Nat)) σ h) fun v' h1 => OK (t v' h1) fun c h2 => h2 = h ∧ c = p k ∧ (c = true → OK (e v' h2) fun u h3 => h3 = h ∧ u = .int (k : Nat))) :
    OK (lcF [] (lcBody g t e σ) (rng 0 n) h) fun l h' => h' = h ∧ l = intL (pickN n p) := by
  refine ok_lc0 (fun k acc h' => k ≤ n ∧ h' = h ∧ acc = intL (pickN k p)) ⟨Nat.zero_le _, rfl, rfl⟩ (fun _ _ _ _ _ => rfl) ?_ ?_
  · rintro k x acc h' hx ⟨_, rfl, rfl⟩
    obtain ⟨hk, rfl⟩ := rng0_get hx
    simp only [ok_body]
    refine OK.mono (he k hk) ?_
    intro v' h1 q
    refine OK.mono q ?_
    rintro c h2 ⟨rfl, rfl, q2⟩
    have step : pickN (k + 1) p = pickN k p ++ (if p k = true then [((k : Nat) : Int)] else []) := by
      unfold pickN
      rw [List.range_succ, List.filter_append, List.map_append]
      by_cases z : p k = true <;> simp [z]
    by_cases z : p k = true
    · rw [if_pos z]
      refine OK.mono (q2 z) ?_
      rintro u h3 ⟨rfl, rfl⟩
      exact ⟨hk, rfl, by rw [step, if_pos z]; simp [intL]⟩
    · rw [if_neg z]
      exact ⟨hk, rfl, by rw [step, if_neg z]; simp⟩
  · rintro acc h' ⟨_, rfl, rfl⟩
    rw [rng_len]
    exact ⟨rfl, rfl⟩
/-- a list in the heap, as data -/
theorem dat_lst {a : Nat} {l : List PV} {ds : List PyData} (e : h[a]? = some (.lst l)) (hd : ∀ r, pdats r l = some ds) : dat h (.ref a) = some (.list ds) := by
  simp only [dat, pdat, rdat, e, hd]
theorem gd_ints {r : List Int} {m : Nat} (hl : r.length ≤ m) (h : ∀ x ∈ r, x.natAbs < 2 ^ 1000) : Gd (.tuple (r.map PyData.int)) 1 (m * 1) := by
  refine gd_tuple (k := 0) (N := 0) (fun d hd => ?_) (by simpa using hl)
  obtain ⟨x, hx, rfl⟩ := List.mem_map.mp hd
  exact gd_int (h x hx)
theorem pow63 {x : Int} (h : x.natAbs < 2 ^ 63) : x.natAbs < 2 ^ 1000 := Nat.lt_of_lt_of_le h (Nat.pow_le_pow_right (by decide) (by decide))
end
end D

/-! layer D, part 16: sorted, ranges as values, pop at a place -/
namespace D
open PySem PySem.Spec PySem.W PyProof.Rows L2
/-! ### list(range(..)), tuple(range(..)) -/
def rgOk (a b : Int) : Bool := decide (-1000000 ≤ a) && decide (a ≤ 1000000) && decide (-1000000 ≤ b) && decide (b ≤ 1000000)
theorem rgOk_ok {a b : Int} (e : rgOk a b = true) : L2.RgOk a b := by
  simp only [rgOk, Bool.and_eq_true, decide_eq_true_eq] at e
  refine ⟨by omega, by omega, by omega, by omega, by omega⟩
def dLR (a b : Sl → M PV) : Sl → M PV := fun v => bnd (a v) fun x => bnd (b v) fun y h => match x, y with
  | .int i, .int j => if rgOk i j = true then .ok (.ref h.length) (h ++ [.lst (rng i (j - i).toNat)]) else .bad
  | _, _ => .bad
def dTR (a b : Sl → M PV) : Sl → M PV := fun v => bnd (a v) fun x => bnd (b v) fun y h => match x, y with
  | .int i, .int j => if rgOk i j = true then .ok (.tup (rng i (j - i).toNat)) h else .bad
  | _, _ => .bad
theorem reps_rg {K : PySem.W.Frag} {m : List Addr} {H : Hp} (a : Int) : ∀ n : Nat, Reps K m H (rng a n) ((List.range n).map fun i => V.int (a + (i : Nat)))
  | 0 => Reps.nil
  | n + 1 => by
    have := reps_rg (K := K) (m := m) (H := H) a n
    unfold rng at this ⊢
    rw [List.range_succ, List.map_append, List.map_append]
    exact this.append (Reps.cons rep_int' Reps.nil)
section
variable {X : Cx} {W : WX} {a b : Expr} {da db : Sl → M PV} {p p2 pos pos2 : Pos}
theorem rg_read {K : PySem.W.Frag} {σ : L2.St} {H : Hp} {R : Int → Int → Hp → Prop} {k : PV → PV → M PV}
    (h : ∃ m v h, SR K m h H ∧ SlD K m H v σ ∧ ∃ Q : List Addr → Hp → VH → PV → Prop, Post K W σ m H (bnd (da v) (fun x => bnd (db v) fun y => k x y) h) Q ∧
      ∀ m2 H2 h2 x y, Ext m H m2 H2 → SR K m2 h2 H2 → Post K W σ m2 H2 (k x y h2) Q → ∃ i j, x = .int i ∧ y = .int j ∧ R i j H2) : L2.tRg2 (TD K W da) (TD K W db) σ H R := by
  obtain ⟨m, v, h, sr, sl, Q, p, q⟩ := h
  refine ⟨m, v, h, sr, sl, (Post.seq p).mono fun m1 H1 h1 x x1 sr1 p1 u ru => ⟨m1, v, h1, sr1, sl.ext x1, (Post.seq p1).mono fun m2 H2 h2 y x2 sr2 p2 w rw_ => ?_⟩⟩
  obtain ⟨i, j, rfl, rfl, r⟩ := q m2 H2 h2 x y (x1.trans x2) sr2 p2
  exact ⟨i, j, rep_int ru, rep_int rw_, r⟩
theorem de_lr2 (hc : X.calm = true) (hg : Gl X "list") (hm : X.mg "list" = none) (hg2 : Gl X "range") (hm2 : X.mg "range" = none) (ha : DE X W a da) (hb : DE X W b db)
    (na : starEach [a, b] X.env = (false, eval a X.env) :: starEach [b] X.env := by rfl) (nb : starEach [b] X.env = (false, eval b X.env) :: starEach [] X.env := by rfl) (hp : (backTo pos (starEach [b] X.env)).any (·.1) = false := by rfl)
    (nc : starEach [.Call (.Name "range" p) [a, b] [] pos] X.env = (false, eval (.Call (.Name "range" p) [a, b] [] pos) X.env) :: starEach [] X.env := by rfl) :
    DE X W (.Call (.Name "list" p2) [.Call (.Name "range" p) [a, b] [] pos] [] pos2) (dLR da db) :=
  weakE (pe_listRg hc hg hm (prg_2 hg2 hm2 ha hb na nb hp) nc) fun σ H Q ⟨m, v, h, sr, sl, q⟩ => rg_read ⟨m, v, h, sr, sl, _, q, fun m2 H2 h2 x y x2 sr2 p2 => by
    split at p2
    · rename_i i j
      split at p2
      · rename_i c
        refine ⟨i, j, rfl, rfl, rgOk_ok c, fun q nq => ?_⟩
        have rs := reps_rg (K := X.K) (m := m2) (H := H2) i (j - i).toNat
        exact p2 (m2 ++ [q]) _ (.upd_add nq) (sr2.addLst nq rs) _ (rep_ref' (by rw [← sr2.len, List.getElem?_append_right (Nat.le_refl _)]; simp))
      · exact p2.elim
    · exact p2.elim⟩
theorem de_tr2 (hc : X.calm = true) (hg : Gl X "tuple") (hm : X.mg "tuple" = none) (hg2 : Gl X "range") (hm2 : X.mg "range" = none) (ha : DE X W a da) (hb : DE X W b db)
    (na : starEach [a, b] X.env = (false, eval a X.env) :: starEach [b] X.env := by rfl) (nb : starEach [b] X.env = (false, eval b X.env) :: starEach [] X.env := by rfl) (hp : (backTo pos (starEach [b] X.env)).any (·.1) = false := by rfl)
    (nc : starEach [.Call (.Name "range" p) [a, b] [] pos] X.env = (false, eval (.Call (.Name "range" p) [a, b] [] pos) X.env) :: starEach [] X.env := by rfl) :
    DE X W (.Call (.Name "tuple" p2) [.Call (.Name "range" p) [a, b] [] pos] [] pos2) (dTR da db) :=
  weakE (pe_tupRg hc hg hm (prg_2 hg2 hm2 ha hb na nb hp) nc) fun σ H Q ⟨m, v, h, sr, sl, q⟩ => rg_read ⟨m, v, h, sr, sl, _, q, fun m2 H2 h2 x y x2 sr2 p2 => by
    split at p2
    · rename_i i j
      split at p2
      · rename_i c
        refine ⟨i, j, rfl, rfl, rgOk_ok c, fun q nq => ?_⟩
        have rs := reps_rg (K := X.K) (m := m2) (H := H2) i (j - i).toNat
        exact p2 m2 _ (.upd_new nq) (sr2.more nq) _ (sr2.tup nq rs)
      · exact p2.elim
    · exact p2.elim⟩
def dLR1 (a : Sl → M PV) : Sl → M PV := fun v => bnd (a v) fun y h => match y with
  | .int j => if rgOk 0 j = true then .ok (.ref h.length) (h ++ [.lst (rng 0 (j - 0).toNat)]) else .bad
  | _ => .bad
def dTR1 (a : Sl → M PV) : Sl → M PV := fun v => bnd (a v) fun y h => match y with
  | .int j => if rgOk 0 j = true then .ok (.tup (rng 0 (j - 0).toNat)) h else .bad
  | _ => .bad
theorem de_lr1 (hc : X.calm = true) (hg : Gl X "list") (hm : X.mg "list" = none) (hg2 : Gl X "range") (hm2 : X.mg "range" = none) (ha : DE X W a da)
    (na : starEach [a] X.env = (false, eval a X.env) :: starEach [] X.env := by rfl)
    (nc : starEach [.Call (.Name "range" p) [a] [] pos] X.env = (false, eval (.Call (.Name "range" p) [a] [] pos) X.env) :: starEach [] X.env := by rfl) :
    DE X W (.Call (.Name "list" p2) [.Call (.Name "range" p) [a] [] pos] [] pos2) (dLR1 da) :=
  weakE (pe_listRg hc hg hm (prg_1 hg2 hm2 ha na) nc) fun σ H Q ⟨m, v, h, sr, sl, q⟩ => ⟨m, v, h, sr, sl, (Post.seq q).mono fun m2 H2 h2 x x2 sr2 p2 u ru => by
    split at p2
    · rename_i j
      split at p2
      · rename_i c
        refine ⟨j, rep_int ru, rgOk_ok c, fun q nq => ?_⟩
        have rs := reps_rg (K := X.K) (m := m2) (H := H2) 0 (j - 0).toNat
        exact p2 (m2 ++ [q]) _ (.upd_add nq) (sr2.addLst nq rs) _ (rep_ref' (by rw [← sr2.len, List.getElem?_append_right (Nat.le_refl _)]; simp))
      · exact p2.elim
    · exact p2.elim⟩
theorem de_tr1 (hc : X.calm = true) (hg : Gl X "tuple") (hm : X.mg "tuple" = none) (hg2 : Gl X "range") (hm2 : X.mg "range" = none) (ha : DE X W a da)
    (na : starEach [a] X.env = (false, eval a X.env) :: starEach [] X.env := by rfl)
    (nc : starEach [.Call (.Name "range" p) [a] [] pos] X.env = (false, eval (.Call (.Name "range" p) [a] [] pos) X.env) :: starEach [] X.env := by rfl) :
    DE X W (.Call (.Name "tuple" p2) [.Call (.Name "range" p) [a] [] pos] [] pos2) (dTR1 da) :=
  weakE (pe_tupRg hc hg hm (prg_1 hg2 hm2 ha na) nc) fun σ H Q ⟨m, v, h, sr, sl, q⟩ => ⟨m, v, h, sr, sl, (Post.seq q).mono fun m2 H2 h2 x x2 sr2 p2 u ru => by
    split at p2
    · rename_i j
      split at p2
      · rename_i c
        refine ⟨j, rep_int ru, rgOk_ok c, fun q nq => ?_⟩
        have rs := reps_rg (K := X.K) (m := m2) (H := H2) 0 (j - 0).toNat
        exact p2 m2 _ (.upd_new nq) (sr2.more nq) _ (sr2.tup nq rs)
      · exact p2.elim
    · exact p2.elim⟩
end

/-! ### pop at a place -/
def mPopAt (a : PV) (as : List PV) : O PV := fun h => match a, as with
  | .ref n, [.int i] => match h[n]? with
    | some (.lst l) => if 0 ≤ i ∧ i < l.length ∧ l.length ≤ 16777216 then (match l[i.toNat]? with
      | some v => some (v, h.set n (.lst (l.eraseIdx i.toNat)))
      | none => none) else none
    | _ => none
  | _, _ => none
theorem Reps.erase {K : PySem.W.Frag} {m : List Addr} {H : Hp} {l : List PV} {xs : List V} (k : Nat) (r : Reps K m H l xs) : Reps K m H (l.eraseIdx k) (xs.eraseIdx k) := by
  induction l generalizing xs k with
  | nil => rw [Reps.nil_inv r]; exact Reps.nil
  | cons v l ih =>
    obtain ⟨x, t, rfl, r1, r2⟩ := Reps.cons_inv r
    cases k with
    | zero => exact r2
    | succ k => exact Reps.cons r1 (ih k r2)
theorem p_popAt {X : Cx} : MtR X "list.pop" (rOM X.K mPopAt) := by
  intro pins s σ H x xs v us Q I rx rs ⟨m, h, a, as, z, h', sr, ra, rbs, e, q⟩
  unfold mPopAt at e
  split at e
  · rename_i n i
    split at e
    · rename_i l el
      split at e
      · rename_i c
        split at e
        · rename_i w ew
          cases e
          obtain ⟨p, rfl, hp⟩ := rep_ref ra
          obtain ⟨y, t, rfl, r1, r2⟩ := rbs.cons_inv
          have ht := r2.nil_inv
          subst ht
          obtain ⟨ys, ey, rys⟩ := rep_get sr el hp
          obtain ⟨y', e1, ry⟩ := rys.get ew
          have hl := rys.len
          have hk : seqIndex? i ys.length = some i.toNat := by
            have h1 : ixN ys.length i = some i.toNat := by
              unfold L2.ixN
              rw [if_pos c.1, if_pos (by omega)]
            exact (ixN_seq h1).1
          refine mt_popAt pins s σ H _ _ v us Q I rx rs ⟨p, ys, i, i.toNat, y', rfl, by rw [rep_int r1], ey, by omega, by omega, hk, e1, ?_⟩
          exact q m _ _ (.upd_set (List.mem_of_getElem? hp)) (sr.putLst hp (rys.erase _)) (ry.ext (.upd_set (List.mem_of_getElem? hp)))
        · cases e
      · cases e
    · cases e
  · cases e

/-! ### sorted -/
def alikeB (ds : List PyData) : Bool := ds.all fun a => ds.all fun b => alike a b
def tupNe : PyData → Bool
  | .tuple (_ :: _) => true
  | _ => false
def plainE : PyData → Bool
  | .none => false
  | .tuple _ => false
  | _ => true
def sortOk (ds : List PyData) : Bool := alikeB ds && (ds.all tupNe || ds.all plainE) && ds.all (fun d => decide (d.depth ≤ 60)) && decide (ds.length ≤ 16777216)
def sortP (zs : List (PV × PyData)) : List PV := (zs.mergeSort (dataLe false Prod.snd)).map Prod.fst
def gSort (l : List PV) : O PV := fun h => match pdats (rdat h 4) l with
  | some ds => if sortOk ds = true then some (.ref h.length, h ++ [.lst (sortP (l.zip ds))]) else none
  | none => none
theorem pdats_len {r : Nat → Option PyData} : ∀ {l : List PV} {ds : List PyData}, pdats r l = some ds → ds.length = l.length
  | [], ds, e => by simp only [pdats] at e; cases e; rfl
  | v :: l, ds, e => by
    simp only [pdats] at e
    split at e
    · split at e
      · rename_i e2
        cases e
        simp [pdats_len e2]
      · cases e
    · cases e
theorem each_zip {K : PySem.W.Frag} {m : List Addr} {H : Hp} : ∀ {l : List PV} {ds : List PyData} {ys : List V} {its : List Value}, ds.length = l.length → Reps K m H l ys → Vals ys its → EachIs (fun v (b : PV × PyData) => ∃ x, RelV x v ∧ Rep K m H b.1 x) its (l.zip ds)
  | [], [], _, _, _, r, v => by
    rw [r.nil_inv] at v
    cases v
    exact .nil
  | a :: l, d :: ds, _, _, hl, r, v => by
    obtain ⟨x, t, rfl, r1, r2⟩ := r.cons_inv
    cases v with
    | cons v1 v2 => exact .cons ⟨x, v1, r1⟩ (each_zip (by simpa using hl) r2 v2)
theorem each_out {K : PySem.W.Frag} {m : List Addr} {H : Hp} : ∀ {out : List Value} {bs : List (PV × PyData)}, EachIs (fun v (b : PV × PyData) => ∃ x, RelV x v ∧ Rep K m H b.1 x) out bs → ∃ xs, Vals xs out ∧ Reps K m H (bs.map Prod.fst) xs
  | _, _, .nil => ⟨[], .nil, Reps.nil⟩
  | _, _, .cons ⟨x, h1, h2⟩ t => by
    obtain ⟨xs, a, b⟩ := each_out t
    exact ⟨x :: xs, .cons h1 a, Reps.cons h2 b⟩
theorem sortOk_ok {ds : List PyData} (e : sortOk ds = true) : AllAlike ds ∧ Sortable ds ∧ (∀ d ∈ ds, d.depth ≤ 60) ∧ ds.length ≤ 16777216 := by
  simp only [sortOk, Bool.and_eq_true, Bool.or_eq_true, decide_eq_true_eq] at e
  obtain ⟨⟨⟨h1, h2⟩, h3⟩, h4⟩ := e
  refine ⟨fun d hd d' hd' => List.all_eq_true.mp (List.all_eq_true.mp h1 d hd) d' hd', ?_, fun d hd => by simpa using List.all_eq_true.mp h3 d hd, h4⟩
  rcases h2 with h2 | h2
  · refine .inl fun d hd => ?_
    have := List.all_eq_true.mp h2 d hd
    cases d <;> try (simp only [tupNe, Bool.false_eq_true] at this; done)
    rename_i xs
    cases xs with
    | nil => simp [tupNe] at this
    | cons x r => exact ⟨x, r, rfl⟩
  · refine .inr fun d hd => ?_
    have := List.all_eq_true.mp h2 d hd
    cases d <;> simp [plainE] at this <;> simp
theorem c_sorted {X : Cx} (hu : X.A.units + 65 < cLine) : CallR X (.builtin "sorted") (rBL X.K gSort) := by
  intro pins s σ H xs us Q I rx ⟨m, h, l, z, h', a, ys, sr, e1, sq, rl, e, q⟩
  unfold gSort at e
  split at e
  · rename_i ds eds
    split at e
    · rename_i c
      cases e
      obtain ⟨k1, k2, k3, k4⟩ := sortOk_ok c
      have hl := pdats_len eds
      obtain ⟨its, rv, pl, hz⟩ := I.list sq
      have dp := pdats_dp (rdat_dp sr 4) l ds ys eds rl
      obtain ⟨as, rd⟩ := Dp.readsAll I _ _ _ dp rv
      have ez : (l.zip ds).map Prod.snd = ds := List.map_snd_zip (by omega)
      have el : (l.zip ds).map Prod.fst = l := List.map_fst_zip (by omega)
      subst e1
      rw [Vals.ref1 rx]
      refine sorted_data (β := PV × PyData) (enc := Prod.snd) (vs := its) pl.isList (each_zip hl rl rv) (readsAll_each (enc := Prod.snd) (by rw [ez]; exact rd)) (by rw [ez]; exact k1) (by rw [ez]; exact k2) ?_ ?_ ?_
      · rw [List.length_zip, sizeLine_eq]; omega
      · intro b hb
        have : b.2 ∈ ds := by rw [← ez]; exact List.mem_map.mpr ⟨b, hb, rfl⟩
        have := k3 _ this
        omega
      · intro out ho eo
        obtain ⟨xs', v1, r1⟩ := each_out eo
        obtain ⟨ep, he'⟩ := PyProof.Rows.sortedAll_at s.heap its (List.toArray out)
        have hlen : xs'.length ≤ sizeLine := by
          rw [v1.length, ho, List.length_zip, sizeLine_eq]
          omega
        have np := I.hok.fresh (Nat.le_succ s.heap.objs.size)
        refine ⟨.ref (s.heap.objs.size + 1), upd H (s.heap.objs.size + 1) (.lst xs'), I.laid (t' := s.toks) (fun _ _ => PyProof.Rows.sortedAll_old) (Nat.le_succ _) ⟨hlen, out, ep, v1, he'⟩, rfl, ?_⟩
        exact q (m ++ [s.heap.objs.size + 1]) _ _ (.upd_add np) (sr.addLst np r1) (rep_ref' (by rw [← sr.len, List.getElem?_append_right (Nat.le_refl _)]; simp))
    · cases e
  · cases e
section
variable {P : PV → VH → Prop} {h : VH} {v : Sl}
theorem ok_lr2 {a b : Sl → M PV} : OK (dLR a b v h) P = OK (a v h) fun x h1 => OK (b v h1) fun y h2 => In x fun i => In y fun j => rgOk i j = true ∧ P (.ref h2.length) (h2 ++ [.lst (rng i (j - i).toNat)]) := by
  unfold dLR; simp only [ok_bnd]; congr 1; funext x h1; congr 1; funext y h2
  cases x <;> try (with_unfolding_all rfl)
  cases y <;> try (with_unfolding_all rfl)
  rename_i i j
  rw [in_int, in_int]
  by_cases c : rgOk i j = true
  · simp only [c, if_true, true_and]; with_unfolding_all rfl
  · simp only [c, if_false, false_and, Bool.false_eq_true]; with_unfolding_all rfl
theorem ok_tr2 {a b : Sl → M PV} : OK (dTR a b v h) P = OK (a v h) fun x h1 => OK (b v h1) fun y h2 => In x fun i => In y fun j => rgOk i j = true ∧ P (.tup (rng i (j - i).toNat)) h2 := by
  unfold dTR; simp only [ok_bnd]; congr 1; funext x h1; congr 1; funext y h2
  cases x <;> try (with_unfolding_all rfl)
  cases y <;> try (with_unfolding_all rfl)
  rename_i i j
  rw [in_int, in_int]
  by_cases c : rgOk i j = true
  · simp only [c, if_true, true_and]; with_unfolding_all rfl
  · simp only [c, if_false, false_and, Bool.false_eq_true]; with_unfolding_all rfl
theorem ok_lr1 {b : Sl → M PV} : OK (dLR1 b v h) P = OK (b v h) fun y h2 => In y fun j => rgOk 0 j = true ∧ P (.ref h2.length) (h2 ++ [.lst (rng 0 (j - 0).toNat)]) := by
  unfold dLR1; simp only [ok_bnd]; congr 1; funext y h2
  cases y <;> try (with_unfolding_all rfl)
  rename_i j
  rw [in_int]
  by_cases c : rgOk 0 j = true
  · simp only [c, if_true, true_and]; with_unfolding_all rfl
  · simp only [c, if_false, false_and, Bool.false_eq_true]; with_unfolding_all rfl
theorem ok_tr1 {b : Sl → M PV} : OK (dTR1 b v h) P = OK (b v h) fun y h2 => In y fun j => rgOk 0 j = true ∧ P (.tup (rng 0 (j - 0).toNat)) h2 := by
  unfold dTR1; simp only [ok_bnd]; congr 1; funext y h2
  cases y <;> try (with_unfolding_all rfl)
  rename_i j
  rw [in_int]
  by_cases c : rgOk 0 j = true
  · simp only [c, if_true, true_and]; with_unfolding_all rfl
  · simp only [c, if_false, false_and, Bool.false_eq_true]; with_unfolding_all rfl
theorem rng_intL (n : Nat) : rng 0 n = intL ((List.range n).map fun k => ((k : Nat) : Int)) := by
  simp [rng, intL]
theorem or_popAt {a : Nat} {i : Int} : OO (mPopAt (.ref a) [.int i] h) P = Lo h[a]? fun l => (0 ≤ i ∧ i < l.length ∧ l.length ≤ 16777216) ∧ AtI l i fun v => P v (h.set a (.lst (l.eraseIdx i.toNat))) := by
  unfold mPopAt
  simp only
  generalize h[a]? = o
  rcases o with _ | l | _ | _ <;> try with_unfolding_all rfl
  rw [lo_lst]
  by_cases c : 0 ≤ i ∧ i < l.length ∧ l.length ≤ 16777216
  · simp only [c, and_self, if_true, true_and]
    have e : l[i.toNat]? = some (l[i.toNat]'(by omega)) := List.getElem?_eq_getElem (by omega)
    unfold AtI
    rw [atI_nn c.1 e, e]
    with_unfolding_all rfl
  · simp only [c, if_false, false_and]; with_unfolding_all rfl
theorem sortP_perm {l : List PV} {ds : List PyData} (e : ds.length = l.length) : (sortP (l.zip ds)).Perm l := by
  unfold sortP
  have := (List.mergeSort_perm (l.zip ds) (dataLe false Prod.snd)).map Prod.fst
  rw [List.map_fst_zip (by omega)] at this
  exact this
theorem oo_notInL {a : Nat} {i : Int} {ns : List Int} (e : h[a]? = some (.lst (intL ns))) : OO (oNotIn (.int i) (.ref a) h) P = P (.bl (!decide (i ∈ ns))) h := by
  have : oNotIn (.int i) (.ref a) h = some (.bl (!decide (i ∈ ns)), h) := by
    simp only [oNotIn, oInB, itemsOf, dat, pdat, pdats_intL, e]
    rw [if_pos ⟨rfl, shaped_ints ns⟩, any_ints]
    simp
  rw [this]; with_unfolding_all rfl
theorem oo_inL {a : Nat} {i : Int} {ns : List Int} (e : h[a]? = some (.lst (intL ns))) : OO (oIn (.int i) (.ref a) h) P = P (.bl (decide (i ∈ ns))) h := by
  have : oIn (.int i) (.ref a) h = some (.bl (decide (i ∈ ns)), h) := by
    simp only [oIn, oInB, itemsOf, dat, pdat, pdats_intL, e]
    rw [if_pos ⟨rfl, shaped_ints ns⟩, any_ints]
    simp
  rw [this]; with_unfolding_all rfl
end
end D

namespace D
open PySem PySem.Spec PySem.W PyProof.Rows L2
variable {X : Cx}
theorem get_list : L2.PGet X (rIxL X.K) := by
  intro pins s σ H o i ov iv Q I rx ry h
  obtain ⟨p, xs, i, z, rfl, rfl, hq, he, q⟩ := h
  cases rx
  obtain ⟨t, rfl⟩ := ry
  obtain ⟨its, r, pl, hz⟩ := I.list hq
  obtain ⟨j, h1, h2, h3, h4, h5⟩ := atI_get he
  obtain ⟨w, ew, rw'⟩ := r.get h2
  have hl := r.length
  have hn := line63
  have fin : EP X pins σ Q w s := ⟨z, H, I, rw', q⟩
  by_cases h0 : 0 ≤ i
  · have hj : i.toNat = j := by
      rw [seqIndex_of h0 h5] at h1
      exact Option.some.inj h1
    exact wpAny_getItem_list pl.isList h0 (by omega) (by rw [hj]; simpa using ew) fin
  · have hj : (i + (its.toArray.size : Int)).toNat = j := by
      rw [seqIndex_neg (by omega) h4] at h1
      rw [List.size_toArray, ← hl]
      exact Option.some.inj h1
    exact wpAny_getItem_list_neg pl.isList (by omega) (by rw [List.size_toArray] <;> omega) (by omega) (by rw [hj]; simpa using ew) fin
theorem get_tup : L2.PGet X (rIxT X.K) := by
  intro pins s σ H o i ov iv Q I rx ry h
  obtain ⟨p, xs, i, z, rfl, rfl, hq, he, q⟩ := h
  cases rx
  obtain ⟨t, rfl⟩ := ry
  obtain ⟨its, r, pl, hz⟩ := I.tuple hq
  obtain ⟨j, h1, h2, h3, h4, h5⟩ := atI_get he
  obtain ⟨w, ew, rw'⟩ := r.get h2
  have hl := r.length
  have hn := line63
  exact getItem_tuple (j := j) pl (by omega) (by omega) (by rw [List.size_toArray, ← hl]; exact h1) (by simpa using ew) ⟨z, H, I, rw', q⟩
theorem get_str : L2.PGet X rIxS := by
  intro pins s σ H o i ov iv Q I rx ry h
  obtain ⟨z, i, c, rfl, rfl, hz, he, q⟩ := h
  obtain ⟨t, rfl⟩ := rx
  obtain ⟨t', rfl⟩ := ry
  obtain ⟨j, h1, h2, h3, h4, h5⟩ := atI_get he
  have hl : z.cps.toList.length = z.length := by simp [Str.length]
  rw [hl] at h1 h4 h5
  have hn := line63
  exact getItem_str (c := c) (by
    have e1 : decide (i < -(2 ^ 63 : Int)) = false := decide_eq_false (by omega)
    have e2 : decide (i ≥ 2 ^ 63) = false := decide_eq_false (by omega)
    rw [e1, e2, Bool.or_false]) (by rw [h1]; simpa using h2) ⟨.str ⟨#[c]⟩, H, I.tok _, ⟨_, rfl⟩, q⟩
theorem p_get : L2.PGet X (rO2 X.K oIx) := by
  intro pins s σ H x y v u Q I rx ry ⟨m, hh, a, b, z, h', sr, ra, rb, e, q⟩
  cases b <;> try (simp only [oIx, reduceCtorEq] at e; done)
  rename_i i
  rw [rep_int rb] at ry
  simp only [oIx] at e
  split at e
  · rename_i z0
    rw [rep_str ra] at rx
    split at e
    · rename_i hz
      split at e
      · rename_i c ec
        cases e
        exact get_str pins s σ H _ _ v u Q I rx ry ⟨z0, i, c, rfl, rfl, by rw [sizeLine_eq]; exact hz, ec, q m H _ .refl sr rep_str'⟩
      · cases e
    · cases e
  · split at e
    · rename_i l el
      split at e
      · rename_i w ew
        cases e
        obtain ⟨p, xs, rfl, sq, rs⟩ := items_sq sr el ra
        obtain ⟨x', ex, rx'⟩ := rs.atI ew
        have qq := q m H _ .refl sr rx'
        rcases sq with sq | sq
        · exact get_list pins s σ H _ _ v u Q I rx ry ⟨p, xs, i, x', rfl, rfl, sq, ex, qq⟩
        · exact get_tup pins s σ H _ _ v u Q I rx ry ⟨p, xs, i, x', rfl, rfl, sq, ex, qq⟩
      · cases e
    · cases e
theorem fo_augS {v : Sl} {h : VH} {E : En} {gg gi : PV → PV → O PV} {gs : PV → PV → PV → O Unit} {o i e : Sl → M PV} : FO (sAugS gg gi gs o i e v h) E = OK (o v h) fun a h1 => OK (i v h1) fun b h2 => OO (gg a b h2) fun x h3 => OK (e v h3) fun y h4 => OO (gi x y h4) fun z h5 => OO (gs a b z h5) fun _ h6 => E.nx v h6 := by
  unfold sAugS; simp only [fo_bx, ok_lift]; with_unfolding_all rfl
end D

namespace G
open PySem PySem.Spec PySem.W PyProof.Rows L2 D
def topS (i : Nat) : Stmt := PySem.Challenge.pw_thickwalls_k31_put_together_told.main.body.getD i (.Pass ⟨0, 0, 0, 0⟩)
structure NB (mg : Str → Option Value) : Prop where
  n_abs : mg "abs" = none
  n_all : mg "all" = none
  n_bool : mg "bool" = none
  n_enumerate : mg "enumerate" = none
  n_int : mg "int" = none
  n_isinstance : mg "isinstance" = none
  n_len : mg "len" = none
  n_range : mg "range" = none
  n_repr : mg "repr" = none
  n_sorted : mg "sorted" = none
  n_sum : mg "sum" = none
  n_tuple : mg "tuple" = none
  n_zip : mg "zip" = none
  g_FAR : ∃ u, mg "FAR" = some u ∧ L2.RelV (.int 1000000000000000) u
  g_HOUSES : ∃ u, mg "HOUSES" = some u ∧ L2.RelV (.int 8) u
theorem bo_abs : bootBuiltins "abs" = some (.builtin "abs") := by decide +kernel
theorem bo_all : bootBuiltins "all" = some (.builtin "all") := by decide +kernel
theorem bo_bool : bootBuiltins "bool" = some (.type "bool") := by decide +kernel
theorem bo_enumerate : bootBuiltins "enumerate" = some (.type "enumerate") := by decide +kernel
theorem bo_int : bootBuiltins "int" = some (.type "int") := by decide +kernel
theorem bo_isinstance : bootBuiltins "isinstance" = some (.builtin "isinstance") := by decide +kernel
theorem bo_len : bootBuiltins "len" = some (.builtin "len") := by decide +kernel
theorem bo_range : bootBuiltins "range" = some (.type "range") := by decide +kernel
theorem bo_repr : bootBuiltins "repr" = some (.builtin "repr") := by decide +kernel
theorem bo_sorted : bootBuiltins "sorted" = some (.builtin "sorted") := by decide +kernel
theorem bo_sum : bootBuiltins "sum" = some (.builtin "sum") := by decide +kernel
theorem bo_tuple : bootBuiltins "tuple" = some (.type "tuple") := by decide +kernel
theorem bo_zip : bootBuiltins "zip" = some (.type "zip") := by decide +kernel
abbrev st_law_deck : Stmt := topS 14
theorem sc_law_deck : FnScope ["_law_script", "_law_cell"] ["_law_script"] (defScope st_law_deck) := ⟨rfl, rfl, rfl, by decide +kernel, rfl, by decide +kernel, by decide +kernel⟩
def b_law_deck : SD :=
  (sRet (dLst (dCons (dFresh (dLcx (dVal (dSlice oSl (dVar 0) dPNone (dPSome (dC (.int 63))))) (dgName 1) tTrue (dFn oAbs (dCons (dVar 1) dNil)) ([1]))) (dCons (dC (.int 0)) dNil))))
def f_law_deck : List PV → M PV := fn0 2 b_law_deck
theorem h_law_deck {P : Program} {w : World} {K : PySem.W.Frag} {mg : Str → Option Value} {base : Heap} {f : Addr} {fd : FuncData} (nb : NB mg) (T : Stands K mg "_law_deck" st_law_deck ["_law_script"] f fd)  : Has P w K mg base CX0 "_law_deck" 1 1 f_law_deck := by
  refine has0n (b := b_law_deck) 1 2 0 T sc_law_deck rfl rfl fun cdv A outer s H E hr => ?_
  have sc := sc_law_deck
  have u64 := hr.units
  have u65 : (A.deeper (envOfC "_law_deck" (defScope st_law_deck) s.heap.objs.size f cdv)).units + 65 < cLine := by have := hr.un; omega
  have u128 : (A.deeper (envOfC "_law_deck" (defScope st_law_deck) s.heap.objs.size f cdv)).units + 128 < cLine := by have := hr.un; omega
  exact
    (dss_one (ds_ret (de_lst (da_cons (de_fresh (dl_lc ([("_law_cell", 1)]) rfl sc.nd (di_val (de_slice p_sl (de_var 0) do_none (do_some de_int))) (fun _ _ _ _ _ => dg_name 1 sc.nd) (fun _ _ _ _ _ =>
    dts_nil) (fun _ _ _ _ _ => (de_callB c_abs (by rfl) nb.n_abs bo_abs (da_cons (de_var 1) da_nil)))
    (ok := by dsimp only [cx0, Cx.nox, Cx.wish, cxOf, Cx.blk, envOfC, compEnvC, relabel_eq]; decide +kernel))) (da_cons de_int da_nil)))))
abbrev st_law_draw : Stmt := topS 15
theorem sc_law_draw : FnScope ["_law_deck_here", "_law_many", "_law_cell", "_law_place", "_law_mixed"] ["_law_deck_here", "_law_many"] (defScope st_law_draw) := ⟨rfl, rfl, rfl, by decide +kernel, rfl, by decide +kernel, by decide +kernel⟩
def b_law_draw : SD :=
  (sSeq (sAsg (dBin oAdd (dBin oIx (dVar 0) (dC (.int 1))) (dC (.int 1))) (dgSub oSetIx (dVar 0) (dC (.int 1)))) (sSeq (sAsg (dC (.int 0)) (dgName 2)) (sSeq (sAsg (dUn uNeg (dC (.int 1))) (dgName 3))
  (sSeq (sIf (tVal (dBin oGt (dFn oLenS (dCons (dBin oIx (dVar 0) (dC (.int 0))) dNil)) (dC (.int 0)))) (sSeq (sAsg (dBin oMod (dBin oIx (dVar 0) (dC (.int 1))) (dFn oLenS (dCons (dBin oIx (dVar 0)
  (dC (.int 0))) dNil))) (dgName 3)) (sAsg (dBin oIx (dBin oIx (dVar 0) (dC (.int 0))) (dVar 3)) (dgName 2))) sNext) (sSeq (sIf (tVal (dBin oGe (dVar 2) (dBin oPow (dC (.int 10)) (dC (.int 18)))))
  (sSeq (sAsg (dBin oFdiv (dVar 2) (dVar 1)) (dgSub oSetIx (dBin oIx (dVar 0) (dC (.int 0))) (dVar 3))) (sRet (dBin oMod (dVar 2) (dVar 1)))) sNext) (sSeq (sAsg (dBin oMod (dBin oPow (dBin oAdd (dBin
  oAdd (dBin oMod (dVar 2) (dC (.int 2147483579))) (dBin oMul (dC (.int 104729)) (dBin oIx (dVar 0) (dC (.int 1))))) (dC (.int 17))) (dC (.int 3))) (dC (.int 2147483629))) (dgName 4)) (sRet (dBin
  oMod (dBin oFdiv (dBin oMod (dBin oPow (dBin oAdd (dVar 4) (dBin oMul (dC (.int 7919)) (dBin oIx (dVar 0) (dC (.int 1))))) (dC (.int 3))) (dC (.int 2147483563))) (dC (.int 11))) (dVar 1)))))))))
def f_law_draw : List PV → M PV := fn0 5 b_law_draw
theorem h_law_draw {P : Program} {w : World} {K : PySem.W.Frag} {mg : Str → Option Value} {base : Heap} {f : Addr} {fd : FuncData} (nb : NB mg) (T : Stands K mg "_law_draw" st_law_draw ["_law_deck_here", "_law_many"] f fd)  : Has P w K mg base CX0 "_law_draw" 2 1 f_law_draw := by
  refine has0n (b := b_law_draw) 2 5 0 T sc_law_draw rfl rfl fun cdv A outer s H E hr => ?_
  have sc := sc_law_draw
  have u64 := hr.units
  have u65 : (A.deeper (envOfC "_law_draw" (defScope st_law_draw) s.heap.objs.size f cdv)).units + 65 < cLine := by have := hr.un; omega
  have u128 : (A.deeper (envOfC "_law_draw" (defScope st_law_draw) s.heap.objs.size f cdv)).units + 128 < cLine := by have := hr.un; omega
  exact
    (dss_cons (ds_asg (de_bin p_add (de_ix p_ix (de_var 0) de_int) de_int) (dg_sub (de_var 0) de_int p_setIx)) (dss_cons (ds_set 2 sc.nd de_int) (dss_cons (ds_set 3 sc.nd (de_un p_neg de_int))
    (dss_cons (ds_if (dt_cmp p_gt (de_callB c_lenS (by rfl) nb.n_len bo_len (da_cons (de_ix p_ix (de_var 0) de_int) da_nil)) de_int) (dss_cons (ds_set 3 sc.nd (de_bin p_mod (de_ix p_ix (de_var 0)
    de_int) (de_callB c_lenS (by rfl) nb.n_len bo_len (da_cons (de_ix p_ix (de_var 0) de_int) da_nil)))) (dss_one (ds_set 2 sc.nd (de_ix p_ix (de_ix p_ix (de_var 0) de_int) (de_var 3))))) dss_nil)
    (dss_cons (ds_if (dt_cmp p_ge (de_var 2) (de_bin p_pow de_int de_int)) (dss_cons (ds_asg (de_bin p_fdiv (de_var 2) (de_var 1)) (dg_sub (de_ix p_ix (de_var 0) de_int) (de_var 3) p_setIx)) (dss_one
    (ds_ret (de_bin p_mod (de_var 2) (de_var 1))))) dss_nil) (dss_cons (ds_set 4 sc.nd (de_bin p_mod (de_bin p_pow (de_bin p_add (de_bin p_add (de_bin p_mod (de_var 2) de_int) (de_bin p_mul de_int
    (de_ix p_ix (de_var 0) de_int))) de_int) de_int) de_int)) (dss_one (ds_ret (de_bin p_mod (de_bin p_fdiv (de_bin p_mod (de_bin p_pow (de_bin p_add (de_var 4) (de_bin p_mul de_int (de_ix p_ix
    (de_var 0) de_int))) de_int) de_int) de_int) (de_var 1))))))))))
abbrev st_law_plus : Stmt := topS 20
theorem sc_law_plus : FnScope ["_law_one", "_law_other", "_law_found", "_law_row", "_law_more", "_law_a", "_law_b"] ["_law_one", "_law_other"] (defScope st_law_plus) := ⟨rfl, rfl, rfl, by decide +kernel, rfl, by decide +kernel, by decide +kernel⟩
def b_law_plus : SD :=
  (sSeq (sAsg (dLst dNil) (dgName 2)) (sSeq (sFor (dZip (dCons (dVar 0) (dCons (dVar 1) dNil))) (dgTup 2 (dgsCons (dgName 3) (dgsCons (dgName 4) dgsNil))) (sExpr (dMeth isLst mAppend (dVar 2) (dCons
  (dTmpFn gTuple (dLcx (dZip (dCons (dVar 3) (dCons (dVar 4) dNil))) (dgTup 2 (dgsCons (dgName 5) (dgsCons (dgName 6) dgsNil))) tTrue (dBin oAdd (dVar 5) (dVar 6)) ([5, 6]))) dNil)))) (sRet (dFn (oBI
  gTuple) (dCons (dVar 2) dNil)))))
def f_law_plus : List PV → M PV := fn0 7 b_law_plus
theorem h_law_plus {P : Program} {w : World} {K : PySem.W.Frag} {mg : Str → Option Value} {base : Heap} {f : Addr} {fd : FuncData} (nb : NB mg) (T : Stands K mg "_law_plus" st_law_plus ["_law_one", "_law_other"] f fd)  : Has P w K mg base CX0 "_law_plus" 2 1 f_law_plus := by
  refine has0n (b := b_law_plus) 2 7 0 T sc_law_plus rfl rfl fun cdv A outer s H E hr => ?_
  have sc := sc_law_plus
  have u64 := hr.units
  have u65 : (A.deeper (envOfC "_law_plus" (defScope st_law_plus) s.heap.objs.size f cdv)).units + 65 < cLine := by have := hr.un; omega
  have u128 : (A.deeper (envOfC "_law_plus" (defScope st_law_plus) s.heap.objs.size f cdv)).units + 128 < cLine := by have := hr.un; omega
  exact
    (dss_cons (ds_set 2 sc.nd (de_lst da_nil)) (dss_cons (ds_for PassesOwn.never rfl (di_zip (by rfl) nb.n_zip (da_cons (de_var 0) (da_cons (de_var 1) da_nil))) (dg_tup rfl (dgs_cons (dg_name 3
    sc.nd) (dgs_cons (dg_name 4 sc.nd) dgs_nil))) (dss_one (ds_expr (de_bm1 kd_list PySem.F.plainAttrs_list PySem.F.slot_list_append PySem.F.type_list_append p_append (de_var 2) (da_cons (de_callTyL
    c_tuple (by rfl) nb.n_tuple bo_tuple (dl_lc ([("_law_a", 5), ("_law_b", 6)]) rfl sc.nd (di_zip (by rfl) nb.n_zip (da_cons (de_var 3) (da_cons (de_var 4) da_nil))) (fun _ _ _ _ _ => (dg_tup rfl
    (dgs_cons (dg_name 5 sc.nd) (dgs_cons (dg_name 6 sc.nd) dgs_nil)))) (fun _ _ _ _ _ => dts_nil) (fun _ _ _ _ _ => (de_bin p_add (de_var 5) (de_var 6)))
    (ok := by dsimp only [cx0, Cx.nox, Cx.wish, cxOf, Cx.blk, envOfC, compEnvC, relabel_eq]; decide +kernel))) da_nil))))) (dss_one (ds_ret (de_callTy (bi_of c_tuple) (by rfl) nb.n_tuple bo_tuple
    (da_cons (de_var 2) da_nil))))))
abbrev st_law_put : Stmt := topS 19
theorem sc_law_put : FnScope ["_law_n", "_law_weighted", "_law_found", "_law_a", "_law_row", "_law_b", "_law_side", "_law_weight"] ["_law_n", "_law_weighted"] (defScope st_law_put) := ⟨rfl, rfl, rfl, by decide +kernel, rfl, by decide +kernel, by decide +kernel⟩
def b_law_put : SD :=
  (sSeq (sAsg (dLst dNil) (dgName 2)) (sSeq (sFor (dRng1 (dCons (dVar 0) dNil)) (dgName 3) (sSeq (sAsg (dLst dNil) (dgName 4)) (sSeq (sFor (dRng1 (dCons (dVar 0) dNil)) (dgName 5) (sExpr (dMeth isLst
  mAppend (dVar 4) (dCons (dTmpFn gSum (dLcx (dVal (dVar 1)) (dgTup 2 (dgsCons (dgName 6) (dgsCons (dgName 7) dgsNil))) (tVal (dBin oNe (dBin oIn (dVar 3) (dVar 6)) (dBin oIn (dVar 5) (dVar 6))))
  (dVar 7) ([6, 7]))) dNil)))) (sExpr (dMeth isLst mAppend (dVar 2) (dCons (dFn (oBI gTuple) (dCons (dVar 4) dNil)) dNil)))))) (sRet (dFn (oBI gTuple) (dCons (dVar 2) dNil)))))
def f_law_put : List PV → M PV := fn0 8 b_law_put
theorem h_law_put {P : Program} {w : World} {K : PySem.W.Frag} {mg : Str → Option Value} {base : Heap} {f : Addr} {fd : FuncData} (nb : NB mg) (T : Stands K mg "_law_put" st_law_put ["_law_n", "_law_weighted"] f fd)  : Has P w K mg base CX0 "_law_put" 2 1 f_law_put := by
  refine has0n (b := b_law_put) 2 8 0 T sc_law_put rfl rfl fun cdv A outer s H E hr => ?_
  have sc := sc_law_put
  have u64 := hr.units
  have u65 : (A.deeper (envOfC "_law_put" (defScope st_law_put) s.heap.objs.size f cdv)).units + 65 < cLine := by have := hr.un; omega
  have u128 : (A.deeper (envOfC "_law_put" (defScope st_law_put) s.heap.objs.size f cdv)).units + 128 < cLine := by have := hr.un; omega
  exact
    (dss_cons (ds_set 2 sc.nd (de_lst da_nil)) (dss_cons (ds_for PassesOwn.never rfl (di_range1 (by rfl) nb.n_range (da_cons (de_var 0) da_nil)) (dg_name 3 sc.nd) (dss_cons (ds_set 4 sc.nd (de_lst
    da_nil)) (dss_cons (ds_for PassesOwn.never rfl (di_range1 (by rfl) nb.n_range (da_cons (de_var 0) da_nil)) (dg_name 5 sc.nd) (dss_one (ds_expr (de_bm1 kd_list PySem.F.plainAttrs_list
    PySem.F.slot_list_append PySem.F.type_list_append p_append (de_var 4) (da_cons (de_callBLl (c_sum rfl) (by rfl) nb.n_sum bo_sum (dl_lc ([("_law_side", 6), ("_law_weight", 7)]) rfl sc.nd (di_val
    (de_var 1)) (fun _ _ _ _ _ => (dg_tup rfl (dgs_cons (dg_name 6 sc.nd) (dgs_cons (dg_name 7 sc.nd) dgs_nil)))) (fun _ _ _ _ _ => (dts_one (dt_cmp (p_ne u64) (de_cmp (p_in u65) (de_var 3) (de_var
    6)) (de_cmp (p_in u65) (de_var 5) (de_var 6))))) (fun _ _ _ _ _ => de_var 7) (ok := by dsimp only [cx0, Cx.nox, Cx.wish, cxOf, Cx.blk, envOfC, compEnvC, relabel_eq]; decide +kernel))) da_nil)))))
    (dss_one (ds_expr (de_bm1 kd_list PySem.F.plainAttrs_list PySem.F.slot_list_append PySem.F.type_list_append p_append (de_var 2) (da_cons (de_callTy (bi_of c_tuple) (by rfl) nb.n_tuple bo_tuple
    (da_cons (de_var 4) da_nil)) da_nil))))))) (dss_one (ds_ret (de_callTy (bi_of c_tuple) (by rfl) nb.n_tuple bo_tuple (da_cons (de_var 2) da_nil))))))
abbrev stis_far : Stmt := topS 5
theorem scis_far : FnScope ["thing"] ["thing"] (defScope stis_far) := ⟨rfl, rfl, rfl, by decide +kernel, rfl, by decide +kernel, by decide +kernel⟩
def bis_far : SD :=
  (sRet (dAnd (dFn oIsa (dCons (dVar 0) (dCons (dC (.con (.ty "int"))) dNil))) (dAnd (dNot (dFn oIsa (dCons (dVar 0) (dCons (dC (.con (.ty "bool"))) dNil)))) (dChain oLe oLe (dC (.int 0)) (dVar 0)
  (dC (.int 1000000000000000))))))
def fis_far : List PV → M PV := fn0 1 bis_far
theorem his_far {P : Program} {w : World} {K : PySem.W.Frag} {mg : Str → Option Value} {base : Heap} {f : Addr} {fd : FuncData} (nb : NB mg) (T : Stands K mg "is_far" stis_far ["thing"] f fd)  : Has P w K mg base CX0 "is_far" 1 1 fis_far := by
  refine has0n (b := bis_far) 1 1 0 T scis_far rfl rfl fun cdv A outer s H E hr => ?_
  have sc := scis_far
  have u64 := hr.units
  have u65 : (A.deeper (envOfC "is_far" (defScope stis_far) s.heap.objs.size f cdv)).units + 65 < cLine := by have := hr.un; omega
  have u128 : (A.deeper (envOfC "is_far" (defScope stis_far) s.heap.objs.size f cdv)).units + 128 < cLine := by have := hr.un; omega
  exact
    (dss_one (ds_ret (de_and (de_callB c_isa (by rfl) nb.n_isinstance bo_isinstance (da_cons (de_var 0) (da_cons (de_ty (by rfl) nb.n_int bo_int) da_nil))) (de_and (de_not (de_callB c_isa (by rfl)
    nb.n_isinstance bo_isinstance (da_cons (de_var 0) (da_cons (de_ty (by rfl) nb.n_bool bo_bool) da_nil)))) (de_one (de_chain p_le p_le de_int (de_var 0) (de_glob (by rfl) nb.g_FAR.choose_spec.1
    nb.g_FAR.choose_spec.2 (fun _ _ => rep_int'))))))))
abbrev stis_row : Stmt := topS 6
theorem scis_row : FnScope ["many", "thing", "far"] ["many", "thing"] (defScope stis_row) := ⟨rfl, rfl, rfl, by decide +kernel, rfl, by decide +kernel, by decide +kernel⟩
def bis_row : SD :=
  (sRet (dAnd (dFn oIsa (dCons (dVar 1) (dCons (dC (.con (.ty "tuple"))) dNil))) (dAnd (dBin oEq (dFn oLenS (dCons (dVar 1) dNil)) (dVar 0)) (dTmpFn gAll (dLcx (dVal (dVar 1)) (dgName 2) tTrue (dCall
  fis_far (dCons (dVar 2) dNil)) ([2]))))))
def fis_row : List PV → M PV := fn0 3 bis_row
theorem his_row {P : Program} {w : World} {K : PySem.W.Frag} {mg : Str → Option Value} {base : Heap} {f : Addr} {fd : FuncData} (nb : NB mg) (T : Stands K mg "is_row" stis_row ["many", "thing"] f fd) (his_far : Has P w K mg base CX0 "is_far" 1 1 (fis_far)) : Has P w K mg base CX0 "is_row" 2 2 fis_row := by
  refine has0n (b := bis_row) 2 3 1 T scis_row rfl rfl fun cdv A outer s H E hr => ?_
  have sc := scis_row
  have u64 := hr.units
  have u65 : (A.deeper (envOfC "is_row" (defScope stis_row) s.heap.objs.size f cdv)).units + 65 < cLine := by have := hr.un; omega
  have u128 : (A.deeper (envOfC "is_row" (defScope stis_row) s.heap.objs.size f cdv)).units + 128 < cLine := by have := hr.un; omega
  exact
    (dss_one (ds_ret (de_and (de_callB c_isa (by rfl) nb.n_isinstance bo_isinstance (da_cons (de_var 1) (da_cons (de_ty (by rfl) nb.n_tuple bo_tuple) da_nil))) (de_and (de_cmp (p_eq u64) (de_callB
    c_lenS (by rfl) nb.n_len bo_len (da_cons (de_var 1) da_nil)) (de_var 0)) (de_one (de_callBL (c_all rfl) (by rfl) nb.n_all bo_all (dl_lc ([("far", 2)]) rfl sc.nd (di_val (de_var 1)) (fun _ _ _ _ _
    => dg_name 2 sc.nd) (fun _ _ _ _ _ => dts_nil) (fun _ _ _ _ _ => (de_call (his_far.mono (by omega)) hr (fun _ => pass0At) (da_cons (de_var 2) da_nil) (argN_cons argN_nil)))
    (ok := by dsimp only [cx0, Cx.nox, Cx.wish, cxOf, Cx.blk, envOfC, compEnvC, relabel_eq]; decide +kernel))))))))
abbrev stis_square : Stmt := topS 7
theorem scis_square : FnScope ["thing", "row"] ["thing"] (defScope stis_square) := ⟨rfl, rfl, rfl, by decide +kernel, rfl, by decide +kernel, by decide +kernel⟩
def bis_square : SD :=
  (sSeq (sIf (tOrD (tNotD (tVal (dFn oIsa (dCons (dVar 0) (dCons (dC (.con (.ty "tuple"))) dNil))))) (tNotD (tVal (dChain oLe oLe (dC (.int 1)) (dFn oLenS (dCons (dVar 0) dNil)) (dC (.int 8))))))
  (sRet (dC (.bl false))) sNext) (sRet (dTmpFn gAll (dLcx (dVal (dVar 0)) (dgName 1) tTrue (dCall fis_row (dCons (dFn oLenS (dCons (dVar 0) dNil)) (dCons (dVar 1) dNil))) ([1])))))
def fis_square : List PV → M PV := fn0 2 bis_square
theorem his_square {P : Program} {w : World} {K : PySem.W.Frag} {mg : Str → Option Value} {base : Heap} {f : Addr} {fd : FuncData} (nb : NB mg) (T : Stands K mg "is_square" stis_square ["thing"] f fd) (his_row : Has P w K mg base CX0 "is_row" 2 2 (fis_row)) : Has P w K mg base CX0 "is_square" 1 3 fis_square := by
  refine has0n (b := bis_square) 1 2 2 T scis_square rfl rfl fun cdv A outer s H E hr => ?_
  have sc := scis_square
  have u64 := hr.units
  have u65 : (A.deeper (envOfC "is_square" (defScope stis_square) s.heap.objs.size f cdv)).units + 65 < cLine := by have := hr.un; omega
  have u128 : (A.deeper (envOfC "is_square" (defScope stis_square) s.heap.objs.size f cdv)).units + 128 < cLine := by have := hr.un; omega
  exact
    (dss_cons (ds_if (dt_w (dw_or (dt_not (dt_val (de_callB c_isa (by rfl) nb.n_isinstance bo_isinstance (da_cons (de_var 0) (da_cons (de_ty (by rfl) nb.n_tuple bo_tuple) da_nil))))) (dw_or1 (dt_not
    (dt_chain p_le p_le de_int (de_callB c_lenS (by rfl) nb.n_len bo_len (da_cons (de_var 0) da_nil)) (de_glob (by rfl) nb.g_HOUSES.choose_spec.1 nb.g_HOUSES.choose_spec.2 (fun _ _ => rep_int')))))))
    (dss_one (ds_ret de_bl)) dss_nil) (dss_one (ds_ret (de_callBL (c_all rfl) (by rfl) nb.n_all bo_all (dl_lc ([("row", 1)]) rfl sc.nd (di_val (de_var 0)) (fun _ _ _ _ _ => dg_name 1 sc.nd) (fun _ _
    _ _ _ => dts_nil) (fun _ _ _ _ _ => (de_call (his_row.mono (by omega)) hr (fun _ => pass0At) (da_cons (de_callB c_lenS (by rfl) nb.n_len bo_len (da_cons (de_var 0) da_nil)) (da_cons (de_var 1)
    da_nil)) (argN_cons (argN_cons argN_nil)))) (ok := by dsimp only [cx0, Cx.nox, Cx.wish, cxOf, Cx.blk, envOfC, compEnvC, relabel_eq]; decide +kernel))))))
abbrev stown_fault : Stmt := topS 8
theorem scown_fault : FnScope ["square", "a", "row"] ["square"] (defScope stown_fault) := ⟨rfl, rfl, rfl, by decide +kernel, rfl, by decide +kernel, by decide +kernel⟩
def bown_fault : SD :=
  (sSeq (sFor (dEnum (dVar 0)) (dgTup 2 (dgsCons (dgName 1) (dgsCons (dgName 2) dgsNil))) (sIf (tVal (dBin oNe (dBin oIx (dVar 2) (dVar 1)) (dC (.int 0)))) (sRet (dTup (dCons (dC (.str "own")) (dCons
  (dVar 1) dNil)))) sNext)) (sRet (dC .non)))
def fown_fault : List PV → M PV := fn0 3 bown_fault
theorem hown_fault {P : Program} {w : World} {K : PySem.W.Frag} {mg : Str → Option Value} {base : Heap} {f : Addr} {fd : FuncData} (nb : NB mg) (T : Stands K mg "own_fault" stown_fault ["square"] f fd)  : Has P w K mg base CX0 "own_fault" 1 1 fown_fault := by
  refine has0n (b := bown_fault) 1 3 0 T scown_fault rfl rfl fun cdv A outer s H E hr => ?_
  have sc := scown_fault
  have u64 := hr.units
  have u65 : (A.deeper (envOfC "own_fault" (defScope stown_fault) s.heap.objs.size f cdv)).units + 65 < cLine := by have := hr.un; omega
  have u128 : (A.deeper (envOfC "own_fault" (defScope stown_fault) s.heap.objs.size f cdv)).units + 128 < cLine := by have := hr.un; omega
  exact
    (dss_cons (ds_for PassesOwn.never rfl (di_enum (by rfl) nb.n_enumerate (de_var 0)) (dg_tup rfl (dgs_cons (dg_name 1 sc.nd) (dgs_cons (dg_name 2 sc.nd) dgs_nil))) (dss_one (ds_if (dt_cmp (p_ne
    u64) (de_ix p_ix (de_var 2) (de_var 1)) de_int) (dss_one (ds_ret (de_tup (da_cons de_str (da_cons (de_var 1) da_nil))))) dss_nil))) (dss_one (ds_ret de_non)))
abbrev stround_fault : Stmt := topS 10
theorem scround_fault : FnScope ["square", "a", "row", "b", "c"] ["square"] (defScope stround_fault) := ⟨rfl, rfl, rfl, by decide +kernel, rfl, by decide +kernel, by decide +kernel⟩
def bround_fault : SD :=
  (sSeq (sFor (dEnum (dVar 0)) (dgTup 2 (dgsCons (dgName 1) (dgsCons (dgName 2) dgsNil))) (sFor (dRng2 (dCons (dBin oAdd (dVar 1) (dC (.int 1))) (dCons (dFn oLenS (dCons (dVar 0) dNil)) dNil)))
  (dgName 3) (sFor (dRng1 (dCons (dFn oLenS (dCons (dVar 0) dNil)) dNil)) (dgName 4) (sIf (tVal (dBin oGt (dBin oIx (dVar 2) (dVar 3)) (dBin oAdd (dBin oIx (dVar 2) (dVar 4)) (dBin oIx (dBin oIx
  (dVar 0) (dVar 4)) (dVar 3))))) (sRet (dTup (dCons (dC (.str "round")) (dCons (dVar 1) (dCons (dVar 3) (dCons (dVar 4) dNil)))))) sNext)))) (sRet (dC .non)))
def fround_fault : List PV → M PV := fn0 5 bround_fault
theorem hround_fault {P : Program} {w : World} {K : PySem.W.Frag} {mg : Str → Option Value} {base : Heap} {f : Addr} {fd : FuncData} (nb : NB mg) (T : Stands K mg "round_fault" stround_fault ["square"] f fd)  : Has P w K mg base CX0 "round_fault" 1 1 fround_fault := by
  refine has0n (b := bround_fault) 1 5 0 T scround_fault rfl rfl fun cdv A outer s H E hr => ?_
  have sc := scround_fault
  have u64 := hr.units
  have u65 : (A.deeper (envOfC "round_fault" (defScope stround_fault) s.heap.objs.size f cdv)).units + 65 < cLine := by have := hr.un; omega
  have u128 : (A.deeper (envOfC "round_fault" (defScope stround_fault) s.heap.objs.size f cdv)).units + 128 < cLine := by have := hr.un; omega
  exact
    (dss_cons (ds_for PassesOwn.never rfl (di_enum (by rfl) nb.n_enumerate (de_var 0)) (dg_tup rfl (dgs_cons (dg_name 1 sc.nd) (dgs_cons (dg_name 2 sc.nd) dgs_nil))) (dss_one (ds_for PassesOwn.never
    rfl (di_range2 (by rfl) nb.n_range (da_cons (de_bin p_add (de_var 1) de_int) (da_cons (de_callB c_lenS (by rfl) nb.n_len bo_len (da_cons (de_var 0) da_nil)) da_nil))) (dg_name 3 sc.nd) (dss_one
    (ds_for PassesOwn.never rfl (di_range1 (by rfl) nb.n_range (da_cons (de_callB c_lenS (by rfl) nb.n_len bo_len (da_cons (de_var 0) da_nil)) da_nil)) (dg_name 4 sc.nd) (dss_one (ds_if (dt_cmp p_gt
    (de_ix p_ix (de_var 2) (de_var 3)) (de_bin p_add (de_ix p_ix (de_var 2) (de_var 4)) (de_ix p_ix (de_ix p_ix (de_var 0) (de_var 4)) (de_var 3)))) (dss_one (ds_ret (de_tup (da_cons de_str (da_cons
    (de_var 1) (da_cons (de_var 3) (da_cons (de_var 4) da_nil))))))) dss_nil))))))) (dss_one (ds_ret de_non)))
abbrev stunlike_fault : Stmt := topS 9
theorem scunlike_fault : FnScope ["square", "a", "row", "b"] ["square"] (defScope stunlike_fault) := ⟨rfl, rfl, rfl, by decide +kernel, rfl, by decide +kernel, by decide +kernel⟩
def bunlike_fault : SD :=
  (sSeq (sFor (dEnum (dVar 0)) (dgTup 2 (dgsCons (dgName 1) (dgsCons (dgName 2) dgsNil))) (sFor (dRng2 (dCons (dBin oAdd (dVar 1) (dC (.int 1))) (dCons (dFn oLenS (dCons (dVar 0) dNil)) dNil)))
  (dgName 3) (sIf (tVal (dBin oNe (dBin oIx (dVar 2) (dVar 3)) (dBin oIx (dBin oIx (dVar 0) (dVar 3)) (dVar 1)))) (sRet (dTup (dCons (dC (.str "unlike")) (dCons (dVar 1) (dCons (dVar 3) dNil)))))
  sNext))) (sRet (dC .non)))
def funlike_fault : List PV → M PV := fn0 4 bunlike_fault
theorem hunlike_fault {P : Program} {w : World} {K : PySem.W.Frag} {mg : Str → Option Value} {base : Heap} {f : Addr} {fd : FuncData} (nb : NB mg) (T : Stands K mg "unlike_fault" stunlike_fault ["square"] f fd)  : Has P w K mg base CX0 "unlike_fault" 1 1 funlike_fault := by
  refine has0n (b := bunlike_fault) 1 4 0 T scunlike_fault rfl rfl fun cdv A outer s H E hr => ?_
  have sc := scunlike_fault
  have u64 := hr.units
  have u65 : (A.deeper (envOfC "unlike_fault" (defScope stunlike_fault) s.heap.objs.size f cdv)).units + 65 < cLine := by have := hr.un; omega
  have u128 : (A.deeper (envOfC "unlike_fault" (defScope stunlike_fault) s.heap.objs.size f cdv)).units + 128 < cLine := by have := hr.un; omega
  exact
    (dss_cons (ds_for PassesOwn.never rfl (di_enum (by rfl) nb.n_enumerate (de_var 0)) (dg_tup rfl (dgs_cons (dg_name 1 sc.nd) (dgs_cons (dg_name 2 sc.nd) dgs_nil))) (dss_one (ds_for PassesOwn.never
    rfl (di_range2 (by rfl) nb.n_range (da_cons (de_bin p_add (de_var 1) de_int) (da_cons (de_callB c_lenS (by rfl) nb.n_len bo_len (da_cons (de_var 0) da_nil)) da_nil))) (dg_name 3 sc.nd) (dss_one
    (ds_if (dt_cmp (p_ne u64) (de_ix p_ix (de_var 2) (de_var 3)) (de_ix p_ix (de_ix p_ix (de_var 0) (de_var 3)) (de_var 1))) (dss_one (ds_ret (de_tup (da_cons de_str (da_cons (de_var 1) (da_cons
    (de_var 3) da_nil)))))) dss_nil))))) (dss_one (ds_ret de_non)))
abbrev sttablefault : Stmt := topS 11
theorem sctablefault : FnScope ["thing", "fault"] ["thing"] (defScope sttablefault) := ⟨rfl, rfl, rfl, by decide +kernel, rfl, by decide +kernel, by decide +kernel⟩
def btablefault : SD :=
  (sSeq (sIf (tNotD (tVal (dCall fis_square (dCons (dVar 0) dNil)))) (sRet (dTup (dCons (dC (.str "table")) dNil))) sNext) (sSeq (sAsg (dCall fown_fault (dCons (dVar 0) dNil)) (dgName 1)) (sSeq (sIf
  (tVal (dBin oIs (dVar 1) (dC .non))) (sAsg (dCall funlike_fault (dCons (dVar 0) dNil)) (dgName 1)) sNext) (sSeq (sIf (tVal (dBin oIs (dVar 1) (dC .non))) (sAsg (dCall fround_fault (dCons (dVar 0)
  dNil)) (dgName 1)) sNext) (sRet (dVar 1))))))
def ftablefault : List PV → M PV := fn0 2 btablefault
theorem htablefault {P : Program} {w : World} {K : PySem.W.Frag} {mg : Str → Option Value} {base : Heap} {f : Addr} {fd : FuncData} (nb : NB mg) (T : Stands K mg "tablefault" sttablefault ["thing"] f fd) (his_square : Has P w K mg base CX0 "is_square" 1 3 (fis_square)) (hown_fault : Has P w K mg base CX0 "own_fault" 1 1 (fown_fault)) (hround_fault : Has P w K mg base CX0 "round_fault" 1 1 (fround_fault)) (hunlike_fault : Has P w K mg base CX0 "unlike_fault" 1 1 (funlike_fault)) : Has P w K mg base CX0 "tablefault" 1 4 ftablefault := by
  refine has0n (b := btablefault) 1 2 3 T sctablefault rfl rfl fun cdv A outer s H E hr => ?_
  have sc := sctablefault
  have u64 := hr.units
  have u65 : (A.deeper (envOfC "tablefault" (defScope sttablefault) s.heap.objs.size f cdv)).units + 65 < cLine := by have := hr.un; omega
  have u128 : (A.deeper (envOfC "tablefault" (defScope sttablefault) s.heap.objs.size f cdv)).units + 128 < cLine := by have := hr.un; omega
  exact
    (dss_cons (ds_if (dt_not (dt_val (de_call (his_square.mono (by omega)) hr (fun _ => pass0At) (da_cons (de_var 0) da_nil) (argN_cons argN_nil)))) (dss_one (ds_ret (de_tup (da_cons de_str
    da_nil)))) dss_nil) (dss_cons (ds_set 1 sc.nd (de_call (hown_fault.mono (by omega)) hr (fun _ => pass0At) (da_cons (de_var 0) da_nil) (argN_cons argN_nil))) (dss_cons (ds_if (dt_cmp p_is (de_var
    1) de_non) (dss_one (ds_set 1 sc.nd (de_call (hunlike_fault.mono (by omega)) hr (fun _ => pass0At) (da_cons (de_var 0) da_nil) (argN_cons argN_nil)))) dss_nil) (dss_cons (ds_if (dt_cmp p_is
    (de_var 1) de_non) (dss_one (ds_set 1 sc.nd (de_call (hround_fault.mono (by omega)) hr (fun _ => pass0At) (da_cons (de_var 0) da_nil) (argN_cons argN_nil)))) dss_nil) (dss_one (ds_ret (de_var
    1)))))))
abbrev stis_table : Stmt := topS 12
theorem scis_table : FnScope ["thing"] ["thing"] (defScope stis_table) := ⟨rfl, rfl, rfl, by decide +kernel, rfl, by decide +kernel, by decide +kernel⟩
def bis_table : SD :=
  (sRet (dBin oIs (dCall ftablefault (dCons (dVar 0) dNil)) (dC .non)))
def fis_table : List PV → M PV := fn0 1 bis_table
theorem his_table {P : Program} {w : World} {K : PySem.W.Frag} {mg : Str → Option Value} {base : Heap} {f : Addr} {fd : FuncData} (nb : NB mg) (T : Stands K mg "is_table" stis_table ["thing"] f fd) (htablefault : Has P w K mg base CX0 "tablefault" 1 4 (ftablefault)) : Has P w K mg base CX0 "is_table" 1 5 fis_table := by
  refine has0n (b := bis_table) 1 1 4 T scis_table rfl rfl fun cdv A outer s H E hr => ?_
  have sc := scis_table
  have u64 := hr.units
  have u65 : (A.deeper (envOfC "is_table" (defScope stis_table) s.heap.objs.size f cdv)).units + 65 < cLine := by have := hr.un; omega
  have u128 : (A.deeper (envOfC "is_table" (defScope stis_table) s.heap.objs.size f cdv)).units + 128 < cLine := by have := hr.un; omega
  exact
    (dss_one (ds_ret (de_cmp p_is (de_call (htablefault.mono (by omega)) hr (fun _ => pass0At) (da_cons (de_var 0) da_nil) (argN_cons argN_nil)) de_non)))
abbrev stput_together : Stmt := topS 1
theorem scput_together : FnScope ["n", "weighted", "found", "side", "weight", "one", "other", "house", "row"] ["n", "weighted"] (defScope stput_together) := ⟨rfl, rfl, rfl, by decide +kernel, rfl, by decide +kernel, by decide +kernel⟩
def bput_together : SD :=
  (sSeq (sAsg (dFresh (dLcx (dRng1 (dCons (dVar 0) dNil)) (dgName 7) tTrue (dBin oMul (dLst (dCons (dC (.int 0)) dNil)) (dVar 0)) ([7]))) (dgName 2)) (sSeq (sFor (dVal (dVar 1)) (dgTup 2 (dgsCons
  (dgName 3) (dgsCons (dgName 4) dgsNil))) (sFor (dVal (dVar 3)) (dgName 5) (sFor (dRng1 (dCons (dVar 0) dNil)) (dgName 6) (sIf (tVal (dBin oNotIn (dVar 6) (dVar 3))) (sSeq (sAugS oIx oAddI oSetIx
  (dBin oIx (dVar 2) (dVar 5)) (dVar 6) (dVar 4)) (sAugS oIx oAddI oSetIx (dBin oIx (dVar 2) (dVar 6)) (dVar 5) (dVar 4))) sNext)))) (sRet (dTmpFn gTuple (dLcx (dVal (dVar 2)) (dgName 8) tTrue (dFn
  (oBI gTuple) (dCons (dVar 8) dNil)) ([8]))))))
def fput_together : List PV → M PV := fn0 9 bput_together
theorem hput_together {P : Program} {w : World} {K : PySem.W.Frag} {mg : Str → Option Value} {base : Heap} {f : Addr} {fd : FuncData} (nb : NB mg) (T : Stands K mg "put_together" stput_together ["n", "weighted"] f fd)  : Has P w K mg base CX0 "put_together" 2 1 fput_together := by
  refine has0n (b := bput_together) 2 9 0 T scput_together rfl rfl fun cdv A outer s H E hr => ?_
  have sc := scput_together
  have u64 := hr.units
  have u65 : (A.deeper (envOfC "put_together" (defScope stput_together) s.heap.objs.size f cdv)).units + 65 < cLine := by have := hr.un; omega
  have u128 : (A.deeper (envOfC "put_together" (defScope stput_together) s.heap.objs.size f cdv)).units + 128 < cLine := by have := hr.un; omega
  exact
    (dss_cons (ds_setLc 2 ([("house", 7)]) rfl sc.nd (di_range1 (by rfl) nb.n_range (da_cons (de_var 0) da_nil)) (fun _ _ _ _ _ => dg_name 7 sc.nd) (fun _ _ _ _ _ => dts_nil) (fun _ _ _ _ _ =>
    (de_bin p_mul (de_lst (da_cons de_int da_nil)) (de_var 0))) (ok := by dsimp only [cx0, Cx.nox, Cx.wish, cxOf, Cx.blk, envOfC, compEnvC, relabel_eq]; decide +kernel)) (dss_cons (ds_for
    PassesOwn.never rfl (di_val (de_var 1)) (dg_tup rfl (dgs_cons (dg_name 3 sc.nd) (dgs_cons (dg_name 4 sc.nd) dgs_nil))) (dss_one (ds_for PassesOwn.never rfl (di_val (de_var 3)) (dg_name 5 sc.nd)
    (dss_one (ds_for PassesOwn.never rfl (di_range1 (by rfl) nb.n_range (da_cons (de_var 0) da_nil)) (dg_name 6 sc.nd) (dss_one (ds_if (dt_cmp (p_notIn u65) (de_var 6) (de_var 3)) (dss_cons (ds_augS
    (de_ix p_ix (de_var 2) (de_var 5)) (de_var 6) p_get (de_var 4) ip_addI p_setIx) (dss_one (ds_augS (de_ix p_ix (de_var 2) (de_var 6)) (de_var 5) p_get (de_var 4) ip_addI p_setIx))) dss_nil)))))))
    (dss_one (ds_ret (de_callTyL c_tuple (by rfl) nb.n_tuple bo_tuple (dl_lc ([("row", 8)]) rfl sc.nd (di_val (de_var 2)) (fun _ _ _ _ _ => dg_name 8 sc.nd) (fun _ _ _ _ _ => dts_nil) (fun _ _ _ _ _
    => (de_callTy (bi_of c_tuple) (by rfl) nb.n_tuple bo_tuple (da_cons (de_var 8) da_nil)))
    (ok := by dsimp only [cx0, Cx.nox, Cx.wish, cxOf, Cx.blk, envOfC, compEnvC, relabel_eq]; decide +kernel)))))))
abbrev st_law_right : Stmt := topS 21
theorem sc_law_right : FnScope ["_law_n", "_law_weighted", "_law_handed", "_law_found"] ["_law_n", "_law_weighted"] (defScope st_law_right) := ⟨rfl, rfl, rfl, by decide +kernel, rfl, by decide +kernel, by decide +kernel⟩
def b_law_right : SD :=
  (sSeq (sAsg (dFn oRepr (dCons (dVar 1) dNil)) (dgName 2)) (sSeq (sAsg (dCall fput_together (dCons (dVar 0) (dCons (dVar 1) dNil))) (dgName 3)) (sSeq (sIf (tOrD (tVal (dBin oNe (dFn oRepr (dCons
  (dVar 3) dNil)) (dFn oRepr (dCons (dCall f_law_put (dCons (dVar 0) (dCons (dVar 1) dNil))) dNil)))) (tVal (dBin oNe (dFn oRepr (dCons (dVar 1) dNil)) (dVar 2)))) (sRet (dC (.bl false))) sNext)
  (sRet (dAnd (dBin oIs (dCall fis_table (dCons (dVar 3) dNil)) (dC (.bl true))) (dBin oEq (dFn oRepr (dCons (dCall fput_together (dCons (dVar 0) (dCons (dVar 1) dNil))) dNil)) (dFn oRepr (dCons
  (dVar 3) dNil))))))))
def f_law_right : List PV → M PV := fn0 4 b_law_right
theorem h_law_right {P : Program} {w : World} {K : PySem.W.Frag} {mg : Str → Option Value} {base : Heap} {f : Addr} {fd : FuncData} (nb : NB mg) (T : Stands K mg "_law_right" st_law_right ["_law_n", "_law_weighted"] f fd) (h_law_put : Has P w K mg base CX0 "_law_put" 2 1 (f_law_put)) (his_table : Has P w K mg base CX0 "is_table" 1 5 (fis_table)) (hput_together : Has P w K mg base CX0 "put_together" 2 1 (fput_together)) : HasG P w K mg base CX0 "_law_right" 2 6 f_law_right := by
  refine hasG0n (b := b_law_right) 2 4 5 T sc_law_right rfl rfl fun cdv A outer s H E hG hr => ?_
  have sc := sc_law_right
  have u64 := hr.units
  have u65 : (A.deeper (envOfC "_law_right" (defScope st_law_right) s.heap.objs.size f cdv)).units + 65 < cLine := by have := hr.un; omega
  have u128 : (A.deeper (envOfC "_law_right" (defScope st_law_right) s.heap.objs.size f cdv)).units + 128 < cLine := by have := hr.un; omega
  exact
    (dss_cons (ds_set 2 sc.nd (de_callB (c_repr hG u128) (by rfl) nb.n_repr bo_repr (da_cons (de_var 1) da_nil))) (dss_cons (ds_set 3 sc.nd (de_call (hput_together.mono (by omega)) hr (fun _ =>
    pass0At) (da_cons (de_var 0) (da_cons (de_var 1) da_nil)) (argN_cons (argN_cons argN_nil)))) (dss_cons (ds_if (dt_w (dw_or (dt_cmp (p_ne u64) (de_callB (c_repr hG u128) (by rfl) nb.n_repr bo_repr
    (da_cons (de_var 3) da_nil)) (de_callB (c_repr hG u128) (by rfl) nb.n_repr bo_repr (da_cons (de_call (h_law_put.mono (by omega)) hr (fun _ => pass0At) (da_cons (de_var 0) (da_cons (de_var 1)
    da_nil)) (argN_cons (argN_cons argN_nil))) da_nil))) (dw_or1 (dt_cmp (p_ne u64) (de_callB (c_repr hG u128) (by rfl) nb.n_repr bo_repr (da_cons (de_var 1) da_nil)) (de_var 2))))) (dss_one (ds_ret
    de_bl)) dss_nil) (dss_one (ds_ret (de_and (de_cmp p_is (de_call (his_table.mono (by omega)) hr (fun _ => pass0At) (da_cons (de_var 3) da_nil) (argN_cons argN_nil)) de_bl) (de_one (de_cmp (p_eq
    u64) (de_callB (c_repr hG u128) (by rfl) nb.n_repr bo_repr (da_cons (de_call (hput_together.mono (by omega)) hr (fun _ => pass0At) (da_cons (de_var 0) (da_cons (de_var 1) da_nil)) (argN_cons
    (argN_cons argN_nil))) da_nil)) (de_callB (c_repr hG u128) (by rfl) nb.n_repr bo_repr (da_cons (de_var 3) da_nil))))))))))
abbrev st_law_sides : Stmt := topS 16
theorem sc_law_sides : FnScope ["_law_n", "_law_found", "_law_house", "_law_side"] ["_law_n"] (defScope st_law_sides) := ⟨rfl, rfl, rfl, by decide +kernel, rfl, by decide +kernel, by decide +kernel⟩
def b_law_sides : SD :=
  (sSeq (sAsg (dLst (dCons (dTup dNil) dNil)) (dgName 1)) (sSeq (sFor (dRng2 (dCons (dC (.int 1)) (dCons (dVar 0) dNil))) (dgName 2) (sAsg (dBin oAdd (dVar 1) (dFresh (dLcx (dVal (dVar 1)) (dgName 3)
  tTrue (dBin oAdd (dVar 3) (dTup (dCons (dVar 2) dNil))) ([3])))) (dgName 1))) (sRet (dTmpFn gSort (dLcx (dVal (dVar 1)) (dgName 3) (tVal (dBin oNe (dVar 3) (dTup dNil))) (dVar 3) ([3]))))))
def f_law_sides : List PV → M PV := fn0 4 b_law_sides
theorem h_law_sides {P : Program} {w : World} {K : PySem.W.Frag} {mg : Str → Option Value} {base : Heap} {f : Addr} {fd : FuncData} (nb : NB mg) (T : Stands K mg "_law_sides" st_law_sides ["_law_n"] f fd)  : Has P w K mg base CX0 "_law_sides" 1 1 f_law_sides := by
  refine has0n (b := b_law_sides) 1 4 0 T sc_law_sides rfl rfl fun cdv A outer s H E hr => ?_
  have sc := sc_law_sides
  have u64 := hr.units
  have u65 : (A.deeper (envOfC "_law_sides" (defScope st_law_sides) s.heap.objs.size f cdv)).units + 65 < cLine := by have := hr.un; omega
  have u128 : (A.deeper (envOfC "_law_sides" (defScope st_law_sides) s.heap.objs.size f cdv)).units + 128 < cLine := by have := hr.un; omega
  exact
    (dss_cons (ds_set 1 sc.nd (de_lst (da_cons (de_tup da_nil) da_nil))) (dss_cons (ds_for PassesOwn.never rfl (di_range2 (by rfl) nb.n_range (da_cons de_int (da_cons (de_var 0) da_nil))) (dg_name 2
    sc.nd) (dss_one (ds_set 1 sc.nd (de_bin p_add (de_var 1) (de_fresh (dl_lc ([("_law_side", 3)]) rfl sc.nd (di_val (de_var 1)) (fun _ _ _ _ _ => dg_name 3 sc.nd) (fun _ _ _ _ _ => dts_nil) (fun _ _
    _ _ _ => (de_bin p_add (de_var 3) (de_tup (da_cons (de_var 2) da_nil)))) (ok := by dsimp only [cx0, Cx.nox, Cx.wish, cxOf, Cx.blk, envOfC, compEnvC, relabel_eq]; decide +kernel))))))) (dss_one
    (ds_ret (de_callBLl (c_sorted u65) (by rfl) nb.n_sorted bo_sorted (dl_lc ([("_law_side", 3)]) rfl sc.nd (di_val (de_var 1)) (fun _ _ _ _ _ => dg_name 3 sc.nd) (fun _ _ _ _ _ => (dts_one (dt_cmp
    (p_ne u64) (de_var 3) (de_tup da_nil)))) (fun _ _ _ _ _ => de_var 3) (ok := by dsimp only [cx0, Cx.nox, Cx.wish, cxOf, Cx.blk, envOfC, compEnvC, relabel_eq]; decide +kernel)))))))
abbrev st_law_some : Stmt := topS 17
theorem sc_law_some : FnScope ["_law_deck_here", "_law_things", "_law_many", "_law_one"] ["_law_deck_here", "_law_things"] (defScope st_law_some) := ⟨rfl, rfl, rfl, by decide +kernel, rfl, by decide +kernel, by decide +kernel⟩
def b_law_some : SD :=
  (sSeq (sAsg (dBin oIx (dLst (dCons (dC (.int 1)) (dCons (dC (.int 2)) (dCons (dC (.int 4)) (dCons (dC (.int 6)) dNil))))) (dCall f_law_draw (dCons (dVar 0) (dCons (dC (.int 4)) dNil)))) (dgName 2))
  (sRet (dFresh (dLcx (dVal (dVar 1)) (dgName 3) (tOrD (tVal (dBin oEq (dVar 2) (dC (.int 1)))) (tVal (dBin oLt (dCall f_law_draw (dCons (dVar 0) (dCons (dC (.int 7)) dNil))) (dBin oSub (dC (.int 8))
  (dVar 2))))) (dVar 3) ([3])))))
def f_law_some : List PV → M PV := fn0 4 b_law_some
theorem h_law_some {P : Program} {w : World} {K : PySem.W.Frag} {mg : Str → Option Value} {base : Heap} {f : Addr} {fd : FuncData} (nb : NB mg) (T : Stands K mg "_law_some" st_law_some ["_law_deck_here", "_law_things"] f fd) (h_law_draw : Has P w K mg base CX0 "_law_draw" 2 1 (f_law_draw)) : Has P w K mg base CX0 "_law_some" 2 2 f_law_some := by
  refine has0n (b := b_law_some) 2 4 1 T sc_law_some rfl rfl fun cdv A outer s H E hr => ?_
  have sc := sc_law_some
  have u64 := hr.units
  have u65 : (A.deeper (envOfC "_law_some" (defScope st_law_some) s.heap.objs.size f cdv)).units + 65 < cLine := by have := hr.un; omega
  have u128 : (A.deeper (envOfC "_law_some" (defScope st_law_some) s.heap.objs.size f cdv)).units + 128 < cLine := by have := hr.un; omega
  exact
    (dss_cons (ds_set 2 sc.nd (de_ix p_ix (de_lst (da_cons de_int (da_cons de_int (da_cons de_int (da_cons de_int da_nil))))) (de_call (h_law_draw.mono (by omega)) hr (fun _ => pass0At) (da_cons
    (de_var 0) (da_cons de_int da_nil)) (argN_cons (argN_cons argN_nil))))) (dss_one (ds_ret (de_fresh (dl_lc ([("_law_one", 3)]) rfl sc.nd (di_val (de_var 1)) (fun _ _ _ _ _ => dg_name 3 sc.nd) (fun
    _ _ _ _ _ => (dts_one (dt_w (dw_or (dt_cmp (p_eq u64) (de_var 2) de_int) (dw_or1 (dt_cmp (p_lt u65) (de_call (h_law_draw.mono (by omega)) hr (fun _ => pass0At) (da_cons (de_var 0) (da_cons de_int
    da_nil)) (argN_cons (argN_cons argN_nil))) (de_bin p_sub de_int (de_var 2)))))))) (fun _ _ _ _ _ => de_var 3)
    (ok := by dsimp only [cx0, Cx.nox, Cx.wish, cxOf, Cx.blk, envOfC, compEnvC, relabel_eq]; decide +kernel))))))
abbrev st_law_times_right : Stmt := topS 22
theorem sc_law_times_right : FnScope ["_law_deck_here", "_law_n", "_law_sides_here", "_law_fold", "_law_few", "_law_more", "_law_due", "_law_side", "_law_weight", "_law_row", "_law_far"] ["_law_deck_here", "_law_n", "_law_sides_here"] (defScope st_law_times_right) := ⟨rfl, rfl, rfl, by decide +kernel, rfl, by decide +kernel, by decide +kernel⟩
def b_law_times_right : SD :=
  (sSeq (sAsg (dBin oAdd (dC (.int 1)) (dCall f_law_draw (dCons (dVar 0) (dCons (dC (.int 9)) dNil)))) (dgName 3)) (sSeq (sAsg (dTmpFn gTuple (dLcx (dVal (dVar 2)) (dgName 7) tTrue (dTup (dCons (dVar
  7) (dCons (dBin oAdd (dC (.int 1)) (dFn oLenS (dCons (dVar 7) dNil))) dNil))) ([7]))) (dgName 4)) (sSeq (sAsg (dTmpFn gTuple (dLcx (dVal (dVar 4)) (dgTup 2 (dgsCons (dgName 7) (dgsCons (dgName 8)
  dgsNil))) tTrue (dTup (dCons (dVar 7) (dCons (dBin oMul (dVar 3) (dVar 8)) dNil))) ([7, 8]))) (dgName 5)) (sSeq (sAsg (dTmpFn gTuple (dLcx (dVal (dCall fput_together (dCons (dVar 1) (dCons (dVar 4)
  dNil)))) (dgName 9) tTrue (dTmpFn gTuple (dLcx (dVal (dVar 9)) (dgName 10) tTrue (dBin oMul (dVar 3) (dVar 10)) ([10]))) ([9]))) (dgName 6)) (sRet (dBin oEq (dCall fput_together (dCons (dVar 1)
  (dCons (dVar 5) dNil))) (dVar 6)))))))
def f_law_times_right : List PV → M PV := fn0 11 b_law_times_right
theorem h_law_times_right {P : Program} {w : World} {K : PySem.W.Frag} {mg : Str → Option Value} {base : Heap} {f : Addr} {fd : FuncData} (nb : NB mg) (T : Stands K mg "_law_times_right" st_law_times_right ["_law_deck_here", "_law_n", "_law_sides_here"] f fd) (h_law_draw : Has P w K mg base CX0 "_law_draw" 2 1 (f_law_draw)) (hput_together : Has P w K mg base CX0 "put_together" 2 1 (fput_together)) : Has P w K mg base CX0 "_law_times_right" 3 2 f_law_times_right := by
  refine has0n (b := b_law_times_right) 3 11 1 T sc_law_times_right rfl rfl fun cdv A outer s H E hr => ?_
  have sc := sc_law_times_right
  have u64 := hr.units
  have u65 : (A.deeper (envOfC "_law_times_right" (defScope st_law_times_right) s.heap.objs.size f cdv)).units + 65 < cLine := by have := hr.un; omega
  have u128 : (A.deeper (envOfC "_law_times_right" (defScope st_law_times_right) s.heap.objs.size f cdv)).units + 128 < cLine := by have := hr.un; omega
  exact
    (dss_cons (ds_set 3 sc.nd (de_bin p_add de_int (de_call (h_law_draw.mono (by omega)) hr (fun _ => pass0At) (da_cons (de_var 0) (da_cons de_int da_nil)) (argN_cons (argN_cons argN_nil)))))
    (dss_cons (ds_set 4 sc.nd (de_callTyL c_tuple (by rfl) nb.n_tuple bo_tuple (dl_lc ([("_law_side", 7)]) rfl sc.nd (di_val (de_var 2)) (fun _ _ _ _ _ => dg_name 7 sc.nd) (fun _ _ _ _ _ => dts_nil)
    (fun _ _ _ _ _ => (de_tup (da_cons (de_var 7) (da_cons (de_bin p_add de_int (de_callB c_lenS (by rfl) nb.n_len bo_len (da_cons (de_var 7) da_nil))) da_nil))))
    (ok := by dsimp only [cx0, Cx.nox, Cx.wish, cxOf, Cx.blk, envOfC, compEnvC, relabel_eq]; decide +kernel)))) (dss_cons (ds_set 5 sc.nd (de_callTyL c_tuple (by rfl) nb.n_tuple bo_tuple (dl_lc
    ([("_law_side", 7), ("_law_weight", 8)]) rfl sc.nd (di_val (de_var 4)) (fun _ _ _ _ _ => (dg_tup rfl (dgs_cons (dg_name 7 sc.nd) (dgs_cons (dg_name 8 sc.nd) dgs_nil)))) (fun _ _ _ _ _ => dts_nil)
    (fun _ _ _ _ _ => (de_tup (da_cons (de_var 7) (da_cons (de_bin p_mul (de_var 3) (de_var 8)) da_nil))))
    (ok := by dsimp only [cx0, Cx.nox, Cx.wish, cxOf, Cx.blk, envOfC, compEnvC, relabel_eq]; decide +kernel)))) (dss_cons (ds_set 6 sc.nd (de_callTyL c_tuple (by rfl) nb.n_tuple bo_tuple (dl_lc
    ([("_law_row", 9)]) rfl sc.nd (di_val (de_call (hput_together.mono (by omega)) hr (fun _ => pass0At) (da_cons (de_var 1) (da_cons (de_var 4) da_nil)) (argN_cons (argN_cons argN_nil)))) (fun _ _ _
    _ _ => dg_name 9 sc.nd) (fun _ _ _ _ _ => dts_nil) (fun _ _ _ _ _ => (de_callTyL c_tuple (by rfl) nb.n_tuple bo_tuple (dl_lc ([("_law_far", 10)]) rfl sc.nd (di_val (de_var 9)) (fun _ _ _ _ _ =>
    dg_name 10 sc.nd) (fun _ _ _ _ _ => dts_nil) (fun _ _ _ _ _ => (de_bin p_mul (de_var 3) (de_var 10)))
    (ok := by dsimp only [cx0, Cx.nox, Cx.wish, cxOf, Cx.blk, envOfC, compEnvC, relabel_eq]; decide +kernel))))
    (ok := by dsimp only [cx0, Cx.nox, Cx.wish, cxOf, Cx.blk, envOfC, compEnvC, relabel_eq]; decide +kernel)))) (dss_one (ds_ret (de_cmp (p_eq u64) (de_call (hput_together.mono (by omega)) hr (fun _
    => pass0At) (da_cons (de_var 1) (da_cons (de_var 5) da_nil)) (argN_cons (argN_cons argN_nil))) (de_var 6))))))))
abbrev st_law_weigh : Stmt := topS 18
theorem sc_law_weigh : FnScope ["_law_deck_here", "_law_sides_here", "_law_course", "_law_found", "_law_side", "_law_some_here"] ["_law_deck_here", "_law_sides_here"] (defScope st_law_weigh) := ⟨rfl, rfl, rfl, by decide +kernel, rfl, by decide +kernel, by decide +kernel⟩
def b_law_weigh : SD :=
  (sSeq (sAsg (dCall f_law_draw (dCons (dVar 0) (dCons (dC (.int 4)) dNil))) (dgName 2)) (sSeq (sAsg (dLst dNil) (dgName 3)) (sSeq (sFor (dVal (dVar 1)) (dgName 4) (sSeq (sAsg (dLst (dCons (dC (.int
  1)) (dCons (dBin oAdd (dC (.int 1)) (dCall f_law_draw (dCons (dVar 0) (dCons (dC (.int 4)) dNil)))) (dCons (dBin oAdd (dC (.int 1)) (dCall f_law_draw (dCons (dVar 0) (dCons (dC (.int 99)) dNil))))
  (dCons (dBin oSub (dBin oPow (dC (.int 10)) (dC (.int 12))) (dCall f_law_draw (dCons (dVar 0) (dCons (dC (.int 3)) dNil)))) dNil))))) (dgName 5)) (sExpr (dMeth isLst mAppend (dVar 3) (dCons (dTup
  (dCons (dVar 4) (dCons (dBin oIx (dVar 5) (dVar 2)) dNil))) dNil))))) (sRet (dFn (oBI gTuple) (dCons (dVar 3) dNil))))))
def f_law_weigh : List PV → M PV := fn0 6 b_law_weigh
theorem h_law_weigh {P : Program} {w : World} {K : PySem.W.Frag} {mg : Str → Option Value} {base : Heap} {f : Addr} {fd : FuncData} (nb : NB mg) (T : Stands K mg "_law_weigh" st_law_weigh ["_law_deck_here", "_law_sides_here"] f fd) (h_law_draw : Has P w K mg base CX0 "_law_draw" 2 1 (f_law_draw)) : Has P w K mg base CX0 "_law_weigh" 2 2 f_law_weigh := by
  refine has0n (b := b_law_weigh) 2 6 1 T sc_law_weigh rfl rfl fun cdv A outer s H E hr => ?_
  have sc := sc_law_weigh
  have u64 := hr.units
  have u65 : (A.deeper (envOfC "_law_weigh" (defScope st_law_weigh) s.heap.objs.size f cdv)).units + 65 < cLine := by have := hr.un; omega
  have u128 : (A.deeper (envOfC "_law_weigh" (defScope st_law_weigh) s.heap.objs.size f cdv)).units + 128 < cLine := by have := hr.un; omega
  exact
    (dss_cons (ds_set 2 sc.nd (de_call (h_law_draw.mono (by omega)) hr (fun _ => pass0At) (da_cons (de_var 0) (da_cons de_int da_nil)) (argN_cons (argN_cons argN_nil)))) (dss_cons (ds_set 3 sc.nd
    (de_lst da_nil)) (dss_cons (ds_for PassesOwn.never rfl (di_val (de_var 1)) (dg_name 4 sc.nd) (dss_cons (ds_set 5 sc.nd (de_lst (da_cons de_int (da_cons (de_bin p_add de_int (de_call
    (h_law_draw.mono (by omega)) hr (fun _ => pass0At) (da_cons (de_var 0) (da_cons de_int da_nil)) (argN_cons (argN_cons argN_nil)))) (da_cons (de_bin p_add de_int (de_call (h_law_draw.mono (by
    omega)) hr (fun _ => pass0At) (da_cons (de_var 0) (da_cons de_int da_nil)) (argN_cons (argN_cons argN_nil)))) (da_cons (de_bin p_sub (de_bin p_pow de_int de_int) (de_call (h_law_draw.mono (by
    omega)) hr (fun _ => pass0At) (da_cons (de_var 0) (da_cons de_int da_nil)) (argN_cons (argN_cons argN_nil)))) da_nil)))))) (dss_one (ds_expr (de_bm1 kd_list PySem.F.plainAttrs_list
    PySem.F.slot_list_append PySem.F.type_list_append p_append (de_var 3) (da_cons (de_tup (da_cons (de_var 4) (da_cons (de_ix p_ix (de_var 5) (de_var 2)) da_nil))) da_nil)))))) (dss_one (ds_ret
    (de_callTy (bi_of c_tuple) (by rfl) nb.n_tuple bo_tuple (da_cons (de_var 3) da_nil)))))))
abbrev stlaw : Stmt := topS 23
theorem sclaw : FnScope ["_law_script", "_law_deck_here", "_law_turn", "_law_n", "_law_every", "_law_sides_here", "_law_weighted", "_law_one", "_law_cut", "_law_both"] ["_law_script"] (defScope stlaw) := ⟨rfl, rfl, rfl, by decide +kernel, rfl, by decide +kernel, by decide +kernel⟩
def blaw : SD :=
  (sSeq (sAsg (dCall f_law_deck (dCons (dVar 0) dNil)) (dgName 1)) (sSeq (sFor (dRng1 (dCons (dC (.int 5)) dNil)) (dgName 2) (sSeq (sAsg (dBin oAdd (dC (.int 1)) (dCall f_law_draw (dCons (dVar 1)
  (dCons (dC (.int 8)) dNil)))) (dgName 3)) (sSeq (sAsg (dCall f_law_sides (dCons (dVar 3) dNil)) (dgName 4)) (sSeq (sAsg (dCall f_law_some (dCons (dVar 1) (dCons (dVar 4) dNil))) (dgName 5)) (sSeq
  (sAsg (dCall f_law_weigh (dCons (dVar 1) (dCons (dVar 5) dNil))) (dgName 6)) (sSeq (sFor (dVal (dLst (dCons (dTup dNil) (dCons (dVar 6) (dCons (dCall f_law_weigh (dCons (dVar 1) (dCons (dVar 4)
  dNil))) dNil))))) (dgName 7) (sIf (tNotD (tVal (dCall f_law_right (dCons (dVar 3) (dCons (dVar 7) dNil))))) (sRet (dC (.bl false))) sNext)) (sSeq (sAsg (dCall f_law_draw (dCons (dVar 1) (dCons
  (dBin oAdd (dFn oLenS (dCons (dVar 5) dNil)) (dC (.int 1))) dNil))) (dgName 8)) (sSeq (sAsg (dCall f_law_plus (dCons (dCall fput_together (dCons (dVar 3) (dCons (dSlice oSl (dVar 6) dPNone (dPSome
  (dVar 8))) dNil))) (dCons (dCall fput_together (dCons (dVar 3) (dCons (dSlice oSl (dVar 6) (dPSome (dVar 8)) dPNone) dNil))) dNil))) (dgName 9)) (sIf (tOrD (tVal (dBin oNe (dCall fput_together
  (dCons (dVar 3) (dCons (dVar 6) dNil))) (dVar 9))) (tNotD (tVal (dCall f_law_times_right (dCons (dVar 1) (dCons (dVar 3) (dCons (dVar 5) dNil))))))) (sRet (dC (.bl false))) sNext))))))))) (sRet (dC
  (.bl true)))))
def flaw : List PV → M PV := fn0 10 blaw
theorem hlaw {P : Program} {w : World} {K : PySem.W.Frag} {mg : Str → Option Value} {base : Heap} {f : Addr} {fd : FuncData} (nb : NB mg) (T : Stands K mg "law" stlaw ["_law_script"] f fd) (h_law_deck : Has P w K mg base CX0 "_law_deck" 1 1 (f_law_deck)) (h_law_draw : Has P w K mg base CX0 "_law_draw" 2 1 (f_law_draw)) (h_law_plus : Has P w K mg base CX0 "_law_plus" 2 1 (f_law_plus)) (h_law_right : HasG P w K mg base CX0 "_law_right" 2 6 (f_law_right)) (h_law_sides : Has P w K mg base CX0 "_law_sides" 1 1 (f_law_sides)) (h_law_some : Has P w K mg base CX0 "_law_some" 2 2 (f_law_some)) (h_law_times_right : Has P w K mg base CX0 "_law_times_right" 3 2 (f_law_times_right)) (h_law_weigh : Has P w K mg base CX0 "_law_weigh" 2 2 (f_law_weigh)) (hput_together : Has P w K mg base CX0 "put_together" 2 1 (fput_together)) : FnG P w K mg base CX0 7 f fd ["_law_script"] (spD K 1 flaw) := by
  refine fnG0n (b := blaw) 1 10 6 T sclaw rfl rfl fun cdv A outer s H E hG hr => ?_
  have sc := sclaw
  have u64 := hr.units
  have u65 : (A.deeper (envOfC "law" (defScope stlaw) s.heap.objs.size f cdv)).units + 65 < cLine := by have := hr.un; omega
  have u128 : (A.deeper (envOfC "law" (defScope stlaw) s.heap.objs.size f cdv)).units + 128 < cLine := by have := hr.un; omega
  exact
    (dss_cons (ds_set 1 sc.nd (de_call (h_law_deck.mono (by omega)) hr (fun _ => pass0At) (da_cons (de_var 0) da_nil) (argN_cons argN_nil))) (dss_cons (ds_for PassesOwn.never rfl (di_range1 (by rfl)
    nb.n_range (da_cons de_int da_nil)) (dg_name 2 sc.nd) (dss_cons (ds_set 3 sc.nd (de_bin p_add de_int (de_call (h_law_draw.mono (by omega)) hr (fun _ => pass0At) (da_cons (de_var 1) (da_cons
    de_int da_nil)) (argN_cons (argN_cons argN_nil))))) (dss_cons (ds_set 4 sc.nd (de_call (h_law_sides.mono (by omega)) hr (fun _ => pass0At) (da_cons (de_var 3) da_nil) (argN_cons argN_nil)))
    (dss_cons (ds_set 5 sc.nd (de_call (h_law_some.mono (by omega)) hr (fun _ => pass0At) (da_cons (de_var 1) (da_cons (de_var 4) da_nil)) (argN_cons (argN_cons argN_nil)))) (dss_cons (ds_set 6 sc.nd
    (de_call (h_law_weigh.mono (by omega)) hr (fun _ => pass0At) (da_cons (de_var 1) (da_cons (de_var 5) da_nil)) (argN_cons (argN_cons argN_nil)))) (dss_cons (ds_for PassesOwn.never rfl (di_val
    (de_lst (da_cons (de_tup da_nil) (da_cons (de_var 6) (da_cons (de_call (h_law_weigh.mono (by omega)) hr (fun _ => pass0At) (da_cons (de_var 1) (da_cons (de_var 4) da_nil)) (argN_cons (argN_cons
    argN_nil))) da_nil))))) (dg_name 7 sc.nd) (dss_one (ds_if (dt_not (dt_val (de_callG hG (h_law_right.mono (by omega)) hr (fun _ => pass0At) (da_cons (de_var 3) (da_cons (de_var 7) da_nil))
    (argN_cons (argN_cons argN_nil))))) (dss_one (ds_ret de_bl)) dss_nil))) (dss_cons (ds_set 8 sc.nd (de_call (h_law_draw.mono (by omega)) hr (fun _ => pass0At) (da_cons (de_var 1) (da_cons (de_bin
    p_add (de_callB c_lenS (by rfl) nb.n_len bo_len (da_cons (de_var 5) da_nil)) de_int) da_nil)) (argN_cons (argN_cons argN_nil)))) (dss_cons (ds_set 9 sc.nd (de_call (h_law_plus.mono (by omega)) hr
    (fun _ => pass0At) (da_cons (de_call (hput_together.mono (by omega)) hr (fun _ => pass0At) (da_cons (de_var 3) (da_cons (de_slice p_sl (de_var 6) do_none (do_some (de_var 8))) da_nil)) (argN_cons
    (argN_cons argN_nil))) (da_cons (de_call (hput_together.mono (by omega)) hr (fun _ => pass0At) (da_cons (de_var 3) (da_cons (de_slice p_sl (de_var 6) (do_some (de_var 8)) do_none) da_nil))
    (argN_cons (argN_cons argN_nil))) da_nil)) (argN_cons (argN_cons argN_nil)))) (dss_one (ds_if (dt_w (dw_or (dt_cmp (p_ne u64) (de_call (hput_together.mono (by omega)) hr (fun _ => pass0At)
    (da_cons (de_var 3) (da_cons (de_var 6) da_nil)) (argN_cons (argN_cons argN_nil))) (de_var 9)) (dw_or1 (dt_not (dt_val (de_call (h_law_times_right.mono (by omega)) hr (fun _ => pass0At) (da_cons
    (de_var 1) (da_cons (de_var 3) (da_cons (de_var 5) da_nil))) (argN_cons (argN_cons (argN_cons argN_nil))))))))) (dss_one (ds_ret de_bl)) dss_nil)))))))))) (dss_one (ds_ret de_bl))))
theorem all_mk {l : PySem.W.OpenLaw} {w : World} {K : PySem.W.Frag} {h : Heap} {mg : Str → Option Value} {fa : Addr} (X : K.In h) (G : h.Ns mainGlobals mg) (hfa : mg "law" = some (.ref fa))
    {f0 : Addr} {od0 an0 : Option Addr} {sl0 : Array (Option Value)} {oc0 kV0 dc0 pm0 cd0 ct0 : Value}
    {f1 : Addr} {od1 an1 : Option Addr} {sl1 : Array (Option Value)} {oc1 kV1 dc1 pm1 cd1 ct1 : Value}
    {f2 : Addr} {od2 an2 : Option Addr} {sl2 : Array (Option Value)} {oc2 kV2 dc2 pm2 cd2 ct2 : Value}
    {f3 : Addr} {od3 an3 : Option Addr} {sl3 : Array (Option Value)} {oc3 kV3 dc3 pm3 cd3 ct3 : Value}
    {f4 : Addr} {od4 an4 : Option Addr} {sl4 : Array (Option Value)} {oc4 kV4 dc4 pm4 cd4 ct4 : Value}
    {f5 : Addr} {od5 an5 : Option Addr} {sl5 : Array (Option Value)} {oc5 kV5 dc5 pm5 cd5 ct5 : Value}
    {f6 : Addr} {od6 an6 : Option Addr} {sl6 : Array (Option Value)} {oc6 kV6 dc6 pm6 cd6 ct6 : Value}
    {f7 : Addr} {od7 an7 : Option Addr} {sl7 : Array (Option Value)} {oc7 kV7 dc7 pm7 cd7 ct7 : Value}
    {f8 : Addr} {od8 an8 : Option Addr} {sl8 : Array (Option Value)} {oc8 kV8 dc8 pm8 cd8 ct8 : Value}
    {f9 : Addr} {od9 an9 : Option Addr} {sl9 : Array (Option Value)} {oc9 kV9 dc9 pm9 cd9 ct9 : Value}
    {f10 : Addr} {od10 an10 : Option Addr} {sl10 : Array (Option Value)} {oc10 kV10 dc10 pm10 cd10 ct10 : Value}
    {f11 : Addr} {od11 an11 : Option Addr} {sl11 : Array (Option Value)} {oc11 kV11 dc11 pm11 cd11 ct11 : Value}
    {f12 : Addr} {od12 an12 : Option Addr} {sl12 : Array (Option Value)} {oc12 kV12 dc12 pm12 cd12 ct12 : Value}
    {f13 : Addr} {od13 an13 : Option Addr} {sl13 : Array (Option Value)} {oc13 kV13 dc13 pm13 cd13 ct13 : Value}
    {f14 : Addr} {od14 an14 : Option Addr} {sl14 : Array (Option Value)} {oc14 kV14 dc14 pm14 cd14 ct14 : Value}
    {f15 : Addr} {od15 an15 : Option Addr} {sl15 : Array (Option Value)} {oc15 kV15 dc15 pm15 cd15 ct15 : Value}
    {f16 : Addr} {od16 an16 : Option Addr} {sl16 : Array (Option Value)} {oc16 kV16 dc16 pm16 cd16 ct16 : Value}
    {f17 : Addr} {od17 an17 : Option Addr} {sl17 : Array (Option Value)} {oc17 kV17 dc17 pm17 cd17 ct17 : Value}
    {f18 : Addr} {od18 an18 : Option Addr} {sl18 : Array (Option Value)} {oc18 kV18 dc18 pm18 cd18 ct18 : Value}
    {tk0 : Tok}
    {tk1 : Tok}
    (a0 : PySem.W.nsIn K mainGlobals "_law_deck" = some (some (.ref f0)))
    (l0 : K.lookup f0 = some ⟨oc0, od0, .func (PySem.W.fnOf "_law_deck" "_law_deck" (defArgs st_law_deck) (defBody st_law_deck) (defScope st_law_deck) .none kV0 dc0 pm0 an0 cd0 ct0), sl0⟩)
    (c0 : PySem.W.codeIn K cd0 "_law_deck" = true)
    (k0 : PySem.W.keepIn K (.ref f0) = true)
    (a1 : PySem.W.nsIn K mainGlobals "_law_draw" = some (some (.ref f1)))
    (l1 : K.lookup f1 = some ⟨oc1, od1, .func (PySem.W.fnOf "_law_draw" "_law_draw" (defArgs st_law_draw) (defBody st_law_draw) (defScope st_law_draw) .none kV1 dc1 pm1 an1 cd1 ct1), sl1⟩)
    (c1 : PySem.W.codeIn K cd1 "_law_draw" = true)
    (k1 : PySem.W.keepIn K (.ref f1) = true)
    (a2 : PySem.W.nsIn K mainGlobals "_law_plus" = some (some (.ref f2)))
    (l2 : K.lookup f2 = some ⟨oc2, od2, .func (PySem.W.fnOf "_law_plus" "_law_plus" (defArgs st_law_plus) (defBody st_law_plus) (defScope st_law_plus) .none kV2 dc2 pm2 an2 cd2 ct2), sl2⟩)
    (c2 : PySem.W.codeIn K cd2 "_law_plus" = true)
    (k2 : PySem.W.keepIn K (.ref f2) = true)
    (a3 : PySem.W.nsIn K mainGlobals "_law_put" = some (some (.ref f3)))
    (l3 : K.lookup f3 = some ⟨oc3, od3, .func (PySem.W.fnOf "_law_put" "_law_put" (defArgs st_law_put) (defBody st_law_put) (defScope st_law_put) .none kV3 dc3 pm3 an3 cd3 ct3), sl3⟩)
    (c3 : PySem.W.codeIn K cd3 "_law_put" = true)
    (k3 : PySem.W.keepIn K (.ref f3) = true)
    (a4 : PySem.W.nsIn K mainGlobals "is_far" = some (some (.ref f4)))
    (l4 : K.lookup f4 = some ⟨oc4, od4, .func (PySem.W.fnOf "is_far" "is_far" (defArgs stis_far) (defBody stis_far) (defScope stis_far) .none kV4 dc4 pm4 an4 cd4 ct4), sl4⟩)
    (c4 : PySem.W.codeIn K cd4 "is_far" = true)
    (k4 : PySem.W.keepIn K (.ref f4) = true)
    (a5 : PySem.W.nsIn K mainGlobals "is_row" = some (some (.ref f5)))
    (l5 : K.lookup f5 = some ⟨oc5, od5, .func (PySem.W.fnOf "is_row" "is_row" (defArgs stis_row) (defBody stis_row) (defScope stis_row) .none kV5 dc5 pm5 an5 cd5 ct5), sl5⟩)
    (c5 : PySem.W.codeIn K cd5 "is_row" = true)
    (k5 : PySem.W.keepIn K (.ref f5) = true)
    (a6 : PySem.W.nsIn K mainGlobals "is_square" = some (some (.ref f6)))
    (l6 : K.lookup f6 = some ⟨oc6, od6, .func (PySem.W.fnOf "is_square" "is_square" (defArgs stis_square) (defBody stis_square) (defScope stis_square) .none kV6 dc6 pm6 an6 cd6 ct6), sl6⟩)
    (c6 : PySem.W.codeIn K cd6 "is_square" = true)
    (k6 : PySem.W.keepIn K (.ref f6) = true)
    (a7 : PySem.W.nsIn K mainGlobals "own_fault" = some (some (.ref f7)))
    (l7 : K.lookup f7 = some ⟨oc7, od7, .func (PySem.W.fnOf "own_fault" "own_fault" (defArgs stown_fault) (defBody stown_fault) (defScope stown_fault) .none kV7 dc7 pm7 an7 cd7 ct7), sl7⟩)
    (c7 : PySem.W.codeIn K cd7 "own_fault" = true)
    (k7 : PySem.W.keepIn K (.ref f7) = true)
    (a8 : PySem.W.nsIn K mainGlobals "round_fault" = some (some (.ref f8)))
    (l8 : K.lookup f8 = some ⟨oc8, od8, .func (PySem.W.fnOf "round_fault" "round_fault" (defArgs stround_fault) (defBody stround_fault) (defScope stround_fault) .none kV8 dc8 pm8 an8 cd8 ct8), sl8⟩)
    (c8 : PySem.W.codeIn K cd8 "round_fault" = true)
    (k8 : PySem.W.keepIn K (.ref f8) = true)
    (a9 : PySem.W.nsIn K mainGlobals "unlike_fault" = some (some (.ref f9)))
    (l9 : K.lookup f9 = some ⟨oc9, od9, .func (PySem.W.fnOf "unlike_fault" "unlike_fault" (defArgs stunlike_fault) (defBody stunlike_fault) (defScope stunlike_fault) .none kV9 dc9 pm9 an9 cd9 ct9), sl9⟩)
    (c9 : PySem.W.codeIn K cd9 "unlike_fault" = true)
    (k9 : PySem.W.keepIn K (.ref f9) = true)
    (a10 : PySem.W.nsIn K mainGlobals "tablefault" = some (some (.ref f10)))
    (l10 : K.lookup f10 = some ⟨oc10, od10, .func (PySem.W.fnOf "tablefault" "tablefault" (defArgs sttablefault) (defBody sttablefault) (defScope sttablefault) .none kV10 dc10 pm10 an10 cd10 ct10), sl10⟩)
    (c10 : PySem.W.codeIn K cd10 "tablefault" = true)
    (k10 : PySem.W.keepIn K (.ref f10) = true)
    (a11 : PySem.W.nsIn K mainGlobals "is_table" = some (some (.ref f11)))
    (l11 : K.lookup f11 = some ⟨oc11, od11, .func (PySem.W.fnOf "is_table" "is_table" (defArgs stis_table) (defBody stis_table) (defScope stis_table) .none kV11 dc11 pm11 an11 cd11 ct11), sl11⟩)
    (c11 : PySem.W.codeIn K cd11 "is_table" = true)
    (k11 : PySem.W.keepIn K (.ref f11) = true)
    (a12 : PySem.W.nsIn K mainGlobals "put_together" = some (some (.ref f12)))
    (l12 : K.lookup f12 = some ⟨oc12, od12, .func (PySem.W.fnOf "put_together" "put_together" (defArgs stput_together) (defBody stput_together) (defScope stput_together) .none kV12 dc12 pm12 an12 cd12 ct12), sl12⟩)
    (c12 : PySem.W.codeIn K cd12 "put_together" = true)
    (k12 : PySem.W.keepIn K (.ref f12) = true)
    (a13 : PySem.W.nsIn K mainGlobals "_law_right" = some (some (.ref f13)))
    (l13 : K.lookup f13 = some ⟨oc13, od13, .func (PySem.W.fnOf "_law_right" "_law_right" (defArgs st_law_right) (defBody st_law_right) (defScope st_law_right) .none kV13 dc13 pm13 an13 cd13 ct13), sl13⟩)
    (c13 : PySem.W.codeIn K cd13 "_law_right" = true)
    (k13 : PySem.W.keepIn K (.ref f13) = true)
    (a14 : PySem.W.nsIn K mainGlobals "_law_sides" = some (some (.ref f14)))
    (l14 : K.lookup f14 = some ⟨oc14, od14, .func (PySem.W.fnOf "_law_sides" "_law_sides" (defArgs st_law_sides) (defBody st_law_sides) (defScope st_law_sides) .none kV14 dc14 pm14 an14 cd14 ct14), sl14⟩)
    (c14 : PySem.W.codeIn K cd14 "_law_sides" = true)
    (k14 : PySem.W.keepIn K (.ref f14) = true)
    (a15 : PySem.W.nsIn K mainGlobals "_law_some" = some (some (.ref f15)))
    (l15 : K.lookup f15 = some ⟨oc15, od15, .func (PySem.W.fnOf "_law_some" "_law_some" (defArgs st_law_some) (defBody st_law_some) (defScope st_law_some) .none kV15 dc15 pm15 an15 cd15 ct15), sl15⟩)
    (c15 : PySem.W.codeIn K cd15 "_law_some" = true)
    (k15 : PySem.W.keepIn K (.ref f15) = true)
    (a16 : PySem.W.nsIn K mainGlobals "_law_times_right" = some (some (.ref f16)))
    (l16 : K.lookup f16 = some ⟨oc16, od16, .func (PySem.W.fnOf "_law_times_right" "_law_times_right" (defArgs st_law_times_right) (defBody st_law_times_right) (defScope st_law_times_right) .none kV16 dc16 pm16 an16 cd16 ct16), sl16⟩)
    (c16 : PySem.W.codeIn K cd16 "_law_times_right" = true)
    (k16 : PySem.W.keepIn K (.ref f16) = true)
    (a17 : PySem.W.nsIn K mainGlobals "_law_weigh" = some (some (.ref f17)))
    (l17 : K.lookup f17 = some ⟨oc17, od17, .func (PySem.W.fnOf "_law_weigh" "_law_weigh" (defArgs st_law_weigh) (defBody st_law_weigh) (defScope st_law_weigh) .none kV17 dc17 pm17 an17 cd17 ct17), sl17⟩)
    (c17 : PySem.W.codeIn K cd17 "_law_weigh" = true)
    (k17 : PySem.W.keepIn K (.ref f17) = true)
    (a18 : PySem.W.nsIn K mainGlobals "law" = some (some (.ref f18)))
    (l18 : K.lookup f18 = some ⟨oc18, od18, .func (PySem.W.fnOf "law" "law" (defArgs stlaw) (defBody stlaw) (defScope stlaw) .none kV18 dc18 pm18 an18 cd18 ct18), sl18⟩)
    (c18 : PySem.W.codeIn K cd18 "law" = true)
    (k18 : PySem.W.keepIn K (.ref f18) = true)
    (z0 : PySem.W.nsIn K mainGlobals "abs" = some none)
    (z1 : PySem.W.nsIn K mainGlobals "all" = some none)
    (z2 : PySem.W.nsIn K mainGlobals "bool" = some none)
    (z3 : PySem.W.nsIn K mainGlobals "enumerate" = some none)
    (z4 : PySem.W.nsIn K mainGlobals "int" = some none)
    (z5 : PySem.W.nsIn K mainGlobals "isinstance" = some none)
    (z6 : PySem.W.nsIn K mainGlobals "len" = some none)
    (z7 : PySem.W.nsIn K mainGlobals "range" = some none)
    (z8 : PySem.W.nsIn K mainGlobals "repr" = some none)
    (z9 : PySem.W.nsIn K mainGlobals "sorted" = some none)
    (z10 : PySem.W.nsIn K mainGlobals "sum" = some none)
    (z11 : PySem.W.nsIn K mainGlobals "tuple" = some none)
    (z12 : PySem.W.nsIn K mainGlobals "zip" = some none)
    (y0 : PySem.W.nsIn K mainGlobals "FAR" = some (some (.int 1000000000000000 tk0)))
    (y1 : PySem.W.nsIn K mainGlobals "HOUSES" = some (some (.int 8 tk1))) :
    ∃ fd : FuncData, (∀ (s : Shared) (v : Value), BindsTo s fd ⟨[v], []⟩ [("_law_script", v)]) ∧ ∀ base : Heap, K.In base → base.Ns mainGlobals mg → FnG l.prog w K mg base CX0 7 fa fd ["_law_script"] (spD K 1 flaw) := by
  have e := hfa.symm.trans (PySem.W.mg_of X G a18)
  cases e
  have nb : NB mg := ⟨PySem.W.mg_none_of X G z0, PySem.W.mg_none_of X G z1, PySem.W.mg_none_of X G z2, PySem.W.mg_none_of X G z3, PySem.W.mg_none_of X G z4, PySem.W.mg_none_of X G z5, PySem.W.mg_none_of X G z6, PySem.W.mg_none_of X G z7, PySem.W.mg_none_of X G z8, PySem.W.mg_none_of X G z9, PySem.W.mg_none_of X G z10, PySem.W.mg_none_of X G z11, PySem.W.mg_none_of X G z12, ⟨_, PySem.W.mg_of X G y0, ⟨_, rfl⟩⟩, ⟨_, PySem.W.mg_of X G y1, ⟨_, rfl⟩⟩⟩
  have F0 := fun_mk (st := st_law_deck) l0 c0 k0
  have T0 : Stands K mg "_law_deck" st_law_deck ["_law_script"] _ _ := ⟨PySem.W.mg_of X G a0, F0, F0.binds (ps := ["_law_script"]) fun _ _ _ _ _ _ us hl => match us, hl with | [_], _ => rfl⟩
  have F1 := fun_mk (st := st_law_draw) l1 c1 k1
  have T1 : Stands K mg "_law_draw" st_law_draw ["_law_deck_here", "_law_many"] _ _ := ⟨PySem.W.mg_of X G a1, F1, F1.binds (ps := ["_law_deck_here", "_law_many"]) fun _ _ _ _ _ _ us hl => match us, hl with | [_, _], _ => rfl⟩
  have F2 := fun_mk (st := st_law_plus) l2 c2 k2
  have T2 : Stands K mg "_law_plus" st_law_plus ["_law_one", "_law_other"] _ _ := ⟨PySem.W.mg_of X G a2, F2, F2.binds (ps := ["_law_one", "_law_other"]) fun _ _ _ _ _ _ us hl => match us, hl with | [_, _], _ => rfl⟩
  have F3 := fun_mk (st := st_law_put) l3 c3 k3
  have T3 : Stands K mg "_law_put" st_law_put ["_law_n", "_law_weighted"] _ _ := ⟨PySem.W.mg_of X G a3, F3, F3.binds (ps := ["_law_n", "_law_weighted"]) fun _ _ _ _ _ _ us hl => match us, hl with | [_, _], _ => rfl⟩
  have F4 := fun_mk (st := stis_far) l4 c4 k4
  have T4 : Stands K mg "is_far" stis_far ["thing"] _ _ := ⟨PySem.W.mg_of X G a4, F4, F4.binds (ps := ["thing"]) fun _ _ _ _ _ _ us hl => match us, hl with | [_], _ => rfl⟩
  have F5 := fun_mk (st := stis_row) l5 c5 k5
  have T5 : Stands K mg "is_row" stis_row ["many", "thing"] _ _ := ⟨PySem.W.mg_of X G a5, F5, F5.binds (ps := ["many", "thing"]) fun _ _ _ _ _ _ us hl => match us, hl with | [_, _], _ => rfl⟩
  have F6 := fun_mk (st := stis_square) l6 c6 k6
  have T6 : Stands K mg "is_square" stis_square ["thing"] _ _ := ⟨PySem.W.mg_of X G a6, F6, F6.binds (ps := ["thing"]) fun _ _ _ _ _ _ us hl => match us, hl with | [_], _ => rfl⟩
  have F7 := fun_mk (st := stown_fault) l7 c7 k7
  have T7 : Stands K mg "own_fault" stown_fault ["square"] _ _ := ⟨PySem.W.mg_of X G a7, F7, F7.binds (ps := ["square"]) fun _ _ _ _ _ _ us hl => match us, hl with | [_], _ => rfl⟩
  have F8 := fun_mk (st := stround_fault) l8 c8 k8
  have T8 : Stands K mg "round_fault" stround_fault ["square"] _ _ := ⟨PySem.W.mg_of X G a8, F8, F8.binds (ps := ["square"]) fun _ _ _ _ _ _ us hl => match us, hl with | [_], _ => rfl⟩
  have F9 := fun_mk (st := stunlike_fault) l9 c9 k9
  have T9 : Stands K mg "unlike_fault" stunlike_fault ["square"] _ _ := ⟨PySem.W.mg_of X G a9, F9, F9.binds (ps := ["square"]) fun _ _ _ _ _ _ us hl => match us, hl with | [_], _ => rfl⟩
  have F10 := fun_mk (st := sttablefault) l10 c10 k10
  have T10 : Stands K mg "tablefault" sttablefault ["thing"] _ _ := ⟨PySem.W.mg_of X G a10, F10, F10.binds (ps := ["thing"]) fun _ _ _ _ _ _ us hl => match us, hl with | [_], _ => rfl⟩
  have F11 := fun_mk (st := stis_table) l11 c11 k11
  have T11 : Stands K mg "is_table" stis_table ["thing"] _ _ := ⟨PySem.W.mg_of X G a11, F11, F11.binds (ps := ["thing"]) fun _ _ _ _ _ _ us hl => match us, hl with | [_], _ => rfl⟩
  have F12 := fun_mk (st := stput_together) l12 c12 k12
  have T12 : Stands K mg "put_together" stput_together ["n", "weighted"] _ _ := ⟨PySem.W.mg_of X G a12, F12, F12.binds (ps := ["n", "weighted"]) fun _ _ _ _ _ _ us hl => match us, hl with | [_, _], _ => rfl⟩
  have F13 := fun_mk (st := st_law_right) l13 c13 k13
  have T13 : Stands K mg "_law_right" st_law_right ["_law_n", "_law_weighted"] _ _ := ⟨PySem.W.mg_of X G a13, F13, F13.binds (ps := ["_law_n", "_law_weighted"]) fun _ _ _ _ _ _ us hl => match us, hl with | [_, _], _ => rfl⟩
  have F14 := fun_mk (st := st_law_sides) l14 c14 k14
  have T14 : Stands K mg "_law_sides" st_law_sides ["_law_n"] _ _ := ⟨PySem.W.mg_of X G a14, F14, F14.binds (ps := ["_law_n"]) fun _ _ _ _ _ _ us hl => match us, hl with | [_], _ => rfl⟩
  have F15 := fun_mk (st := st_law_some) l15 c15 k15
  have T15 : Stands K mg "_law_some" st_law_some ["_law_deck_here", "_law_things"] _ _ := ⟨PySem.W.mg_of X G a15, F15, F15.binds (ps := ["_law_deck_here", "_law_things"]) fun _ _ _ _ _ _ us hl => match us, hl with | [_, _], _ => rfl⟩
  have F16 := fun_mk (st := st_law_times_right) l16 c16 k16
  have T16 : Stands K mg "_law_times_right" st_law_times_right ["_law_deck_here", "_law_n", "_law_sides_here"] _ _ := ⟨PySem.W.mg_of X G a16, F16, F16.binds (ps := ["_law_deck_here", "_law_n", "_law_sides_here"]) fun _ _ _ _ _ _ us hl => match us, hl with | [_, _, _], _ => rfl⟩
  have F17 := fun_mk (st := st_law_weigh) l17 c17 k17
  have T17 : Stands K mg "_law_weigh" st_law_weigh ["_law_deck_here", "_law_sides_here"] _ _ := ⟨PySem.W.mg_of X G a17, F17, F17.binds (ps := ["_law_deck_here", "_law_sides_here"]) fun _ _ _ _ _ _ us hl => match us, hl with | [_, _], _ => rfl⟩
  have F18 := fun_mk (st := stlaw) l18 c18 k18
  have T18 : Stands K mg "law" stlaw ["_law_script"] _ _ := ⟨PySem.W.mg_of X G a18, F18, F18.binds (ps := ["_law_script"]) fun _ _ _ _ _ _ us hl => match us, hl with | [_], _ => rfl⟩
  refine ⟨PySem.W.fnOf "law" "law" (defArgs stlaw) (defBody stlaw) (defScope stlaw) .none kV18 dc18 pm18 an18 cd18 ct18, fun s v => .of_eq rfl, fun base _ _ => ?_⟩
  have H_law_deck := h_law_deck (P := l.prog) (w := w) (base := base) nb T0 
  have H_law_draw := h_law_draw (P := l.prog) (w := w) (base := base) nb T1 
  have H_law_plus := h_law_plus (P := l.prog) (w := w) (base := base) nb T2 
  have H_law_put := h_law_put (P := l.prog) (w := w) (base := base) nb T3 
  have His_far := his_far (P := l.prog) (w := w) (base := base) nb T4 
  have His_row := his_row (P := l.prog) (w := w) (base := base) nb T5 His_far
  have His_square := his_square (P := l.prog) (w := w) (base := base) nb T6 His_row
  have Hown_fault := hown_fault (P := l.prog) (w := w) (base := base) nb T7 
  have Hround_fault := hround_fault (P := l.prog) (w := w) (base := base) nb T8 
  have Hunlike_fault := hunlike_fault (P := l.prog) (w := w) (base := base) nb T9 
  have Htablefault := htablefault (P := l.prog) (w := w) (base := base) nb T10 His_square Hown_fault Hround_fault Hunlike_fault
  have His_table := his_table (P := l.prog) (w := w) (base := base) nb T11 Htablefault
  have Hput_together := hput_together (P := l.prog) (w := w) (base := base) nb T12 
  have H_law_right := h_law_right (P := l.prog) (w := w) (base := base) nb T13 H_law_put His_table Hput_together
  have H_law_sides := h_law_sides (P := l.prog) (w := w) (base := base) nb T14 
  have H_law_some := h_law_some (P := l.prog) (w := w) (base := base) nb T15 H_law_draw
  have H_law_times_right := h_law_times_right (P := l.prog) (w := w) (base := base) nb T16 H_law_draw Hput_together
  have H_law_weigh := h_law_weigh (P := l.prog) (w := w) (base := base) nb T17 H_law_draw
  exact hlaw nb T18 H_law_deck H_law_draw H_law_plus H_law_right H_law_sides H_law_some H_law_times_right H_law_weigh Hput_together
end G

namespace G
open PySem PySem.Spec PySem.W PyProof.Rows L2 D
theorem draw_spec {d c : Nat} {B m : Int} {h : VH} (D : Deck d c B h) (hm : 0 < m) (hm2 : m < 2 ^ 63) (hB : B < 2 ^ 40) :
    OK (f_law_draw [.ref d, .int m] h) fun v h' => ∃ r, v = .int r ∧ 0 ≤ r ∧ r < m ∧ Deck d c (B + 1) h' ∧ Grow d c h h' := by
  obtain ⟨k, cells, D, hk⟩ := D
  obtain ⟨hd, hc, ne, hpos, hk0, hlen⟩ := D
  unfold f_law_draw
  rw [ok_fn0]
  unfold b_law_draw
  have hd' : (h.set d (.lst [.ref c, .int (k + 1)]))[d]? = some (.lst [.ref c, .int (k + 1)]) := hg_set (hg_lt hd)
  have hc' : (h.set d (.lst [.ref c, .int (k + 1)]))[c]? = some (.lst (intL cells)) := (hg_set_ne (Ne.symm ne)).trans hc
  try simp (maxSteps := 4000000) only [ok_ret, ok_bnd, ok_lift, ok_var, ok_c, ok_bin, ok_un, ok_asB, ok_and, ok_or, ok_not, ok_chain, ok_nil, ok_cons, ok_tup, ok_lst, ok_fn, ok_tmp, ok_call, ok_meth, ok_tval, ok_tand, ok_tor, ok_tnot, ok_if, ok_pnone, ok_psome, ok_slice, ok_fresh, ok_lcx, ok_body, ok_true, ok_dtmp, ok_dval, ok_rng1, ok_rng2, ok_enum, ok_enumT, ok_zip, ok_gname, ok_gsnil, ok_gscons, ok_gtup, ok_gsub, fo_next, fo_seq, fo_asg, fo_expr, fo_ret, fo_retN, fo_if, fo_break, fo_cont, fo_par, fo_aug, fo_augS, fo_for, fo_body, vr_some, ra1, ra2, in_int, tr_bl, pa2, zp_two, sr_some, wk_tup, wk_rol, wk_str, oo_add, oo_addI, oo_sub, oo_mul, oo_fdiv, oo_mod, oo_pow, oo_shl, oo_shr, oo_and, oo_or, oo_neg, oo_inv, oo_le, oo_gt, oo_ge, oo_lt, oo_eq, oo_ne, oo_eqb, oo_is0, oo_isNot0, oo_nes, oo_eqs, oo_addT, oo_tup, oo_lst, oo_abs, oo_int, oo_intb, oo_max2, oo_min2, oo_max3, oo_min3, oo_lenT, oo_lenR, oo_gTuple, oo_gList, oo_gLen, oo_biT, oo_biR, oo_slT, oo_slR, oo_isaII, oo_isaIB, oo_isaIT, oo_isaIS, oo_isaBI, oo_isaBB, oo_isaBT, oo_isaBS, oo_isaNT, lo_lst, atI_0, atI_1, atI_2, ixN_0, ixN_1, or_ix, ot_ix, ol_ix, or_set, or_len, or_add, or_mul, or_append, or_isLst, or_bi, or_bl, or_sl, or_wk, or_sr, ot_sr, or_gtup, oo_neb, oo_isB, oo_isNotB, ok_lr1, ok_lr2, ok_tr1, ok_tr2, or_popAt, List.getElem?_cons_zero, List.getElem?_cons_succ, List.set_cons_zero, List.set_cons_succ, List.map_cons, List.map_nil, List.replicate_succ, List.replicate_zero, List.length_cons, List.length_nil, List.cons_append, List.nil_append, wipeD, if_true, if_false, Bool.false_eq_true, Nat.reduceAdd, Nat.reduceSub, Nat.reduceLeDiff, decide_eq_true_eq, true_and, and_true, Int.reduceNeg, hd, hc, hd', hc', intL_len]
  have big1 : -big < 104729 ∧ (104729 : Int) < big := by decide
  have big2 : -big < 7919 ∧ (7919 : Int) < big := by decide
  have p18 : (10 : Int) ^ Int.toNat 18 = 1000000000000000000 := by decide
  have mm : m.natAbs < 2 ^ 9000 := Nat.lt_of_lt_of_le (show m.natAbs < 2 ^ 63 by omega) (Nat.pow_le_pow_right (by decide) (by decide))
  have small : ∀ x : Int, 0 ≤ x → (0 ≤ (3 : Int) ∧ (3 : Int) ≤ 1000000 ∧ (x % 2147483579 + 104729 * (k + 1) + 17).natAbs < 2 ^ 64) := fun x hx => by
    have h1 := Int.emod_nonneg x (show (2147483579 : Int) ≠ 0 by decide)
    have h2 := Int.emod_lt_of_pos x (show (0 : Int) < 2147483579 by decide)
    refine ⟨by decide, by decide, ?_⟩
    omega
  have small2 : ∀ x : Int, (0 ≤ (3 : Int) ∧ (3 : Int) ≤ 1000000 ∧ (x % 2147483629 + 7919 * (k + 1)).natAbs < 2 ^ 64) := fun x => by
    have h1 := Int.emod_nonneg x (show (2147483629 : Int) ≠ 0 by decide)
    have h2 := Int.emod_lt_of_pos x (show (0 : Int) < 2147483629 by decide)
    refine ⟨by decide, by decide, ?_⟩
    omega
  have dk1 : Deck d c (B + 1) (h.set d (.lst [.ref c, .int (k + 1)])) := ⟨k + 1, cells, ⟨hd', hc', ne, hpos, by omega, hlen⟩, by omega⟩
  have gr1 : Grow d c h (h.set d (.lst [.ref c, .int (k + 1)])) := ⟨by simp, fun n o n1 n2 e => (hg_set_ne n1).trans e⟩
  have fin : ∀ y : Int, ∃ r, PV.int (y % m) = PV.int r ∧ 0 ≤ r ∧ r < m ∧ Deck d c (B + 1) (h.set d (.lst [.ref c, .int (k + 1)])) ∧ Grow d c h (h.set d (.lst [.ref c, .int (k + 1)])) := fun y =>
    ⟨_, rfl, Int.emod_nonneg _ (by omega), Int.emod_lt_of_pos _ hm, dk1, gr1⟩
  split
  · rename_i hl
    have l0 : 0 < (cells.length : Int) := by omega
    refine ⟨l0, ?_⟩
    have j0 := Int.emod_nonneg (k + 1) (show (cells.length : Int) ≠ 0 by omega)
    have j1 := Int.emod_lt_of_pos (k + 1) l0
    have hj : ((k + 1) % (cells.length : Int)).toNat < cells.length := by omega
    refine atI_of j0 (intL_get hj) ?_
    have hx : 0 ≤ cells[((k + 1) % (cells.length : Int)).toNat] := hpos _ (List.getElem_mem hj)
    generalize hxe : cells[((k + 1) % (cells.length : Int)).toNat] = x at hx
    refine ⟨by decide, ?_⟩
    have hc2 : ((h.set d (.lst [.ref c, .int (k + 1)])).set c (.lst ((intL cells).set ((k + 1) % (cells.length : Int)).toNat (.int (x / m)))))[c]? = some (.lst (intL (cells.set ((k + 1) % (cells.length : Int)).toNat (x / m)))) := by
      rw [intL_set]; exact hg_set (hg_lt hc')
    have hd2 : ((h.set d (.lst [.ref c, .int (k + 1)])).set c (.lst ((intL cells).set ((k + 1) % (cells.length : Int)).toNat (.int (x / m)))))[d]? = some (.lst [.ref c, .int (k + 1)]) := (hg_set_ne ne).trans hd'
    try simp (maxSteps := 4000000) only [ok_ret, ok_bnd, ok_lift, ok_var, ok_c, ok_bin, ok_un, ok_asB, ok_and, ok_or, ok_not, ok_chain, ok_nil, ok_cons, ok_tup, ok_lst, ok_fn, ok_tmp, ok_call, ok_meth, ok_tval, ok_tand, ok_tor, ok_tnot, ok_if, ok_pnone, ok_psome, ok_slice, ok_fresh, ok_lcx, ok_body, ok_true, ok_dtmp, ok_dval, ok_rng1, ok_rng2, ok_enum, ok_enumT, ok_zip, ok_gname, ok_gsnil, ok_gscons, ok_gtup, ok_gsub, fo_next, fo_seq, fo_asg, fo_expr, fo_ret, fo_retN, fo_if, fo_break, fo_cont, fo_par, fo_aug, fo_augS, fo_for, fo_body, vr_some, ra1, ra2, in_int, tr_bl, pa2, zp_two, sr_some, wk_tup, wk_rol, wk_str, oo_add, oo_addI, oo_sub, oo_mul, oo_fdiv, oo_mod, oo_pow, oo_shl, oo_shr, oo_and, oo_or, oo_neg, oo_inv, oo_le, oo_gt, oo_ge, oo_lt, oo_eq, oo_ne, oo_eqb, oo_is0, oo_isNot0, oo_nes, oo_eqs, oo_addT, oo_tup, oo_lst, oo_abs, oo_int, oo_intb, oo_max2, oo_min2, oo_max3, oo_min3, oo_lenT, oo_lenR, oo_gTuple, oo_gList, oo_gLen, oo_biT, oo_biR, oo_slT, oo_slR, oo_isaII, oo_isaIB, oo_isaIT, oo_isaIS, oo_isaBI, oo_isaBB, oo_isaBT, oo_isaBS, oo_isaNT, lo_lst, atI_0, atI_1, atI_2, ixN_0, ixN_1, or_ix, ot_ix, ol_ix, or_set, or_len, or_add, or_mul, or_append, or_isLst, or_bi, or_bl, or_sl, or_wk, or_sr, ot_sr, or_gtup, oo_neb, oo_isB, oo_isNotB, ok_lr1, ok_lr2, ok_tr1, ok_tr2, or_popAt, List.getElem?_cons_zero, List.getElem?_cons_succ, List.set_cons_zero, List.set_cons_succ, List.map_cons, List.map_nil, List.replicate_succ, List.replicate_zero, List.length_cons, List.length_nil, List.cons_append, List.nil_append, wipeD, if_true, if_false, Bool.false_eq_true, Nat.reduceAdd, Nat.reduceSub, Nat.reduceLeDiff, decide_eq_true_eq, true_and, and_true, Int.reduceNeg, hd', hc', intL_len]
    split
    · refine ⟨⟨hm, mm⟩, ixN_of j0 hj ⟨hm, _, rfl, Int.emod_nonneg _ (by omega), Int.emod_lt_of_pos _ hm, ⟨k + 1, _, ⟨hd2, hc2, ne, fun y hy => ?_, by omega, by simpa using hlen⟩, by omega⟩, ?_⟩⟩
      · rcases List.mem_or_eq_of_mem_set hy with e | e
        · exact hpos y e
        · rw [e]; exact Int.ediv_nonneg hx (by omega)
      · exact ⟨by simp, fun n o n1 n2 e => (hg_set_ne n2).trans ((hg_set_ne n1).trans e)⟩
    · exact ⟨by decide, .inl big1, small x hx, by decide, .inl big2, small2 _, by decide, by decide, hm, fin _⟩
  · refine ⟨by decide, ?_⟩
    rw [if_neg (by rw [p18]; decide)]
    exact ⟨by decide, .inl big1, small 0 (by decide), by decide, .inl big2, small2 _, by decide, by decide, hm, fin _⟩
theorem draws_spec {d c : Nat} {B m : Int} {h : VH} {σ : Sl} {j : Nat} {a b : Sl → M PV} {items : List PV} (hB : B + items.length < 2 ^ 40) (D : Deck d c B h) (hm : 0 < m) (hm2 : m < 2 ^ 63)
    (ha : ∀ x h, OK (a (σ.set j (some x)) h) fun u h' => u = .ref d ∧ h' = h) (hb : ∀ x h, OK (b (σ.set j (some x)) h) fun u h' => u = .int m ∧ h' = h) :
    OK (lcF [] (lcBody (dgName j) tTrue (dCall f_law_draw (dCons a (dCons b dNil))) σ) items h) fun l h' => ∃ ns, l = intL ns ∧ ns.length = items.length ∧ (∀ x ∈ ns, 0 ≤ x ∧ x < m) ∧ Deck d c (B + items.length) h' ∧ Grow d c h h' := by
  refine draws_lc hB D fun x B h D hB => ?_
  try simp (maxSteps := 4000000) only [ok_ret, ok_bnd, ok_lift, ok_var, ok_c, ok_bin, ok_un, ok_asB, ok_and, ok_or, ok_not, ok_chain, ok_nil, ok_cons, ok_tup, ok_lst, ok_fn, ok_tmp, ok_call, ok_meth, ok_tval, ok_tand, ok_tor, ok_tnot, ok_if, ok_pnone, ok_psome, ok_slice, ok_fresh, ok_lcx, ok_body, ok_true, ok_dtmp, ok_dval, ok_rng1, ok_rng2, ok_enum, ok_enumT, ok_zip, ok_gname, ok_gsnil, ok_gscons, ok_gtup, ok_gsub, fo_next, fo_seq, fo_asg, fo_expr, fo_ret, fo_retN, fo_if, fo_break, fo_cont, fo_par, fo_aug, fo_augS, fo_for, fo_body, vr_some, ra1, ra2, in_int, tr_bl, pa2, zp_two, sr_some, wk_tup, wk_rol, wk_str, oo_add, oo_addI, oo_sub, oo_mul, oo_fdiv, oo_mod, oo_pow, oo_shl, oo_shr, oo_and, oo_or, oo_neg, oo_inv, oo_le, oo_gt, oo_ge, oo_lt, oo_eq, oo_ne, oo_eqb, oo_is0, oo_isNot0, oo_nes, oo_eqs, oo_addT, oo_tup, oo_lst, oo_abs, oo_int, oo_intb, oo_max2, oo_min2, oo_max3, oo_min3, oo_lenT, oo_lenR, oo_gTuple, oo_gList, oo_gLen, oo_biT, oo_biR, oo_slT, oo_slR, oo_isaII, oo_isaIB, oo_isaIT, oo_isaIS, oo_isaBI, oo_isaBB, oo_isaBT, oo_isaBS, oo_isaNT, lo_lst, atI_0, atI_1, atI_2, ixN_0, ixN_1, or_ix, ot_ix, ol_ix, or_set, or_len, or_add, or_mul, or_append, or_isLst, or_bi, or_bl, or_sl, or_wk, or_sr, ot_sr, or_gtup, oo_neb, oo_isB, oo_isNotB, ok_lr1, ok_lr2, ok_tr1, ok_tr2, or_popAt, List.getElem?_cons_zero, List.getElem?_cons_succ, List.set_cons_zero, List.set_cons_succ, List.map_cons, List.map_nil, List.replicate_succ, List.replicate_zero, List.length_cons, List.length_nil, List.cons_append, List.nil_append, wipeD, if_true, if_false, Bool.false_eq_true, Nat.reduceAdd, Nat.reduceSub, Nat.reduceLeDiff, decide_eq_true_eq, true_and, and_true, Int.reduceNeg]
  refine OK.mono (ha x h) ?_
  rintro _ _ ⟨rfl, rfl⟩
  refine OK.mono (hb x _) ?_
  rintro _ _ ⟨rfl, rfl⟩
  exact draw_spec D hm hm2 hB
theorem deck_spec {ns : List Int} {h : VH} (hn : ns.length ≤ 63) : OK (f_law_deck [.rol (intL ns)] h) fun v h' => ∃ d c, v = .ref d ∧ Deck d c 0 h' := by
  unfold f_law_deck
  rw [ok_fn0]
  unfold b_law_deck
  have hcut : cutP (intL ns) none (some 63) = intL ns := by
    unfold cutP
    rw [show HT.sIx (intL ns).length (intL ns).length (some 63) = min 63 (intL ns).length from HT.sIx_nat _ _ 63, HT.sIx_none, intL_len]
    simp only [List.drop_zero, Nat.sub_zero]
    exact List.take_of_length_le (by rw [intL_len]; omega)
  have hg : (h ++ [VO.lst (intL ns)])[h.length]? = some (.lst (intL ns)) := hg_new
  try simp (maxSteps := 4000000) only [ok_ret, ok_bnd, ok_lift, ok_var, ok_c, ok_bin, ok_un, ok_asB, ok_and, ok_or, ok_not, ok_chain, ok_nil, ok_cons, ok_tup, ok_lst, ok_fn, ok_tmp, ok_call, ok_meth, ok_tval, ok_tand, ok_tor, ok_tnot, ok_if, ok_pnone, ok_psome, ok_slice, ok_fresh, ok_lcx, ok_body, ok_true, ok_dtmp, ok_dval, ok_rng1, ok_rng2, ok_enum, ok_enumT, ok_zip, ok_gname, ok_gsnil, ok_gscons, ok_gtup, ok_gsub, fo_next, fo_seq, fo_asg, fo_expr, fo_ret, fo_retN, fo_if, fo_break, fo_cont, fo_par, fo_aug, fo_augS, fo_for, fo_body, vr_some, ra1, ra2, in_int, tr_bl, pa2, zp_two, sr_some, wk_tup, wk_rol, wk_str, oo_add, oo_addI, oo_sub, oo_mul, oo_fdiv, oo_mod, oo_pow, oo_shl, oo_shr, oo_and, oo_or, oo_neg, oo_inv, oo_le, oo_gt, oo_ge, oo_lt, oo_eq, oo_ne, oo_eqb, oo_is0, oo_isNot0, oo_nes, oo_eqs, oo_addT, oo_tup, oo_lst, oo_abs, oo_int, oo_intb, oo_max2, oo_min2, oo_max3, oo_min3, oo_lenT, oo_lenR, oo_gTuple, oo_gList, oo_gLen, oo_biT, oo_biR, oo_slT, oo_slR, oo_isaII, oo_isaIB, oo_isaIT, oo_isaIS, oo_isaBI, oo_isaBB, oo_isaBT, oo_isaBS, oo_isaNT, lo_lst, atI_0, atI_1, atI_2, ixN_0, ixN_1, or_ix, ot_ix, ol_ix, or_set, or_len, or_add, or_mul, or_append, or_isLst, or_bi, or_bl, or_sl, or_wk, or_sr, ot_sr, or_gtup, oo_neb, oo_isB, oo_isNotB, ok_lr1, ok_lr2, ok_tr1, ok_tr2, or_popAt, List.getElem?_cons_zero, List.getElem?_cons_succ, List.set_cons_zero, List.set_cons_succ, List.map_cons, List.map_nil, List.replicate_succ, List.replicate_zero, List.length_cons, List.length_nil, List.cons_append, List.nil_append, wipeD, if_true, if_false, Bool.false_eq_true, Nat.reduceAdd, Nat.reduceSub, Nat.reduceLeDiff, decide_eq_true_eq, true_and, and_true, Int.reduceNeg, hcut, hg, intL_len]
  refine ⟨by omega, ?_⟩
  refine OK.mono (ints_lc (C := fun x => 0 ≤ x) (srcOk_one hg) ?_) ?_
  · intro i x hx
    obtain ⟨u, _, rfl, _⟩ := intL_inv hx
    try simp (maxSteps := 4000000) only [ok_ret, ok_bnd, ok_lift, ok_var, ok_c, ok_bin, ok_un, ok_asB, ok_and, ok_or, ok_not, ok_chain, ok_nil, ok_cons, ok_tup, ok_lst, ok_fn, ok_tmp, ok_call, ok_meth, ok_tval, ok_tand, ok_tor, ok_tnot, ok_if, ok_pnone, ok_psome, ok_slice, ok_fresh, ok_lcx, ok_body, ok_true, ok_dtmp, ok_dval, ok_rng1, ok_rng2, ok_enum, ok_enumT, ok_zip, ok_gname, ok_gsnil, ok_gscons, ok_gtup, ok_gsub, fo_next, fo_seq, fo_asg, fo_expr, fo_ret, fo_retN, fo_if, fo_break, fo_cont, fo_par, fo_aug, fo_augS, fo_for, fo_body, vr_some, ra1, ra2, in_int, tr_bl, pa2, zp_two, sr_some, wk_tup, wk_rol, wk_str, oo_add, oo_addI, oo_sub, oo_mul, oo_fdiv, oo_mod, oo_pow, oo_shl, oo_shr, oo_and, oo_or, oo_neg, oo_inv, oo_le, oo_gt, oo_ge, oo_lt, oo_eq, oo_ne, oo_eqb, oo_is0, oo_isNot0, oo_nes, oo_eqs, oo_addT, oo_tup, oo_lst, oo_abs, oo_int, oo_intb, oo_max2, oo_min2, oo_max3, oo_min3, oo_lenT, oo_lenR, oo_gTuple, oo_gList, oo_gLen, oo_biT, oo_biR, oo_slT, oo_slR, oo_isaII, oo_isaIB, oo_isaIT, oo_isaIS, oo_isaBI, oo_isaBB, oo_isaBT, oo_isaBS, oo_isaNT, lo_lst, atI_0, atI_1, atI_2, ixN_0, ixN_1, or_ix, ot_ix, ol_ix, or_set, or_len, or_add, or_mul, or_append, or_isLst, or_bi, or_bl, or_sl, or_wk, or_sr, ot_sr, or_gtup, oo_neb, oo_isB, oo_isNotB, ok_lr1, ok_lr2, ok_tr1, ok_tr2, or_popAt, List.getElem?_cons_zero, List.getElem?_cons_succ, List.set_cons_zero, List.set_cons_succ, List.map_cons, List.map_nil, List.replicate_succ, List.replicate_zero, List.length_cons, List.length_nil, List.cons_append, List.nil_append, wipeD, if_true, if_false, Bool.false_eq_true, Nat.reduceAdd, Nat.reduceSub, Nat.reduceLeDiff, decide_eq_true_eq, true_and, and_true, Int.reduceNeg]
    exact ⟨_, rfl, by split <;> omega⟩
  · rintro l h' ⟨rfl, cs, rfl, hl, hp⟩
    rw [intL_len] at hl
    refine ⟨_, _, rfl, 0, cs, ⟨hg_new, hg_app hg_new, by simp, hp, Int.le_refl _, by omega⟩, Int.le_refl _⟩
def natL (ns : List Nat) : List PV := intL (ns.map fun k => ((k : Nat) : Int))
theorem natL_inv {ns : List Nat} {i : Nat} {z : PV} (e : (natL ns)[i]? = some z) : ∃ k, ns[i]? = some k ∧ z = .int (k : Nat) := by
  obtain ⟨x, e1, rfl, _⟩ := intL_inv e
  rw [List.getElem?_map] at e1
  obtain ⟨k, e2, rfl⟩ := Option.map_eq_some_iff.mp e1
  exact ⟨k, e2, rfl⟩
theorem natL_len (ns : List Nat) : (natL ns).length = ns.length := by simp [natL, intL]
theorem natL_get {ns : List Nat} {i : Nat} {k : Nat} (e : ns[i]? = some k) : (natL ns)[i]? = some (.int (k : Nat)) := by
  simp [natL, intL, e]
theorem natL_app {ns ms : List Nat} : natL ns ++ natL ms = natL (ns ++ ms) := by simp [natL, intL]
/-! sides -/
theorem perm_map_inv {α β : Type} {f : α → β} : ∀ {t : List α} {l : List β}, l.Perm (t.map f) → ∃ t' : List α, l = t'.map f ∧ t'.Perm t
  | [], l, h => ⟨[], by simpa using h, List.Perm.refl _⟩
  | x :: t, l, h => by
    have hm : f x ∈ l := h.mem_iff.mpr (by simp)
    obtain ⟨l1, l2, rfl⟩ := List.append_of_mem hm
    have h2 : (l1 ++ l2).Perm (t.map f) := by
      have : (f x :: (l1 ++ l2)).Perm (f x :: t.map f) := (List.perm_middle.symm).trans h
      exact this.cons_inv
    obtain ⟨t', e, p⟩ := perm_map_inv h2
    obtain ⟨t1, t2, rfl, rfl, rfl⟩ := List.map_eq_append_iff.mp e.symm
    exact ⟨t1 ++ x :: t2, by simp, List.perm_middle.trans (p.cons x)⟩
def sideV (r : List Nat) : PV := .tup (natL r)
def sideD (r : List Nat) : PyData := .tuple ((r.map fun k => ((k : Nat) : Int)).map PyData.int)
theorem pdats_sides (q : Nat → Option PyData) : ∀ t : List (List Nat), pdats q (t.map sideV) = some (t.map sideD)
  | [] => rfl
  | r :: t => by
    have := pdats_sides q t
    simp only [List.map_cons, pdats, this, sideV, pdat, natL, pdats_intL, sideD]
theorem sortOk_sides {t : List (List Nat)} (hl : t.length ≤ 1000) (hn : ∀ r ∈ t, r ≠ []) : sortOk (t.map sideD) = true := by
  have h1 : alikeB (t.map sideD) = true := by
    refine List.all_eq_true.mpr fun a ha => List.all_eq_true.mpr fun b hb => ?_
    obtain ⟨i, _, rfl⟩ := List.mem_map.mp ha
    obtain ⟨j, _, rfl⟩ := List.mem_map.mp hb
    unfold sideD
    rw [alike]
    exact PySem.W.alike_ints _ _
  have h2 : (t.map sideD).all tupNe = true := List.all_eq_true.mpr fun a ha => by
    obtain ⟨r, hr, rfl⟩ := List.mem_map.mp ha
    cases r with
    | nil => exact absurd rfl (hn _ hr)
    | cons x r => rfl
  have h3 : (t.map sideD).all (fun d => decide (d.depth ≤ 60)) = true := List.all_eq_true.mpr fun a ha => by
    obtain ⟨r, _, rfl⟩ := List.mem_map.mp ha
    unfold sideD
    rw [PyData.depth, dAll_ints]
    decide
  simp only [sortOk, h1, h2, h3, Bool.true_or, Bool.and_self, Bool.true_and]
  exact decide_eq_true (by rw [List.length_map]; omega)
theorem oo_sortSides {t : List (List Nat)} {h : VH} {Q : PV → VH → Prop} (hl : t.length ≤ 1000) (hn : ∀ r ∈ t, r ≠ []) (q : ∀ t' : List (List Nat), t'.Perm t → Q (.ref h.length) (h ++ [.lst (t'.map sideV)])) : OO (gSort (t.map sideV) h) Q := by
  have e : gSort (t.map sideV) h = some (.ref h.length, h ++ [.lst (sortP ((t.map sideV).zip (t.map sideD)))]) := by
    simp only [gSort, pdats_sides, sortOk_sides hl hn, if_true]
  obtain ⟨t', e1, e2⟩ := perm_map_inv (sortP_perm (l := t.map sideV) (ds := t.map sideD) (by simp))
  rw [e, oo_some, e1]
  exact q t' e2
theorem oo_neTupNil {r : List Nat} {h : VH} {Q : PV → VH → Prop} : OO (oNe (.tup (natL r)) (.tup []) h) Q = Q (.bl (!decide (r = []))) h := by
  have : oNe (.tup (natL r)) (.tup []) h = some (.bl (!decide (r = [])), h) := by
    have d1 : dat h (.tup (natL r)) = some (.tuple ((r.map fun k => ((k : Nat) : Int)).map PyData.int)) := by simp only [dat, pdat, natL, pdats_intL]
    have d2 : dat h (.tup []) = some (.tuple []) := rfl
    have sh : SeqAt.shaped (.tuple ((r.map fun k => ((k : Nat) : Int)).map PyData.int)) = true := by
      simp only [SeqAt.shaped, PyData.canLay0, canLay_ints, PyData.depth, dAll_ints, Bool.true_and]
      decide
    simp only [oNe, bothS, d1, d2]
    rw [if_pos ⟨sh, rfl⟩]
    cases r <;> rfl
  rw [this]; with_unfolding_all rfl
theorem sides_spec {n : Nat} {h : VH} (n1 : 1 ≤ n) (n8 : n ≤ 8) : OK (f_law_sides [.int n] h) fun v h' => ∃ (a : Nat) (t : List (List Nat)) (k : VH), v = .ref a ∧ h' = h ++ k ∧ h.length ≤ a ∧ h'[a]? = some (.lst (t.map sideV)) ∧ t.length ≤ 128 ∧ (2 ≤ n → 0 < t.length) ∧ ∀ r ∈ t, (r.length ≤ 8 ∧ ∀ x ∈ r, x < n) ∧ r.Nodup := by
  unfold f_law_sides
  rw [ok_fn0]
  unfold b_law_sides
  try simp (maxSteps := 4000000) only [ok_ret, ok_bnd, ok_lift, ok_var, ok_c, ok_bin, ok_un, ok_asB, ok_and, ok_or, ok_not, ok_chain, ok_nil, ok_cons, ok_tup, ok_lst, ok_fn, ok_tmp, ok_call, ok_meth, ok_tval, ok_tand, ok_tor, ok_tnot, ok_if, ok_pnone, ok_psome, ok_slice, ok_fresh, ok_lcx, ok_body, ok_true, ok_dtmp, ok_dval, ok_rng1, ok_rng2, ok_enum, ok_enumT, ok_zip, ok_gname, ok_gsnil, ok_gscons, ok_gtup, ok_gsub, fo_next, fo_seq, fo_asg, fo_expr, fo_ret, fo_retN, fo_if, fo_break, fo_cont, fo_par, fo_aug, fo_augS, fo_for, fo_body, vr_some, ra1, ra2, in_int, tr_bl, pa2, zp_two, sr_some, wk_tup, wk_rol, wk_str, oo_add, oo_addI, oo_sub, oo_mul, oo_fdiv, oo_mod, oo_pow, oo_shl, oo_shr, oo_and, oo_or, oo_neg, oo_inv, oo_le, oo_gt, oo_ge, oo_lt, oo_eq, oo_ne, oo_eqb, oo_is0, oo_isNot0, oo_nes, oo_eqs, oo_addT, oo_tup, oo_lst, oo_abs, oo_int, oo_intb, oo_max2, oo_min2, oo_max3, oo_min3, oo_lenT, oo_lenR, oo_gTuple, oo_gList, oo_gLen, oo_biT, oo_biR, oo_slT, oo_slR, oo_isaII, oo_isaIB, oo_isaIT, oo_isaIS, oo_isaBI, oo_isaBB, oo_isaBT, oo_isaBS, oo_isaNT, lo_lst, atI_0, atI_1, atI_2, ixN_0, ixN_1, or_ix, ot_ix, ol_ix, or_set, or_len, or_add, or_mul, or_append, or_isLst, or_bi, or_bl, or_sl, or_wk, or_sr, ot_sr, or_gtup, oo_neb, oo_isB, oo_isNotB, ok_lr1, ok_lr2, ok_tr1, ok_tr2, or_popAt, List.getElem?_cons_zero, List.getElem?_cons_succ, List.set_cons_zero, List.set_cons_succ, List.map_cons, List.map_nil, List.replicate_succ, List.replicate_zero, List.length_cons, List.length_nil, List.cons_append, List.nil_append, wipeD, if_true, if_false, Bool.false_eq_true, Nat.reduceAdd, Nat.reduceSub, Nat.reduceLeDiff, decide_eq_true_eq, true_and, and_true, Int.reduceNeg]
  refine ⟨by omega, ?_⟩
  refine fo_loop0 (fun i v h2 => i ≤ 7 ∧ ∃ (a : Nat) (t : List (List Nat)) (k : VH) (x2 x3 : Option PV), v = [some (.int n), some (.ref a), x2, x3] ∧ h2 = h ++ k ∧ h.length ≤ a ∧ h2[a]? = some (.lst (t.map sideV)) ∧ t.length = 2 ^ i ∧ (1 ≤ i → ∃ r ∈ t, r ≠ []) ∧ ∀ r ∈ t, r.length ≤ i ∧ (∀ x ∈ r, x < n ∧ x ≤ i) ∧ r.Nodup)
    ⟨by omega, h.length, [[]], [.lst [.tup []]], _, _, rfl, rfl, Nat.le_refl _, by simp [sideV, natL, intL], rfl, by omega, by simp⟩ (fun _ _ _ _ _ => rfl) ?_ ?_
  · rintro i x v h2 hx ⟨_, a, t, k, x2, x3, rfl, rfl, ge, ha, hl, hn, hr⟩
    obtain ⟨hi, rfl⟩ := rng_get hx
    have hi7 : i < 7 := by omega
    have p7 : 2 ^ i ≤ 128 := Nat.le_trans (Nat.pow_le_pow_right (by decide) (show i ≤ 7 by omega)) (by decide)
    rw [show (1 : Int) + (i : Nat) = ((i + 1 : Nat) : Int) by omega]
    try simp (maxSteps := 4000000) only [ok_ret, ok_bnd, ok_lift, ok_var, ok_c, ok_bin, ok_un, ok_asB, ok_and, ok_or, ok_not, ok_chain, ok_nil, ok_cons, ok_tup, ok_lst, ok_fn, ok_tmp, ok_call, ok_meth, ok_tval, ok_tand, ok_tor, ok_tnot, ok_if, ok_pnone, ok_psome, ok_slice, ok_fresh, ok_lcx, ok_body, ok_true, ok_dtmp, ok_dval, ok_rng1, ok_rng2, ok_enum, ok_enumT, ok_zip, ok_gname, ok_gsnil, ok_gscons, ok_gtup, ok_gsub, fo_next, fo_seq, fo_asg, fo_expr, fo_ret, fo_retN, fo_if, fo_break, fo_cont, fo_par, fo_aug, fo_augS, fo_for, fo_body, vr_some, ra1, ra2, in_int, tr_bl, pa2, zp_two, sr_some, wk_tup, wk_rol, wk_str, oo_add, oo_addI, oo_sub, oo_mul, oo_fdiv, oo_mod, oo_pow, oo_shl, oo_shr, oo_and, oo_or, oo_neg, oo_inv, oo_le, oo_gt, oo_ge, oo_lt, oo_eq, oo_ne, oo_eqb, oo_is0, oo_isNot0, oo_nes, oo_eqs, oo_addT, oo_tup, oo_lst, oo_abs, oo_int, oo_intb, oo_max2, oo_min2, oo_max3, oo_min3, oo_lenT, oo_lenR, oo_gTuple, oo_gList, oo_gLen, oo_biT, oo_biR, oo_slT, oo_slR, oo_isaII, oo_isaIB, oo_isaIT, oo_isaIS, oo_isaBI, oo_isaBB, oo_isaBT, oo_isaBS, oo_isaNT, lo_lst, atI_0, atI_1, atI_2, ixN_0, ixN_1, or_ix, ot_ix, ol_ix, or_set, or_len, or_add, or_mul, or_append, or_isLst, or_bi, or_bl, or_sl, or_wk, or_sr, ot_sr, or_gtup, oo_neb, oo_isB, oo_isNotB, ok_lr1, ok_lr2, ok_tr1, ok_tr2, or_popAt, List.getElem?_cons_zero, List.getElem?_cons_succ, List.set_cons_zero, List.set_cons_succ, List.map_cons, List.map_nil, List.replicate_succ, List.replicate_zero, List.length_cons, List.length_nil, List.cons_append, List.nil_append, wipeD, if_true, if_false, Bool.false_eq_true, Nat.reduceAdd, Nat.reduceSub, Nat.reduceLeDiff, decide_eq_true_eq, true_and, and_true, Int.reduceNeg, ha]
    refine ⟨by rw [List.length_map]; omega, ?_⟩
    refine OK.mono (ok_lc0 (fun j acc h' => h' = h ++ k ∧ acc = ((t.take j).map fun r => r ++ [i + 1]).map sideV) ⟨rfl, rfl⟩ (fun _ _ _ _ q => by rw [q.1]; exact srcOk_one ha) ?_ fun _ _ q => q) ?_
    · rintro j x acc h' hx ⟨rfl, rfl⟩
      rw [List.getElem?_map] at hx
      obtain ⟨r, hr1, rfl⟩ := Option.map_eq_some_iff.mp hx
      have := (hr r (List.mem_of_getElem? hr1)).1
      unfold sideV
      try simp (maxSteps := 4000000) only [ok_ret, ok_bnd, ok_lift, ok_var, ok_c, ok_bin, ok_un, ok_asB, ok_and, ok_or, ok_not, ok_chain, ok_nil, ok_cons, ok_tup, ok_lst, ok_fn, ok_tmp, ok_call, ok_meth, ok_tval, ok_tand, ok_tor, ok_tnot, ok_if, ok_pnone, ok_psome, ok_slice, ok_fresh, ok_lcx, ok_body, ok_true, ok_dtmp, ok_dval, ok_rng1, ok_rng2, ok_enum, ok_enumT, ok_zip, ok_gname, ok_gsnil, ok_gscons, ok_gtup, ok_gsub, fo_next, fo_seq, fo_asg, fo_expr, fo_ret, fo_retN, fo_if, fo_break, fo_cont, fo_par, fo_aug, fo_augS, fo_for, fo_body, vr_some, ra1, ra2, in_int, tr_bl, pa2, zp_two, sr_some, wk_tup, wk_rol, wk_str, oo_add, oo_addI, oo_sub, oo_mul, oo_fdiv, oo_mod, oo_pow, oo_shl, oo_shr, oo_and, oo_or, oo_neg, oo_inv, oo_le, oo_gt, oo_ge, oo_lt, oo_eq, oo_ne, oo_eqb, oo_is0, oo_isNot0, oo_nes, oo_eqs, oo_addT, oo_tup, oo_lst, oo_abs, oo_int, oo_intb, oo_max2, oo_min2, oo_max3, oo_min3, oo_lenT, oo_lenR, oo_gTuple, oo_gList, oo_gLen, oo_biT, oo_biR, oo_slT, oo_slR, oo_isaII, oo_isaIB, oo_isaIT, oo_isaIS, oo_isaBI, oo_isaBB, oo_isaBT, oo_isaBS, oo_isaNT, lo_lst, atI_0, atI_1, atI_2, ixN_0, ixN_1, or_ix, ot_ix, ol_ix, or_set, or_len, or_add, or_mul, or_append, or_isLst, or_bi, or_bl, or_sl, or_wk, or_sr, ot_sr, or_gtup, oo_neb, oo_isB, oo_isNotB, ok_lr1, ok_lr2, ok_tr1, ok_tr2, or_popAt, List.getElem?_cons_zero, List.getElem?_cons_succ, List.set_cons_zero, List.set_cons_succ, List.map_cons, List.map_nil, List.replicate_succ, List.replicate_zero, List.length_cons, List.length_nil, List.cons_append, List.nil_append, wipeD, if_true, if_false, Bool.false_eq_true, Nat.reduceAdd, Nat.reduceSub, Nat.reduceLeDiff, decide_eq_true_eq, true_and, and_true, Int.reduceNeg, natL_len]
      refine ⟨by omega, ?_⟩
      rw [List.take_add_one, hr1]
      simp [natL, intL]
    · rintro l h' ⟨rfl, rfl⟩
      rw [List.length_map, List.take_length]
      have e1 : ((h ++ k) ++ [VO.lst ((t.map fun r => r ++ [i + 1]).map sideV)])[a]? = some (.lst (t.map sideV)) := hg_app ha
      have e2 : ((h ++ k) ++ [VO.lst ((t.map fun r => r ++ [i + 1]).map sideV)])[(h ++ k).length]? = some (.lst ((t.map fun r => r ++ [i + 1]).map sideV)) := hg_new
      try simp (maxSteps := 4000000) only [ok_ret, ok_bnd, ok_lift, ok_var, ok_c, ok_bin, ok_un, ok_asB, ok_and, ok_or, ok_not, ok_chain, ok_nil, ok_cons, ok_tup, ok_lst, ok_fn, ok_tmp, ok_call, ok_meth, ok_tval, ok_tand, ok_tor, ok_tnot, ok_if, ok_pnone, ok_psome, ok_slice, ok_fresh, ok_lcx, ok_body, ok_true, ok_dtmp, ok_dval, ok_rng1, ok_rng2, ok_enum, ok_enumT, ok_zip, ok_gname, ok_gsnil, ok_gscons, ok_gtup, ok_gsub, fo_next, fo_seq, fo_asg, fo_expr, fo_ret, fo_retN, fo_if, fo_break, fo_cont, fo_par, fo_aug, fo_augS, fo_for, fo_body, vr_some, ra1, ra2, in_int, tr_bl, pa2, zp_two, sr_some, wk_tup, wk_rol, wk_str, oo_add, oo_addI, oo_sub, oo_mul, oo_fdiv, oo_mod, oo_pow, oo_shl, oo_shr, oo_and, oo_or, oo_neg, oo_inv, oo_le, oo_gt, oo_ge, oo_lt, oo_eq, oo_ne, oo_eqb, oo_is0, oo_isNot0, oo_nes, oo_eqs, oo_addT, oo_tup, oo_lst, oo_abs, oo_int, oo_intb, oo_max2, oo_min2, oo_max3, oo_min3, oo_lenT, oo_lenR, oo_gTuple, oo_gList, oo_gLen, oo_biT, oo_biR, oo_slT, oo_slR, oo_isaII, oo_isaIB, oo_isaIT, oo_isaIS, oo_isaBI, oo_isaBB, oo_isaBT, oo_isaBS, oo_isaNT, lo_lst, atI_0, atI_1, atI_2, ixN_0, ixN_1, or_ix, ot_ix, ol_ix, or_set, or_len, or_add, or_mul, or_append, or_isLst, or_bi, or_bl, or_sl, or_wk, or_sr, ot_sr, or_gtup, oo_neb, oo_isB, oo_isNotB, ok_lr1, ok_lr2, ok_tr1, ok_tr2, or_popAt, List.getElem?_cons_zero, List.getElem?_cons_succ, List.set_cons_zero, List.set_cons_succ, List.map_cons, List.map_nil, List.replicate_succ, List.replicate_zero, List.length_cons, List.length_nil, List.cons_append, List.nil_append, wipeD, if_true, if_false, Bool.false_eq_true, Nat.reduceAdd, Nat.reduceSub, Nat.reduceLeDiff, decide_eq_true_eq, true_and, and_true, Int.reduceNeg, e1, e2]
      refine ⟨by simp; omega, by omega, _, t ++ t.map (fun r => r ++ [i + 1]), k ++ [.lst ((t.map fun r => r ++ [i + 1]).map sideV), .lst ((t ++ t.map fun r => r ++ [i + 1]).map sideV)], _, _, rfl, by simp, by simp, ?_, by simp; rw [hl, Nat.pow_succ]; omega, fun _ => ?_, fun r hr' => ?_⟩
      · rw [← List.map_append]; exact hg_new
      · obtain ⟨r, rr⟩ : ∃ r, r ∈ t := by
          cases t with
          | nil => simp at hl; have := Nat.two_pow_pos i; omega
          | cons r t => exact ⟨r, List.mem_cons_self⟩
        exact ⟨r ++ [i + 1], List.mem_append.mpr (.inr (List.mem_map.mpr ⟨r, rr, rfl⟩)), by simp⟩
      · rcases List.mem_append.mp hr' with z | z
        · exact ⟨by have := (hr r z).1; omega, fun x hx => ⟨((hr r z).2.1 x hx).1, by have := ((hr r z).2.1 x hx).2; omega⟩, (hr r z).2.2⟩
        · obtain ⟨s, hs, rfl⟩ := List.mem_map.mp z
          refine ⟨by have := (hr s hs).1; simp; omega, fun x hx => ?_, ?_⟩
          · rcases List.mem_append.mp hx with w | w
            · have := (hr s hs).2.1 x w; omega
            · rw [List.mem_singleton.mp w]; omega
          · refine List.nodup_append.mpr ⟨(hr s hs).2.2, by simp, fun a ha b hb => ?_⟩
            rw [List.mem_singleton.mp hb]
            have := ((hr s hs).2.1 a ha).2
            omega
  · rintro v h2 ⟨h7, a, t, k, x2, x3, rfl, rfl, ge, ha, hl, hn, hr⟩
    rw [rng_len] at h7 hl hn hr
    have p7 : 2 ^ ((n : Int) - 1).toNat ≤ 128 := Nat.le_trans (Nat.pow_le_pow_right (by decide) h7) (by decide)
    try simp (maxSteps := 4000000) only [ok_ret, ok_bnd, ok_lift, ok_var, ok_c, ok_bin, ok_un, ok_asB, ok_and, ok_or, ok_not, ok_chain, ok_nil, ok_cons, ok_tup, ok_lst, ok_fn, ok_tmp, ok_call, ok_meth, ok_tval, ok_tand, ok_tor, ok_tnot, ok_if, ok_pnone, ok_psome, ok_slice, ok_fresh, ok_lcx, ok_body, ok_true, ok_dtmp, ok_dval, ok_rng1, ok_rng2, ok_enum, ok_enumT, ok_zip, ok_gname, ok_gsnil, ok_gscons, ok_gtup, ok_gsub, fo_next, fo_seq, fo_asg, fo_expr, fo_ret, fo_retN, fo_if, fo_break, fo_cont, fo_par, fo_aug, fo_augS, fo_for, fo_body, vr_some, ra1, ra2, in_int, tr_bl, pa2, zp_two, sr_some, wk_tup, wk_rol, wk_str, oo_add, oo_addI, oo_sub, oo_mul, oo_fdiv, oo_mod, oo_pow, oo_shl, oo_shr, oo_and, oo_or, oo_neg, oo_inv, oo_le, oo_gt, oo_ge, oo_lt, oo_eq, oo_ne, oo_eqb, oo_is0, oo_isNot0, oo_nes, oo_eqs, oo_addT, oo_tup, oo_lst, oo_abs, oo_int, oo_intb, oo_max2, oo_min2, oo_max3, oo_min3, oo_lenT, oo_lenR, oo_gTuple, oo_gList, oo_gLen, oo_biT, oo_biR, oo_slT, oo_slR, oo_isaII, oo_isaIB, oo_isaIT, oo_isaIS, oo_isaBI, oo_isaBB, oo_isaBT, oo_isaBS, oo_isaNT, lo_lst, atI_0, atI_1, atI_2, ixN_0, ixN_1, or_ix, ot_ix, ol_ix, or_set, or_len, or_add, or_mul, or_append, or_isLst, or_bi, or_bl, or_sl, or_wk, or_sr, ot_sr, or_gtup, oo_neb, oo_isB, oo_isNotB, ok_lr1, ok_lr2, ok_tr1, ok_tr2, or_popAt, List.getElem?_cons_zero, List.getElem?_cons_succ, List.set_cons_zero, List.set_cons_succ, List.map_cons, List.map_nil, List.replicate_succ, List.replicate_zero, List.length_cons, List.length_nil, List.cons_append, List.nil_append, wipeD, if_true, if_false, Bool.false_eq_true, Nat.reduceAdd, Nat.reduceSub, Nat.reduceLeDiff, decide_eq_true_eq, true_and, and_true, Int.reduceNeg, ha]
    refine ⟨by rw [List.length_map]; omega, ?_⟩
    refine OK.mono (ok_lc0 (fun j acc h' => h' = h ++ k ∧ acc = ((t.take j).filter fun r => !decide (r = [])).map sideV) ⟨rfl, rfl⟩ (fun _ _ _ _ q => by rw [q.1]; exact srcOk_one ha) ?_ fun _ _ q => q) ?_
    · rintro j x acc h' hx ⟨rfl, rfl⟩
      rw [List.getElem?_map] at hx
      obtain ⟨r, hr1, rfl⟩ := Option.map_eq_some_iff.mp hx
      unfold sideV
      try simp (maxSteps := 4000000) only [ok_ret, ok_bnd, ok_lift, ok_var, ok_c, ok_bin, ok_un, ok_asB, ok_and, ok_or, ok_not, ok_chain, ok_nil, ok_cons, ok_tup, ok_lst, ok_fn, ok_tmp, ok_call, ok_meth, ok_tval, ok_tand, ok_tor, ok_tnot, ok_if, ok_pnone, ok_psome, ok_slice, ok_fresh, ok_lcx, ok_body, ok_true, ok_dtmp, ok_dval, ok_rng1, ok_rng2, ok_enum, ok_enumT, ok_zip, ok_gname, ok_gsnil, ok_gscons, ok_gtup, ok_gsub, fo_next, fo_seq, fo_asg, fo_expr, fo_ret, fo_retN, fo_if, fo_break, fo_cont, fo_par, fo_aug, fo_augS, fo_for, fo_body, vr_some, ra1, ra2, in_int, tr_bl, pa2, zp_two, sr_some, wk_tup, wk_rol, wk_str, oo_add, oo_addI, oo_sub, oo_mul, oo_fdiv, oo_mod, oo_pow, oo_shl, oo_shr, oo_and, oo_or, oo_neg, oo_inv, oo_le, oo_gt, oo_ge, oo_lt, oo_eq, oo_ne, oo_eqb, oo_is0, oo_isNot0, oo_nes, oo_eqs, oo_addT, oo_tup, oo_lst, oo_abs, oo_int, oo_intb, oo_max2, oo_min2, oo_max3, oo_min3, oo_lenT, oo_lenR, oo_gTuple, oo_gList, oo_gLen, oo_biT, oo_biR, oo_slT, oo_slR, oo_isaII, oo_isaIB, oo_isaIT, oo_isaIS, oo_isaBI, oo_isaBB, oo_isaBT, oo_isaBS, oo_isaNT, lo_lst, atI_0, atI_1, atI_2, ixN_0, ixN_1, or_ix, ot_ix, ol_ix, or_set, or_len, or_add, or_mul, or_append, or_isLst, or_bi, or_bl, or_sl, or_wk, or_sr, ot_sr, or_gtup, oo_neb, oo_isB, oo_isNotB, ok_lr1, ok_lr2, ok_tr1, ok_tr2, or_popAt, List.getElem?_cons_zero, List.getElem?_cons_succ, List.set_cons_zero, List.set_cons_succ, List.map_cons, List.map_nil, List.replicate_succ, List.replicate_zero, List.length_cons, List.length_nil, List.cons_append, List.nil_append, wipeD, if_true, if_false, Bool.false_eq_true, Nat.reduceAdd, Nat.reduceSub, Nat.reduceLeDiff, decide_eq_true_eq, true_and, and_true, Int.reduceNeg, oo_neTupNil]
      rw [List.take_add_one, hr1]
      by_cases z : r = []
      · subst z; simp
      · simp [z]
    · rintro l h' ⟨rfl, rfl⟩
      rw [List.length_map, List.take_length]
      have fl : (t.filter fun r => !decide (r = [])).length ≤ 128 := Nat.le_trans (List.length_filter_le _ _) (by omega)
      refine oo_sortSides (by omega) (fun r hr' => by simpa using (List.mem_filter.mp hr').2) fun t' ht' => ?_
      refine ⟨_, t', k ++ [.lst (t'.map sideV)], rfl, by simp, by simp, hg_new, by rw [ht'.length_eq]; omega, fun n2 => ?_, fun r hr' => ?_⟩
      · obtain ⟨r, h1, h2⟩ := hn (by omega)
        rw [ht'.length_eq]
        exact List.length_pos_of_mem (List.mem_filter.mpr ⟨h1, by simpa using h2⟩)
      · have := (List.mem_filter.mp (ht'.mem_iff.mp hr')).1
        exact ⟨⟨by have := (hr r this).1; omega, fun x hx => ((hr r this).2.1 x hx).1⟩, (hr r this).2.2⟩
end G

namespace G
open PySem PySem.Spec PySem.W PyProof.Rows L2 D
/-! some sides, weights -/
theorem some_spec {d c a : Nat} {B : Int} {h : VH} {t : List (List Nat)} (hB : B < 2 ^ 39) (D : Deck d c B h) (nd : a ≠ d) (nc : a ≠ c) (ha : h[a]? = some (.lst (t.map sideV))) (ht : t.length ≤ 128) :
    OK (f_law_some [.ref d, .ref a] h) fun v h' => Deck d c (B + 129) h' ∧ Grow d c h h' ∧ ∃ (p : Nat) (t' : List (List Nat)), v = .ref p ∧ h.length ≤ p ∧ h'[p]? = some (.lst (t'.map sideV)) ∧ t'.Sublist t := by
  unfold f_law_some
  rw [ok_fn0]
  unfold b_law_some
  try simp (maxSteps := 4000000) only [ok_ret, ok_bnd, ok_lift, ok_var, ok_c, ok_bin, ok_un, ok_asB, ok_and, ok_or, ok_not, ok_chain, ok_nil, ok_cons, ok_tup, ok_lst, ok_fn, ok_tmp, ok_call, ok_meth, ok_tval, ok_tand, ok_tor, ok_tnot, ok_if, ok_pnone, ok_psome, ok_slice, ok_fresh, ok_lcx, ok_body, ok_true, ok_dtmp, ok_dval, ok_rng1, ok_rng2, ok_enum, ok_enumT, ok_zip, ok_gname, ok_gsnil, ok_gscons, ok_gtup, ok_gsub, fo_next, fo_seq, fo_asg, fo_expr, fo_ret, fo_retN, fo_if, fo_break, fo_cont, fo_par, fo_aug, fo_augS, fo_for, fo_body, vr_some, ra1, ra2, in_int, tr_bl, pa2, zp_two, sr_some, wk_tup, wk_rol, wk_str, oo_add, oo_addI, oo_sub, oo_mul, oo_fdiv, oo_mod, oo_pow, oo_shl, oo_shr, oo_and, oo_or, oo_neg, oo_inv, oo_le, oo_gt, oo_ge, oo_lt, oo_eq, oo_ne, oo_eqb, oo_is0, oo_isNot0, oo_nes, oo_eqs, oo_addT, oo_tup, oo_lst, oo_abs, oo_int, oo_intb, oo_max2, oo_min2, oo_max3, oo_min3, oo_lenT, oo_lenR, oo_gTuple, oo_gList, oo_gLen, oo_biT, oo_biR, oo_slT, oo_slR, oo_isaII, oo_isaIB, oo_isaIT, oo_isaIS, oo_isaBI, oo_isaBB, oo_isaBT, oo_isaBS, oo_isaNT, lo_lst, atI_0, atI_1, atI_2, ixN_0, ixN_1, or_ix, ot_ix, ol_ix, or_set, or_len, or_add, or_mul, or_append, or_isLst, or_bi, or_bl, or_sl, or_wk, or_sr, ot_sr, or_gtup, oo_neb, oo_isB, oo_isNotB, ok_lr1, ok_lr2, ok_tr1, ok_tr2, or_popAt, List.getElem?_cons_zero, List.getElem?_cons_succ, List.set_cons_zero, List.set_cons_succ, List.map_cons, List.map_nil, List.replicate_succ, List.replicate_zero, List.length_cons, List.length_nil, List.cons_append, List.nil_append, wipeD, if_true, if_false, Bool.false_eq_true, Nat.reduceAdd, Nat.reduceSub, Nat.reduceLeDiff, decide_eq_true_eq, true_and, and_true, Int.reduceNeg]
  obtain ⟨_, _, D', _⟩ := id D
  have hd := hg_lt D'.dk
  have hc := hg_lt D'.cl
  have D1 := D.app (x := [VO.lst [.int 1, .int 2, .int 4, .int 6]])
  have G1 : Grow d c h (h ++ [VO.lst [.int 1, .int 2, .int 4, .int 6]]) := .app
  have hg1 : (h ++ [VO.lst [PV.int 1, .int 2, .int 4, .int 6]])[h.length]? = some (.lst [.int 1, .int 2, .int 4, .int 6]) := hg_new
  refine OK.mono (draw_spec D1 (by decide) (by decide) (by omega)) ?_
  rintro v h1 ⟨r, rfl, r0, r4, D2, g2⟩
  have l1 : h.length ≠ d := by omega
  have l2 : h.length ≠ c := by omega
  have e1 := g2.2 _ _ l1 l2 hg1
  have G2 := G1.trans g2
  have ha1 := G2.2 _ _ nd nc ha
  obtain ⟨q, hq⟩ : ∃ q : Int, [PV.int 1, .int 2, .int 4, .int 6][r.toNat]? = some (.int q) := by
    have : r = 0 ∨ r = 1 ∨ r = 2 ∨ r = 3 := by omega
    rcases this with rfl | rfl | rfl | rfl
    · exact ⟨1, rfl⟩
    · exact ⟨2, rfl⟩
    · exact ⟨4, rfl⟩
    · exact ⟨6, rfl⟩
  rw [oo_ixL e1 r0 hq]
  try simp (maxSteps := 4000000) only [ok_ret, ok_bnd, ok_lift, ok_var, ok_c, ok_bin, ok_un, ok_asB, ok_and, ok_or, ok_not, ok_chain, ok_nil, ok_cons, ok_tup, ok_lst, ok_fn, ok_tmp, ok_call, ok_meth, ok_tval, ok_tand, ok_tor, ok_tnot, ok_if, ok_pnone, ok_psome, ok_slice, ok_fresh, ok_lcx, ok_body, ok_true, ok_dtmp, ok_dval, ok_rng1, ok_rng2, ok_enum, ok_enumT, ok_zip, ok_gname, ok_gsnil, ok_gscons, ok_gtup, ok_gsub, fo_next, fo_seq, fo_asg, fo_expr, fo_ret, fo_retN, fo_if, fo_break, fo_cont, fo_par, fo_aug, fo_augS, fo_for, fo_body, vr_some, ra1, ra2, in_int, tr_bl, pa2, zp_two, sr_some, wk_tup, wk_rol, wk_str, oo_add, oo_addI, oo_sub, oo_mul, oo_fdiv, oo_mod, oo_pow, oo_shl, oo_shr, oo_and, oo_or, oo_neg, oo_inv, oo_le, oo_gt, oo_ge, oo_lt, oo_eq, oo_ne, oo_eqb, oo_is0, oo_isNot0, oo_nes, oo_eqs, oo_addT, oo_tup, oo_lst, oo_abs, oo_int, oo_intb, oo_max2, oo_min2, oo_max3, oo_min3, oo_lenT, oo_lenR, oo_gTuple, oo_gList, oo_gLen, oo_biT, oo_biR, oo_slT, oo_slR, oo_isaII, oo_isaIB, oo_isaIT, oo_isaIS, oo_isaBI, oo_isaBB, oo_isaBT, oo_isaBS, oo_isaNT, lo_lst, atI_0, atI_1, atI_2, ixN_0, ixN_1, or_ix, ot_ix, ol_ix, or_set, or_len, or_add, or_mul, or_append, or_isLst, or_bi, or_bl, or_sl, or_wk, or_sr, ot_sr, or_gtup, oo_neb, oo_isB, oo_isNotB, ok_lr1, ok_lr2, ok_tr1, ok_tr2, or_popAt, List.getElem?_cons_zero, List.getElem?_cons_succ, List.set_cons_zero, List.set_cons_succ, List.map_cons, List.map_nil, List.replicate_succ, List.replicate_zero, List.length_cons, List.length_nil, List.cons_append, List.nil_append, wipeD, if_true, if_false, Bool.false_eq_true, Nat.reduceAdd, Nat.reduceSub, Nat.reduceLeDiff, decide_eq_true_eq, true_and, and_true, Int.reduceNeg, ha1]
  refine ⟨by rw [List.length_map]; omega, ?_⟩
  refine OK.mono (ok_lc0 (fun j acc h' => j ≤ t.length ∧ Deck d c (B + 1 + j) h' ∧ Grow d c h1 h' ∧ ∃ t' : List (List Nat), acc = t'.map sideV ∧ t'.Sublist (t.take j)) ⟨Nat.zero_le _, by simpa using D2, .refl, [], rfl, List.nil_sublist _⟩ (fun _ _ _ _ q => srcOk_one (q.2.2.1.2 _ _ nd nc ha1)) ?_ fun _ _ q => q) ?_
  · rintro j x acc h' hx ⟨hj, Dh, Gh, t', rfl, sl⟩
    rw [List.getElem?_map] at hx
    obtain ⟨s, hs, rfl⟩ := Option.map_eq_some_iff.mp hx
    have hlt := hg_lt' hs
    have tk : t.take (j + 1) = t.take j ++ [s] := by rw [List.take_add_one, hs]; rfl
    rw [tk]
    try simp (maxSteps := 4000000) only [ok_ret, ok_bnd, ok_lift, ok_var, ok_c, ok_bin, ok_un, ok_asB, ok_and, ok_or, ok_not, ok_chain, ok_nil, ok_cons, ok_tup, ok_lst, ok_fn, ok_tmp, ok_call, ok_meth, ok_tval, ok_tand, ok_tor, ok_tnot, ok_if, ok_pnone, ok_psome, ok_slice, ok_fresh, ok_lcx, ok_body, ok_true, ok_dtmp, ok_dval, ok_rng1, ok_rng2, ok_enum, ok_enumT, ok_zip, ok_gname, ok_gsnil, ok_gscons, ok_gtup, ok_gsub, fo_next, fo_seq, fo_asg, fo_expr, fo_ret, fo_retN, fo_if, fo_break, fo_cont, fo_par, fo_aug, fo_augS, fo_for, fo_body, vr_some, ra1, ra2, in_int, tr_bl, pa2, zp_two, sr_some, wk_tup, wk_rol, wk_str, oo_add, oo_addI, oo_sub, oo_mul, oo_fdiv, oo_mod, oo_pow, oo_shl, oo_shr, oo_and, oo_or, oo_neg, oo_inv, oo_le, oo_gt, oo_ge, oo_lt, oo_eq, oo_ne, oo_eqb, oo_is0, oo_isNot0, oo_nes, oo_eqs, oo_addT, oo_tup, oo_lst, oo_abs, oo_int, oo_intb, oo_max2, oo_min2, oo_max3, oo_min3, oo_lenT, oo_lenR, oo_gTuple, oo_gList, oo_gLen, oo_biT, oo_biR, oo_slT, oo_slR, oo_isaII, oo_isaIB, oo_isaIT, oo_isaIS, oo_isaBI, oo_isaBB, oo_isaBT, oo_isaBS, oo_isaNT, lo_lst, atI_0, atI_1, atI_2, ixN_0, ixN_1, or_ix, ot_ix, ol_ix, or_set, or_len, or_add, or_mul, or_append, or_isLst, or_bi, or_bl, or_sl, or_wk, or_sr, ot_sr, or_gtup, oo_neb, oo_isB, oo_isNotB, ok_lr1, ok_lr2, ok_tr1, ok_tr2, or_popAt, List.getElem?_cons_zero, List.getElem?_cons_succ, List.set_cons_zero, List.set_cons_succ, List.map_cons, List.map_nil, List.replicate_succ, List.replicate_zero, List.length_cons, List.length_nil, List.cons_append, List.nil_append, wipeD, if_true, if_false, Bool.false_eq_true, Nat.reduceAdd, Nat.reduceSub, Nat.reduceLeDiff, decide_eq_true_eq, true_and, and_true, Int.reduceNeg]
    have yes : ∃ t'_1, List.map sideV t' ++ [sideV s] = List.map sideV t'_1 ∧ t'_1.Sublist (List.take j t ++ [s]) := ⟨t' ++ [s], by simp, sl.append (List.Sublist.refl _)⟩
    have no : ∃ t'_1, List.map sideV t' ++ [] = List.map sideV t'_1 ∧ t'_1.Sublist (List.take j t ++ [s]) := ⟨t', by simp, sl.trans (List.sublist_append_left _ _)⟩
    by_cases hq1 : q = 1
    · rw [if_pos hq1]
      exact ⟨by omega, Dh.mono (by omega), Gh, yes⟩
    · rw [if_neg hq1]
      refine OK.mono (draw_spec Dh (by decide) (by decide) (by omega)) ?_
      rintro v h2 ⟨y, rfl, y0, y7, D3, g3⟩
      try simp (maxSteps := 4000000) only [ok_ret, ok_bnd, ok_lift, ok_var, ok_c, ok_bin, ok_un, ok_asB, ok_and, ok_or, ok_not, ok_chain, ok_nil, ok_cons, ok_tup, ok_lst, ok_fn, ok_tmp, ok_call, ok_meth, ok_tval, ok_tand, ok_tor, ok_tnot, ok_if, ok_pnone, ok_psome, ok_slice, ok_fresh, ok_lcx, ok_body, ok_true, ok_dtmp, ok_dval, ok_rng1, ok_rng2, ok_enum, ok_enumT, ok_zip, ok_gname, ok_gsnil, ok_gscons, ok_gtup, ok_gsub, fo_next, fo_seq, fo_asg, fo_expr, fo_ret, fo_retN, fo_if, fo_break, fo_cont, fo_par, fo_aug, fo_augS, fo_for, fo_body, vr_some, ra1, ra2, in_int, tr_bl, pa2, zp_two, sr_some, wk_tup, wk_rol, wk_str, oo_add, oo_addI, oo_sub, oo_mul, oo_fdiv, oo_mod, oo_pow, oo_shl, oo_shr, oo_and, oo_or, oo_neg, oo_inv, oo_le, oo_gt, oo_ge, oo_lt, oo_eq, oo_ne, oo_eqb, oo_is0, oo_isNot0, oo_nes, oo_eqs, oo_addT, oo_tup, oo_lst, oo_abs, oo_int, oo_intb, oo_max2, oo_min2, oo_max3, oo_min3, oo_lenT, oo_lenR, oo_gTuple, oo_gList, oo_gLen, oo_biT, oo_biR, oo_slT, oo_slR, oo_isaII, oo_isaIB, oo_isaIT, oo_isaIS, oo_isaBI, oo_isaBB, oo_isaBT, oo_isaBS, oo_isaNT, lo_lst, atI_0, atI_1, atI_2, ixN_0, ixN_1, or_ix, ot_ix, ol_ix, or_set, or_len, or_add, or_mul, or_append, or_isLst, or_bi, or_bl, or_sl, or_wk, or_sr, ot_sr, or_gtup, oo_neb, oo_isB, oo_isNotB, ok_lr1, ok_lr2, ok_tr1, ok_tr2, or_popAt, List.getElem?_cons_zero, List.getElem?_cons_succ, List.set_cons_zero, List.set_cons_succ, List.map_cons, List.map_nil, List.replicate_succ, List.replicate_zero, List.length_cons, List.length_nil, List.cons_append, List.nil_append, wipeD, if_true, if_false, Bool.false_eq_true, Nat.reduceAdd, Nat.reduceSub, Nat.reduceLeDiff, decide_eq_true_eq, true_and, and_true, Int.reduceNeg]
      by_cases hy : y < 8 - q
      · rw [if_pos hy]
        exact ⟨by omega, D3.mono (by omega), Gh.trans g3, yes⟩
      · rw [if_neg hy]
        exact ⟨by omega, D3.mono (by omega), Gh.trans g3, no⟩
  · rintro l h' ⟨_, Dh, Gh, t', rfl, sl⟩
    rw [List.length_map, List.take_length] at sl
    have G3 := G2.trans Gh
    refine ⟨(Dh.mono (by rw [List.length_map]; omega)).app, G3.trans .app, h'.length, t', rfl, G3.1, hg_new, sl⟩
def wV (p : List Nat × Int) : PV := .tup [sideV p.1, .int p.2]
theorem weigh_spec {d c a : Nat} {B : Int} {h : VH} {t : List (List Nat)} (hB : B < 2 ^ 39) (D : Deck d c B h) (nd : a ≠ d) (nc : a ≠ c) (ha : h[a]? = some (.lst (t.map sideV))) (ht : t.length ≤ 128) :
    OK (f_law_weigh [.ref d, .ref a] h) fun v h' => Deck d c (B + 400) h' ∧ Grow d c h h' ∧ ∃ W : List (List Nat × Int), v = .tup (W.map wV) ∧ W.map Prod.fst = t ∧ ∀ p ∈ W, 1 ≤ p.2 ∧ p.2 ≤ 10 ^ 12 := by
  unfold f_law_weigh
  rw [ok_fn0]
  unfold b_law_weigh
  try simp (maxSteps := 4000000) only [ok_ret, ok_bnd, ok_lift, ok_var, ok_c, ok_bin, ok_un, ok_asB, ok_and, ok_or, ok_not, ok_chain, ok_nil, ok_cons, ok_tup, ok_lst, ok_fn, ok_tmp, ok_call, ok_meth, ok_tval, ok_tand, ok_tor, ok_tnot, ok_if, ok_pnone, ok_psome, ok_slice, ok_fresh, ok_lcx, ok_body, ok_true, ok_dtmp, ok_dval, ok_rng1, ok_rng2, ok_enum, ok_enumT, ok_zip, ok_gname, ok_gsnil, ok_gscons, ok_gtup, ok_gsub, fo_next, fo_seq, fo_asg, fo_expr, fo_ret, fo_retN, fo_if, fo_break, fo_cont, fo_par, fo_aug, fo_augS, fo_for, fo_body, vr_some, ra1, ra2, in_int, tr_bl, pa2, zp_two, sr_some, wk_tup, wk_rol, wk_str, oo_add, oo_addI, oo_sub, oo_mul, oo_fdiv, oo_mod, oo_pow, oo_shl, oo_shr, oo_and, oo_or, oo_neg, oo_inv, oo_le, oo_gt, oo_ge, oo_lt, oo_eq, oo_ne, oo_eqb, oo_is0, oo_isNot0, oo_nes, oo_eqs, oo_addT, oo_tup, oo_lst, oo_abs, oo_int, oo_intb, oo_max2, oo_min2, oo_max3, oo_min3, oo_lenT, oo_lenR, oo_gTuple, oo_gList, oo_gLen, oo_biT, oo_biR, oo_slT, oo_slR, oo_isaII, oo_isaIB, oo_isaIT, oo_isaIS, oo_isaBI, oo_isaBB, oo_isaBT, oo_isaBS, oo_isaNT, lo_lst, atI_0, atI_1, atI_2, ixN_0, ixN_1, or_ix, ot_ix, ol_ix, or_set, or_len, or_add, or_mul, or_append, or_isLst, or_bi, or_bl, or_sl, or_wk, or_sr, ot_sr, or_gtup, oo_neb, oo_isB, oo_isNotB, ok_lr1, ok_lr2, ok_tr1, ok_tr2, or_popAt, List.getElem?_cons_zero, List.getElem?_cons_succ, List.set_cons_zero, List.set_cons_succ, List.map_cons, List.map_nil, List.replicate_succ, List.replicate_zero, List.length_cons, List.length_nil, List.cons_append, List.nil_append, wipeD, if_true, if_false, Bool.false_eq_true, Nat.reduceAdd, Nat.reduceSub, Nat.reduceLeDiff, decide_eq_true_eq, true_and, and_true, Int.reduceNeg]
  obtain ⟨_, _, D', _⟩ := id D
  have hd := hg_lt D'.dk
  have hc := hg_lt D'.cl
  refine OK.mono (draw_spec D (by decide) (by decide) (by omega)) ?_
  rintro v h1 ⟨r, rfl, r0, r4, D2, g2⟩
  have ha1 := g2.2 _ _ nd nc ha
  have ha2 : (h1 ++ [VO.lst []])[a]? = some (.lst (t.map sideV)) := hg_app ha1
  have hf : (h1 ++ [VO.lst []])[h1.length]? = some (.lst []) := hg_new
  have l1 : h1.length ≠ d := by have := g2.1; omega
  have l2 : h1.length ≠ c := by have := g2.1; omega
  have la : h1.length ≠ a := by have := hg_lt ha1; omega
  have D3 := D2.app (x := [VO.lst []])
  have G3 : Grow d c h (h1 ++ [VO.lst []]) := g2.trans .app
  try simp (maxSteps := 4000000) only [ok_ret, ok_bnd, ok_lift, ok_var, ok_c, ok_bin, ok_un, ok_asB, ok_and, ok_or, ok_not, ok_chain, ok_nil, ok_cons, ok_tup, ok_lst, ok_fn, ok_tmp, ok_call, ok_meth, ok_tval, ok_tand, ok_tor, ok_tnot, ok_if, ok_pnone, ok_psome, ok_slice, ok_fresh, ok_lcx, ok_body, ok_true, ok_dtmp, ok_dval, ok_rng1, ok_rng2, ok_enum, ok_enumT, ok_zip, ok_gname, ok_gsnil, ok_gscons, ok_gtup, ok_gsub, fo_next, fo_seq, fo_asg, fo_expr, fo_ret, fo_retN, fo_if, fo_break, fo_cont, fo_par, fo_aug, fo_augS, fo_for, fo_body, vr_some, ra1, ra2, in_int, tr_bl, pa2, zp_two, sr_some, wk_tup, wk_rol, wk_str, oo_add, oo_addI, oo_sub, oo_mul, oo_fdiv, oo_mod, oo_pow, oo_shl, oo_shr, oo_and, oo_or, oo_neg, oo_inv, oo_le, oo_gt, oo_ge, oo_lt, oo_eq, oo_ne, oo_eqb, oo_is0, oo_isNot0, oo_nes, oo_eqs, oo_addT, oo_tup, oo_lst, oo_abs, oo_int, oo_intb, oo_max2, oo_min2, oo_max3, oo_min3, oo_lenT, oo_lenR, oo_gTuple, oo_gList, oo_gLen, oo_biT, oo_biR, oo_slT, oo_slR, oo_isaII, oo_isaIB, oo_isaIT, oo_isaIS, oo_isaBI, oo_isaBB, oo_isaBT, oo_isaBS, oo_isaNT, lo_lst, atI_0, atI_1, atI_2, ixN_0, ixN_1, or_ix, ot_ix, ol_ix, or_set, or_len, or_add, or_mul, or_append, or_isLst, or_bi, or_bl, or_sl, or_wk, or_sr, ot_sr, or_gtup, oo_neb, oo_isB, oo_isNotB, ok_lr1, ok_lr2, ok_tr1, ok_tr2, or_popAt, List.getElem?_cons_zero, List.getElem?_cons_succ, List.set_cons_zero, List.set_cons_succ, List.map_cons, List.map_nil, List.replicate_succ, List.replicate_zero, List.length_cons, List.length_nil, List.cons_append, List.nil_append, wipeD, if_true, if_false, Bool.false_eq_true, Nat.reduceAdd, Nat.reduceSub, Nat.reduceLeDiff, decide_eq_true_eq, true_and, and_true, Int.reduceNeg, ha2]
  generalize h1 ++ [VO.lst []] = h2 at ha2 hf D3 G3
  have lf : h.length ≤ h1.length := g2.1
  generalize h1.length = f at hf l1 l2 la lf
  refine fo_loop0 (fun i v h' => i ≤ t.length ∧ ∃ (x4 x5 : Option PV) (W : List (List Nat × Int)), v = [some (.ref d), some (.ref a), some (.int r), some (.ref f), x4, x5] ∧ Deck d c (B + 1 + 3 * i) h' ∧ h'[a]? = some (.lst (t.map sideV)) ∧ h'[f]? = some (.lst (W.map wV)) ∧ W.map Prod.fst = t.take i ∧ (∀ p ∈ W, 1 ≤ p.2 ∧ p.2 ≤ 10 ^ 12) ∧ Grow d c h h') ⟨by omega, _, _, [], rfl, by simpa using D3, ha2, hf, rfl, by simp, G3⟩ ?_ ?_ ?_
  · rintro i v h' _ ⟨_, x4, x5, W, rfl, Dh, ah, _⟩
    exact srcOk_one ah
  · rintro i x v h' hx ⟨hi, x4, x5, W, rfl, Dh, ah, fh, e, hw, Gh⟩
    rw [List.getElem?_map] at hx
    obtain ⟨s, hs, rfl⟩ := Option.map_eq_some_iff.mp hx
    have hlt := hg_lt' hs
    try simp (maxSteps := 4000000) only [ok_ret, ok_bnd, ok_lift, ok_var, ok_c, ok_bin, ok_un, ok_asB, ok_and, ok_or, ok_not, ok_chain, ok_nil, ok_cons, ok_tup, ok_lst, ok_fn, ok_tmp, ok_call, ok_meth, ok_tval, ok_tand, ok_tor, ok_tnot, ok_if, ok_pnone, ok_psome, ok_slice, ok_fresh, ok_lcx, ok_body, ok_true, ok_dtmp, ok_dval, ok_rng1, ok_rng2, ok_enum, ok_enumT, ok_zip, ok_gname, ok_gsnil, ok_gscons, ok_gtup, ok_gsub, fo_next, fo_seq, fo_asg, fo_expr, fo_ret, fo_retN, fo_if, fo_break, fo_cont, fo_par, fo_aug, fo_augS, fo_for, fo_body, vr_some, ra1, ra2, in_int, tr_bl, pa2, zp_two, sr_some, wk_tup, wk_rol, wk_str, oo_add, oo_addI, oo_sub, oo_mul, oo_fdiv, oo_mod, oo_pow, oo_shl, oo_shr, oo_and, oo_or, oo_neg, oo_inv, oo_le, oo_gt, oo_ge, oo_lt, oo_eq, oo_ne, oo_eqb, oo_is0, oo_isNot0, oo_nes, oo_eqs, oo_addT, oo_tup, oo_lst, oo_abs, oo_int, oo_intb, oo_max2, oo_min2, oo_max3, oo_min3, oo_lenT, oo_lenR, oo_gTuple, oo_gList, oo_gLen, oo_biT, oo_biR, oo_slT, oo_slR, oo_isaII, oo_isaIB, oo_isaIT, oo_isaIS, oo_isaBI, oo_isaBB, oo_isaBT, oo_isaBS, oo_isaNT, lo_lst, atI_0, atI_1, atI_2, ixN_0, ixN_1, or_ix, ot_ix, ol_ix, or_set, or_len, or_add, or_mul, or_append, or_isLst, or_bi, or_bl, or_sl, or_wk, or_sr, ot_sr, or_gtup, oo_neb, oo_isB, oo_isNotB, ok_lr1, ok_lr2, ok_tr1, ok_tr2, or_popAt, List.getElem?_cons_zero, List.getElem?_cons_succ, List.set_cons_zero, List.set_cons_succ, List.map_cons, List.map_nil, List.replicate_succ, List.replicate_zero, List.length_cons, List.length_nil, List.cons_append, List.nil_append, wipeD, if_true, if_false, Bool.false_eq_true, Nat.reduceAdd, Nat.reduceSub, Nat.reduceLeDiff, decide_eq_true_eq, true_and, and_true, Int.reduceNeg]
    refine OK.mono (draw_spec Dh (by decide) (by decide) (by omega)) ?_
    rintro v k1 ⟨y1, rfl, p1, q1, E1, m1⟩
    try simp (maxSteps := 4000000) only [ok_ret, ok_bnd, ok_lift, ok_var, ok_c, ok_bin, ok_un, ok_asB, ok_and, ok_or, ok_not, ok_chain, ok_nil, ok_cons, ok_tup, ok_lst, ok_fn, ok_tmp, ok_call, ok_meth, ok_tval, ok_tand, ok_tor, ok_tnot, ok_if, ok_pnone, ok_psome, ok_slice, ok_fresh, ok_lcx, ok_body, ok_true, ok_dtmp, ok_dval, ok_rng1, ok_rng2, ok_enum, ok_enumT, ok_zip, ok_gname, ok_gsnil, ok_gscons, ok_gtup, ok_gsub, fo_next, fo_seq, fo_asg, fo_expr, fo_ret, fo_retN, fo_if, fo_break, fo_cont, fo_par, fo_aug, fo_augS, fo_for, fo_body, vr_some, ra1, ra2, in_int, tr_bl, pa2, zp_two, sr_some, wk_tup, wk_rol, wk_str, oo_add, oo_addI, oo_sub, oo_mul, oo_fdiv, oo_mod, oo_pow, oo_shl, oo_shr, oo_and, oo_or, oo_neg, oo_inv, oo_le, oo_gt, oo_ge, oo_lt, oo_eq, oo_ne, oo_eqb, oo_is0, oo_isNot0, oo_nes, oo_eqs, oo_addT, oo_tup, oo_lst, oo_abs, oo_int, oo_intb, oo_max2, oo_min2, oo_max3, oo_min3, oo_lenT, oo_lenR, oo_gTuple, oo_gList, oo_gLen, oo_biT, oo_biR, oo_slT, oo_slR, oo_isaII, oo_isaIB, oo_isaIT, oo_isaIS, oo_isaBI, oo_isaBB, oo_isaBT, oo_isaBS, oo_isaNT, lo_lst, atI_0, atI_1, atI_2, ixN_0, ixN_1, or_ix, ot_ix, ol_ix, or_set, or_len, or_add, or_mul, or_append, or_isLst, or_bi, or_bl, or_sl, or_wk, or_sr, ot_sr, or_gtup, oo_neb, oo_isB, oo_isNotB, ok_lr1, ok_lr2, ok_tr1, ok_tr2, or_popAt, List.getElem?_cons_zero, List.getElem?_cons_succ, List.set_cons_zero, List.set_cons_succ, List.map_cons, List.map_nil, List.replicate_succ, List.replicate_zero, List.length_cons, List.length_nil, List.cons_append, List.nil_append, wipeD, if_true, if_false, Bool.false_eq_true, Nat.reduceAdd, Nat.reduceSub, Nat.reduceLeDiff, decide_eq_true_eq, true_and, and_true, Int.reduceNeg]
    refine OK.mono (draw_spec E1 (by decide) (by decide) (by omega)) ?_
    rintro v k2 ⟨y2, rfl, p2, q2, E2, m2⟩
    try simp (maxSteps := 4000000) only [ok_ret, ok_bnd, ok_lift, ok_var, ok_c, ok_bin, ok_un, ok_asB, ok_and, ok_or, ok_not, ok_chain, ok_nil, ok_cons, ok_tup, ok_lst, ok_fn, ok_tmp, ok_call, ok_meth, ok_tval, ok_tand, ok_tor, ok_tnot, ok_if, ok_pnone, ok_psome, ok_slice, ok_fresh, ok_lcx, ok_body, ok_true, ok_dtmp, ok_dval, ok_rng1, ok_rng2, ok_enum, ok_enumT, ok_zip, ok_gname, ok_gsnil, ok_gscons, ok_gtup, ok_gsub, fo_next, fo_seq, fo_asg, fo_expr, fo_ret, fo_retN, fo_if, fo_break, fo_cont, fo_par, fo_aug, fo_augS, fo_for, fo_body, vr_some, ra1, ra2, in_int, tr_bl, pa2, zp_two, sr_some, wk_tup, wk_rol, wk_str, oo_add, oo_addI, oo_sub, oo_mul, oo_fdiv, oo_mod, oo_pow, oo_shl, oo_shr, oo_and, oo_or, oo_neg, oo_inv, oo_le, oo_gt, oo_ge, oo_lt, oo_eq, oo_ne, oo_eqb, oo_is0, oo_isNot0, oo_nes, oo_eqs, oo_addT, oo_tup, oo_lst, oo_abs, oo_int, oo_intb, oo_max2, oo_min2, oo_max3, oo_min3, oo_lenT, oo_lenR, oo_gTuple, oo_gList, oo_gLen, oo_biT, oo_biR, oo_slT, oo_slR, oo_isaII, oo_isaIB, oo_isaIT, oo_isaIS, oo_isaBI, oo_isaBB, oo_isaBT, oo_isaBS, oo_isaNT, lo_lst, atI_0, atI_1, atI_2, ixN_0, ixN_1, or_ix, ot_ix, ol_ix, or_set, or_len, or_add, or_mul, or_append, or_isLst, or_bi, or_bl, or_sl, or_wk, or_sr, ot_sr, or_gtup, oo_neb, oo_isB, oo_isNotB, ok_lr1, ok_lr2, ok_tr1, ok_tr2, or_popAt, List.getElem?_cons_zero, List.getElem?_cons_succ, List.set_cons_zero, List.set_cons_succ, List.map_cons, List.map_nil, List.replicate_succ, List.replicate_zero, List.length_cons, List.length_nil, List.cons_append, List.nil_append, wipeD, if_true, if_false, Bool.false_eq_true, Nat.reduceAdd, Nat.reduceSub, Nat.reduceLeDiff, decide_eq_true_eq, true_and, and_true, Int.reduceNeg]
    refine ⟨by decide, ?_⟩
    rw [show ((10 : Int) ^ Int.toNat 12) = 10 ^ 12 from rfl]
    refine OK.mono (draw_spec E2 (by decide) (by decide) (by omega)) ?_
    rintro v k3 ⟨y3, rfl, p3, q3, E3, m3⟩
    have M := (m1.trans m2).trans m3
    have ah3 := M.2 _ _ nd nc ah
    have fh3 := M.2 _ _ l1 l2 fh
    have z1 : (k3 ++ [VO.lst [PV.int 1, .int (1 + y1), .int (1 + y2), .int (10 ^ 12 - y3)]])[f]? = some (.lst (W.map wV)) := hg_app fh3
    have z2 : (k3 ++ [VO.lst [PV.int 1, .int (1 + y1), .int (1 + y2), .int (10 ^ 12 - y3)]])[k3.length]? = some (.lst [PV.int 1, .int (1 + y1), .int (1 + y2), .int (10 ^ 12 - y3)]) := hg_new
    try simp (maxSteps := 4000000) only [ok_ret, ok_bnd, ok_lift, ok_var, ok_c, ok_bin, ok_un, ok_asB, ok_and, ok_or, ok_not, ok_chain, ok_nil, ok_cons, ok_tup, ok_lst, ok_fn, ok_tmp, ok_call, ok_meth, ok_tval, ok_tand, ok_tor, ok_tnot, ok_if, ok_pnone, ok_psome, ok_slice, ok_fresh, ok_lcx, ok_body, ok_true, ok_dtmp, ok_dval, ok_rng1, ok_rng2, ok_enum, ok_enumT, ok_zip, ok_gname, ok_gsnil, ok_gscons, ok_gtup, ok_gsub, fo_next, fo_seq, fo_asg, fo_expr, fo_ret, fo_retN, fo_if, fo_break, fo_cont, fo_par, fo_aug, fo_augS, fo_for, fo_body, vr_some, ra1, ra2, in_int, tr_bl, pa2, zp_two, sr_some, wk_tup, wk_rol, wk_str, oo_add, oo_addI, oo_sub, oo_mul, oo_fdiv, oo_mod, oo_pow, oo_shl, oo_shr, oo_and, oo_or, oo_neg, oo_inv, oo_le, oo_gt, oo_ge, oo_lt, oo_eq, oo_ne, oo_eqb, oo_is0, oo_isNot0, oo_nes, oo_eqs, oo_addT, oo_tup, oo_lst, oo_abs, oo_int, oo_intb, oo_max2, oo_min2, oo_max3, oo_min3, oo_lenT, oo_lenR, oo_gTuple, oo_gList, oo_gLen, oo_biT, oo_biR, oo_slT, oo_slR, oo_isaII, oo_isaIB, oo_isaIT, oo_isaIS, oo_isaBI, oo_isaBB, oo_isaBT, oo_isaBS, oo_isaNT, lo_lst, atI_0, atI_1, atI_2, ixN_0, ixN_1, or_ix, ot_ix, ol_ix, or_set, or_len, or_add, or_mul, or_append, or_isLst, or_bi, or_bl, or_sl, or_wk, or_sr, ot_sr, or_gtup, oo_neb, oo_isB, oo_isNotB, ok_lr1, ok_lr2, ok_tr1, ok_tr2, or_popAt, List.getElem?_cons_zero, List.getElem?_cons_succ, List.set_cons_zero, List.set_cons_succ, List.map_cons, List.map_nil, List.replicate_succ, List.replicate_zero, List.length_cons, List.length_nil, List.cons_append, List.nil_append, wipeD, if_true, if_false, Bool.false_eq_true, Nat.reduceAdd, Nat.reduceSub, Nat.reduceLeDiff, decide_eq_true_eq, true_and, and_true, Int.reduceNeg, z1, z2]
    obtain ⟨w, hq, w1, w2⟩ : ∃ w : Int, [PV.int 1, .int (1 + y1), .int (1 + y2), .int (10 ^ 12 - y3)][r.toNat]? = some (.int w) ∧ 1 ≤ w ∧ w ≤ 10 ^ 12 := by
      have : r = 0 ∨ r = 1 ∨ r = 2 ∨ r = 3 := by omega
      rcases this with rfl | rfl | rfl | rfl
      · exact ⟨1, rfl, by decide, by decide⟩
      · exact ⟨_, rfl, by omega, by omega⟩
      · exact ⟨_, rfl, by omega, by omega⟩
      · exact ⟨_, rfl, by omega, by omega⟩
    refine atI_of (by omega) hq ?_
    have lw : W.length = i := by have := congrArg List.length e; simp at this; omega
    have z3 := hg_app (k := [VO.lst [PV.int 1, .int (1 + y1), .int (1 + y2), .int (10 ^ 12 - y3)]]) ah3
    have E4 := E3.app (x := [VO.lst [PV.int 1, .int (1 + y1), .int (1 + y2), .int (10 ^ 12 - y3)]])
    have G4 := (Gh.trans M).trans (Grow.app (k := [VO.lst [PV.int 1, .int (1 + y1), .int (1 + y2), .int (10 ^ 12 - y3)]]))
    generalize k3 ++ [VO.lst [PV.int 1, .int (1 + y1), .int (1 + y2), .int (10 ^ 12 - y3)]] = k4 at z1 z2 z3 E4 G4 ⊢
    have tk : t.take (i + 1) = t.take i ++ [s] := by rw [List.take_add_one, hs]; rfl
    refine ⟨by rw [List.length_map]; omega, by omega, _, _, W ++ [(s, w)], rfl, (E4.upd l1 l2).mono (by omega), by rw [List.getElem?_set_ne la]; exact z3, ?_, by rw [tk, List.map_append, e]; rfl, ?_, ?_⟩
    · rw [List.getElem?_set_self (hg_lt z1), List.map_append]; rfl
    · intro p hp
      rcases List.mem_append.mp hp with z | z
      · exact hw p z
      · rw [List.mem_singleton.mp z]; exact ⟨w1, w2⟩
    · exact ⟨by rw [List.length_set]; exact G4.1, fun n o a b e0 => by rw [List.getElem?_set_ne (by have := hg_lt e0; omega)]; exact G4.2 n o a b e0⟩
  · rintro v h' ⟨_, x4, x5, W, rfl, Dh, ah, fh, e, hw, Gh⟩
    rw [List.length_map, List.take_length] at e
    try simp (maxSteps := 4000000) only [ok_ret, ok_bnd, ok_lift, ok_var, ok_c, ok_bin, ok_un, ok_asB, ok_and, ok_or, ok_not, ok_chain, ok_nil, ok_cons, ok_tup, ok_lst, ok_fn, ok_tmp, ok_call, ok_meth, ok_tval, ok_tand, ok_tor, ok_tnot, ok_if, ok_pnone, ok_psome, ok_slice, ok_fresh, ok_lcx, ok_body, ok_true, ok_dtmp, ok_dval, ok_rng1, ok_rng2, ok_enum, ok_enumT, ok_zip, ok_gname, ok_gsnil, ok_gscons, ok_gtup, ok_gsub, fo_next, fo_seq, fo_asg, fo_expr, fo_ret, fo_retN, fo_if, fo_break, fo_cont, fo_par, fo_aug, fo_augS, fo_for, fo_body, vr_some, ra1, ra2, in_int, tr_bl, pa2, zp_two, sr_some, wk_tup, wk_rol, wk_str, oo_add, oo_addI, oo_sub, oo_mul, oo_fdiv, oo_mod, oo_pow, oo_shl, oo_shr, oo_and, oo_or, oo_neg, oo_inv, oo_le, oo_gt, oo_ge, oo_lt, oo_eq, oo_ne, oo_eqb, oo_is0, oo_isNot0, oo_nes, oo_eqs, oo_addT, oo_tup, oo_lst, oo_abs, oo_int, oo_intb, oo_max2, oo_min2, oo_max3, oo_min3, oo_lenT, oo_lenR, oo_gTuple, oo_gList, oo_gLen, oo_biT, oo_biR, oo_slT, oo_slR, oo_isaII, oo_isaIB, oo_isaIT, oo_isaIS, oo_isaBI, oo_isaBB, oo_isaBT, oo_isaBS, oo_isaNT, lo_lst, atI_0, atI_1, atI_2, ixN_0, ixN_1, or_ix, ot_ix, ol_ix, or_set, or_len, or_add, or_mul, or_append, or_isLst, or_bi, or_bl, or_sl, or_wk, or_sr, ot_sr, or_gtup, oo_neb, oo_isB, oo_isNotB, ok_lr1, ok_lr2, ok_tr1, ok_tr2, or_popAt, List.getElem?_cons_zero, List.getElem?_cons_succ, List.set_cons_zero, List.set_cons_succ, List.map_cons, List.map_nil, List.replicate_succ, List.replicate_zero, List.length_cons, List.length_nil, List.cons_append, List.nil_append, wipeD, if_true, if_false, Bool.false_eq_true, Nat.reduceAdd, Nat.reduceSub, Nat.reduceLeDiff, decide_eq_true_eq, true_and, and_true, Int.reduceNeg, fh]
    exact ⟨Dh.mono (by rw [List.length_map]; omega), Gh, W, rfl, e, hw⟩
end G

namespace G
open PySem PySem.Spec PySem.W PyProof.Rows L2 D
/-! an exact matrix -/
structure MX (L : Nat) (h : VH) (a : Nat) (rs : List Nat) (n : Nat) (F : Nat → Nat → Int) : Prop where
  ha : h[a]? = some (.lst (rs.map PV.ref))
  la : L ≤ a
  len : rs.length = n
  nd : rs.Nodup
  an : a ∉ rs
  row : ∀ (i : Nat) r, rs[i]? = some r → L ≤ r ∧ h[r]? = some (.lst (intL ((List.range n).map (F i))))
def upd (F : Nat → Nat → Int) (i j : Nat) (x : Int) : Nat → Nat → Int := fun i' j' => if i' = i ∧ j' = j then x else F i' j'
theorem MX.congr {L a n : Nat} {h : VH} {rs : List Nat} {F G : Nat → Nat → Int} (m : MX L h a rs n F) (e : ∀ i j, i < n → j < n → F i j = G i j) : MX L h a rs n G :=
  ⟨m.ha, m.la, m.len, m.nd, m.an, fun i r hr => by
    obtain ⟨p, q⟩ := m.row i r hr
    have hi : i < n := by rw [← m.len]; exact hg_lt' hr
    refine ⟨p, q.trans ?_⟩
    rw [List.map_congr_left fun j hj => e i j hi (List.mem_range.mp hj)]⟩
theorem MX.at {L a n : Nat} {h : VH} {rs : List Nat} {F : Nat → Nat → Int} (m : MX L h a rs n F) {i : Nat} (hi : i < n) : ∃ r, rs[i]? = some r ∧ L ≤ r ∧ h[r]? = some (.lst (intL ((List.range n).map (F i)))) := by
  have hi' : i < rs.length := by rw [m.len]; exact hi
  exact ⟨rs[i], List.getElem?_eq_getElem hi', m.row i _ (List.getElem?_eq_getElem hi')⟩
theorem row_set {n j : Nat} {f : Nat → Int} {x : Int} : ((List.range n).map f).set j x = (List.range n).map fun k => if k = j then x else f k := by
  refine List.ext_getElem? fun k => ?_
  rw [List.getElem?_set]
  simp only [List.getElem?_map, List.length_map, List.length_range]
  by_cases e : j = k
  · subst e
    by_cases hj : j < n
    · simp [hj]
    · simp [hj]
  · by_cases hk : k < n
    · simp [e, hk, Ne.symm e]
    · simp [e, hk]
theorem MX.set {L a n i j r : Nat} {h : VH} {rs : List Nat} {F : Nat → Nat → Int} {x : Int} (m : MX L h a rs n F) (hr : rs[i]? = some r) : MX L (h.set r (.lst (intL (((List.range n).map (F i)).set j x)))) a rs n (upd F i j x) := by
  have ar : a ≠ r := fun e => m.an (by rw [e]; exact List.mem_of_getElem? hr)
  refine ⟨(hg_set_ne ar).trans m.ha, m.la, m.len, m.nd, m.an, fun i' r' hr' => ?_⟩
  obtain ⟨p, q⟩ := m.row i' r' hr'
  refine ⟨p, ?_⟩
  by_cases e : i' = i
  · subst e
    have : r' = r := Option.some.inj (hr'.symm.trans hr)
    subst this
    rw [hg_set (hg_lt q), row_set]
    congr 4
    funext k
    simp [upd]
  · have ne : r' ≠ r := fun e2 => by
      subst e2
      have h1 := hg_lt' hr'
      have h2 := hg_lt' hr
      have e1 : rs[i'] = rs[i] := by
        have := (List.getElem?_eq_getElem h1).symm.trans hr'
        have t2 := (List.getElem?_eq_getElem h2).symm.trans hr
        exact (Option.some.inj this).trans (Option.some.inj t2).symm
      exact e ((List.getElem_inj m.nd).mp e1)
    refine (hg_set_ne ne).trans (q.trans ?_)
    congr 4
    funext k
    simp [upd, e]
/-! the heap keeps what it has -/
def Keep (h h' : VH) : Prop := h.length ≤ h'.length ∧ ∀ (x : Nat) o, h[x]? = some o → h'[x]? = some o
theorem Keep.refl {h : VH} : Keep h h := ⟨Nat.le_refl _, fun _ _ e => e⟩
theorem Keep.trans {h h1 h2 : VH} (p : Keep h h1) (q : Keep h1 h2) : Keep h h2 := ⟨Nat.le_trans p.1 q.1, fun x o e => q.2 x o (p.2 x o e)⟩
theorem Keep.app {h k : VH} : Keep h (h ++ k) := ⟨by simp, fun _ _ e => hg_app e⟩
theorem Keep.set {h h' : VH} {r : Nat} {o : VO} (p : Keep h h') (hr : h.length ≤ r) : Keep h (h'.set r o) := ⟨by simpa using p.1, fun x o e => (hg_set_ne (by have := hg_lt e; omega)).trans (p.2 x o e)⟩
theorem Keep.deck {d c : Nat} {B : Int} {h h' : VH} (p : Keep h h') (D : Deck d c B h) : Deck d c B h' := by
  obtain ⟨k, cells, D, e⟩ := D
  exact ⟨k, cells, ⟨p.2 _ _ D.dk, p.2 _ _ D.cl, D.ne, D.pos, D.k0, D.len⟩, e⟩
theorem Keep.grow {d c : Nat} {h h' : VH} (p : Keep h h') : Grow d c h h' := ⟨p.1, fun x o _ _ e => p.2 x o e⟩
/-! distances of weighted sides -/
theorem if_iff {p q : Prop} [Decidable p] [Decidable q] {a b : Int} (e : p ↔ q) : (if p then a else b) = if q then a else b := by
  by_cases h : p
  · rw [if_pos h, if_pos (e.mp h)]
  · rw [if_neg h, if_neg fun z => h (e.mpr z)]
def one1 (s : List Nat) (w : Int) (a b : Nat) : Int := if (a ∈ s ∧ b ∉ s) ∨ (b ∈ s ∧ a ∉ s) then w else 0
def dist (W : List (List Nat × Int)) (a b : Nat) : Int := (W.map fun p => one1 p.1 p.2 a b).sum
def putT (n : Nat) (W : List (List Nat × Int)) : List (List Int) := (List.range n).map fun a => (List.range n).map (dist W a)
def midF (s : List Nat) (w : Int) (i a b : Nat) : Int := if (a ∈ s.take i ∧ b ∉ s) ∨ (b ∈ s.take i ∧ a ∉ s) then w else 0
def innF (s : List Nat) (w : Int) (o j a b : Nat) : Int := if (a = o ∧ b < j ∧ b ∉ s) ∨ (b = o ∧ a < j ∧ a ∉ s) then w else 0
theorem midF_0 {s : List Nat} {w : Int} {a b : Nat} : midF s w 0 a b = 0 := by simp [midF]
theorem midF_all {s : List Nat} {w : Int} {a b : Nat} : midF s w s.length a b = one1 s w a b := by simp [midF, one1]
theorem innF_0 {s : List Nat} {w : Int} {o a b : Nat} : innF s w o 0 a b = 0 := by simp [innF]
theorem innF_in {s : List Nat} {w : Int} {o j a b : Nat} (hj : j ∈ s) : innF s w o (j + 1) a b = innF s w o j a b := by
  unfold innF
  refine if_iff ⟨fun h => ?_, fun h => ?_⟩
  · rcases h with ⟨p, q, r⟩ | ⟨p, q, r⟩
    · exact .inl ⟨p, by have : b ≠ j := fun e => r (e ▸ hj); omega, r⟩
    · exact .inr ⟨p, by have : a ≠ j := fun e => r (e ▸ hj); omega, r⟩
  · rcases h with ⟨p, q, r⟩ | ⟨p, q, r⟩
    · exact .inl ⟨p, by omega, r⟩
    · exact .inr ⟨p, by omega, r⟩
theorem innF_out {s : List Nat} {w : Int} {o j a b : Nat} (ho : o ∈ s) (hj : j ∉ s) : innF s w o (j + 1) a b = innF s w o j a b + if (a = o ∧ b = j) ∨ (a = j ∧ b = o) then w else 0 := by
  have ne : o ≠ j := fun e => hj (e ▸ ho)
  unfold innF
  by_cases c1 : a = o ∧ b = j
  · obtain ⟨rfl, rfl⟩ := c1
    rw [if_pos (Or.inl ⟨rfl, Nat.lt_succ_self _, hj⟩), if_neg, if_pos (Or.inl ⟨rfl, rfl⟩), Int.zero_add]
    rintro (⟨_, p, _⟩ | ⟨p, _⟩)
    · omega
    · exact ne p.symm
  · by_cases c2 : a = j ∧ b = o
    · obtain ⟨rfl, rfl⟩ := c2
      rw [if_pos (Or.inr ⟨rfl, Nat.lt_succ_self _, hj⟩), if_neg, if_pos (Or.inr ⟨rfl, rfl⟩), Int.zero_add]
      rintro (⟨p, _⟩ | ⟨_, p, _⟩)
      · exact ne p.symm
      · omega
    · rw [if_neg (c := (a = o ∧ b = j) ∨ (a = j ∧ b = o)) (by rintro (p | p); exact c1 p; exact c2 p), Int.add_zero]
      refine if_iff ⟨fun h => ?_, fun h => ?_⟩
      · rcases h with ⟨p, q, r⟩ | ⟨p, q, r⟩
        · exact .inl ⟨p, by have : b ≠ j := fun e => c1 ⟨p, e⟩; omega, r⟩
        · exact .inr ⟨p, by have : a ≠ j := fun e => c2 ⟨e, p⟩; omega, r⟩
      · rcases h with ⟨p, q, r⟩ | ⟨p, q, r⟩
        · exact .inl ⟨p, by omega, r⟩
        · exact .inr ⟨p, by omega, r⟩
theorem midF_succ {n i : Nat} {s : List Nat} {w : Int} {o a b : Nat} (nd : s.Nodup) (e : s[i]? = some o) (ha : a < n) (hb : b < n) : midF s w (i + 1) a b = midF s w i a b + innF s w o n a b := by
  have ho : o ∈ s := List.mem_of_getElem? e
  have tk : s.take (i + 1) = s.take i ++ [o] := by rw [List.take_add_one, e]; rfl
  have no : o ∉ s.take i := by
    intro hm
    have h1 : (s.take (i + 1)).Nodup := (List.take_sublist _ _).nodup nd
    rw [tk, List.nodup_append] at h1
    exact h1.2.2 o hm o (by simp) rfl
  unfold midF innF
  rw [tk]
  have sub : ∀ x, x ∈ s.take i → x ∈ s := fun x hx => (List.take_sublist _ _).subset hx
  by_cases c1 : a = o ∧ b ∉ s
  · obtain ⟨rfl, hb'⟩ := c1
    rw [if_pos (Or.inl ⟨by simp, hb'⟩), if_neg, if_pos (Or.inl ⟨rfl, hb, hb'⟩), Int.zero_add]
    rintro (⟨p, _⟩ | ⟨p, _⟩)
    · exact no p
    · exact hb' (sub _ p)
  · by_cases c2 : b = o ∧ a ∉ s
    · obtain ⟨rfl, ha'⟩ := c2
      rw [if_pos (Or.inr ⟨by simp, ha'⟩), if_neg, if_pos (Or.inr ⟨rfl, ha, ha'⟩), Int.zero_add]
      rintro (⟨p, _⟩ | ⟨p, _⟩)
      · exact ha' (sub _ p)
      · exact no p
    · have i0 : ¬((a = o ∧ b < n ∧ b ∉ s) ∨ (b = o ∧ a < n ∧ a ∉ s)) := by
        rintro (⟨p, _, q⟩ | ⟨p, _, q⟩)
        · exact c1 ⟨p, q⟩
        · exact c2 ⟨p, q⟩
      rw [if_neg i0, Int.add_zero]
      refine if_iff ⟨fun h => ?_, fun h => ?_⟩
      · rcases h with ⟨p, q⟩ | ⟨p, q⟩
        · rcases List.mem_append.mp p with z | z
          · exact .inl ⟨z, q⟩
          · exact absurd ⟨List.mem_singleton.mp z, q⟩ c1
        · rcases List.mem_append.mp p with z | z
          · exact .inr ⟨z, q⟩
          · exact absurd ⟨List.mem_singleton.mp z, q⟩ c2
      · rcases h with ⟨p, q⟩ | ⟨p, q⟩
        · exact .inl ⟨List.mem_append_left _ p, q⟩
        · exact .inr ⟨List.mem_append_left _ p, q⟩
theorem oo_notInN {s : List Nat} {j : Nat} {h : VH} {Q : PV → VH → Prop} : OO (oNotIn (.int (j : Nat)) (.tup (natL s)) h) Q = Q (.bl (!decide (j ∈ s))) h := by
  unfold natL
  rw [oo_notInT]
  congr 3
  rw [decide_eq_decide]
  simp only [List.mem_map]
  exact ⟨fun ⟨a, p, e⟩ => by rw [show j = a by omega]; exact p, fun p => ⟨j, p, rfl⟩⟩
theorem oo_inN {s : List Nat} {j : Nat} {h : VH} {Q : PV → VH → Prop} : OO (oIn (.int (j : Nat)) (.tup (natL s)) h) Q = Q (.bl (decide (j ∈ s))) h := by
  unfold natL
  rw [oo_inT]
  congr 2
  rw [decide_eq_decide]
  simp only [List.mem_map]
  exact ⟨fun ⟨a, p, e⟩ => by rw [show j = a by omega]; exact p, fun p => ⟨j, p, rfl⟩⟩
theorem rowF_get {n j : Nat} {f : Nat → Int} (hj : j < n) : (intL ((List.range n).map f))[j]? = some (.int (f j)) := by
  simp [intL, hj]
theorem dist_snoc {W : List (List Nat × Int)} {k : Nat} {p : List Nat × Int} (e : W[k]? = some p) (a b : Nat) : dist (W.take (k + 1)) a b = dist (W.take k) a b + one1 p.1 p.2 a b := by
  unfold dist
  rw [List.take_add_one, e]
  simp
theorem put_spec {n : Nat} {W : List (List Nat × Int)} {h : VH} (n8 : n ≤ 8) (hW : ∀ p ∈ W, p.1.Nodup ∧ ∀ x ∈ p.1, x < n) :
    OK (fput_together [.int (n : Nat), .tup (W.map wV)] h) fun v h' => v = tabV (putT n W) ∧ Keep h h' := by
  unfold fput_together
  rw [ok_fn0]
  unfold bput_together
  try simp (maxSteps := 4000000) only [ok_ret, ok_bnd, ok_lift, ok_var, ok_c, ok_bin, ok_un, ok_asB, ok_and, ok_or, ok_not, ok_chain, ok_nil, ok_cons, ok_tup, ok_lst, ok_fn, ok_tmp, ok_call, ok_meth, ok_tval, ok_tand, ok_tor, ok_tnot, ok_if, ok_pnone, ok_psome, ok_slice, ok_fresh, ok_lcx, ok_body, ok_true, ok_dtmp, ok_dval, ok_rng1, ok_rng2, ok_enum, ok_enumT, ok_zip, ok_gname, ok_gsnil, ok_gscons, ok_gtup, ok_gsub, fo_next, fo_seq, fo_asg, fo_expr, fo_ret, fo_retN, fo_if, fo_break, fo_cont, fo_par, fo_aug, fo_augS, fo_for, fo_body, vr_some, ra1, ra2, in_int, tr_bl, pa2, zp_two, sr_some, wk_tup, wk_rol, wk_str, oo_add, oo_addI, oo_sub, oo_mul, oo_fdiv, oo_mod, oo_pow, oo_shl, oo_shr, oo_and, oo_or, oo_neg, oo_inv, oo_le, oo_gt, oo_ge, oo_lt, oo_eq, oo_ne, oo_eqb, oo_is0, oo_isNot0, oo_nes, oo_eqs, oo_addT, oo_tup, oo_lst, oo_abs, oo_int, oo_intb, oo_max2, oo_min2, oo_max3, oo_min3, oo_lenT, oo_lenR, oo_gTuple, oo_gList, oo_gLen, oo_biT, oo_biR, oo_slT, oo_slR, oo_isaII, oo_isaIB, oo_isaIT, oo_isaIS, oo_isaBI, oo_isaBB, oo_isaBT, oo_isaBS, oo_isaNT, lo_lst, atI_0, atI_1, atI_2, ixN_0, ixN_1, or_ix, ot_ix, ol_ix, or_set, or_len, or_add, or_mul, or_append, or_isLst, or_bi, or_bl, or_sl, or_wk, or_sr, ot_sr, or_gtup, oo_neb, oo_isB, oo_isNotB, ok_lr1, ok_lr2, ok_tr1, ok_tr2, or_popAt, List.getElem?_cons_zero, List.getElem?_cons_succ, List.set_cons_zero, List.set_cons_succ, List.map_cons, List.map_nil, List.replicate_succ, List.replicate_zero, List.length_cons, List.length_nil, List.cons_append, List.nil_append, wipeD, if_true, if_false, Bool.false_eq_true, Nat.reduceAdd, Nat.reduceSub, Nat.reduceLeDiff, decide_eq_true_eq, true_and, and_true, Int.reduceNeg]
  refine ⟨by omega, by rw [rng_len]; omega, ?_⟩
  refine OK.mono (zeros_lc (n := (n : Int)) rfl (by decide) (by omega) (by omega)) ?_
  rintro l h1 ⟨rs, k, rfl, rfl, q⟩
  rw [Int.toNat_natCast] at q
  have m := q.mat
  have M0 : MX h.length ((h ++ k) ++ [.lst (rs.map PV.ref)]) (h ++ k).length rs n (fun _ _ => 0) := ⟨m.ha, m.la, m.len, m.nd, m.an, fun i r hr => by
    obtain ⟨p, v, q1, q2, q3⟩ := m.row r (List.mem_of_getElem? hr)
    refine ⟨p, q1.trans ?_⟩
    congr 3
    refine List.ext_getElem (by simp [q2]) fun j h1 h2 => ?_
    have := q3 v[j] (List.getElem_mem h1)
    simp
    omega⟩
  have K0 : Keep h ((h ++ k) ++ [.lst (rs.map PV.ref)]) := Keep.app.trans .app
  have mlt := hg_lt m.ha
  clear m
  generalize (h ++ k) ++ [VO.lst (rs.map PV.ref)] = h1 at M0 K0 mlt
  generalize (h ++ k).length = A at M0 mlt
  try simp (maxSteps := 4000000) only [ok_ret, ok_bnd, ok_lift, ok_var, ok_c, ok_bin, ok_un, ok_asB, ok_and, ok_or, ok_not, ok_chain, ok_nil, ok_cons, ok_tup, ok_lst, ok_fn, ok_tmp, ok_call, ok_meth, ok_tval, ok_tand, ok_tor, ok_tnot, ok_if, ok_pnone, ok_psome, ok_slice, ok_fresh, ok_lcx, ok_body, ok_true, ok_dtmp, ok_dval, ok_rng1, ok_rng2, ok_enum, ok_enumT, ok_zip, ok_gname, ok_gsnil, ok_gscons, ok_gtup, ok_gsub, fo_next, fo_seq, fo_asg, fo_expr, fo_ret, fo_retN, fo_if, fo_break, fo_cont, fo_par, fo_aug, fo_augS, fo_for, fo_body, vr_some, ra1, ra2, in_int, tr_bl, pa2, zp_two, sr_some, wk_tup, wk_rol, wk_str, oo_add, oo_addI, oo_sub, oo_mul, oo_fdiv, oo_mod, oo_pow, oo_shl, oo_shr, oo_and, oo_or, oo_neg, oo_inv, oo_le, oo_gt, oo_ge, oo_lt, oo_eq, oo_ne, oo_eqb, oo_is0, oo_isNot0, oo_nes, oo_eqs, oo_addT, oo_tup, oo_lst, oo_abs, oo_int, oo_intb, oo_max2, oo_min2, oo_max3, oo_min3, oo_lenT, oo_lenR, oo_gTuple, oo_gList, oo_gLen, oo_biT, oo_biR, oo_slT, oo_slR, oo_isaII, oo_isaIB, oo_isaIT, oo_isaIS, oo_isaBI, oo_isaBB, oo_isaBT, oo_isaBS, oo_isaNT, lo_lst, atI_0, atI_1, atI_2, ixN_0, ixN_1, or_ix, ot_ix, ol_ix, or_set, or_len, or_add, or_mul, or_append, or_isLst, or_bi, or_bl, or_sl, or_wk, or_sr, ot_sr, or_gtup, oo_neb, oo_isB, oo_isNotB, ok_lr1, ok_lr2, ok_tr1, ok_tr2, or_popAt, List.getElem?_cons_zero, List.getElem?_cons_succ, List.set_cons_zero, List.set_cons_succ, List.map_cons, List.map_nil, List.replicate_succ, List.replicate_zero, List.length_cons, List.length_nil, List.cons_append, List.nil_append, wipeD, if_true, if_false, Bool.false_eq_true, Nat.reduceAdd, Nat.reduceSub, Nat.reduceLeDiff, decide_eq_true_eq, true_and, and_true, Int.reduceNeg]
  refine fo_loop0 (fun i v h' => i ≤ W.length ∧ ∃ x3 x4 x5 x6 x7 x8 : Option PV, v = [some (.int (n : Nat)), some (.tup (W.map wV)), some (.ref A), x3, x4, x5, x6, x7, x8] ∧ MX h.length h' A rs n (dist (W.take i)) ∧ Keep h h') ⟨Nat.zero_le _, _, _, _, _, _, _, rfl, M0.congr fun _ _ _ _ => by simp [dist], K0⟩ (fun _ _ _ _ _ => rfl) ?_ ?_
  · rintro i x v h' hx ⟨hi, x3, x4, x5, x6, x7, x8, rfl, Mx, Kx⟩
    rw [List.getElem?_map] at hx
    obtain ⟨⟨s, w⟩, hs, rfl⟩ := Option.map_eq_some_iff.mp hx
    obtain ⟨snd, slt⟩ := hW _ (List.mem_of_getElem? hs)
    have hlt := hg_lt' hs
    simp only [wV, sideV]
    try simp (maxSteps := 4000000) only [ok_ret, ok_bnd, ok_lift, ok_var, ok_c, ok_bin, ok_un, ok_asB, ok_and, ok_or, ok_not, ok_chain, ok_nil, ok_cons, ok_tup, ok_lst, ok_fn, ok_tmp, ok_call, ok_meth, ok_tval, ok_tand, ok_tor, ok_tnot, ok_if, ok_pnone, ok_psome, ok_slice, ok_fresh, ok_lcx, ok_body, ok_true, ok_dtmp, ok_dval, ok_rng1, ok_rng2, ok_enum, ok_enumT, ok_zip, ok_gname, ok_gsnil, ok_gscons, ok_gtup, ok_gsub, fo_next, fo_seq, fo_asg, fo_expr, fo_ret, fo_retN, fo_if, fo_break, fo_cont, fo_par, fo_aug, fo_augS, fo_for, fo_body, vr_some, ra1, ra2, in_int, tr_bl, pa2, zp_two, sr_some, wk_tup, wk_rol, wk_str, oo_add, oo_addI, oo_sub, oo_mul, oo_fdiv, oo_mod, oo_pow, oo_shl, oo_shr, oo_and, oo_or, oo_neg, oo_inv, oo_le, oo_gt, oo_ge, oo_lt, oo_eq, oo_ne, oo_eqb, oo_is0, oo_isNot0, oo_nes, oo_eqs, oo_addT, oo_tup, oo_lst, oo_abs, oo_int, oo_intb, oo_max2, oo_min2, oo_max3, oo_min3, oo_lenT, oo_lenR, oo_gTuple, oo_gList, oo_gLen, oo_biT, oo_biR, oo_slT, oo_slR, oo_isaII, oo_isaIB, oo_isaIT, oo_isaIS, oo_isaBI, oo_isaBB, oo_isaBT, oo_isaBS, oo_isaNT, lo_lst, atI_0, atI_1, atI_2, ixN_0, ixN_1, or_ix, ot_ix, ol_ix, or_set, or_len, or_add, or_mul, or_append, or_isLst, or_bi, or_bl, or_sl, or_wk, or_sr, ot_sr, or_gtup, oo_neb, oo_isB, oo_isNotB, ok_lr1, ok_lr2, ok_tr1, ok_tr2, or_popAt, List.getElem?_cons_zero, List.getElem?_cons_succ, List.set_cons_zero, List.set_cons_succ, List.map_cons, List.map_nil, List.replicate_succ, List.replicate_zero, List.length_cons, List.length_nil, List.cons_append, List.nil_append, wipeD, if_true, if_false, Bool.false_eq_true, Nat.reduceAdd, Nat.reduceSub, Nat.reduceLeDiff, decide_eq_true_eq, true_and, and_true, Int.reduceNeg]
    refine fo_loop0 (fun j v h' => j ≤ s.length ∧ ∃ x5 x6 x7 x8 : Option PV, v = [some (.int (n : Nat)), some (.tup (W.map wV)), some (.ref A), some (.tup (natL s)), some (.int w), x5, x6, x7, x8] ∧ MX h.length h' A rs n (fun a b => dist (W.take i) a b + midF s w j a b) ∧ Keep h h') ⟨Nat.zero_le _, _, _, _, _, rfl, Mx.congr fun _ _ _ _ => by rw [midF_0, Int.add_zero], Kx⟩ (fun _ _ _ _ _ => rfl) ?_ ?_
    · rintro j x v h2 hx ⟨hj, y5, y6, y7, y8, rfl, M2, K2⟩
      obtain ⟨o, ho, rfl⟩ := natL_inv hx
      have om := List.mem_of_getElem? ho
      have on := slt o om
      have hjl := hg_lt' ho
      try simp (maxSteps := 4000000) only [ok_ret, ok_bnd, ok_lift, ok_var, ok_c, ok_bin, ok_un, ok_asB, ok_and, ok_or, ok_not, ok_chain, ok_nil, ok_cons, ok_tup, ok_lst, ok_fn, ok_tmp, ok_call, ok_meth, ok_tval, ok_tand, ok_tor, ok_tnot, ok_if, ok_pnone, ok_psome, ok_slice, ok_fresh, ok_lcx, ok_body, ok_true, ok_dtmp, ok_dval, ok_rng1, ok_rng2, ok_enum, ok_enumT, ok_zip, ok_gname, ok_gsnil, ok_gscons, ok_gtup, ok_gsub, fo_next, fo_seq, fo_asg, fo_expr, fo_ret, fo_retN, fo_if, fo_break, fo_cont, fo_par, fo_aug, fo_augS, fo_for, fo_body, vr_some, ra1, ra2, in_int, tr_bl, pa2, zp_two, sr_some, wk_tup, wk_rol, wk_str, oo_add, oo_addI, oo_sub, oo_mul, oo_fdiv, oo_mod, oo_pow, oo_shl, oo_shr, oo_and, oo_or, oo_neg, oo_inv, oo_le, oo_gt, oo_ge, oo_lt, oo_eq, oo_ne, oo_eqb, oo_is0, oo_isNot0, oo_nes, oo_eqs, oo_addT, oo_tup, oo_lst, oo_abs, oo_int, oo_intb, oo_max2, oo_min2, oo_max3, oo_min3, oo_lenT, oo_lenR, oo_gTuple, oo_gList, oo_gLen, oo_biT, oo_biR, oo_slT, oo_slR, oo_isaII, oo_isaIB, oo_isaIT, oo_isaIS, oo_isaBI, oo_isaBB, oo_isaBT, oo_isaBS, oo_isaNT, lo_lst, atI_0, atI_1, atI_2, ixN_0, ixN_1, or_ix, ot_ix, ol_ix, or_set, or_len, or_add, or_mul, or_append, or_isLst, or_bi, or_bl, or_sl, or_wk, or_sr, ot_sr, or_gtup, oo_neb, oo_isB, oo_isNotB, ok_lr1, ok_lr2, ok_tr1, ok_tr2, or_popAt, List.getElem?_cons_zero, List.getElem?_cons_succ, List.set_cons_zero, List.set_cons_succ, List.map_cons, List.map_nil, List.replicate_succ, List.replicate_zero, List.length_cons, List.length_nil, List.cons_append, List.nil_append, wipeD, if_true, if_false, Bool.false_eq_true, Nat.reduceAdd, Nat.reduceSub, Nat.reduceLeDiff, decide_eq_true_eq, true_and, and_true, Int.reduceNeg]
      refine ⟨by omega, ?_⟩
      refine fo_loop0 (fun q v h' => q ≤ n ∧ ∃ x6 x7 x8 : Option PV, v = [some (.int (n : Nat)), some (.tup (W.map wV)), some (.ref A), some (.tup (natL s)), some (.int w), some (.int (o : Nat)), x6, x7, x8] ∧ MX h.length h' A rs n (fun a b => dist (W.take i) a b + midF s w j a b + innF s w o q a b) ∧ Keep h h') ⟨Nat.zero_le _, _, _, _, rfl, M2.congr fun _ _ _ _ => by rw [innF_0, Int.add_zero], K2⟩ (fun _ _ _ _ _ => rfl) ?_ ?_
      · rintro q x v h3 hx ⟨hq, z6, z7, z8, rfl, M3, K3⟩
        obtain ⟨hqn, rfl⟩ := rng0_get hx
        rw [Int.toNat_natCast] at hqn
        try simp (maxSteps := 4000000) only [ok_ret, ok_bnd, ok_lift, ok_var, ok_c, ok_bin, ok_un, ok_asB, ok_and, ok_or, ok_not, ok_chain, ok_nil, ok_cons, ok_tup, ok_lst, ok_fn, ok_tmp, ok_call, ok_meth, ok_tval, ok_tand, ok_tor, ok_tnot, ok_if, ok_pnone, ok_psome, ok_slice, ok_fresh, ok_lcx, ok_body, ok_true, ok_dtmp, ok_dval, ok_rng1, ok_rng2, ok_enum, ok_enumT, ok_zip, ok_gname, ok_gsnil, ok_gscons, ok_gtup, ok_gsub, fo_next, fo_seq, fo_asg, fo_expr, fo_ret, fo_retN, fo_if, fo_break, fo_cont, fo_par, fo_aug, fo_augS, fo_for, fo_body, vr_some, ra1, ra2, in_int, tr_bl, pa2, zp_two, sr_some, wk_tup, wk_rol, wk_str, oo_add, oo_addI, oo_sub, oo_mul, oo_fdiv, oo_mod, oo_pow, oo_shl, oo_shr, oo_and, oo_or, oo_neg, oo_inv, oo_le, oo_gt, oo_ge, oo_lt, oo_eq, oo_ne, oo_eqb, oo_is0, oo_isNot0, oo_nes, oo_eqs, oo_addT, oo_tup, oo_lst, oo_abs, oo_int, oo_intb, oo_max2, oo_min2, oo_max3, oo_min3, oo_lenT, oo_lenR, oo_gTuple, oo_gList, oo_gLen, oo_biT, oo_biR, oo_slT, oo_slR, oo_isaII, oo_isaIB, oo_isaIT, oo_isaIS, oo_isaBI, oo_isaBB, oo_isaBT, oo_isaBS, oo_isaNT, lo_lst, atI_0, atI_1, atI_2, ixN_0, ixN_1, or_ix, ot_ix, ol_ix, or_set, or_len, or_add, or_mul, or_append, or_isLst, or_bi, or_bl, or_sl, or_wk, or_sr, ot_sr, or_gtup, oo_neb, oo_isB, oo_isNotB, ok_lr1, ok_lr2, ok_tr1, ok_tr2, or_popAt, List.getElem?_cons_zero, List.getElem?_cons_succ, List.set_cons_zero, List.set_cons_succ, List.map_cons, List.map_nil, List.replicate_succ, List.replicate_zero, List.length_cons, List.length_nil, List.cons_append, List.nil_append, wipeD, if_true, if_false, Bool.false_eq_true, Nat.reduceAdd, Nat.reduceSub, Nat.reduceLeDiff, decide_eq_true_eq, true_and, and_true, Int.reduceNeg]
        rw [oo_notInN]
        try simp (maxSteps := 4000000) only [ok_ret, ok_bnd, ok_lift, ok_var, ok_c, ok_bin, ok_un, ok_asB, ok_and, ok_or, ok_not, ok_chain, ok_nil, ok_cons, ok_tup, ok_lst, ok_fn, ok_tmp, ok_call, ok_meth, ok_tval, ok_tand, ok_tor, ok_tnot, ok_if, ok_pnone, ok_psome, ok_slice, ok_fresh, ok_lcx, ok_body, ok_true, ok_dtmp, ok_dval, ok_rng1, ok_rng2, ok_enum, ok_enumT, ok_zip, ok_gname, ok_gsnil, ok_gscons, ok_gtup, ok_gsub, fo_next, fo_seq, fo_asg, fo_expr, fo_ret, fo_retN, fo_if, fo_break, fo_cont, fo_par, fo_aug, fo_augS, fo_for, fo_body, vr_some, ra1, ra2, in_int, tr_bl, pa2, zp_two, sr_some, wk_tup, wk_rol, wk_str, oo_add, oo_addI, oo_sub, oo_mul, oo_fdiv, oo_mod, oo_pow, oo_shl, oo_shr, oo_and, oo_or, oo_neg, oo_inv, oo_le, oo_gt, oo_ge, oo_lt, oo_eq, oo_ne, oo_eqb, oo_is0, oo_isNot0, oo_nes, oo_eqs, oo_addT, oo_tup, oo_lst, oo_abs, oo_int, oo_intb, oo_max2, oo_min2, oo_max3, oo_min3, oo_lenT, oo_lenR, oo_gTuple, oo_gList, oo_gLen, oo_biT, oo_biR, oo_slT, oo_slR, oo_isaII, oo_isaIB, oo_isaIT, oo_isaIS, oo_isaBI, oo_isaBB, oo_isaBT, oo_isaBS, oo_isaNT, lo_lst, atI_0, atI_1, atI_2, ixN_0, ixN_1, or_ix, ot_ix, ol_ix, or_set, or_len, or_add, or_mul, or_append, or_isLst, or_bi, or_bl, or_sl, or_wk, or_sr, ot_sr, or_gtup, oo_neb, oo_isB, oo_isNotB, ok_lr1, ok_lr2, ok_tr1, ok_tr2, or_popAt, List.getElem?_cons_zero, List.getElem?_cons_succ, List.set_cons_zero, List.set_cons_succ, List.map_cons, List.map_nil, List.replicate_succ, List.replicate_zero, List.length_cons, List.length_nil, List.cons_append, List.nil_append, wipeD, if_true, if_false, Bool.false_eq_true, Nat.reduceAdd, Nat.reduceSub, Nat.reduceLeDiff, decide_eq_true_eq, true_and, and_true, Int.reduceNeg]
        by_cases c : q ∈ s
        · rw [decide_eq_true c, Bool.not_true]
          try simp (maxSteps := 4000000) only [ok_ret, ok_bnd, ok_lift, ok_var, ok_c, ok_bin, ok_un, ok_asB, ok_and, ok_or, ok_not, ok_chain, ok_nil, ok_cons, ok_tup, ok_lst, ok_fn, ok_tmp, ok_call, ok_meth, ok_tval, ok_tand, ok_tor, ok_tnot, ok_if, ok_pnone, ok_psome, ok_slice, ok_fresh, ok_lcx, ok_body, ok_true, ok_dtmp, ok_dval, ok_rng1, ok_rng2, ok_enum, ok_enumT, ok_zip, ok_gname, ok_gsnil, ok_gscons, ok_gtup, ok_gsub, fo_next, fo_seq, fo_asg, fo_expr, fo_ret, fo_retN, fo_if, fo_break, fo_cont, fo_par, fo_aug, fo_augS, fo_for, fo_body, vr_some, ra1, ra2, in_int, tr_bl, pa2, zp_two, sr_some, wk_tup, wk_rol, wk_str, oo_add, oo_addI, oo_sub, oo_mul, oo_fdiv, oo_mod, oo_pow, oo_shl, oo_shr, oo_and, oo_or, oo_neg, oo_inv, oo_le, oo_gt, oo_ge, oo_lt, oo_eq, oo_ne, oo_eqb, oo_is0, oo_isNot0, oo_nes, oo_eqs, oo_addT, oo_tup, oo_lst, oo_abs, oo_int, oo_intb, oo_max2, oo_min2, oo_max3, oo_min3, oo_lenT, oo_lenR, oo_gTuple, oo_gList, oo_gLen, oo_biT, oo_biR, oo_slT, oo_slR, oo_isaII, oo_isaIB, oo_isaIT, oo_isaIS, oo_isaBI, oo_isaBB, oo_isaBT, oo_isaBS, oo_isaNT, lo_lst, atI_0, atI_1, atI_2, ixN_0, ixN_1, or_ix, ot_ix, ol_ix, or_set, or_len, or_add, or_mul, or_append, or_isLst, or_bi, or_bl, or_sl, or_wk, or_sr, ot_sr, or_gtup, oo_neb, oo_isB, oo_isNotB, ok_lr1, ok_lr2, ok_tr1, ok_tr2, or_popAt, List.getElem?_cons_zero, List.getElem?_cons_succ, List.set_cons_zero, List.set_cons_succ, List.map_cons, List.map_nil, List.replicate_succ, List.replicate_zero, List.length_cons, List.length_nil, List.cons_append, List.nil_append, wipeD, if_true, if_false, Bool.false_eq_true, Nat.reduceAdd, Nat.reduceSub, Nat.reduceLeDiff, decide_eq_true_eq, true_and, and_true, Int.reduceNeg]
          exact ⟨hqn, _, _, _, rfl, M3.congr fun _ _ _ _ => by rw [innF_in c], K3⟩
        · rw [decide_eq_false c, Bool.not_false]
          have ne : o ≠ q := fun e => c (e ▸ om)
          obtain ⟨r1, e1, ge1, hr1⟩ := M3.at on
          try simp (maxSteps := 4000000) only [ok_ret, ok_bnd, ok_lift, ok_var, ok_c, ok_bin, ok_un, ok_asB, ok_and, ok_or, ok_not, ok_chain, ok_nil, ok_cons, ok_tup, ok_lst, ok_fn, ok_tmp, ok_call, ok_meth, ok_tval, ok_tand, ok_tor, ok_tnot, ok_if, ok_pnone, ok_psome, ok_slice, ok_fresh, ok_lcx, ok_body, ok_true, ok_dtmp, ok_dval, ok_rng1, ok_rng2, ok_enum, ok_enumT, ok_zip, ok_gname, ok_gsnil, ok_gscons, ok_gtup, ok_gsub, fo_next, fo_seq, fo_asg, fo_expr, fo_ret, fo_retN, fo_if, fo_break, fo_cont, fo_par, fo_aug, fo_augS, fo_for, fo_body, vr_some, ra1, ra2, in_int, tr_bl, pa2, zp_two, sr_some, wk_tup, wk_rol, wk_str, oo_add, oo_addI, oo_sub, oo_mul, oo_fdiv, oo_mod, oo_pow, oo_shl, oo_shr, oo_and, oo_or, oo_neg, oo_inv, oo_le, oo_gt, oo_ge, oo_lt, oo_eq, oo_ne, oo_eqb, oo_is0, oo_isNot0, oo_nes, oo_eqs, oo_addT, oo_tup, oo_lst, oo_abs, oo_int, oo_intb, oo_max2, oo_min2, oo_max3, oo_min3, oo_lenT, oo_lenR, oo_gTuple, oo_gList, oo_gLen, oo_biT, oo_biR, oo_slT, oo_slR, oo_isaII, oo_isaIB, oo_isaIT, oo_isaIS, oo_isaBI, oo_isaBB, oo_isaBT, oo_isaBS, oo_isaNT, lo_lst, atI_0, atI_1, atI_2, ixN_0, ixN_1, or_ix, ot_ix, ol_ix, or_set, or_len, or_add, or_mul, or_append, or_isLst, or_bi, or_bl, or_sl, or_wk, or_sr, ot_sr, or_gtup, oo_neb, oo_isB, oo_isNotB, ok_lr1, ok_lr2, ok_tr1, ok_tr2, or_popAt, List.getElem?_cons_zero, List.getElem?_cons_succ, List.set_cons_zero, List.set_cons_succ, List.map_cons, List.map_nil, List.replicate_succ, List.replicate_zero, List.length_cons, List.length_nil, List.cons_append, List.nil_append, wipeD, if_true, if_false, Bool.false_eq_true, Nat.reduceAdd, Nat.reduceSub, Nat.reduceLeDiff, decide_eq_true_eq, true_and, and_true, Int.reduceNeg, M3.ha]
          refine atI_nat' (map_get e1) ?_
          try simp (maxSteps := 4000000) only [ok_ret, ok_bnd, ok_lift, ok_var, ok_c, ok_bin, ok_un, ok_asB, ok_and, ok_or, ok_not, ok_chain, ok_nil, ok_cons, ok_tup, ok_lst, ok_fn, ok_tmp, ok_call, ok_meth, ok_tval, ok_tand, ok_tor, ok_tnot, ok_if, ok_pnone, ok_psome, ok_slice, ok_fresh, ok_lcx, ok_body, ok_true, ok_dtmp, ok_dval, ok_rng1, ok_rng2, ok_enum, ok_enumT, ok_zip, ok_gname, ok_gsnil, ok_gscons, ok_gtup, ok_gsub, fo_next, fo_seq, fo_asg, fo_expr, fo_ret, fo_retN, fo_if, fo_break, fo_cont, fo_par, fo_aug, fo_augS, fo_for, fo_body, vr_some, ra1, ra2, in_int, tr_bl, pa2, zp_two, sr_some, wk_tup, wk_rol, wk_str, oo_add, oo_addI, oo_sub, oo_mul, oo_fdiv, oo_mod, oo_pow, oo_shl, oo_shr, oo_and, oo_or, oo_neg, oo_inv, oo_le, oo_gt, oo_ge, oo_lt, oo_eq, oo_ne, oo_eqb, oo_is0, oo_isNot0, oo_nes, oo_eqs, oo_addT, oo_tup, oo_lst, oo_abs, oo_int, oo_intb, oo_max2, oo_min2, oo_max3, oo_min3, oo_lenT, oo_lenR, oo_gTuple, oo_gList, oo_gLen, oo_biT, oo_biR, oo_slT, oo_slR, oo_isaII, oo_isaIB, oo_isaIT, oo_isaIS, oo_isaBI, oo_isaBB, oo_isaBT, oo_isaBS, oo_isaNT, lo_lst, atI_0, atI_1, atI_2, ixN_0, ixN_1, or_ix, ot_ix, ol_ix, or_set, or_len, or_add, or_mul, or_append, or_isLst, or_bi, or_bl, or_sl, or_wk, or_sr, ot_sr, or_gtup, oo_neb, oo_isB, oo_isNotB, ok_lr1, ok_lr2, ok_tr1, ok_tr2, or_popAt, List.getElem?_cons_zero, List.getElem?_cons_succ, List.set_cons_zero, List.set_cons_succ, List.map_cons, List.map_nil, List.replicate_succ, List.replicate_zero, List.length_cons, List.length_nil, List.cons_append, List.nil_append, wipeD, if_true, if_false, Bool.false_eq_true, Nat.reduceAdd, Nat.reduceSub, Nat.reduceLeDiff, decide_eq_true_eq, true_and, and_true, Int.reduceNeg, hr1]
          refine atI_nat' (rowF_get hqn) ?_
          try simp (maxSteps := 4000000) only [ok_ret, ok_bnd, ok_lift, ok_var, ok_c, ok_bin, ok_un, ok_asB, ok_and, ok_or, ok_not, ok_chain, ok_nil, ok_cons, ok_tup, ok_lst, ok_fn, ok_tmp, ok_call, ok_meth, ok_tval, ok_tand, ok_tor, ok_tnot, ok_if, ok_pnone, ok_psome, ok_slice, ok_fresh, ok_lcx, ok_body, ok_true, ok_dtmp, ok_dval, ok_rng1, ok_rng2, ok_enum, ok_enumT, ok_zip, ok_gname, ok_gsnil, ok_gscons, ok_gtup, ok_gsub, fo_next, fo_seq, fo_asg, fo_expr, fo_ret, fo_retN, fo_if, fo_break, fo_cont, fo_par, fo_aug, fo_augS, fo_for, fo_body, vr_some, ra1, ra2, in_int, tr_bl, pa2, zp_two, sr_some, wk_tup, wk_rol, wk_str, oo_add, oo_addI, oo_sub, oo_mul, oo_fdiv, oo_mod, oo_pow, oo_shl, oo_shr, oo_and, oo_or, oo_neg, oo_inv, oo_le, oo_gt, oo_ge, oo_lt, oo_eq, oo_ne, oo_eqb, oo_is0, oo_isNot0, oo_nes, oo_eqs, oo_addT, oo_tup, oo_lst, oo_abs, oo_int, oo_intb, oo_max2, oo_min2, oo_max3, oo_min3, oo_lenT, oo_lenR, oo_gTuple, oo_gList, oo_gLen, oo_biT, oo_biR, oo_slT, oo_slR, oo_isaII, oo_isaIB, oo_isaIT, oo_isaIS, oo_isaBI, oo_isaBB, oo_isaBT, oo_isaBS, oo_isaNT, lo_lst, atI_0, atI_1, atI_2, ixN_0, ixN_1, or_ix, ot_ix, ol_ix, or_set, or_len, or_add, or_mul, or_append, or_isLst, or_bi, or_bl, or_sl, or_wk, or_sr, ot_sr, or_gtup, oo_neb, oo_isB, oo_isNotB, ok_lr1, ok_lr2, ok_tr1, ok_tr2, or_popAt, List.getElem?_cons_zero, List.getElem?_cons_succ, List.set_cons_zero, List.set_cons_succ, List.map_cons, List.map_nil, List.replicate_succ, List.replicate_zero, List.length_cons, List.length_nil, List.cons_append, List.nil_append, wipeD, if_true, if_false, Bool.false_eq_true, Nat.reduceAdd, Nat.reduceSub, Nat.reduceLeDiff, decide_eq_true_eq, true_and, and_true, Int.reduceNeg, hr1]
          refine ixN_nat (by rw [intL_len, List.length_map, List.length_range]; exact hqn) ?_
          rw [intL_set]
          have M4 := M3.set (j := q) (x := dist (W.take i) o q + midF s w j o q + innF s w o q o q + w) e1
          have K4 := K3.set (r := r1) (o := .lst (intL (((List.range n).map fun b => dist (W.take i) o b + midF s w j o b + innF s w o q o b).set q (dist (W.take i) o q + midF s w j o q + innF s w o q o q + w)))) ge1
          generalize h3.set r1 (.lst (intL (((List.range n).map fun b => dist (W.take i) o b + midF s w j o b + innF s w o q o b).set q (dist (W.take i) o q + midF s w j o q + innF s w o q o q + w)))) = h4 at M4 K4
          obtain ⟨r2, e2, ge2, hr2⟩ := M4.at hqn
          try simp (maxSteps := 4000000) only [ok_ret, ok_bnd, ok_lift, ok_var, ok_c, ok_bin, ok_un, ok_asB, ok_and, ok_or, ok_not, ok_chain, ok_nil, ok_cons, ok_tup, ok_lst, ok_fn, ok_tmp, ok_call, ok_meth, ok_tval, ok_tand, ok_tor, ok_tnot, ok_if, ok_pnone, ok_psome, ok_slice, ok_fresh, ok_lcx, ok_body, ok_true, ok_dtmp, ok_dval, ok_rng1, ok_rng2, ok_enum, ok_enumT, ok_zip, ok_gname, ok_gsnil, ok_gscons, ok_gtup, ok_gsub, fo_next, fo_seq, fo_asg, fo_expr, fo_ret, fo_retN, fo_if, fo_break, fo_cont, fo_par, fo_aug, fo_augS, fo_for, fo_body, vr_some, ra1, ra2, in_int, tr_bl, pa2, zp_two, sr_some, wk_tup, wk_rol, wk_str, oo_add, oo_addI, oo_sub, oo_mul, oo_fdiv, oo_mod, oo_pow, oo_shl, oo_shr, oo_and, oo_or, oo_neg, oo_inv, oo_le, oo_gt, oo_ge, oo_lt, oo_eq, oo_ne, oo_eqb, oo_is0, oo_isNot0, oo_nes, oo_eqs, oo_addT, oo_tup, oo_lst, oo_abs, oo_int, oo_intb, oo_max2, oo_min2, oo_max3, oo_min3, oo_lenT, oo_lenR, oo_gTuple, oo_gList, oo_gLen, oo_biT, oo_biR, oo_slT, oo_slR, oo_isaII, oo_isaIB, oo_isaIT, oo_isaIS, oo_isaBI, oo_isaBB, oo_isaBT, oo_isaBS, oo_isaNT, lo_lst, atI_0, atI_1, atI_2, ixN_0, ixN_1, or_ix, ot_ix, ol_ix, or_set, or_len, or_add, or_mul, or_append, or_isLst, or_bi, or_bl, or_sl, or_wk, or_sr, ot_sr, or_gtup, oo_neb, oo_isB, oo_isNotB, ok_lr1, ok_lr2, ok_tr1, ok_tr2, or_popAt, List.getElem?_cons_zero, List.getElem?_cons_succ, List.set_cons_zero, List.set_cons_succ, List.map_cons, List.map_nil, List.replicate_succ, List.replicate_zero, List.length_cons, List.length_nil, List.cons_append, List.nil_append, wipeD, if_true, if_false, Bool.false_eq_true, Nat.reduceAdd, Nat.reduceSub, Nat.reduceLeDiff, decide_eq_true_eq, true_and, and_true, Int.reduceNeg, M4.ha]
          refine atI_nat' (map_get e2) ?_
          try simp (maxSteps := 4000000) only [ok_ret, ok_bnd, ok_lift, ok_var, ok_c, ok_bin, ok_un, ok_asB, ok_and, ok_or, ok_not, ok_chain, ok_nil, ok_cons, ok_tup, ok_lst, ok_fn, ok_tmp, ok_call, ok_meth, ok_tval, ok_tand, ok_tor, ok_tnot, ok_if, ok_pnone, ok_psome, ok_slice, ok_fresh, ok_lcx, ok_body, ok_true, ok_dtmp, ok_dval, ok_rng1, ok_rng2, ok_enum, ok_enumT, ok_zip, ok_gname, ok_gsnil, ok_gscons, ok_gtup, ok_gsub, fo_next, fo_seq, fo_asg, fo_expr, fo_ret, fo_retN, fo_if, fo_break, fo_cont, fo_par, fo_aug, fo_augS, fo_for, fo_body, vr_some, ra1, ra2, in_int, tr_bl, pa2, zp_two, sr_some, wk_tup, wk_rol, wk_str, oo_add, oo_addI, oo_sub, oo_mul, oo_fdiv, oo_mod, oo_pow, oo_shl, oo_shr, oo_and, oo_or, oo_neg, oo_inv, oo_le, oo_gt, oo_ge, oo_lt, oo_eq, oo_ne, oo_eqb, oo_is0, oo_isNot0, oo_nes, oo_eqs, oo_addT, oo_tup, oo_lst, oo_abs, oo_int, oo_intb, oo_max2, oo_min2, oo_max3, oo_min3, oo_lenT, oo_lenR, oo_gTuple, oo_gList, oo_gLen, oo_biT, oo_biR, oo_slT, oo_slR, oo_isaII, oo_isaIB, oo_isaIT, oo_isaIS, oo_isaBI, oo_isaBB, oo_isaBT, oo_isaBS, oo_isaNT, lo_lst, atI_0, atI_1, atI_2, ixN_0, ixN_1, or_ix, ot_ix, ol_ix, or_set, or_len, or_add, or_mul, or_append, or_isLst, or_bi, or_bl, or_sl, or_wk, or_sr, ot_sr, or_gtup, oo_neb, oo_isB, oo_isNotB, ok_lr1, ok_lr2, ok_tr1, ok_tr2, or_popAt, List.getElem?_cons_zero, List.getElem?_cons_succ, List.set_cons_zero, List.set_cons_succ, List.map_cons, List.map_nil, List.replicate_succ, List.replicate_zero, List.length_cons, List.length_nil, List.cons_append, List.nil_append, wipeD, if_true, if_false, Bool.false_eq_true, Nat.reduceAdd, Nat.reduceSub, Nat.reduceLeDiff, decide_eq_true_eq, true_and, and_true, Int.reduceNeg, hr2]
          refine atI_nat' (rowF_get on) ?_
          try simp (maxSteps := 4000000) only [ok_ret, ok_bnd, ok_lift, ok_var, ok_c, ok_bin, ok_un, ok_asB, ok_and, ok_or, ok_not, ok_chain, ok_nil, ok_cons, ok_tup, ok_lst, ok_fn, ok_tmp, ok_call, ok_meth, ok_tval, ok_tand, ok_tor, ok_tnot, ok_if, ok_pnone, ok_psome, ok_slice, ok_fresh, ok_lcx, ok_body, ok_true, ok_dtmp, ok_dval, ok_rng1, ok_rng2, ok_enum, ok_enumT, ok_zip, ok_gname, ok_gsnil, ok_gscons, ok_gtup, ok_gsub, fo_next, fo_seq, fo_asg, fo_expr, fo_ret, fo_retN, fo_if, fo_break, fo_cont, fo_par, fo_aug, fo_augS, fo_for, fo_body, vr_some, ra1, ra2, in_int, tr_bl, pa2, zp_two, sr_some, wk_tup, wk_rol, wk_str, oo_add, oo_addI, oo_sub, oo_mul, oo_fdiv, oo_mod, oo_pow, oo_shl, oo_shr, oo_and, oo_or, oo_neg, oo_inv, oo_le, oo_gt, oo_ge, oo_lt, oo_eq, oo_ne, oo_eqb, oo_is0, oo_isNot0, oo_nes, oo_eqs, oo_addT, oo_tup, oo_lst, oo_abs, oo_int, oo_intb, oo_max2, oo_min2, oo_max3, oo_min3, oo_lenT, oo_lenR, oo_gTuple, oo_gList, oo_gLen, oo_biT, oo_biR, oo_slT, oo_slR, oo_isaII, oo_isaIB, oo_isaIT, oo_isaIS, oo_isaBI, oo_isaBB, oo_isaBT, oo_isaBS, oo_isaNT, lo_lst, atI_0, atI_1, atI_2, ixN_0, ixN_1, or_ix, ot_ix, ol_ix, or_set, or_len, or_add, or_mul, or_append, or_isLst, or_bi, or_bl, or_sl, or_wk, or_sr, ot_sr, or_gtup, oo_neb, oo_isB, oo_isNotB, ok_lr1, ok_lr2, ok_tr1, ok_tr2, or_popAt, List.getElem?_cons_zero, List.getElem?_cons_succ, List.set_cons_zero, List.set_cons_succ, List.map_cons, List.map_nil, List.replicate_succ, List.replicate_zero, List.length_cons, List.length_nil, List.cons_append, List.nil_append, wipeD, if_true, if_false, Bool.false_eq_true, Nat.reduceAdd, Nat.reduceSub, Nat.reduceLeDiff, decide_eq_true_eq, true_and, and_true, Int.reduceNeg, hr2]
          refine ixN_nat (by rw [intL_len, List.length_map, List.length_range]; exact on) ?_
          rw [intL_set]
          refine ⟨hqn, _, _, _, rfl, (M4.set (j := o) e2).congr fun a b ha hb => ?_, K4.set ge2⟩
          rw [innF_out om c]
          simp only [upd]
          by_cases c1 : a = o ∧ b = q
          · obtain ⟨rfl, rfl⟩ := c1
            simp [ne]
            omega
          · by_cases c2 : a = q ∧ b = o
            · obtain ⟨rfl, rfl⟩ := c2
              simp [Ne.symm ne]
              omega
            · simp [c1, c2]
      · rintro v h3 ⟨hq, z6, z7, z8, rfl, M3, K3⟩
        rw [rng_len, Int.toNat_natCast] at M3
        exact ⟨by omega, _, _, _, _, rfl, M3.congr fun a b ha hb => by rw [midF_succ snd ho ha hb, Int.add_assoc], K3⟩
    · rintro v h2 ⟨hj, y5, y6, y7, y8, rfl, M2, K2⟩
      have ll : (natL s).length = s.length := by simp [natL, intL]
      rw [ll] at M2
      exact ⟨by omega, _, _, _, _, _, _, rfl, M2.congr fun a b ha hb => by rw [dist_snoc hs, midF_all], K2⟩
  · rintro v h' ⟨hi, x3, x4, x5, x6, x7, x8, rfl, Mx, Kx⟩
    rw [List.length_map, List.take_length] at Mx
    try simp (maxSteps := 4000000) only [ok_ret, ok_bnd, ok_lift, ok_var, ok_c, ok_bin, ok_un, ok_asB, ok_and, ok_or, ok_not, ok_chain, ok_nil, ok_cons, ok_tup, ok_lst, ok_fn, ok_tmp, ok_call, ok_meth, ok_tval, ok_tand, ok_tor, ok_tnot, ok_if, ok_pnone, ok_psome, ok_slice, ok_fresh, ok_lcx, ok_body, ok_true, ok_dtmp, ok_dval, ok_rng1, ok_rng2, ok_enum, ok_enumT, ok_zip, ok_gname, ok_gsnil, ok_gscons, ok_gtup, ok_gsub, fo_next, fo_seq, fo_asg, fo_expr, fo_ret, fo_retN, fo_if, fo_break, fo_cont, fo_par, fo_aug, fo_augS, fo_for, fo_body, vr_some, ra1, ra2, in_int, tr_bl, pa2, zp_two, sr_some, wk_tup, wk_rol, wk_str, oo_add, oo_addI, oo_sub, oo_mul, oo_fdiv, oo_mod, oo_pow, oo_shl, oo_shr, oo_and, oo_or, oo_neg, oo_inv, oo_le, oo_gt, oo_ge, oo_lt, oo_eq, oo_ne, oo_eqb, oo_is0, oo_isNot0, oo_nes, oo_eqs, oo_addT, oo_tup, oo_lst, oo_abs, oo_int, oo_intb, oo_max2, oo_min2, oo_max3, oo_min3, oo_lenT, oo_lenR, oo_gTuple, oo_gList, oo_gLen, oo_biT, oo_biR, oo_slT, oo_slR, oo_isaII, oo_isaIB, oo_isaIT, oo_isaIS, oo_isaBI, oo_isaBB, oo_isaBT, oo_isaBS, oo_isaNT, lo_lst, atI_0, atI_1, atI_2, ixN_0, ixN_1, or_ix, ot_ix, ol_ix, or_set, or_len, or_add, or_mul, or_append, or_isLst, or_bi, or_bl, or_sl, or_wk, or_sr, ot_sr, or_gtup, oo_neb, oo_isB, oo_isNotB, ok_lr1, ok_lr2, ok_tr1, ok_tr2, or_popAt, List.getElem?_cons_zero, List.getElem?_cons_succ, List.set_cons_zero, List.set_cons_succ, List.map_cons, List.map_nil, List.replicate_succ, List.replicate_zero, List.length_cons, List.length_nil, List.cons_append, List.nil_append, wipeD, if_true, if_false, Bool.false_eq_true, Nat.reduceAdd, Nat.reduceSub, Nat.reduceLeDiff, decide_eq_true_eq, true_and, and_true, Int.reduceNeg, Mx.ha]
    refine ⟨by rw [List.length_map, Mx.len]; omega, ?_⟩
    refine OK.mono (ok_lc0 (fun t acc h'' => h'' = h' ∧ acc = ((putT n W).take t).map fun r => PV.tup (intL r)) ⟨rfl, rfl⟩ ?_ ?_ fun _ _ q => q) ?_
    · rintro t acc h'' _ ⟨rfl, _⟩
      exact srcOk_one Mx.ha
    · rintro t x acc h'' hx ⟨rfl, rfl⟩
      rw [List.getElem?_map] at hx
      obtain ⟨r, hr1, rfl⟩ := Option.map_eq_some_iff.mp hx
      obtain ⟨ge, hr⟩ := Mx.row t r hr1
      have htn : t < n := by rw [← Mx.len]; exact hg_lt' hr1
      try simp (maxSteps := 4000000) only [ok_ret, ok_bnd, ok_lift, ok_var, ok_c, ok_bin, ok_un, ok_asB, ok_and, ok_or, ok_not, ok_chain, ok_nil, ok_cons, ok_tup, ok_lst, ok_fn, ok_tmp, ok_call, ok_meth, ok_tval, ok_tand, ok_tor, ok_tnot, ok_if, ok_pnone, ok_psome, ok_slice, ok_fresh, ok_lcx, ok_body, ok_true, ok_dtmp, ok_dval, ok_rng1, ok_rng2, ok_enum, ok_enumT, ok_zip, ok_gname, ok_gsnil, ok_gscons, ok_gtup, ok_gsub, fo_next, fo_seq, fo_asg, fo_expr, fo_ret, fo_retN, fo_if, fo_break, fo_cont, fo_par, fo_aug, fo_augS, fo_for, fo_body, vr_some, ra1, ra2, in_int, tr_bl, pa2, zp_two, sr_some, wk_tup, wk_rol, wk_str, oo_add, oo_addI, oo_sub, oo_mul, oo_fdiv, oo_mod, oo_pow, oo_shl, oo_shr, oo_and, oo_or, oo_neg, oo_inv, oo_le, oo_gt, oo_ge, oo_lt, oo_eq, oo_ne, oo_eqb, oo_is0, oo_isNot0, oo_nes, oo_eqs, oo_addT, oo_tup, oo_lst, oo_abs, oo_int, oo_intb, oo_max2, oo_min2, oo_max3, oo_min3, oo_lenT, oo_lenR, oo_gTuple, oo_gList, oo_gLen, oo_biT, oo_biR, oo_slT, oo_slR, oo_isaII, oo_isaIB, oo_isaIT, oo_isaIS, oo_isaBI, oo_isaBB, oo_isaBT, oo_isaBS, oo_isaNT, lo_lst, atI_0, atI_1, atI_2, ixN_0, ixN_1, or_ix, ot_ix, ol_ix, or_set, or_len, or_add, or_mul, or_append, or_isLst, or_bi, or_bl, or_sl, or_wk, or_sr, ot_sr, or_gtup, oo_neb, oo_isB, oo_isNotB, ok_lr1, ok_lr2, ok_tr1, ok_tr2, or_popAt, List.getElem?_cons_zero, List.getElem?_cons_succ, List.set_cons_zero, List.set_cons_succ, List.map_cons, List.map_nil, List.replicate_succ, List.replicate_zero, List.length_cons, List.length_nil, List.cons_append, List.nil_append, wipeD, if_true, if_false, Bool.false_eq_true, Nat.reduceAdd, Nat.reduceSub, Nat.reduceLeDiff, decide_eq_true_eq, true_and, and_true, Int.reduceNeg, hr]
      have e : (putT n W)[t]? = some ((List.range n).map (dist W t)) := by simp [putT, htn]
      rw [List.take_add_one, e]
      simp
    · rintro l h'' ⟨rfl, rfl⟩
      try simp (maxSteps := 4000000) only [ok_ret, ok_bnd, ok_lift, ok_var, ok_c, ok_bin, ok_un, ok_asB, ok_and, ok_or, ok_not, ok_chain, ok_nil, ok_cons, ok_tup, ok_lst, ok_fn, ok_tmp, ok_call, ok_meth, ok_tval, ok_tand, ok_tor, ok_tnot, ok_if, ok_pnone, ok_psome, ok_slice, ok_fresh, ok_lcx, ok_body, ok_true, ok_dtmp, ok_dval, ok_rng1, ok_rng2, ok_enum, ok_enumT, ok_zip, ok_gname, ok_gsnil, ok_gscons, ok_gtup, ok_gsub, fo_next, fo_seq, fo_asg, fo_expr, fo_ret, fo_retN, fo_if, fo_break, fo_cont, fo_par, fo_aug, fo_augS, fo_for, fo_body, vr_some, ra1, ra2, in_int, tr_bl, pa2, zp_two, sr_some, wk_tup, wk_rol, wk_str, oo_add, oo_addI, oo_sub, oo_mul, oo_fdiv, oo_mod, oo_pow, oo_shl, oo_shr, oo_and, oo_or, oo_neg, oo_inv, oo_le, oo_gt, oo_ge, oo_lt, oo_eq, oo_ne, oo_eqb, oo_is0, oo_isNot0, oo_nes, oo_eqs, oo_addT, oo_tup, oo_lst, oo_abs, oo_int, oo_intb, oo_max2, oo_min2, oo_max3, oo_min3, oo_lenT, oo_lenR, oo_gTuple, oo_gList, oo_gLen, oo_biT, oo_biR, oo_slT, oo_slR, oo_isaII, oo_isaIB, oo_isaIT, oo_isaIS, oo_isaBI, oo_isaBB, oo_isaBT, oo_isaBS, oo_isaNT, lo_lst, atI_0, atI_1, atI_2, ixN_0, ixN_1, or_ix, ot_ix, ol_ix, or_set, or_len, or_add, or_mul, or_append, or_isLst, or_bi, or_bl, or_sl, or_wk, or_sr, ot_sr, or_gtup, oo_neb, oo_isB, oo_isNotB, ok_lr1, ok_lr2, ok_tr1, ok_tr2, or_popAt, List.getElem?_cons_zero, List.getElem?_cons_succ, List.set_cons_zero, List.set_cons_succ, List.map_cons, List.map_nil, List.replicate_succ, List.replicate_zero, List.length_cons, List.length_nil, List.cons_append, List.nil_append, wipeD, if_true, if_false, Bool.false_eq_true, Nat.reduceAdd, Nat.reduceSub, Nat.reduceLeDiff, decide_eq_true_eq, true_and, and_true, Int.reduceNeg]
      refine ⟨?_, Kx⟩
      rw [List.length_map, Mx.len]
      rw [List.take_of_length_le (by simp [putT])]
      rfl
end G

namespace G
open PySem PySem.Spec PySem.W PyProof.Rows L2 D
/-! tables alike -/
theorem eqvAll_ints : ∀ a b : List Int, PyData.eqvAll (a.map PyData.int) (b.map PyData.int) = decide (a = b)
  | [], [] => rfl
  | [], _ :: _ => rfl
  | _ :: _, [] => rfl
  | x :: a, y :: b => by
    rw [List.map_cons, List.map_cons, PyData.eqvAll, eqv_int, eqvAll_ints a b, ← Bool.decide_and]
    exact decide_eq_decide.mpr (by rw [List.cons.injEq])
theorem eqvAll_rows : ∀ a b : List (List Int), PyData.eqvAll (a.map fun r => PyData.tuple (r.map PyData.int)) (b.map fun r => PyData.tuple (r.map PyData.int)) = decide (a = b)
  | [], [] => rfl
  | [], _ :: _ => rfl
  | _ :: _, [] => rfl
  | x :: a, y :: b => by
    rw [List.map_cons, List.map_cons, PyData.eqvAll, eqvAll_rows a b, PyData.eqv, eqvAll_ints, ← Bool.decide_and]
    exact decide_eq_decide.mpr (by rw [List.cons.injEq])
theorem canLay_rows : ∀ t : List (List Int), PyData.canLayAll0 (t.map fun r => PyData.tuple (r.map PyData.int)) = true
  | [] => rfl
  | n :: ns => by simp only [List.map_cons, PyData.canLayAll0, PyData.canLay0, canLay_ints, canLay_rows ns, Bool.and_self]
theorem depthAll_rows : ∀ t : List (List Int), PyData.depthAll (t.map fun r => PyData.tuple (r.map PyData.int)) ≤ 1
  | [] => Nat.zero_le _
  | n :: ns => by
    have := depthAll_rows ns
    simp only [List.map_cons, PyData.depthAll, PyData.depth, dAll_ints]
    omega
theorem shaped_tab (t : List (List Int)) : SeqAt.shaped (tabD t) = true := by
  have := depthAll_rows t
  simp only [SeqAt.shaped, tabD, PyData.canLay0, canLay_rows, PyData.depth, Bool.true_and]
  exact decide_eq_true (by omega)
section
variable {Q : PV → VH → Prop} {h : VH}
theorem oo_eqTab {s t : List (List Int)} : OO (oEq (tabV s) (tabV t) h) Q = Q (.bl (decide (s = t))) h := by
  have : oEq (tabV s) (tabV t) h = some (.bl (decide (s = t)), h) := by
    unfold oEq
    simp only [show bothS (tabV s) (tabV t) = none from rfl, dat_tab]
    rw [if_pos ⟨shaped_tab s, shaped_tab t⟩]
    unfold tabD
    rw [PyData.eqv, eqvAll_rows]
  rw [this]; with_unfolding_all rfl
theorem oo_neTab {s t : List (List Int)} : OO (oNe (tabV s) (tabV t) h) Q = Q (.bl (!decide (s = t))) h := by
  have : oNe (tabV s) (tabV t) h = some (.bl (!decide (s = t)), h) := by
    unfold oNe
    simp only [show bothS (tabV s) (tabV t) = none from rfl, dat_tab]
    rw [if_pos ⟨shaped_tab s, shaped_tab t⟩]
    unfold tabD
    rw [PyData.eqv, eqvAll_rows]
  rw [this]; with_unfolding_all rfl
end
/-! is_table says True of a table -/
structure Table (n : Nat) (t : List (List Int)) : Prop where
  tab : Tab n (10 ^ 15) t
  n1 : 1 ≤ n
  n8 : n ≤ 8
  own : ∀ a : Nat, a < n → at2 t a a = 0
  sym : ∀ a b : Nat, a < n → b < n → at2 t a b = at2 t b a
  tri : ∀ a b c : Nat, a < n → b < n → c < n → at2 t a b ≤ at2 t a c + at2 t c b
theorem bls_reptrue {ns : List Bool} (h : ∀ b ∈ ns, b = true) : ns.all id = true := List.all_eq_true.mpr fun b hb => h b hb
theorem isfar_spec {x : Int} {h : VH} (x0 : 0 ≤ x) (x1 : x ≤ 10 ^ 15) : OK (fis_far [.int x] h) fun v h' => v = .bl true ∧ h' = h := by
  unfold fis_far
  rw [ok_fn0]
  unfold bis_far
  try simp (maxSteps := 4000000) only [ok_ret, ok_bnd, ok_lift, ok_var, ok_c, ok_bin, ok_un, ok_asB, ok_and, ok_or, ok_not, ok_chain, ok_nil, ok_cons, ok_tup, ok_lst, ok_fn, ok_tmp, ok_call, ok_meth, ok_tval, ok_tand, ok_tor, ok_tnot, ok_if, ok_pnone, ok_psome, ok_slice, ok_fresh, ok_lcx, ok_body, ok_true, ok_dtmp, ok_dval, ok_rng1, ok_rng2, ok_enum, ok_enumT, ok_zip, ok_gname, ok_gsnil, ok_gscons, ok_gtup, ok_gsub, fo_next, fo_seq, fo_asg, fo_expr, fo_ret, fo_retN, fo_if, fo_break, fo_cont, fo_par, fo_aug, fo_augS, fo_for, fo_body, vr_some, ra1, ra2, in_int, tr_bl, pa2, zp_two, sr_some, wk_tup, wk_rol, wk_str, oo_add, oo_addI, oo_sub, oo_mul, oo_fdiv, oo_mod, oo_pow, oo_shl, oo_shr, oo_and, oo_or, oo_neg, oo_inv, oo_le, oo_gt, oo_ge, oo_lt, oo_eq, oo_ne, oo_eqb, oo_is0, oo_isNot0, oo_nes, oo_eqs, oo_addT, oo_tup, oo_lst, oo_abs, oo_int, oo_intb, oo_max2, oo_min2, oo_max3, oo_min3, oo_lenT, oo_lenR, oo_gTuple, oo_gList, oo_gLen, oo_biT, oo_biR, oo_slT, oo_slR, oo_isaII, oo_isaIB, oo_isaIT, oo_isaIS, oo_isaBI, oo_isaBB, oo_isaBT, oo_isaBS, oo_isaNT, lo_lst, atI_0, atI_1, atI_2, ixN_0, ixN_1, or_ix, ot_ix, ol_ix, or_set, or_len, or_add, or_mul, or_append, or_isLst, or_bi, or_bl, or_sl, or_wk, or_sr, ot_sr, or_gtup, oo_neb, oo_isB, oo_isNotB, ok_lr1, ok_lr2, ok_tr1, ok_tr2, or_popAt, List.getElem?_cons_zero, List.getElem?_cons_succ, List.set_cons_zero, List.set_cons_succ, List.map_cons, List.map_nil, List.replicate_succ, List.replicate_zero, List.length_cons, List.length_nil, List.cons_append, List.nil_append, wipeD, if_true, if_false, Bool.false_eq_true, Nat.reduceAdd, Nat.reduceSub, Nat.reduceLeDiff, decide_eq_true_eq, true_and, and_true, Int.reduceNeg, Bool.not_false, Bool.not_true]
  rw [if_pos x0, decide_eq_true (by omega)]
theorem isrow_spec {n : Nat} {r : List Int} {h : VH} (n8 : n ≤ 8) (hr : r.length = n) (hb : ∀ x ∈ r, 0 ≤ x ∧ x ≤ 10 ^ 15) : OK (fis_row [.int (n : Nat), .tup (intL r)] h) fun v h' => v = .bl true ∧ h' = h := by
  unfold fis_row
  rw [ok_fn0]
  unfold bis_row
  try simp (maxSteps := 4000000) only [ok_ret, ok_bnd, ok_lift, ok_var, ok_c, ok_bin, ok_un, ok_asB, ok_and, ok_or, ok_not, ok_chain, ok_nil, ok_cons, ok_tup, ok_lst, ok_fn, ok_tmp, ok_call, ok_meth, ok_tval, ok_tand, ok_tor, ok_tnot, ok_if, ok_pnone, ok_psome, ok_slice, ok_fresh, ok_lcx, ok_body, ok_true, ok_dtmp, ok_dval, ok_rng1, ok_rng2, ok_enum, ok_enumT, ok_zip, ok_gname, ok_gsnil, ok_gscons, ok_gtup, ok_gsub, fo_next, fo_seq, fo_asg, fo_expr, fo_ret, fo_retN, fo_if, fo_break, fo_cont, fo_par, fo_aug, fo_augS, fo_for, fo_body, vr_some, ra1, ra2, in_int, tr_bl, pa2, zp_two, sr_some, wk_tup, wk_rol, wk_str, oo_add, oo_addI, oo_sub, oo_mul, oo_fdiv, oo_mod, oo_pow, oo_shl, oo_shr, oo_and, oo_or, oo_neg, oo_inv, oo_le, oo_gt, oo_ge, oo_lt, oo_eq, oo_ne, oo_eqb, oo_is0, oo_isNot0, oo_nes, oo_eqs, oo_addT, oo_tup, oo_lst, oo_abs, oo_int, oo_intb, oo_max2, oo_min2, oo_max3, oo_min3, oo_lenT, oo_lenR, oo_gTuple, oo_gList, oo_gLen, oo_biT, oo_biR, oo_slT, oo_slR, oo_isaII, oo_isaIB, oo_isaIT, oo_isaIS, oo_isaBI, oo_isaBB, oo_isaBT, oo_isaBS, oo_isaNT, lo_lst, atI_0, atI_1, atI_2, ixN_0, ixN_1, or_ix, ot_ix, ol_ix, or_set, or_len, or_add, or_mul, or_append, or_isLst, or_bi, or_bl, or_sl, or_wk, or_sr, ot_sr, or_gtup, oo_neb, oo_isB, oo_isNotB, ok_lr1, ok_lr2, ok_tr1, ok_tr2, or_popAt, List.getElem?_cons_zero, List.getElem?_cons_succ, List.set_cons_zero, List.set_cons_succ, List.map_cons, List.map_nil, List.replicate_succ, List.replicate_zero, List.length_cons, List.length_nil, List.cons_append, List.nil_append, wipeD, if_true, if_false, Bool.false_eq_true, Nat.reduceAdd, Nat.reduceSub, Nat.reduceLeDiff, decide_eq_true_eq, true_and, and_true, Int.reduceNeg, oo_isaIL, intL_len, hr]
  refine ⟨by omega, ?_⟩
  refine OK.mono (ok_lc0 (fun k acc h' => h' = h ∧ ∃ ns, acc = bls ns ∧ ∀ b ∈ ns, b = true) ⟨rfl, [], rfl, by simp⟩ (fun _ _ _ _ _ => rfl) ?_ fun _ _ q => q) ?_
  · rintro k x acc h' hx ⟨rfl, ns, rfl, hn⟩
    obtain ⟨y, _, rfl, hy⟩ := intL_inv hx
    try simp (maxSteps := 4000000) only [ok_ret, ok_bnd, ok_lift, ok_var, ok_c, ok_bin, ok_un, ok_asB, ok_and, ok_or, ok_not, ok_chain, ok_nil, ok_cons, ok_tup, ok_lst, ok_fn, ok_tmp, ok_call, ok_meth, ok_tval, ok_tand, ok_tor, ok_tnot, ok_if, ok_pnone, ok_psome, ok_slice, ok_fresh, ok_lcx, ok_body, ok_true, ok_dtmp, ok_dval, ok_rng1, ok_rng2, ok_enum, ok_enumT, ok_zip, ok_gname, ok_gsnil, ok_gscons, ok_gtup, ok_gsub, fo_next, fo_seq, fo_asg, fo_expr, fo_ret, fo_retN, fo_if, fo_break, fo_cont, fo_par, fo_aug, fo_augS, fo_for, fo_body, vr_some, ra1, ra2, in_int, tr_bl, pa2, zp_two, sr_some, wk_tup, wk_rol, wk_str, oo_add, oo_addI, oo_sub, oo_mul, oo_fdiv, oo_mod, oo_pow, oo_shl, oo_shr, oo_and, oo_or, oo_neg, oo_inv, oo_le, oo_gt, oo_ge, oo_lt, oo_eq, oo_ne, oo_eqb, oo_is0, oo_isNot0, oo_nes, oo_eqs, oo_addT, oo_tup, oo_lst, oo_abs, oo_int, oo_intb, oo_max2, oo_min2, oo_max3, oo_min3, oo_lenT, oo_lenR, oo_gTuple, oo_gList, oo_gLen, oo_biT, oo_biR, oo_slT, oo_slR, oo_isaII, oo_isaIB, oo_isaIT, oo_isaIS, oo_isaBI, oo_isaBB, oo_isaBT, oo_isaBS, oo_isaNT, lo_lst, atI_0, atI_1, atI_2, ixN_0, ixN_1, or_ix, ot_ix, ol_ix, or_set, or_len, or_add, or_mul, or_append, or_isLst, or_bi, or_bl, or_sl, or_wk, or_sr, ot_sr, or_gtup, oo_neb, oo_isB, oo_isNotB, ok_lr1, ok_lr2, ok_tr1, ok_tr2, or_popAt, List.getElem?_cons_zero, List.getElem?_cons_succ, List.set_cons_zero, List.set_cons_succ, List.map_cons, List.map_nil, List.replicate_succ, List.replicate_zero, List.length_cons, List.length_nil, List.cons_append, List.nil_append, wipeD, if_true, if_false, Bool.false_eq_true, Nat.reduceAdd, Nat.reduceSub, Nat.reduceLeDiff, decide_eq_true_eq, true_and, and_true, Int.reduceNeg]
    refine OK.mono (isfar_spec (hb y hy).1 (hb y hy).2) ?_
    rintro v h'' ⟨rfl, rfl⟩
    refine ⟨rfl, ns ++ [true], by simp [bls], fun b hb => ?_⟩
    rcases List.mem_append.mp hb with z | z
    · exact hn b z
    · exact List.mem_singleton.mp z
  · rintro l h' ⟨rfl, ns, rfl, hn⟩
    rw [oo_gAll, bls_reptrue hn]
    exact ⟨rfl, rfl⟩
theorem isaTab {t : List (List Int)} {h : VH} {Q : PV → VH → Prop} : OO (oIsa [tabV t, .con (.ty "tuple")] h) Q = Q (.bl true) h := oo_isaTT ⟨_, pdats_rows _ t⟩
theorem issquare_spec {n : Nat} {t : List (List Int)} {h : VH} (T : Tab n (10 ^ 15) t) (n1 : 1 ≤ n) (n8 : n ≤ 8) : OK (fis_square [tabV t] h) fun v h' => v = .bl true ∧ h' = h := by
  unfold fis_square
  rw [ok_fn0]
  unfold bis_square
  try simp (maxSteps := 4000000) only [ok_ret, ok_bnd, ok_lift, ok_var, ok_c, ok_bin, ok_un, ok_asB, ok_and, ok_or, ok_not, ok_chain, ok_nil, ok_cons, ok_tup, ok_lst, ok_fn, ok_tmp, ok_call, ok_meth, ok_tval, ok_tand, ok_tor, ok_tnot, ok_if, ok_pnone, ok_psome, ok_slice, ok_fresh, ok_lcx, ok_body, ok_true, ok_dtmp, ok_dval, ok_rng1, ok_rng2, ok_enum, ok_enumT, ok_zip, ok_gname, ok_gsnil, ok_gscons, ok_gtup, ok_gsub, fo_next, fo_seq, fo_asg, fo_expr, fo_ret, fo_retN, fo_if, fo_break, fo_cont, fo_par, fo_aug, fo_augS, fo_for, fo_body, vr_some, ra1, ra2, in_int, tr_bl, pa2, zp_two, sr_some, wk_tup, wk_rol, wk_str, oo_add, oo_addI, oo_sub, oo_mul, oo_fdiv, oo_mod, oo_pow, oo_shl, oo_shr, oo_and, oo_or, oo_neg, oo_inv, oo_le, oo_gt, oo_ge, oo_lt, oo_eq, oo_ne, oo_eqb, oo_is0, oo_isNot0, oo_nes, oo_eqs, oo_addT, oo_tup, oo_lst, oo_abs, oo_int, oo_intb, oo_max2, oo_min2, oo_max3, oo_min3, oo_lenT, oo_lenR, oo_gTuple, oo_gList, oo_gLen, oo_biT, oo_biR, oo_slT, oo_slR, oo_isaII, oo_isaIB, oo_isaIT, oo_isaIS, oo_isaBI, oo_isaBB, oo_isaBT, oo_isaBS, oo_isaNT, lo_lst, atI_0, atI_1, atI_2, ixN_0, ixN_1, or_ix, ot_ix, ol_ix, or_set, or_len, or_add, or_mul, or_append, or_isLst, or_bi, or_bl, or_sl, or_wk, or_sr, ot_sr, or_gtup, oo_neb, oo_isB, oo_isNotB, ok_lr1, ok_lr2, ok_tr1, ok_tr2, or_popAt, List.getElem?_cons_zero, List.getElem?_cons_succ, List.set_cons_zero, List.set_cons_succ, List.map_cons, List.map_nil, List.replicate_succ, List.replicate_zero, List.length_cons, List.length_nil, List.cons_append, List.nil_append, wipeD, if_true, if_false, Bool.false_eq_true, Nat.reduceAdd, Nat.reduceSub, Nat.reduceLeDiff, decide_eq_true_eq, true_and, and_true, Int.reduceNeg, isaTab, Bool.not_true]
  rw [show tabV t = .tup (t.map fun r => PV.tup (intL r)) from rfl]
  try simp (maxSteps := 4000000) only [ok_ret, ok_bnd, ok_lift, ok_var, ok_c, ok_bin, ok_un, ok_asB, ok_and, ok_or, ok_not, ok_chain, ok_nil, ok_cons, ok_tup, ok_lst, ok_fn, ok_tmp, ok_call, ok_meth, ok_tval, ok_tand, ok_tor, ok_tnot, ok_if, ok_pnone, ok_psome, ok_slice, ok_fresh, ok_lcx, ok_body, ok_true, ok_dtmp, ok_dval, ok_rng1, ok_rng2, ok_enum, ok_enumT, ok_zip, ok_gname, ok_gsnil, ok_gscons, ok_gtup, ok_gsub, fo_next, fo_seq, fo_asg, fo_expr, fo_ret, fo_retN, fo_if, fo_break, fo_cont, fo_par, fo_aug, fo_augS, fo_for, fo_body, vr_some, ra1, ra2, in_int, tr_bl, pa2, zp_two, sr_some, wk_tup, wk_rol, wk_str, oo_add, oo_addI, oo_sub, oo_mul, oo_fdiv, oo_mod, oo_pow, oo_shl, oo_shr, oo_and, oo_or, oo_neg, oo_inv, oo_le, oo_gt, oo_ge, oo_lt, oo_eq, oo_ne, oo_eqb, oo_is0, oo_isNot0, oo_nes, oo_eqs, oo_addT, oo_tup, oo_lst, oo_abs, oo_int, oo_intb, oo_max2, oo_min2, oo_max3, oo_min3, oo_lenT, oo_lenR, oo_gTuple, oo_gList, oo_gLen, oo_biT, oo_biR, oo_slT, oo_slR, oo_isaII, oo_isaIB, oo_isaIT, oo_isaIS, oo_isaBI, oo_isaBB, oo_isaBT, oo_isaBS, oo_isaNT, lo_lst, atI_0, atI_1, atI_2, ixN_0, ixN_1, or_ix, ot_ix, ol_ix, or_set, or_len, or_add, or_mul, or_append, or_isLst, or_bi, or_bl, or_sl, or_wk, or_sr, ot_sr, or_gtup, oo_neb, oo_isB, oo_isNotB, ok_lr1, ok_lr2, ok_tr1, ok_tr2, or_popAt, List.getElem?_cons_zero, List.getElem?_cons_succ, List.set_cons_zero, List.set_cons_succ, List.map_cons, List.map_nil, List.replicate_succ, List.replicate_zero, List.length_cons, List.length_nil, List.cons_append, List.nil_append, wipeD, if_true, if_false, Bool.false_eq_true, Nat.reduceAdd, Nat.reduceSub, Nat.reduceLeDiff, decide_eq_true_eq, true_and, and_true, Int.reduceNeg, List.length_map, T.1]
  rw [if_pos (show (1 : Int) ≤ n by omega), decide_eq_true (show (n : Int) ≤ 8 by omega)]
  try simp (maxSteps := 4000000) only [ok_ret, ok_bnd, ok_lift, ok_var, ok_c, ok_bin, ok_un, ok_asB, ok_and, ok_or, ok_not, ok_chain, ok_nil, ok_cons, ok_tup, ok_lst, ok_fn, ok_tmp, ok_call, ok_meth, ok_tval, ok_tand, ok_tor, ok_tnot, ok_if, ok_pnone, ok_psome, ok_slice, ok_fresh, ok_lcx, ok_body, ok_true, ok_dtmp, ok_dval, ok_rng1, ok_rng2, ok_enum, ok_enumT, ok_zip, ok_gname, ok_gsnil, ok_gscons, ok_gtup, ok_gsub, fo_next, fo_seq, fo_asg, fo_expr, fo_ret, fo_retN, fo_if, fo_break, fo_cont, fo_par, fo_aug, fo_augS, fo_for, fo_body, vr_some, ra1, ra2, in_int, tr_bl, pa2, zp_two, sr_some, wk_tup, wk_rol, wk_str, oo_add, oo_addI, oo_sub, oo_mul, oo_fdiv, oo_mod, oo_pow, oo_shl, oo_shr, oo_and, oo_or, oo_neg, oo_inv, oo_le, oo_gt, oo_ge, oo_lt, oo_eq, oo_ne, oo_eqb, oo_is0, oo_isNot0, oo_nes, oo_eqs, oo_addT, oo_tup, oo_lst, oo_abs, oo_int, oo_intb, oo_max2, oo_min2, oo_max3, oo_min3, oo_lenT, oo_lenR, oo_gTuple, oo_gList, oo_gLen, oo_biT, oo_biR, oo_slT, oo_slR, oo_isaII, oo_isaIB, oo_isaIT, oo_isaIS, oo_isaBI, oo_isaBB, oo_isaBT, oo_isaBS, oo_isaNT, lo_lst, atI_0, atI_1, atI_2, ixN_0, ixN_1, or_ix, ot_ix, ol_ix, or_set, or_len, or_add, or_mul, or_append, or_isLst, or_bi, or_bl, or_sl, or_wk, or_sr, ot_sr, or_gtup, oo_neb, oo_isB, oo_isNotB, ok_lr1, ok_lr2, ok_tr1, ok_tr2, or_popAt, List.getElem?_cons_zero, List.getElem?_cons_succ, List.set_cons_zero, List.set_cons_succ, List.map_cons, List.map_nil, List.replicate_succ, List.replicate_zero, List.length_cons, List.length_nil, List.cons_append, List.nil_append, wipeD, if_true, if_false, Bool.false_eq_true, Nat.reduceAdd, Nat.reduceSub, Nat.reduceLeDiff, decide_eq_true_eq, true_and, and_true, Int.reduceNeg, List.length_map, T.1, Bool.not_true]
  refine ⟨by omega, ?_⟩
  refine OK.mono (ok_lc0 (fun k acc h' => h' = h ∧ ∃ ns, acc = bls ns ∧ ∀ b ∈ ns, b = true) ⟨rfl, [], rfl, by simp⟩ (fun _ _ _ _ _ => rfl) ?_ fun _ _ q => q) ?_
  · rintro k x acc h' hx ⟨rfl, ns, rfl, hn⟩
    obtain ⟨r, _, rfl, hr⟩ := rowL_inv hx
    try simp (maxSteps := 4000000) only [ok_ret, ok_bnd, ok_lift, ok_var, ok_c, ok_bin, ok_un, ok_asB, ok_and, ok_or, ok_not, ok_chain, ok_nil, ok_cons, ok_tup, ok_lst, ok_fn, ok_tmp, ok_call, ok_meth, ok_tval, ok_tand, ok_tor, ok_tnot, ok_if, ok_pnone, ok_psome, ok_slice, ok_fresh, ok_lcx, ok_body, ok_true, ok_dtmp, ok_dval, ok_rng1, ok_rng2, ok_enum, ok_enumT, ok_zip, ok_gname, ok_gsnil, ok_gscons, ok_gtup, ok_gsub, fo_next, fo_seq, fo_asg, fo_expr, fo_ret, fo_retN, fo_if, fo_break, fo_cont, fo_par, fo_aug, fo_augS, fo_for, fo_body, vr_some, ra1, ra2, in_int, tr_bl, pa2, zp_two, sr_some, wk_tup, wk_rol, wk_str, oo_add, oo_addI, oo_sub, oo_mul, oo_fdiv, oo_mod, oo_pow, oo_shl, oo_shr, oo_and, oo_or, oo_neg, oo_inv, oo_le, oo_gt, oo_ge, oo_lt, oo_eq, oo_ne, oo_eqb, oo_is0, oo_isNot0, oo_nes, oo_eqs, oo_addT, oo_tup, oo_lst, oo_abs, oo_int, oo_intb, oo_max2, oo_min2, oo_max3, oo_min3, oo_lenT, oo_lenR, oo_gTuple, oo_gList, oo_gLen, oo_biT, oo_biR, oo_slT, oo_slR, oo_isaII, oo_isaIB, oo_isaIT, oo_isaIS, oo_isaBI, oo_isaBB, oo_isaBT, oo_isaBS, oo_isaNT, lo_lst, atI_0, atI_1, atI_2, ixN_0, ixN_1, or_ix, ot_ix, ol_ix, or_set, or_len, or_add, or_mul, or_append, or_isLst, or_bi, or_bl, or_sl, or_wk, or_sr, ot_sr, or_gtup, oo_neb, oo_isB, oo_isNotB, ok_lr1, ok_lr2, ok_tr1, ok_tr2, or_popAt, List.getElem?_cons_zero, List.getElem?_cons_succ, List.set_cons_zero, List.set_cons_succ, List.map_cons, List.map_nil, List.replicate_succ, List.replicate_zero, List.length_cons, List.length_nil, List.cons_append, List.nil_append, wipeD, if_true, if_false, Bool.false_eq_true, Nat.reduceAdd, Nat.reduceSub, Nat.reduceLeDiff, decide_eq_true_eq, true_and, and_true, Int.reduceNeg, List.length_map, T.1]
    refine OK.mono (isrow_spec n8 (T.2 r hr).1 (T.2 r hr).2) ?_
    rintro v h'' ⟨rfl, rfl⟩
    refine ⟨rfl, ns ++ [true], by simp [bls], fun b hb => ?_⟩
    rcases List.mem_append.mp hb with z | z
    · exact hn b z
    · exact List.mem_singleton.mp z
  · rintro l h' ⟨rfl, ns, rfl, hn⟩
    rw [oo_gAll, bls_reptrue hn]
    exact ⟨rfl, rfl⟩
theorem num_get {l : List PV} {i : Nat} {x : PV} (e : (numbered l)[i]? = some x) : ∃ y, l[i]? = some y ∧ x = .tup [.int (i : Nat), y] := by
  have hl := hg_lt' e
  rw [numbered_len] at hl
  rw [numbered_get hl] at e
  exact ⟨l[i], List.getElem?_eq_getElem hl, (Option.some.inj e).symm⟩
theorem Tab.get {n : Nat} {M : Int} {t : List (List Int)} (T : Tab n M t) {a b : Nat} {r : List Int} (er : t[a]? = some r) (hb : b < n) : (intL r)[b]? = some (.int (at2 t a b)) := by
  have lb : b < r.length := by rw [(T.2 r (List.mem_of_getElem? er)).1]; exact hb
  rw [intL_get lb]
  simp [at2, er, lb]
theorem Tab.row {n : Nat} {M : Int} {t : List (List Int)} (T : Tab n M t) {a : Nat} (ha : a < n) : ∃ r, t[a]? = some r ∧ (t.map fun r => PV.tup (intL r))[a]? = some (.tup (intL r)) := by
  have l1 : a < t.length := by rw [T.1]; exact ha
  exact ⟨t[a], List.getElem?_eq_getElem l1, map_get (f := fun r => PV.tup (intL r)) (List.getElem?_eq_getElem l1)⟩
theorem own_spec {n : Nat} {t : List (List Int)} {h : VH} (T : Table n t) : OK (fown_fault [tabV t] h) fun v h' => v = .non ∧ h' = h := by
  unfold fown_fault
  rw [ok_fn0]
  unfold bown_fault
  rw [show tabV t = .tup (t.map fun r => PV.tup (intL r)) from rfl]
  try simp (maxSteps := 4000000) only [ok_ret, ok_bnd, ok_lift, ok_var, ok_c, ok_bin, ok_un, ok_asB, ok_and, ok_or, ok_not, ok_chain, ok_nil, ok_cons, ok_tup, ok_lst, ok_fn, ok_tmp, ok_call, ok_meth, ok_tval, ok_tand, ok_tor, ok_tnot, ok_if, ok_pnone, ok_psome, ok_slice, ok_fresh, ok_lcx, ok_body, ok_true, ok_dtmp, ok_dval, ok_rng1, ok_rng2, ok_enum, ok_enumT, ok_zip, ok_gname, ok_gsnil, ok_gscons, ok_gtup, ok_gsub, fo_next, fo_seq, fo_asg, fo_expr, fo_ret, fo_retN, fo_if, fo_break, fo_cont, fo_par, fo_aug, fo_augS, fo_for, fo_body, vr_some, ra1, ra2, in_int, tr_bl, pa2, zp_two, sr_some, wk_tup, wk_rol, wk_str, oo_add, oo_addI, oo_sub, oo_mul, oo_fdiv, oo_mod, oo_pow, oo_shl, oo_shr, oo_and, oo_or, oo_neg, oo_inv, oo_le, oo_gt, oo_ge, oo_lt, oo_eq, oo_ne, oo_eqb, oo_is0, oo_isNot0, oo_nes, oo_eqs, oo_addT, oo_tup, oo_lst, oo_abs, oo_int, oo_intb, oo_max2, oo_min2, oo_max3, oo_min3, oo_lenT, oo_lenR, oo_gTuple, oo_gList, oo_gLen, oo_biT, oo_biR, oo_slT, oo_slR, oo_isaII, oo_isaIB, oo_isaIT, oo_isaIS, oo_isaBI, oo_isaBB, oo_isaBT, oo_isaBS, oo_isaNT, lo_lst, atI_0, atI_1, atI_2, ixN_0, ixN_1, or_ix, ot_ix, ol_ix, or_set, or_len, or_add, or_mul, or_append, or_isLst, or_bi, or_bl, or_sl, or_wk, or_sr, ot_sr, or_gtup, oo_neb, oo_isB, oo_isNotB, ok_lr1, ok_lr2, ok_tr1, ok_tr2, or_popAt, List.getElem?_cons_zero, List.getElem?_cons_succ, List.set_cons_zero, List.set_cons_succ, List.map_cons, List.map_nil, List.replicate_succ, List.replicate_zero, List.length_cons, List.length_nil, List.cons_append, List.nil_append, wipeD, if_true, if_false, Bool.false_eq_true, Nat.reduceAdd, Nat.reduceSub, Nat.reduceLeDiff, decide_eq_true_eq, true_and, and_true, Int.reduceNeg, ot_sr]
  refine fo_loop0 (fun k v h' => h' = h ∧ ∃ x1 x2 : Option PV, v = [some (.tup (t.map fun r => PV.tup (intL r))), x1, x2]) ⟨rfl, _, _, rfl⟩ (fun _ _ _ _ _ => rfl) ?_ ?_
  · rintro k x v h' hx ⟨rfl, x1, x2, rfl⟩
    obtain ⟨y, hy, rfl⟩ := num_get hx
    obtain ⟨r, er, rfl, hr⟩ := rowL_inv hy
    have kn : k < n := by rw [← T.tab.1]; exact hg_lt' er
    try simp (maxSteps := 4000000) only [ok_ret, ok_bnd, ok_lift, ok_var, ok_c, ok_bin, ok_un, ok_asB, ok_and, ok_or, ok_not, ok_chain, ok_nil, ok_cons, ok_tup, ok_lst, ok_fn, ok_tmp, ok_call, ok_meth, ok_tval, ok_tand, ok_tor, ok_tnot, ok_if, ok_pnone, ok_psome, ok_slice, ok_fresh, ok_lcx, ok_body, ok_true, ok_dtmp, ok_dval, ok_rng1, ok_rng2, ok_enum, ok_enumT, ok_zip, ok_gname, ok_gsnil, ok_gscons, ok_gtup, ok_gsub, fo_next, fo_seq, fo_asg, fo_expr, fo_ret, fo_retN, fo_if, fo_break, fo_cont, fo_par, fo_aug, fo_augS, fo_for, fo_body, vr_some, ra1, ra2, in_int, tr_bl, pa2, zp_two, sr_some, wk_tup, wk_rol, wk_str, oo_add, oo_addI, oo_sub, oo_mul, oo_fdiv, oo_mod, oo_pow, oo_shl, oo_shr, oo_and, oo_or, oo_neg, oo_inv, oo_le, oo_gt, oo_ge, oo_lt, oo_eq, oo_ne, oo_eqb, oo_is0, oo_isNot0, oo_nes, oo_eqs, oo_addT, oo_tup, oo_lst, oo_abs, oo_int, oo_intb, oo_max2, oo_min2, oo_max3, oo_min3, oo_lenT, oo_lenR, oo_gTuple, oo_gList, oo_gLen, oo_biT, oo_biR, oo_slT, oo_slR, oo_isaII, oo_isaIB, oo_isaIT, oo_isaIS, oo_isaBI, oo_isaBB, oo_isaBT, oo_isaBS, oo_isaNT, lo_lst, atI_0, atI_1, atI_2, ixN_0, ixN_1, or_ix, ot_ix, ol_ix, or_set, or_len, or_add, or_mul, or_append, or_isLst, or_bi, or_bl, or_sl, or_wk, or_sr, ot_sr, or_gtup, oo_neb, oo_isB, oo_isNotB, ok_lr1, ok_lr2, ok_tr1, ok_tr2, or_popAt, List.getElem?_cons_zero, List.getElem?_cons_succ, List.set_cons_zero, List.set_cons_succ, List.map_cons, List.map_nil, List.replicate_succ, List.replicate_zero, List.length_cons, List.length_nil, List.cons_append, List.nil_append, wipeD, if_true, if_false, Bool.false_eq_true, Nat.reduceAdd, Nat.reduceSub, Nat.reduceLeDiff, decide_eq_true_eq, true_and, and_true, Int.reduceNeg]
    refine atI_nat' (Tab.get T.tab er kn) ?_
    try simp (maxSteps := 4000000) only [ok_ret, ok_bnd, ok_lift, ok_var, ok_c, ok_bin, ok_un, ok_asB, ok_and, ok_or, ok_not, ok_chain, ok_nil, ok_cons, ok_tup, ok_lst, ok_fn, ok_tmp, ok_call, ok_meth, ok_tval, ok_tand, ok_tor, ok_tnot, ok_if, ok_pnone, ok_psome, ok_slice, ok_fresh, ok_lcx, ok_body, ok_true, ok_dtmp, ok_dval, ok_rng1, ok_rng2, ok_enum, ok_enumT, ok_zip, ok_gname, ok_gsnil, ok_gscons, ok_gtup, ok_gsub, fo_next, fo_seq, fo_asg, fo_expr, fo_ret, fo_retN, fo_if, fo_break, fo_cont, fo_par, fo_aug, fo_augS, fo_for, fo_body, vr_some, ra1, ra2, in_int, tr_bl, pa2, zp_two, sr_some, wk_tup, wk_rol, wk_str, oo_add, oo_addI, oo_sub, oo_mul, oo_fdiv, oo_mod, oo_pow, oo_shl, oo_shr, oo_and, oo_or, oo_neg, oo_inv, oo_le, oo_gt, oo_ge, oo_lt, oo_eq, oo_ne, oo_eqb, oo_is0, oo_isNot0, oo_nes, oo_eqs, oo_addT, oo_tup, oo_lst, oo_abs, oo_int, oo_intb, oo_max2, oo_min2, oo_max3, oo_min3, oo_lenT, oo_lenR, oo_gTuple, oo_gList, oo_gLen, oo_biT, oo_biR, oo_slT, oo_slR, oo_isaII, oo_isaIB, oo_isaIT, oo_isaIS, oo_isaBI, oo_isaBB, oo_isaBT, oo_isaBS, oo_isaNT, lo_lst, atI_0, atI_1, atI_2, ixN_0, ixN_1, or_ix, ot_ix, ol_ix, or_set, or_len, or_add, or_mul, or_append, or_isLst, or_bi, or_bl, or_sl, or_wk, or_sr, ot_sr, or_gtup, oo_neb, oo_isB, oo_isNotB, ok_lr1, ok_lr2, ok_tr1, ok_tr2, or_popAt, List.getElem?_cons_zero, List.getElem?_cons_succ, List.set_cons_zero, List.set_cons_succ, List.map_cons, List.map_nil, List.replicate_succ, List.replicate_zero, List.length_cons, List.length_nil, List.cons_append, List.nil_append, wipeD, if_true, if_false, Bool.false_eq_true, Nat.reduceAdd, Nat.reduceSub, Nat.reduceLeDiff, decide_eq_true_eq, true_and, and_true, Int.reduceNeg]
    rw [T.own k kn, decide_eq_true rfl]
    try simp (maxSteps := 4000000) only [ok_ret, ok_bnd, ok_lift, ok_var, ok_c, ok_bin, ok_un, ok_asB, ok_and, ok_or, ok_not, ok_chain, ok_nil, ok_cons, ok_tup, ok_lst, ok_fn, ok_tmp, ok_call, ok_meth, ok_tval, ok_tand, ok_tor, ok_tnot, ok_if, ok_pnone, ok_psome, ok_slice, ok_fresh, ok_lcx, ok_body, ok_true, ok_dtmp, ok_dval, ok_rng1, ok_rng2, ok_enum, ok_enumT, ok_zip, ok_gname, ok_gsnil, ok_gscons, ok_gtup, ok_gsub, fo_next, fo_seq, fo_asg, fo_expr, fo_ret, fo_retN, fo_if, fo_break, fo_cont, fo_par, fo_aug, fo_augS, fo_for, fo_body, vr_some, ra1, ra2, in_int, tr_bl, pa2, zp_two, sr_some, wk_tup, wk_rol, wk_str, oo_add, oo_addI, oo_sub, oo_mul, oo_fdiv, oo_mod, oo_pow, oo_shl, oo_shr, oo_and, oo_or, oo_neg, oo_inv, oo_le, oo_gt, oo_ge, oo_lt, oo_eq, oo_ne, oo_eqb, oo_is0, oo_isNot0, oo_nes, oo_eqs, oo_addT, oo_tup, oo_lst, oo_abs, oo_int, oo_intb, oo_max2, oo_min2, oo_max3, oo_min3, oo_lenT, oo_lenR, oo_gTuple, oo_gList, oo_gLen, oo_biT, oo_biR, oo_slT, oo_slR, oo_isaII, oo_isaIB, oo_isaIT, oo_isaIS, oo_isaBI, oo_isaBB, oo_isaBT, oo_isaBS, oo_isaNT, lo_lst, atI_0, atI_1, atI_2, ixN_0, ixN_1, or_ix, ot_ix, ol_ix, or_set, or_len, or_add, or_mul, or_append, or_isLst, or_bi, or_bl, or_sl, or_wk, or_sr, ot_sr, or_gtup, oo_neb, oo_isB, oo_isNotB, ok_lr1, ok_lr2, ok_tr1, ok_tr2, or_popAt, List.getElem?_cons_zero, List.getElem?_cons_succ, List.set_cons_zero, List.set_cons_succ, List.map_cons, List.map_nil, List.replicate_succ, List.replicate_zero, List.length_cons, List.length_nil, List.cons_append, List.nil_append, wipeD, if_true, if_false, Bool.false_eq_true, Nat.reduceAdd, Nat.reduceSub, Nat.reduceLeDiff, decide_eq_true_eq, true_and, and_true, Int.reduceNeg, Bool.not_true]
    exact ⟨_, _, rfl⟩
  · rintro v h' ⟨rfl, x1, x2, rfl⟩
    try simp (maxSteps := 4000000) only [ok_ret, ok_bnd, ok_lift, ok_var, ok_c, ok_bin, ok_un, ok_asB, ok_and, ok_or, ok_not, ok_chain, ok_nil, ok_cons, ok_tup, ok_lst, ok_fn, ok_tmp, ok_call, ok_meth, ok_tval, ok_tand, ok_tor, ok_tnot, ok_if, ok_pnone, ok_psome, ok_slice, ok_fresh, ok_lcx, ok_body, ok_true, ok_dtmp, ok_dval, ok_rng1, ok_rng2, ok_enum, ok_enumT, ok_zip, ok_gname, ok_gsnil, ok_gscons, ok_gtup, ok_gsub, fo_next, fo_seq, fo_asg, fo_expr, fo_ret, fo_retN, fo_if, fo_break, fo_cont, fo_par, fo_aug, fo_augS, fo_for, fo_body, vr_some, ra1, ra2, in_int, tr_bl, pa2, zp_two, sr_some, wk_tup, wk_rol, wk_str, oo_add, oo_addI, oo_sub, oo_mul, oo_fdiv, oo_mod, oo_pow, oo_shl, oo_shr, oo_and, oo_or, oo_neg, oo_inv, oo_le, oo_gt, oo_ge, oo_lt, oo_eq, oo_ne, oo_eqb, oo_is0, oo_isNot0, oo_nes, oo_eqs, oo_addT, oo_tup, oo_lst, oo_abs, oo_int, oo_intb, oo_max2, oo_min2, oo_max3, oo_min3, oo_lenT, oo_lenR, oo_gTuple, oo_gList, oo_gLen, oo_biT, oo_biR, oo_slT, oo_slR, oo_isaII, oo_isaIB, oo_isaIT, oo_isaIS, oo_isaBI, oo_isaBB, oo_isaBT, oo_isaBS, oo_isaNT, lo_lst, atI_0, atI_1, atI_2, ixN_0, ixN_1, or_ix, ot_ix, ol_ix, or_set, or_len, or_add, or_mul, or_append, or_isLst, or_bi, or_bl, or_sl, or_wk, or_sr, ot_sr, or_gtup, oo_neb, oo_isB, oo_isNotB, ok_lr1, ok_lr2, ok_tr1, ok_tr2, or_popAt, List.getElem?_cons_zero, List.getElem?_cons_succ, List.set_cons_zero, List.set_cons_succ, List.map_cons, List.map_nil, List.replicate_succ, List.replicate_zero, List.length_cons, List.length_nil, List.cons_append, List.nil_append, wipeD, if_true, if_false, Bool.false_eq_true, Nat.reduceAdd, Nat.reduceSub, Nat.reduceLeDiff, decide_eq_true_eq, true_and, and_true, Int.reduceNeg]
theorem unlike_spec {n : Nat} {t : List (List Int)} {h : VH} (T : Table n t) : OK (funlike_fault [tabV t] h) fun v h' => v = .non ∧ h' = h := by
  unfold funlike_fault
  rw [ok_fn0]
  unfold bunlike_fault
  rw [show tabV t = .tup (t.map fun r => PV.tup (intL r)) from rfl]
  have n8 := T.n8
  try simp (maxSteps := 4000000) only [ok_ret, ok_bnd, ok_lift, ok_var, ok_c, ok_bin, ok_un, ok_asB, ok_and, ok_or, ok_not, ok_chain, ok_nil, ok_cons, ok_tup, ok_lst, ok_fn, ok_tmp, ok_call, ok_meth, ok_tval, ok_tand, ok_tor, ok_tnot, ok_if, ok_pnone, ok_psome, ok_slice, ok_fresh, ok_lcx, ok_body, ok_true, ok_dtmp, ok_dval, ok_rng1, ok_rng2, ok_enum, ok_enumT, ok_zip, ok_gname, ok_gsnil, ok_gscons, ok_gtup, ok_gsub, fo_next, fo_seq, fo_asg, fo_expr, fo_ret, fo_retN, fo_if, fo_break, fo_cont, fo_par, fo_aug, fo_augS, fo_for, fo_body, vr_some, ra1, ra2, in_int, tr_bl, pa2, zp_two, sr_some, wk_tup, wk_rol, wk_str, oo_add, oo_addI, oo_sub, oo_mul, oo_fdiv, oo_mod, oo_pow, oo_shl, oo_shr, oo_and, oo_or, oo_neg, oo_inv, oo_le, oo_gt, oo_ge, oo_lt, oo_eq, oo_ne, oo_eqb, oo_is0, oo_isNot0, oo_nes, oo_eqs, oo_addT, oo_tup, oo_lst, oo_abs, oo_int, oo_intb, oo_max2, oo_min2, oo_max3, oo_min3, oo_lenT, oo_lenR, oo_gTuple, oo_gList, oo_gLen, oo_biT, oo_biR, oo_slT, oo_slR, oo_isaII, oo_isaIB, oo_isaIT, oo_isaIS, oo_isaBI, oo_isaBB, oo_isaBT, oo_isaBS, oo_isaNT, lo_lst, atI_0, atI_1, atI_2, ixN_0, ixN_1, or_ix, ot_ix, ol_ix, or_set, or_len, or_add, or_mul, or_append, or_isLst, or_bi, or_bl, or_sl, or_wk, or_sr, ot_sr, or_gtup, oo_neb, oo_isB, oo_isNotB, ok_lr1, ok_lr2, ok_tr1, ok_tr2, or_popAt, List.getElem?_cons_zero, List.getElem?_cons_succ, List.set_cons_zero, List.set_cons_succ, List.map_cons, List.map_nil, List.replicate_succ, List.replicate_zero, List.length_cons, List.length_nil, List.cons_append, List.nil_append, wipeD, if_true, if_false, Bool.false_eq_true, Nat.reduceAdd, Nat.reduceSub, Nat.reduceLeDiff, decide_eq_true_eq, true_and, and_true, Int.reduceNeg, ot_sr]
  refine fo_loop0 (fun k v h' => h' = h ∧ ∃ x1 x2 x3 : Option PV, v = [some (.tup (t.map fun r => PV.tup (intL r))), x1, x2, x3]) ⟨rfl, _, _, _, rfl⟩ (fun _ _ _ _ _ => rfl) ?_ ?_
  · rintro k x v h' hx ⟨rfl, x1, x2, x3, rfl⟩
    obtain ⟨y, hy, rfl⟩ := num_get hx
    obtain ⟨r, er, rfl, hr⟩ := rowL_inv hy
    have kn : k < n := by rw [← T.tab.1]; exact hg_lt' er
    try simp (maxSteps := 4000000) only [ok_ret, ok_bnd, ok_lift, ok_var, ok_c, ok_bin, ok_un, ok_asB, ok_and, ok_or, ok_not, ok_chain, ok_nil, ok_cons, ok_tup, ok_lst, ok_fn, ok_tmp, ok_call, ok_meth, ok_tval, ok_tand, ok_tor, ok_tnot, ok_if, ok_pnone, ok_psome, ok_slice, ok_fresh, ok_lcx, ok_body, ok_true, ok_dtmp, ok_dval, ok_rng1, ok_rng2, ok_enum, ok_enumT, ok_zip, ok_gname, ok_gsnil, ok_gscons, ok_gtup, ok_gsub, fo_next, fo_seq, fo_asg, fo_expr, fo_ret, fo_retN, fo_if, fo_break, fo_cont, fo_par, fo_aug, fo_augS, fo_for, fo_body, vr_some, ra1, ra2, in_int, tr_bl, pa2, zp_two, sr_some, wk_tup, wk_rol, wk_str, oo_add, oo_addI, oo_sub, oo_mul, oo_fdiv, oo_mod, oo_pow, oo_shl, oo_shr, oo_and, oo_or, oo_neg, oo_inv, oo_le, oo_gt, oo_ge, oo_lt, oo_eq, oo_ne, oo_eqb, oo_is0, oo_isNot0, oo_nes, oo_eqs, oo_addT, oo_tup, oo_lst, oo_abs, oo_int, oo_intb, oo_max2, oo_min2, oo_max3, oo_min3, oo_lenT, oo_lenR, oo_gTuple, oo_gList, oo_gLen, oo_biT, oo_biR, oo_slT, oo_slR, oo_isaII, oo_isaIB, oo_isaIT, oo_isaIS, oo_isaBI, oo_isaBB, oo_isaBT, oo_isaBS, oo_isaNT, lo_lst, atI_0, atI_1, atI_2, ixN_0, ixN_1, or_ix, ot_ix, ol_ix, or_set, or_len, or_add, or_mul, or_append, or_isLst, or_bi, or_bl, or_sl, or_wk, or_sr, ot_sr, or_gtup, oo_neb, oo_isB, oo_isNotB, ok_lr1, ok_lr2, ok_tr1, ok_tr2, or_popAt, List.getElem?_cons_zero, List.getElem?_cons_succ, List.set_cons_zero, List.set_cons_succ, List.map_cons, List.map_nil, List.replicate_succ, List.replicate_zero, List.length_cons, List.length_nil, List.cons_append, List.nil_append, wipeD, if_true, if_false, Bool.false_eq_true, Nat.reduceAdd, Nat.reduceSub, Nat.reduceLeDiff, decide_eq_true_eq, true_and, and_true, Int.reduceNeg, List.length_map, T.tab.1]
    refine ⟨by omega, ?_⟩
    refine fo_loop0 (fun j v h1 => h1 = h' ∧ ∃ x3 : Option PV, v = [some (.tup (t.map fun r => PV.tup (intL r))), some (.int (k : Nat)), some (.tup (intL r)), x3]) ⟨rfl, _, rfl⟩ (fun _ _ _ _ _ => rfl) ?_ ?_
    · rintro j x v h' hx ⟨rfl, y3, rfl⟩
      obtain ⟨hj, rfl⟩ := rng_get hx
      have jn : k + 1 + j < n := by omega
      rw [show ((k : Nat) : Int) + 1 + (j : Nat) = ((k + 1 + j : Nat) : Int) by omega]
      obtain ⟨r2, er2, ev2⟩ := Tab.row T.tab jn
      try simp (maxSteps := 4000000) only [ok_ret, ok_bnd, ok_lift, ok_var, ok_c, ok_bin, ok_un, ok_asB, ok_and, ok_or, ok_not, ok_chain, ok_nil, ok_cons, ok_tup, ok_lst, ok_fn, ok_tmp, ok_call, ok_meth, ok_tval, ok_tand, ok_tor, ok_tnot, ok_if, ok_pnone, ok_psome, ok_slice, ok_fresh, ok_lcx, ok_body, ok_true, ok_dtmp, ok_dval, ok_rng1, ok_rng2, ok_enum, ok_enumT, ok_zip, ok_gname, ok_gsnil, ok_gscons, ok_gtup, ok_gsub, fo_next, fo_seq, fo_asg, fo_expr, fo_ret, fo_retN, fo_if, fo_break, fo_cont, fo_par, fo_aug, fo_augS, fo_for, fo_body, vr_some, ra1, ra2, in_int, tr_bl, pa2, zp_two, sr_some, wk_tup, wk_rol, wk_str, oo_add, oo_addI, oo_sub, oo_mul, oo_fdiv, oo_mod, oo_pow, oo_shl, oo_shr, oo_and, oo_or, oo_neg, oo_inv, oo_le, oo_gt, oo_ge, oo_lt, oo_eq, oo_ne, oo_eqb, oo_is0, oo_isNot0, oo_nes, oo_eqs, oo_addT, oo_tup, oo_lst, oo_abs, oo_int, oo_intb, oo_max2, oo_min2, oo_max3, oo_min3, oo_lenT, oo_lenR, oo_gTuple, oo_gList, oo_gLen, oo_biT, oo_biR, oo_slT, oo_slR, oo_isaII, oo_isaIB, oo_isaIT, oo_isaIS, oo_isaBI, oo_isaBB, oo_isaBT, oo_isaBS, oo_isaNT, lo_lst, atI_0, atI_1, atI_2, ixN_0, ixN_1, or_ix, ot_ix, ol_ix, or_set, or_len, or_add, or_mul, or_append, or_isLst, or_bi, or_bl, or_sl, or_wk, or_sr, ot_sr, or_gtup, oo_neb, oo_isB, oo_isNotB, ok_lr1, ok_lr2, ok_tr1, ok_tr2, or_popAt, List.getElem?_cons_zero, List.getElem?_cons_succ, List.set_cons_zero, List.set_cons_succ, List.map_cons, List.map_nil, List.replicate_succ, List.replicate_zero, List.length_cons, List.length_nil, List.cons_append, List.nil_append, wipeD, if_true, if_false, Bool.false_eq_true, Nat.reduceAdd, Nat.reduceSub, Nat.reduceLeDiff, decide_eq_true_eq, true_and, and_true, Int.reduceNeg]
      refine atI_nat' (Tab.get T.tab er jn) ?_
      refine atI_nat' ev2 ?_
      try simp (maxSteps := 4000000) only [ok_ret, ok_bnd, ok_lift, ok_var, ok_c, ok_bin, ok_un, ok_asB, ok_and, ok_or, ok_not, ok_chain, ok_nil, ok_cons, ok_tup, ok_lst, ok_fn, ok_tmp, ok_call, ok_meth, ok_tval, ok_tand, ok_tor, ok_tnot, ok_if, ok_pnone, ok_psome, ok_slice, ok_fresh, ok_lcx, ok_body, ok_true, ok_dtmp, ok_dval, ok_rng1, ok_rng2, ok_enum, ok_enumT, ok_zip, ok_gname, ok_gsnil, ok_gscons, ok_gtup, ok_gsub, fo_next, fo_seq, fo_asg, fo_expr, fo_ret, fo_retN, fo_if, fo_break, fo_cont, fo_par, fo_aug, fo_augS, fo_for, fo_body, vr_some, ra1, ra2, in_int, tr_bl, pa2, zp_two, sr_some, wk_tup, wk_rol, wk_str, oo_add, oo_addI, oo_sub, oo_mul, oo_fdiv, oo_mod, oo_pow, oo_shl, oo_shr, oo_and, oo_or, oo_neg, oo_inv, oo_le, oo_gt, oo_ge, oo_lt, oo_eq, oo_ne, oo_eqb, oo_is0, oo_isNot0, oo_nes, oo_eqs, oo_addT, oo_tup, oo_lst, oo_abs, oo_int, oo_intb, oo_max2, oo_min2, oo_max3, oo_min3, oo_lenT, oo_lenR, oo_gTuple, oo_gList, oo_gLen, oo_biT, oo_biR, oo_slT, oo_slR, oo_isaII, oo_isaIB, oo_isaIT, oo_isaIS, oo_isaBI, oo_isaBB, oo_isaBT, oo_isaBS, oo_isaNT, lo_lst, atI_0, atI_1, atI_2, ixN_0, ixN_1, or_ix, ot_ix, ol_ix, or_set, or_len, or_add, or_mul, or_append, or_isLst, or_bi, or_bl, or_sl, or_wk, or_sr, ot_sr, or_gtup, oo_neb, oo_isB, oo_isNotB, ok_lr1, ok_lr2, ok_tr1, ok_tr2, or_popAt, List.getElem?_cons_zero, List.getElem?_cons_succ, List.set_cons_zero, List.set_cons_succ, List.map_cons, List.map_nil, List.replicate_succ, List.replicate_zero, List.length_cons, List.length_nil, List.cons_append, List.nil_append, wipeD, if_true, if_false, Bool.false_eq_true, Nat.reduceAdd, Nat.reduceSub, Nat.reduceLeDiff, decide_eq_true_eq, true_and, and_true, Int.reduceNeg]
      refine atI_nat' (Tab.get T.tab er2 kn) ?_
      try simp (maxSteps := 4000000) only [ok_ret, ok_bnd, ok_lift, ok_var, ok_c, ok_bin, ok_un, ok_asB, ok_and, ok_or, ok_not, ok_chain, ok_nil, ok_cons, ok_tup, ok_lst, ok_fn, ok_tmp, ok_call, ok_meth, ok_tval, ok_tand, ok_tor, ok_tnot, ok_if, ok_pnone, ok_psome, ok_slice, ok_fresh, ok_lcx, ok_body, ok_true, ok_dtmp, ok_dval, ok_rng1, ok_rng2, ok_enum, ok_enumT, ok_zip, ok_gname, ok_gsnil, ok_gscons, ok_gtup, ok_gsub, fo_next, fo_seq, fo_asg, fo_expr, fo_ret, fo_retN, fo_if, fo_break, fo_cont, fo_par, fo_aug, fo_augS, fo_for, fo_body, vr_some, ra1, ra2, in_int, tr_bl, pa2, zp_two, sr_some, wk_tup, wk_rol, wk_str, oo_add, oo_addI, oo_sub, oo_mul, oo_fdiv, oo_mod, oo_pow, oo_shl, oo_shr, oo_and, oo_or, oo_neg, oo_inv, oo_le, oo_gt, oo_ge, oo_lt, oo_eq, oo_ne, oo_eqb, oo_is0, oo_isNot0, oo_nes, oo_eqs, oo_addT, oo_tup, oo_lst, oo_abs, oo_int, oo_intb, oo_max2, oo_min2, oo_max3, oo_min3, oo_lenT, oo_lenR, oo_gTuple, oo_gList, oo_gLen, oo_biT, oo_biR, oo_slT, oo_slR, oo_isaII, oo_isaIB, oo_isaIT, oo_isaIS, oo_isaBI, oo_isaBB, oo_isaBT, oo_isaBS, oo_isaNT, lo_lst, atI_0, atI_1, atI_2, ixN_0, ixN_1, or_ix, ot_ix, ol_ix, or_set, or_len, or_add, or_mul, or_append, or_isLst, or_bi, or_bl, or_sl, or_wk, or_sr, ot_sr, or_gtup, oo_neb, oo_isB, oo_isNotB, ok_lr1, ok_lr2, ok_tr1, ok_tr2, or_popAt, List.getElem?_cons_zero, List.getElem?_cons_succ, List.set_cons_zero, List.set_cons_succ, List.map_cons, List.map_nil, List.replicate_succ, List.replicate_zero, List.length_cons, List.length_nil, List.cons_append, List.nil_append, wipeD, if_true, if_false, Bool.false_eq_true, Nat.reduceAdd, Nat.reduceSub, Nat.reduceLeDiff, decide_eq_true_eq, true_and, and_true, Int.reduceNeg]
      rw [T.sym k (k + 1 + j) kn jn, decide_eq_true rfl]
      try simp (maxSteps := 4000000) only [ok_ret, ok_bnd, ok_lift, ok_var, ok_c, ok_bin, ok_un, ok_asB, ok_and, ok_or, ok_not, ok_chain, ok_nil, ok_cons, ok_tup, ok_lst, ok_fn, ok_tmp, ok_call, ok_meth, ok_tval, ok_tand, ok_tor, ok_tnot, ok_if, ok_pnone, ok_psome, ok_slice, ok_fresh, ok_lcx, ok_body, ok_true, ok_dtmp, ok_dval, ok_rng1, ok_rng2, ok_enum, ok_enumT, ok_zip, ok_gname, ok_gsnil, ok_gscons, ok_gtup, ok_gsub, fo_next, fo_seq, fo_asg, fo_expr, fo_ret, fo_retN, fo_if, fo_break, fo_cont, fo_par, fo_aug, fo_augS, fo_for, fo_body, vr_some, ra1, ra2, in_int, tr_bl, pa2, zp_two, sr_some, wk_tup, wk_rol, wk_str, oo_add, oo_addI, oo_sub, oo_mul, oo_fdiv, oo_mod, oo_pow, oo_shl, oo_shr, oo_and, oo_or, oo_neg, oo_inv, oo_le, oo_gt, oo_ge, oo_lt, oo_eq, oo_ne, oo_eqb, oo_is0, oo_isNot0, oo_nes, oo_eqs, oo_addT, oo_tup, oo_lst, oo_abs, oo_int, oo_intb, oo_max2, oo_min2, oo_max3, oo_min3, oo_lenT, oo_lenR, oo_gTuple, oo_gList, oo_gLen, oo_biT, oo_biR, oo_slT, oo_slR, oo_isaII, oo_isaIB, oo_isaIT, oo_isaIS, oo_isaBI, oo_isaBB, oo_isaBT, oo_isaBS, oo_isaNT, lo_lst, atI_0, atI_1, atI_2, ixN_0, ixN_1, or_ix, ot_ix, ol_ix, or_set, or_len, or_add, or_mul, or_append, or_isLst, or_bi, or_bl, or_sl, or_wk, or_sr, ot_sr, or_gtup, oo_neb, oo_isB, oo_isNotB, ok_lr1, ok_lr2, ok_tr1, ok_tr2, or_popAt, List.getElem?_cons_zero, List.getElem?_cons_succ, List.set_cons_zero, List.set_cons_succ, List.map_cons, List.map_nil, List.replicate_succ, List.replicate_zero, List.length_cons, List.length_nil, List.cons_append, List.nil_append, wipeD, if_true, if_false, Bool.false_eq_true, Nat.reduceAdd, Nat.reduceSub, Nat.reduceLeDiff, decide_eq_true_eq, true_and, and_true, Int.reduceNeg, Bool.not_true]
      exact ⟨_, rfl⟩
    · rintro v h' ⟨rfl, y3, rfl⟩
      exact ⟨rfl, _, _, _, rfl⟩
  · rintro v h' ⟨rfl, x1, x2, x3, rfl⟩
    try simp (maxSteps := 4000000) only [ok_ret, ok_bnd, ok_lift, ok_var, ok_c, ok_bin, ok_un, ok_asB, ok_and, ok_or, ok_not, ok_chain, ok_nil, ok_cons, ok_tup, ok_lst, ok_fn, ok_tmp, ok_call, ok_meth, ok_tval, ok_tand, ok_tor, ok_tnot, ok_if, ok_pnone, ok_psome, ok_slice, ok_fresh, ok_lcx, ok_body, ok_true, ok_dtmp, ok_dval, ok_rng1, ok_rng2, ok_enum, ok_enumT, ok_zip, ok_gname, ok_gsnil, ok_gscons, ok_gtup, ok_gsub, fo_next, fo_seq, fo_asg, fo_expr, fo_ret, fo_retN, fo_if, fo_break, fo_cont, fo_par, fo_aug, fo_augS, fo_for, fo_body, vr_some, ra1, ra2, in_int, tr_bl, pa2, zp_two, sr_some, wk_tup, wk_rol, wk_str, oo_add, oo_addI, oo_sub, oo_mul, oo_fdiv, oo_mod, oo_pow, oo_shl, oo_shr, oo_and, oo_or, oo_neg, oo_inv, oo_le, oo_gt, oo_ge, oo_lt, oo_eq, oo_ne, oo_eqb, oo_is0, oo_isNot0, oo_nes, oo_eqs, oo_addT, oo_tup, oo_lst, oo_abs, oo_int, oo_intb, oo_max2, oo_min2, oo_max3, oo_min3, oo_lenT, oo_lenR, oo_gTuple, oo_gList, oo_gLen, oo_biT, oo_biR, oo_slT, oo_slR, oo_isaII, oo_isaIB, oo_isaIT, oo_isaIS, oo_isaBI, oo_isaBB, oo_isaBT, oo_isaBS, oo_isaNT, lo_lst, atI_0, atI_1, atI_2, ixN_0, ixN_1, or_ix, ot_ix, ol_ix, or_set, or_len, or_add, or_mul, or_append, or_isLst, or_bi, or_bl, or_sl, or_wk, or_sr, ot_sr, or_gtup, oo_neb, oo_isB, oo_isNotB, ok_lr1, ok_lr2, ok_tr1, ok_tr2, or_popAt, List.getElem?_cons_zero, List.getElem?_cons_succ, List.set_cons_zero, List.set_cons_succ, List.map_cons, List.map_nil, List.replicate_succ, List.replicate_zero, List.length_cons, List.length_nil, List.cons_append, List.nil_append, wipeD, if_true, if_false, Bool.false_eq_true, Nat.reduceAdd, Nat.reduceSub, Nat.reduceLeDiff, decide_eq_true_eq, true_and, and_true, Int.reduceNeg]
theorem round_spec {n : Nat} {t : List (List Int)} {h : VH} (T : Table n t) : OK (fround_fault [tabV t] h) fun v h' => v = .non ∧ h' = h := by
  unfold fround_fault
  rw [ok_fn0]
  unfold bround_fault
  rw [show tabV t = .tup (t.map fun r => PV.tup (intL r)) from rfl]
  have n8 := T.n8
  try simp (maxSteps := 4000000) only [ok_ret, ok_bnd, ok_lift, ok_var, ok_c, ok_bin, ok_un, ok_asB, ok_and, ok_or, ok_not, ok_chain, ok_nil, ok_cons, ok_tup, ok_lst, ok_fn, ok_tmp, ok_call, ok_meth, ok_tval, ok_tand, ok_tor, ok_tnot, ok_if, ok_pnone, ok_psome, ok_slice, ok_fresh, ok_lcx, ok_body, ok_true, ok_dtmp, ok_dval, ok_rng1, ok_rng2, ok_enum, ok_enumT, ok_zip, ok_gname, ok_gsnil, ok_gscons, ok_gtup, ok_gsub, fo_next, fo_seq, fo_asg, fo_expr, fo_ret, fo_retN, fo_if, fo_break, fo_cont, fo_par, fo_aug, fo_augS, fo_for, fo_body, vr_some, ra1, ra2, in_int, tr_bl, pa2, zp_two, sr_some, wk_tup, wk_rol, wk_str, oo_add, oo_addI, oo_sub, oo_mul, oo_fdiv, oo_mod, oo_pow, oo_shl, oo_shr, oo_and, oo_or, oo_neg, oo_inv, oo_le, oo_gt, oo_ge, oo_lt, oo_eq, oo_ne, oo_eqb, oo_is0, oo_isNot0, oo_nes, oo_eqs, oo_addT, oo_tup, oo_lst, oo_abs, oo_int, oo_intb, oo_max2, oo_min2, oo_max3, oo_min3, oo_lenT, oo_lenR, oo_gTuple, oo_gList, oo_gLen, oo_biT, oo_biR, oo_slT, oo_slR, oo_isaII, oo_isaIB, oo_isaIT, oo_isaIS, oo_isaBI, oo_isaBB, oo_isaBT, oo_isaBS, oo_isaNT, lo_lst, atI_0, atI_1, atI_2, ixN_0, ixN_1, or_ix, ot_ix, ol_ix, or_set, or_len, or_add, or_mul, or_append, or_isLst, or_bi, or_bl, or_sl, or_wk, or_sr, ot_sr, or_gtup, oo_neb, oo_isB, oo_isNotB, ok_lr1, ok_lr2, ok_tr1, ok_tr2, or_popAt, List.getElem?_cons_zero, List.getElem?_cons_succ, List.set_cons_zero, List.set_cons_succ, List.map_cons, List.map_nil, List.replicate_succ, List.replicate_zero, List.length_cons, List.length_nil, List.cons_append, List.nil_append, wipeD, if_true, if_false, Bool.false_eq_true, Nat.reduceAdd, Nat.reduceSub, Nat.reduceLeDiff, decide_eq_true_eq, true_and, and_true, Int.reduceNeg, ot_sr]
  refine fo_loop0 (fun k v h' => h' = h ∧ ∃ x1 x2 x3 x4 : Option PV, v = [some (.tup (t.map fun r => PV.tup (intL r))), x1, x2, x3, x4]) ⟨rfl, _, _, _, _, rfl⟩ (fun _ _ _ _ _ => rfl) ?_ ?_
  · rintro k x v h' hx ⟨rfl, x1, x2, x3, x4, rfl⟩
    obtain ⟨y, hy, rfl⟩ := num_get hx
    obtain ⟨r, er, rfl, hr⟩ := rowL_inv hy
    have kn : k < n := by rw [← T.tab.1]; exact hg_lt' er
    try simp (maxSteps := 4000000) only [ok_ret, ok_bnd, ok_lift, ok_var, ok_c, ok_bin, ok_un, ok_asB, ok_and, ok_or, ok_not, ok_chain, ok_nil, ok_cons, ok_tup, ok_lst, ok_fn, ok_tmp, ok_call, ok_meth, ok_tval, ok_tand, ok_tor, ok_tnot, ok_if, ok_pnone, ok_psome, ok_slice, ok_fresh, ok_lcx, ok_body, ok_true, ok_dtmp, ok_dval, ok_rng1, ok_rng2, ok_enum, ok_enumT, ok_zip, ok_gname, ok_gsnil, ok_gscons, ok_gtup, ok_gsub, fo_next, fo_seq, fo_asg, fo_expr, fo_ret, fo_retN, fo_if, fo_break, fo_cont, fo_par, fo_aug, fo_augS, fo_for, fo_body, vr_some, ra1, ra2, in_int, tr_bl, pa2, zp_two, sr_some, wk_tup, wk_rol, wk_str, oo_add, oo_addI, oo_sub, oo_mul, oo_fdiv, oo_mod, oo_pow, oo_shl, oo_shr, oo_and, oo_or, oo_neg, oo_inv, oo_le, oo_gt, oo_ge, oo_lt, oo_eq, oo_ne, oo_eqb, oo_is0, oo_isNot0, oo_nes, oo_eqs, oo_addT, oo_tup, oo_lst, oo_abs, oo_int, oo_intb, oo_max2, oo_min2, oo_max3, oo_min3, oo_lenT, oo_lenR, oo_gTuple, oo_gList, oo_gLen, oo_biT, oo_biR, oo_slT, oo_slR, oo_isaII, oo_isaIB, oo_isaIT, oo_isaIS, oo_isaBI, oo_isaBB, oo_isaBT, oo_isaBS, oo_isaNT, lo_lst, atI_0, atI_1, atI_2, ixN_0, ixN_1, or_ix, ot_ix, ol_ix, or_set, or_len, or_add, or_mul, or_append, or_isLst, or_bi, or_bl, or_sl, or_wk, or_sr, ot_sr, or_gtup, oo_neb, oo_isB, oo_isNotB, ok_lr1, ok_lr2, ok_tr1, ok_tr2, or_popAt, List.getElem?_cons_zero, List.getElem?_cons_succ, List.set_cons_zero, List.set_cons_succ, List.map_cons, List.map_nil, List.replicate_succ, List.replicate_zero, List.length_cons, List.length_nil, List.cons_append, List.nil_append, wipeD, if_true, if_false, Bool.false_eq_true, Nat.reduceAdd, Nat.reduceSub, Nat.reduceLeDiff, decide_eq_true_eq, true_and, and_true, Int.reduceNeg, List.length_map, T.tab.1]
    refine ⟨by omega, ?_⟩
    refine fo_loop0 (fun j v h1 => h1 = h' ∧ ∃ x3 x4 : Option PV, v = [some (.tup (t.map fun r => PV.tup (intL r))), some (.int (k : Nat)), some (.tup (intL r)), x3, x4]) ⟨rfl, _, _, rfl⟩ (fun _ _ _ _ _ => rfl) ?_ ?_
    · rintro j x v h' hx ⟨rfl, y3, y4, rfl⟩
      obtain ⟨hj, rfl⟩ := rng_get hx
      have jn : k + 1 + j < n := by omega
      rw [show ((k : Nat) : Int) + 1 + (j : Nat) = ((k + 1 + j : Nat) : Int) by omega]
      generalize k + 1 + j = b at jn
      try simp (maxSteps := 4000000) only [ok_ret, ok_bnd, ok_lift, ok_var, ok_c, ok_bin, ok_un, ok_asB, ok_and, ok_or, ok_not, ok_chain, ok_nil, ok_cons, ok_tup, ok_lst, ok_fn, ok_tmp, ok_call, ok_meth, ok_tval, ok_tand, ok_tor, ok_tnot, ok_if, ok_pnone, ok_psome, ok_slice, ok_fresh, ok_lcx, ok_body, ok_true, ok_dtmp, ok_dval, ok_rng1, ok_rng2, ok_enum, ok_enumT, ok_zip, ok_gname, ok_gsnil, ok_gscons, ok_gtup, ok_gsub, fo_next, fo_seq, fo_asg, fo_expr, fo_ret, fo_retN, fo_if, fo_break, fo_cont, fo_par, fo_aug, fo_augS, fo_for, fo_body, vr_some, ra1, ra2, in_int, tr_bl, pa2, zp_two, sr_some, wk_tup, wk_rol, wk_str, oo_add, oo_addI, oo_sub, oo_mul, oo_fdiv, oo_mod, oo_pow, oo_shl, oo_shr, oo_and, oo_or, oo_neg, oo_inv, oo_le, oo_gt, oo_ge, oo_lt, oo_eq, oo_ne, oo_eqb, oo_is0, oo_isNot0, oo_nes, oo_eqs, oo_addT, oo_tup, oo_lst, oo_abs, oo_int, oo_intb, oo_max2, oo_min2, oo_max3, oo_min3, oo_lenT, oo_lenR, oo_gTuple, oo_gList, oo_gLen, oo_biT, oo_biR, oo_slT, oo_slR, oo_isaII, oo_isaIB, oo_isaIT, oo_isaIS, oo_isaBI, oo_isaBB, oo_isaBT, oo_isaBS, oo_isaNT, lo_lst, atI_0, atI_1, atI_2, ixN_0, ixN_1, or_ix, ot_ix, ol_ix, or_set, or_len, or_add, or_mul, or_append, or_isLst, or_bi, or_bl, or_sl, or_wk, or_sr, ot_sr, or_gtup, oo_neb, oo_isB, oo_isNotB, ok_lr1, ok_lr2, ok_tr1, ok_tr2, or_popAt, List.getElem?_cons_zero, List.getElem?_cons_succ, List.set_cons_zero, List.set_cons_succ, List.map_cons, List.map_nil, List.replicate_succ, List.replicate_zero, List.length_cons, List.length_nil, List.cons_append, List.nil_append, wipeD, if_true, if_false, Bool.false_eq_true, Nat.reduceAdd, Nat.reduceSub, Nat.reduceLeDiff, decide_eq_true_eq, true_and, and_true, Int.reduceNeg, List.length_map, T.tab.1]
      refine ⟨by omega, ?_⟩
      refine fo_loop0 (fun j v h1 => h1 = h' ∧ ∃ x4 : Option PV, v = [some (.tup (t.map fun r => PV.tup (intL r))), some (.int (k : Nat)), some (.tup (intL r)), some (.int (b : Nat)), x4]) ⟨rfl, _, rfl⟩ (fun _ _ _ _ _ => rfl) ?_ ?_
      · rintro c x v h' hx ⟨rfl, z4, rfl⟩
        obtain ⟨hc, rfl⟩ := rng0_get hx
        have cn : c < n := by omega
        obtain ⟨r2, er2, ev2⟩ := Tab.row T.tab cn
        try simp (maxSteps := 4000000) only [ok_ret, ok_bnd, ok_lift, ok_var, ok_c, ok_bin, ok_un, ok_asB, ok_and, ok_or, ok_not, ok_chain, ok_nil, ok_cons, ok_tup, ok_lst, ok_fn, ok_tmp, ok_call, ok_meth, ok_tval, ok_tand, ok_tor, ok_tnot, ok_if, ok_pnone, ok_psome, ok_slice, ok_fresh, ok_lcx, ok_body, ok_true, ok_dtmp, ok_dval, ok_rng1, ok_rng2, ok_enum, ok_enumT, ok_zip, ok_gname, ok_gsnil, ok_gscons, ok_gtup, ok_gsub, fo_next, fo_seq, fo_asg, fo_expr, fo_ret, fo_retN, fo_if, fo_break, fo_cont, fo_par, fo_aug, fo_augS, fo_for, fo_body, vr_some, ra1, ra2, in_int, tr_bl, pa2, zp_two, sr_some, wk_tup, wk_rol, wk_str, oo_add, oo_addI, oo_sub, oo_mul, oo_fdiv, oo_mod, oo_pow, oo_shl, oo_shr, oo_and, oo_or, oo_neg, oo_inv, oo_le, oo_gt, oo_ge, oo_lt, oo_eq, oo_ne, oo_eqb, oo_is0, oo_isNot0, oo_nes, oo_eqs, oo_addT, oo_tup, oo_lst, oo_abs, oo_int, oo_intb, oo_max2, oo_min2, oo_max3, oo_min3, oo_lenT, oo_lenR, oo_gTuple, oo_gList, oo_gLen, oo_biT, oo_biR, oo_slT, oo_slR, oo_isaII, oo_isaIB, oo_isaIT, oo_isaIS, oo_isaBI, oo_isaBB, oo_isaBT, oo_isaBS, oo_isaNT, lo_lst, atI_0, atI_1, atI_2, ixN_0, ixN_1, or_ix, ot_ix, ol_ix, or_set, or_len, or_add, or_mul, or_append, or_isLst, or_bi, or_bl, or_sl, or_wk, or_sr, ot_sr, or_gtup, oo_neb, oo_isB, oo_isNotB, ok_lr1, ok_lr2, ok_tr1, ok_tr2, or_popAt, List.getElem?_cons_zero, List.getElem?_cons_succ, List.set_cons_zero, List.set_cons_succ, List.map_cons, List.map_nil, List.replicate_succ, List.replicate_zero, List.length_cons, List.length_nil, List.cons_append, List.nil_append, wipeD, if_true, if_false, Bool.false_eq_true, Nat.reduceAdd, Nat.reduceSub, Nat.reduceLeDiff, decide_eq_true_eq, true_and, and_true, Int.reduceNeg]
        refine atI_nat' (Tab.get T.tab er jn) ?_
        refine atI_nat' (Tab.get T.tab er cn) ?_
        refine atI_nat' ev2 ?_
        try simp (maxSteps := 4000000) only [ok_ret, ok_bnd, ok_lift, ok_var, ok_c, ok_bin, ok_un, ok_asB, ok_and, ok_or, ok_not, ok_chain, ok_nil, ok_cons, ok_tup, ok_lst, ok_fn, ok_tmp, ok_call, ok_meth, ok_tval, ok_tand, ok_tor, ok_tnot, ok_if, ok_pnone, ok_psome, ok_slice, ok_fresh, ok_lcx, ok_body, ok_true, ok_dtmp, ok_dval, ok_rng1, ok_rng2, ok_enum, ok_enumT, ok_zip, ok_gname, ok_gsnil, ok_gscons, ok_gtup, ok_gsub, fo_next, fo_seq, fo_asg, fo_expr, fo_ret, fo_retN, fo_if, fo_break, fo_cont, fo_par, fo_aug, fo_augS, fo_for, fo_body, vr_some, ra1, ra2, in_int, tr_bl, pa2, zp_two, sr_some, wk_tup, wk_rol, wk_str, oo_add, oo_addI, oo_sub, oo_mul, oo_fdiv, oo_mod, oo_pow, oo_shl, oo_shr, oo_and, oo_or, oo_neg, oo_inv, oo_le, oo_gt, oo_ge, oo_lt, oo_eq, oo_ne, oo_eqb, oo_is0, oo_isNot0, oo_nes, oo_eqs, oo_addT, oo_tup, oo_lst, oo_abs, oo_int, oo_intb, oo_max2, oo_min2, oo_max3, oo_min3, oo_lenT, oo_lenR, oo_gTuple, oo_gList, oo_gLen, oo_biT, oo_biR, oo_slT, oo_slR, oo_isaII, oo_isaIB, oo_isaIT, oo_isaIS, oo_isaBI, oo_isaBB, oo_isaBT, oo_isaBS, oo_isaNT, lo_lst, atI_0, atI_1, atI_2, ixN_0, ixN_1, or_ix, ot_ix, ol_ix, or_set, or_len, or_add, or_mul, or_append, or_isLst, or_bi, or_bl, or_sl, or_wk, or_sr, ot_sr, or_gtup, oo_neb, oo_isB, oo_isNotB, ok_lr1, ok_lr2, ok_tr1, ok_tr2, or_popAt, List.getElem?_cons_zero, List.getElem?_cons_succ, List.set_cons_zero, List.set_cons_succ, List.map_cons, List.map_nil, List.replicate_succ, List.replicate_zero, List.length_cons, List.length_nil, List.cons_append, List.nil_append, wipeD, if_true, if_false, Bool.false_eq_true, Nat.reduceAdd, Nat.reduceSub, Nat.reduceLeDiff, decide_eq_true_eq, true_and, and_true, Int.reduceNeg]
        refine atI_nat' (Tab.get T.tab er2 jn) ?_
        try simp (maxSteps := 4000000) only [ok_ret, ok_bnd, ok_lift, ok_var, ok_c, ok_bin, ok_un, ok_asB, ok_and, ok_or, ok_not, ok_chain, ok_nil, ok_cons, ok_tup, ok_lst, ok_fn, ok_tmp, ok_call, ok_meth, ok_tval, ok_tand, ok_tor, ok_tnot, ok_if, ok_pnone, ok_psome, ok_slice, ok_fresh, ok_lcx, ok_body, ok_true, ok_dtmp, ok_dval, ok_rng1, ok_rng2, ok_enum, ok_enumT, ok_zip, ok_gname, ok_gsnil, ok_gscons, ok_gtup, ok_gsub, fo_next, fo_seq, fo_asg, fo_expr, fo_ret, fo_retN, fo_if, fo_break, fo_cont, fo_par, fo_aug, fo_augS, fo_for, fo_body, vr_some, ra1, ra2, in_int, tr_bl, pa2, zp_two, sr_some, wk_tup, wk_rol, wk_str, oo_add, oo_addI, oo_sub, oo_mul, oo_fdiv, oo_mod, oo_pow, oo_shl, oo_shr, oo_and, oo_or, oo_neg, oo_inv, oo_le, oo_gt, oo_ge, oo_lt, oo_eq, oo_ne, oo_eqb, oo_is0, oo_isNot0, oo_nes, oo_eqs, oo_addT, oo_tup, oo_lst, oo_abs, oo_int, oo_intb, oo_max2, oo_min2, oo_max3, oo_min3, oo_lenT, oo_lenR, oo_gTuple, oo_gList, oo_gLen, oo_biT, oo_biR, oo_slT, oo_slR, oo_isaII, oo_isaIB, oo_isaIT, oo_isaIS, oo_isaBI, oo_isaBB, oo_isaBT, oo_isaBS, oo_isaNT, lo_lst, atI_0, atI_1, atI_2, ixN_0, ixN_1, or_ix, ot_ix, ol_ix, or_set, or_len, or_add, or_mul, or_append, or_isLst, or_bi, or_bl, or_sl, or_wk, or_sr, ot_sr, or_gtup, oo_neb, oo_isB, oo_isNotB, ok_lr1, ok_lr2, ok_tr1, ok_tr2, or_popAt, List.getElem?_cons_zero, List.getElem?_cons_succ, List.set_cons_zero, List.set_cons_succ, List.map_cons, List.map_nil, List.replicate_succ, List.replicate_zero, List.length_cons, List.length_nil, List.cons_append, List.nil_append, wipeD, if_true, if_false, Bool.false_eq_true, Nat.reduceAdd, Nat.reduceSub, Nat.reduceLeDiff, decide_eq_true_eq, true_and, and_true, Int.reduceNeg]
        rw [if_neg (by have := T.tri k b c kn jn cn; omega)]
        exact ⟨_, rfl⟩
      · rintro v h' ⟨rfl, z4, rfl⟩
        exact ⟨rfl, _, _, rfl⟩
    · rintro v h' ⟨rfl, y3, y4, rfl⟩
      exact ⟨rfl, _, _, _, _, rfl⟩
  · rintro v h' ⟨rfl, x1, x2, x3, x4, rfl⟩
    try simp (maxSteps := 4000000) only [ok_ret, ok_bnd, ok_lift, ok_var, ok_c, ok_bin, ok_un, ok_asB, ok_and, ok_or, ok_not, ok_chain, ok_nil, ok_cons, ok_tup, ok_lst, ok_fn, ok_tmp, ok_call, ok_meth, ok_tval, ok_tand, ok_tor, ok_tnot, ok_if, ok_pnone, ok_psome, ok_slice, ok_fresh, ok_lcx, ok_body, ok_true, ok_dtmp, ok_dval, ok_rng1, ok_rng2, ok_enum, ok_enumT, ok_zip, ok_gname, ok_gsnil, ok_gscons, ok_gtup, ok_gsub, fo_next, fo_seq, fo_asg, fo_expr, fo_ret, fo_retN, fo_if, fo_break, fo_cont, fo_par, fo_aug, fo_augS, fo_for, fo_body, vr_some, ra1, ra2, in_int, tr_bl, pa2, zp_two, sr_some, wk_tup, wk_rol, wk_str, oo_add, oo_addI, oo_sub, oo_mul, oo_fdiv, oo_mod, oo_pow, oo_shl, oo_shr, oo_and, oo_or, oo_neg, oo_inv, oo_le, oo_gt, oo_ge, oo_lt, oo_eq, oo_ne, oo_eqb, oo_is0, oo_isNot0, oo_nes, oo_eqs, oo_addT, oo_tup, oo_lst, oo_abs, oo_int, oo_intb, oo_max2, oo_min2, oo_max3, oo_min3, oo_lenT, oo_lenR, oo_gTuple, oo_gList, oo_gLen, oo_biT, oo_biR, oo_slT, oo_slR, oo_isaII, oo_isaIB, oo_isaIT, oo_isaIS, oo_isaBI, oo_isaBB, oo_isaBT, oo_isaBS, oo_isaNT, lo_lst, atI_0, atI_1, atI_2, ixN_0, ixN_1, or_ix, ot_ix, ol_ix, or_set, or_len, or_add, or_mul, or_append, or_isLst, or_bi, or_bl, or_sl, or_wk, or_sr, ot_sr, or_gtup, oo_neb, oo_isB, oo_isNotB, ok_lr1, ok_lr2, ok_tr1, ok_tr2, or_popAt, List.getElem?_cons_zero, List.getElem?_cons_succ, List.set_cons_zero, List.set_cons_succ, List.map_cons, List.map_nil, List.replicate_succ, List.replicate_zero, List.length_cons, List.length_nil, List.cons_append, List.nil_append, wipeD, if_true, if_false, Bool.false_eq_true, Nat.reduceAdd, Nat.reduceSub, Nat.reduceLeDiff, decide_eq_true_eq, true_and, and_true, Int.reduceNeg]
theorem fault_spec {n : Nat} {t : List (List Int)} {h : VH} (T : Table n t) : OK (ftablefault [tabV t] h) fun v h' => v = .non ∧ h' = h := by
  unfold ftablefault
  rw [ok_fn0]
  unfold btablefault
  try simp (maxSteps := 4000000) only [ok_ret, ok_bnd, ok_lift, ok_var, ok_c, ok_bin, ok_un, ok_asB, ok_and, ok_or, ok_not, ok_chain, ok_nil, ok_cons, ok_tup, ok_lst, ok_fn, ok_tmp, ok_call, ok_meth, ok_tval, ok_tand, ok_tor, ok_tnot, ok_if, ok_pnone, ok_psome, ok_slice, ok_fresh, ok_lcx, ok_body, ok_true, ok_dtmp, ok_dval, ok_rng1, ok_rng2, ok_enum, ok_enumT, ok_zip, ok_gname, ok_gsnil, ok_gscons, ok_gtup, ok_gsub, fo_next, fo_seq, fo_asg, fo_expr, fo_ret, fo_retN, fo_if, fo_break, fo_cont, fo_par, fo_aug, fo_augS, fo_for, fo_body, vr_some, ra1, ra2, in_int, tr_bl, pa2, zp_two, sr_some, wk_tup, wk_rol, wk_str, oo_add, oo_addI, oo_sub, oo_mul, oo_fdiv, oo_mod, oo_pow, oo_shl, oo_shr, oo_and, oo_or, oo_neg, oo_inv, oo_le, oo_gt, oo_ge, oo_lt, oo_eq, oo_ne, oo_eqb, oo_is0, oo_isNot0, oo_nes, oo_eqs, oo_addT, oo_tup, oo_lst, oo_abs, oo_int, oo_intb, oo_max2, oo_min2, oo_max3, oo_min3, oo_lenT, oo_lenR, oo_gTuple, oo_gList, oo_gLen, oo_biT, oo_biR, oo_slT, oo_slR, oo_isaII, oo_isaIB, oo_isaIT, oo_isaIS, oo_isaBI, oo_isaBB, oo_isaBT, oo_isaBS, oo_isaNT, lo_lst, atI_0, atI_1, atI_2, ixN_0, ixN_1, or_ix, ot_ix, ol_ix, or_set, or_len, or_add, or_mul, or_append, or_isLst, or_bi, or_bl, or_sl, or_wk, or_sr, ot_sr, or_gtup, oo_neb, oo_isB, oo_isNotB, ok_lr1, ok_lr2, ok_tr1, ok_tr2, or_popAt, List.getElem?_cons_zero, List.getElem?_cons_succ, List.set_cons_zero, List.set_cons_succ, List.map_cons, List.map_nil, List.replicate_succ, List.replicate_zero, List.length_cons, List.length_nil, List.cons_append, List.nil_append, wipeD, if_true, if_false, Bool.false_eq_true, Nat.reduceAdd, Nat.reduceSub, Nat.reduceLeDiff, decide_eq_true_eq, true_and, and_true, Int.reduceNeg]
  refine OK.mono (issquare_spec T.tab T.n1 T.n8) ?_
  rintro v h' ⟨rfl, rfl⟩
  try simp (maxSteps := 4000000) only [ok_ret, ok_bnd, ok_lift, ok_var, ok_c, ok_bin, ok_un, ok_asB, ok_and, ok_or, ok_not, ok_chain, ok_nil, ok_cons, ok_tup, ok_lst, ok_fn, ok_tmp, ok_call, ok_meth, ok_tval, ok_tand, ok_tor, ok_tnot, ok_if, ok_pnone, ok_psome, ok_slice, ok_fresh, ok_lcx, ok_body, ok_true, ok_dtmp, ok_dval, ok_rng1, ok_rng2, ok_enum, ok_enumT, ok_zip, ok_gname, ok_gsnil, ok_gscons, ok_gtup, ok_gsub, fo_next, fo_seq, fo_asg, fo_expr, fo_ret, fo_retN, fo_if, fo_break, fo_cont, fo_par, fo_aug, fo_augS, fo_for, fo_body, vr_some, ra1, ra2, in_int, tr_bl, pa2, zp_two, sr_some, wk_tup, wk_rol, wk_str, oo_add, oo_addI, oo_sub, oo_mul, oo_fdiv, oo_mod, oo_pow, oo_shl, oo_shr, oo_and, oo_or, oo_neg, oo_inv, oo_le, oo_gt, oo_ge, oo_lt, oo_eq, oo_ne, oo_eqb, oo_is0, oo_isNot0, oo_nes, oo_eqs, oo_addT, oo_tup, oo_lst, oo_abs, oo_int, oo_intb, oo_max2, oo_min2, oo_max3, oo_min3, oo_lenT, oo_lenR, oo_gTuple, oo_gList, oo_gLen, oo_biT, oo_biR, oo_slT, oo_slR, oo_isaII, oo_isaIB, oo_isaIT, oo_isaIS, oo_isaBI, oo_isaBB, oo_isaBT, oo_isaBS, oo_isaNT, lo_lst, atI_0, atI_1, atI_2, ixN_0, ixN_1, or_ix, ot_ix, ol_ix, or_set, or_len, or_add, or_mul, or_append, or_isLst, or_bi, or_bl, or_sl, or_wk, or_sr, ot_sr, or_gtup, oo_neb, oo_isB, oo_isNotB, ok_lr1, ok_lr2, ok_tr1, ok_tr2, or_popAt, List.getElem?_cons_zero, List.getElem?_cons_succ, List.set_cons_zero, List.set_cons_succ, List.map_cons, List.map_nil, List.replicate_succ, List.replicate_zero, List.length_cons, List.length_nil, List.cons_append, List.nil_append, wipeD, if_true, if_false, Bool.false_eq_true, Nat.reduceAdd, Nat.reduceSub, Nat.reduceLeDiff, decide_eq_true_eq, true_and, and_true, Int.reduceNeg, Bool.not_true]
  refine OK.mono (own_spec T) ?_
  rintro v h' ⟨rfl, rfl⟩
  try simp (maxSteps := 4000000) only [ok_ret, ok_bnd, ok_lift, ok_var, ok_c, ok_bin, ok_un, ok_asB, ok_and, ok_or, ok_not, ok_chain, ok_nil, ok_cons, ok_tup, ok_lst, ok_fn, ok_tmp, ok_call, ok_meth, ok_tval, ok_tand, ok_tor, ok_tnot, ok_if, ok_pnone, ok_psome, ok_slice, ok_fresh, ok_lcx, ok_body, ok_true, ok_dtmp, ok_dval, ok_rng1, ok_rng2, ok_enum, ok_enumT, ok_zip, ok_gname, ok_gsnil, ok_gscons, ok_gtup, ok_gsub, fo_next, fo_seq, fo_asg, fo_expr, fo_ret, fo_retN, fo_if, fo_break, fo_cont, fo_par, fo_aug, fo_augS, fo_for, fo_body, vr_some, ra1, ra2, in_int, tr_bl, pa2, zp_two, sr_some, wk_tup, wk_rol, wk_str, oo_add, oo_addI, oo_sub, oo_mul, oo_fdiv, oo_mod, oo_pow, oo_shl, oo_shr, oo_and, oo_or, oo_neg, oo_inv, oo_le, oo_gt, oo_ge, oo_lt, oo_eq, oo_ne, oo_eqb, oo_is0, oo_isNot0, oo_nes, oo_eqs, oo_addT, oo_tup, oo_lst, oo_abs, oo_int, oo_intb, oo_max2, oo_min2, oo_max3, oo_min3, oo_lenT, oo_lenR, oo_gTuple, oo_gList, oo_gLen, oo_biT, oo_biR, oo_slT, oo_slR, oo_isaII, oo_isaIB, oo_isaIT, oo_isaIS, oo_isaBI, oo_isaBB, oo_isaBT, oo_isaBS, oo_isaNT, lo_lst, atI_0, atI_1, atI_2, ixN_0, ixN_1, or_ix, ot_ix, ol_ix, or_set, or_len, or_add, or_mul, or_append, or_isLst, or_bi, or_bl, or_sl, or_wk, or_sr, ot_sr, or_gtup, oo_neb, oo_isB, oo_isNotB, ok_lr1, ok_lr2, ok_tr1, ok_tr2, or_popAt, List.getElem?_cons_zero, List.getElem?_cons_succ, List.set_cons_zero, List.set_cons_succ, List.map_cons, List.map_nil, List.replicate_succ, List.replicate_zero, List.length_cons, List.length_nil, List.cons_append, List.nil_append, wipeD, if_true, if_false, Bool.false_eq_true, Nat.reduceAdd, Nat.reduceSub, Nat.reduceLeDiff, decide_eq_true_eq, true_and, and_true, Int.reduceNeg, isNonP]
  refine OK.mono (unlike_spec T) ?_
  rintro v h' ⟨rfl, rfl⟩
  try simp (maxSteps := 4000000) only [ok_ret, ok_bnd, ok_lift, ok_var, ok_c, ok_bin, ok_un, ok_asB, ok_and, ok_or, ok_not, ok_chain, ok_nil, ok_cons, ok_tup, ok_lst, ok_fn, ok_tmp, ok_call, ok_meth, ok_tval, ok_tand, ok_tor, ok_tnot, ok_if, ok_pnone, ok_psome, ok_slice, ok_fresh, ok_lcx, ok_body, ok_true, ok_dtmp, ok_dval, ok_rng1, ok_rng2, ok_enum, ok_enumT, ok_zip, ok_gname, ok_gsnil, ok_gscons, ok_gtup, ok_gsub, fo_next, fo_seq, fo_asg, fo_expr, fo_ret, fo_retN, fo_if, fo_break, fo_cont, fo_par, fo_aug, fo_augS, fo_for, fo_body, vr_some, ra1, ra2, in_int, tr_bl, pa2, zp_two, sr_some, wk_tup, wk_rol, wk_str, oo_add, oo_addI, oo_sub, oo_mul, oo_fdiv, oo_mod, oo_pow, oo_shl, oo_shr, oo_and, oo_or, oo_neg, oo_inv, oo_le, oo_gt, oo_ge, oo_lt, oo_eq, oo_ne, oo_eqb, oo_is0, oo_isNot0, oo_nes, oo_eqs, oo_addT, oo_tup, oo_lst, oo_abs, oo_int, oo_intb, oo_max2, oo_min2, oo_max3, oo_min3, oo_lenT, oo_lenR, oo_gTuple, oo_gList, oo_gLen, oo_biT, oo_biR, oo_slT, oo_slR, oo_isaII, oo_isaIB, oo_isaIT, oo_isaIS, oo_isaBI, oo_isaBB, oo_isaBT, oo_isaBS, oo_isaNT, lo_lst, atI_0, atI_1, atI_2, ixN_0, ixN_1, or_ix, ot_ix, ol_ix, or_set, or_len, or_add, or_mul, or_append, or_isLst, or_bi, or_bl, or_sl, or_wk, or_sr, ot_sr, or_gtup, oo_neb, oo_isB, oo_isNotB, ok_lr1, ok_lr2, ok_tr1, ok_tr2, or_popAt, List.getElem?_cons_zero, List.getElem?_cons_succ, List.set_cons_zero, List.set_cons_succ, List.map_cons, List.map_nil, List.replicate_succ, List.replicate_zero, List.length_cons, List.length_nil, List.cons_append, List.nil_append, wipeD, if_true, if_false, Bool.false_eq_true, Nat.reduceAdd, Nat.reduceSub, Nat.reduceLeDiff, decide_eq_true_eq, true_and, and_true, Int.reduceNeg, isNonP]
  refine OK.mono (round_spec T) ?_
  rintro v h' ⟨rfl, rfl⟩
  try simp (maxSteps := 4000000) only [ok_ret, ok_bnd, ok_lift, ok_var, ok_c, ok_bin, ok_un, ok_asB, ok_and, ok_or, ok_not, ok_chain, ok_nil, ok_cons, ok_tup, ok_lst, ok_fn, ok_tmp, ok_call, ok_meth, ok_tval, ok_tand, ok_tor, ok_tnot, ok_if, ok_pnone, ok_psome, ok_slice, ok_fresh, ok_lcx, ok_body, ok_true, ok_dtmp, ok_dval, ok_rng1, ok_rng2, ok_enum, ok_enumT, ok_zip, ok_gname, ok_gsnil, ok_gscons, ok_gtup, ok_gsub, fo_next, fo_seq, fo_asg, fo_expr, fo_ret, fo_retN, fo_if, fo_break, fo_cont, fo_par, fo_aug, fo_augS, fo_for, fo_body, vr_some, ra1, ra2, in_int, tr_bl, pa2, zp_two, sr_some, wk_tup, wk_rol, wk_str, oo_add, oo_addI, oo_sub, oo_mul, oo_fdiv, oo_mod, oo_pow, oo_shl, oo_shr, oo_and, oo_or, oo_neg, oo_inv, oo_le, oo_gt, oo_ge, oo_lt, oo_eq, oo_ne, oo_eqb, oo_is0, oo_isNot0, oo_nes, oo_eqs, oo_addT, oo_tup, oo_lst, oo_abs, oo_int, oo_intb, oo_max2, oo_min2, oo_max3, oo_min3, oo_lenT, oo_lenR, oo_gTuple, oo_gList, oo_gLen, oo_biT, oo_biR, oo_slT, oo_slR, oo_isaII, oo_isaIB, oo_isaIT, oo_isaIS, oo_isaBI, oo_isaBB, oo_isaBT, oo_isaBS, oo_isaNT, lo_lst, atI_0, atI_1, atI_2, ixN_0, ixN_1, or_ix, ot_ix, ol_ix, or_set, or_len, or_add, or_mul, or_append, or_isLst, or_bi, or_bl, or_sl, or_wk, or_sr, ot_sr, or_gtup, oo_neb, oo_isB, oo_isNotB, ok_lr1, ok_lr2, ok_tr1, ok_tr2, or_popAt, List.getElem?_cons_zero, List.getElem?_cons_succ, List.set_cons_zero, List.set_cons_succ, List.map_cons, List.map_nil, List.replicate_succ, List.replicate_zero, List.length_cons, List.length_nil, List.cons_append, List.nil_append, wipeD, if_true, if_false, Bool.false_eq_true, Nat.reduceAdd, Nat.reduceSub, Nat.reduceLeDiff, decide_eq_true_eq, true_and, and_true, Int.reduceNeg]
theorem istable_spec {n : Nat} {t : List (List Int)} {h : VH} (T : Table n t) : OK (fis_table [tabV t] h) fun v h' => v = .bl true ∧ h' = h := by
  unfold fis_table
  rw [ok_fn0]
  unfold bis_table
  try simp (maxSteps := 4000000) only [ok_ret, ok_bnd, ok_lift, ok_var, ok_c, ok_bin, ok_un, ok_asB, ok_and, ok_or, ok_not, ok_chain, ok_nil, ok_cons, ok_tup, ok_lst, ok_fn, ok_tmp, ok_call, ok_meth, ok_tval, ok_tand, ok_tor, ok_tnot, ok_if, ok_pnone, ok_psome, ok_slice, ok_fresh, ok_lcx, ok_body, ok_true, ok_dtmp, ok_dval, ok_rng1, ok_rng2, ok_enum, ok_enumT, ok_zip, ok_gname, ok_gsnil, ok_gscons, ok_gtup, ok_gsub, fo_next, fo_seq, fo_asg, fo_expr, fo_ret, fo_retN, fo_if, fo_break, fo_cont, fo_par, fo_aug, fo_augS, fo_for, fo_body, vr_some, ra1, ra2, in_int, tr_bl, pa2, zp_two, sr_some, wk_tup, wk_rol, wk_str, oo_add, oo_addI, oo_sub, oo_mul, oo_fdiv, oo_mod, oo_pow, oo_shl, oo_shr, oo_and, oo_or, oo_neg, oo_inv, oo_le, oo_gt, oo_ge, oo_lt, oo_eq, oo_ne, oo_eqb, oo_is0, oo_isNot0, oo_nes, oo_eqs, oo_addT, oo_tup, oo_lst, oo_abs, oo_int, oo_intb, oo_max2, oo_min2, oo_max3, oo_min3, oo_lenT, oo_lenR, oo_gTuple, oo_gList, oo_gLen, oo_biT, oo_biR, oo_slT, oo_slR, oo_isaII, oo_isaIB, oo_isaIT, oo_isaIS, oo_isaBI, oo_isaBB, oo_isaBT, oo_isaBS, oo_isaNT, lo_lst, atI_0, atI_1, atI_2, ixN_0, ixN_1, or_ix, ot_ix, ol_ix, or_set, or_len, or_add, or_mul, or_append, or_isLst, or_bi, or_bl, or_sl, or_wk, or_sr, ot_sr, or_gtup, oo_neb, oo_isB, oo_isNotB, ok_lr1, ok_lr2, ok_tr1, ok_tr2, or_popAt, List.getElem?_cons_zero, List.getElem?_cons_succ, List.set_cons_zero, List.set_cons_succ, List.map_cons, List.map_nil, List.replicate_succ, List.replicate_zero, List.length_cons, List.length_nil, List.cons_append, List.nil_append, wipeD, if_true, if_false, Bool.false_eq_true, Nat.reduceAdd, Nat.reduceSub, Nat.reduceLeDiff, decide_eq_true_eq, true_and, and_true, Int.reduceNeg]
  refine OK.mono (fault_spec T) ?_
  rintro v h' ⟨rfl, rfl⟩
  try simp (maxSteps := 4000000) only [ok_ret, ok_bnd, ok_lift, ok_var, ok_c, ok_bin, ok_un, ok_asB, ok_and, ok_or, ok_not, ok_chain, ok_nil, ok_cons, ok_tup, ok_lst, ok_fn, ok_tmp, ok_call, ok_meth, ok_tval, ok_tand, ok_tor, ok_tnot, ok_if, ok_pnone, ok_psome, ok_slice, ok_fresh, ok_lcx, ok_body, ok_true, ok_dtmp, ok_dval, ok_rng1, ok_rng2, ok_enum, ok_enumT, ok_zip, ok_gname, ok_gsnil, ok_gscons, ok_gtup, ok_gsub, fo_next, fo_seq, fo_asg, fo_expr, fo_ret, fo_retN, fo_if, fo_break, fo_cont, fo_par, fo_aug, fo_augS, fo_for, fo_body, vr_some, ra1, ra2, in_int, tr_bl, pa2, zp_two, sr_some, wk_tup, wk_rol, wk_str, oo_add, oo_addI, oo_sub, oo_mul, oo_fdiv, oo_mod, oo_pow, oo_shl, oo_shr, oo_and, oo_or, oo_neg, oo_inv, oo_le, oo_gt, oo_ge, oo_lt, oo_eq, oo_ne, oo_eqb, oo_is0, oo_isNot0, oo_nes, oo_eqs, oo_addT, oo_tup, oo_lst, oo_abs, oo_int, oo_intb, oo_max2, oo_min2, oo_max3, oo_min3, oo_lenT, oo_lenR, oo_gTuple, oo_gList, oo_gLen, oo_biT, oo_biR, oo_slT, oo_slR, oo_isaII, oo_isaIB, oo_isaIT, oo_isaIS, oo_isaBI, oo_isaBB, oo_isaBT, oo_isaBS, oo_isaNT, lo_lst, atI_0, atI_1, atI_2, ixN_0, ixN_1, or_ix, ot_ix, ol_ix, or_set, or_len, or_add, or_mul, or_append, or_isLst, or_bi, or_bl, or_sl, or_wk, or_sr, ot_sr, or_gtup, oo_neb, oo_isB, oo_isNotB, ok_lr1, ok_lr2, ok_tr1, ok_tr2, or_popAt, List.getElem?_cons_zero, List.getElem?_cons_succ, List.set_cons_zero, List.set_cons_succ, List.map_cons, List.map_nil, List.replicate_succ, List.replicate_zero, List.length_cons, List.length_nil, List.cons_append, List.nil_append, wipeD, if_true, if_false, Bool.false_eq_true, Nat.reduceAdd, Nat.reduceSub, Nat.reduceLeDiff, decide_eq_true_eq, true_and, and_true, Int.reduceNeg, isNonP]
theorem cut_lo {l : List PV} {c : Nat} (hc : c ≤ l.length) : cutP l none (some (c : Int)) = l.take c := by
  unfold cutP
  rw [HT.sIx_none, HT.sIx_nat, Nat.min_eq_left hc]; simp
theorem cut_hi {l : List PV} {c : Nat} (hc : c ≤ l.length) : cutP l (some (c : Int)) none = l.drop c := by
  unfold cutP
  rw [HT.sIx_none, HT.sIx_nat, Nat.min_eq_left hc]
  exact List.take_of_length_le (by simp)
end G

namespace G
open PySem PySem.Spec PySem.W PyProof.Rows L2 D
/-! the law's own table -/
theorem one1_if {s : List Nat} {w : Int} {a b : Nat} : one1 s w a b = if (!decide (decide (a ∈ s) = decide (b ∈ s))) = true then w else 0 := by
  unfold one1
  by_cases p : a ∈ s <;> by_cases q : b ∈ s <;> simp [p, q]
theorem one1_sym {s : List Nat} {w : Int} {a b : Nat} : one1 s w a b = one1 s w b a := by
  unfold one1
  exact if_iff ⟨Or.symm, Or.symm⟩
theorem one1_own {s : List Nat} {w : Int} {a : Nat} : one1 s w a a = 0 := by
  unfold one1
  rw [if_neg]
  rintro (⟨p, q⟩ | ⟨p, q⟩) <;> exact q p
theorem one1_pos {s : List Nat} {w : Int} {a b : Nat} (hw : 0 ≤ w) : 0 ≤ one1 s w a b ∧ one1 s w a b ≤ w := by
  unfold one1
  split <;> omega
theorem one1_tri {s : List Nat} {w : Int} {a b c : Nat} (hw : 0 ≤ w) : one1 s w a b ≤ one1 s w a c + one1 s w c b := by
  unfold one1
  by_cases p : a ∈ s <;> by_cases q : b ∈ s <;> by_cases r : c ∈ s <;> simp [p, q, r] <;> omega
theorem dist_cons {p : List Nat × Int} {W : List (List Nat × Int)} {a b : Nat} : dist (p :: W) a b = one1 p.1 p.2 a b + dist W a b := by simp [dist]
theorem dist_own {W : List (List Nat × Int)} {a : Nat} : dist W a a = 0 := by
  induction W with
  | nil => rfl
  | cons p W ih => rw [dist_cons, ih, one1_own]; rfl
theorem dist_sym {W : List (List Nat × Int)} {a b : Nat} : dist W a b = dist W b a := by
  induction W with
  | nil => rfl
  | cons p W ih => rw [dist_cons, dist_cons, ih, one1_sym]
theorem dist_tri {W : List (List Nat × Int)} {a b c : Nat} (hw : ∀ p ∈ W, 0 ≤ p.2) : dist W a b ≤ dist W a c + dist W c b := by
  induction W with
  | nil => exact Int.le_refl _
  | cons p W ih =>
    have h1 := ih fun q hq => hw q (List.mem_cons_of_mem _ hq)
    have h2 := one1_tri (s := p.1) (a := a) (b := b) (c := c) (hw p List.mem_cons_self)
    rw [dist_cons, dist_cons, dist_cons]
    omega
theorem dist_pos {W : List (List Nat × Int)} {a b : Nat} {M : Int} (hw : ∀ p ∈ W, 0 ≤ p.2 ∧ p.2 ≤ M) : 0 ≤ dist W a b ∧ dist W a b ≤ W.length * M := by
  induction W with
  | nil => simp [dist]
  | cons p W ih =>
    have h1 := ih fun q hq => hw q (List.mem_cons_of_mem _ hq)
    have h2 := one1_pos (s := p.1) (a := a) (b := b) (hw p List.mem_cons_self).1
    have h3 := (hw p List.mem_cons_self).2
    rw [dist_cons, List.length_cons, Int.natCast_add, Int.add_mul]
    omega
theorem putT_at {n a b : Nat} {W : List (List Nat × Int)} (ha : a < n) (hb : b < n) : at2 (putT n W) a b = dist W a b := by
  simp [at2, putT, ha, hb]
theorem putT_tab {n : Nat} {W : List (List Nat × Int)} (n1 : 1 ≤ n) (n8 : n ≤ 8) (lw : W.length ≤ 128) (hw : ∀ p ∈ W, 0 ≤ p.2 ∧ p.2 ≤ 10 ^ 12) : Table n (putT n W) := by
  have bd : ∀ a b, 0 ≤ dist W a b ∧ dist W a b ≤ 10 ^ 15 := fun a b => by
    have := dist_pos (a := a) (b := b) hw
    have l2 : (W.length : Int) * 10 ^ 12 ≤ 128 * 10 ^ 12 := Int.mul_le_mul_of_nonneg_right (by omega) (by decide)
    omega
  refine ⟨⟨by simp [putT], fun r hr => ?_⟩, n1, n8, fun a ha => by rw [putT_at ha ha, dist_own], fun a b ha hb => by rw [putT_at ha hb, putT_at hb ha, dist_sym], fun a b c ha hb hc => by rw [putT_at ha hb, putT_at ha hc, putT_at hc hb]; exact dist_tri fun p hp => (hw p hp).1⟩
  obtain ⟨a, _, rfl⟩ := List.mem_map.mp hr
  refine ⟨by simp, fun x hx => ?_⟩
  obtain ⟨b, _, rfl⟩ := List.mem_map.mp hx
  exact bd a b
theorem row_snoc {n k : Nat} {f : Nat → Int} (hk : k < n) : ((List.range n).map f).take (k + 1) = ((List.range n).map f).take k ++ [f k] := by
  rw [List.take_add_one]
  simp [hk]
theorem put2_spec {n : Nat} {W : List (List Nat × Int)} {h : VH} (n8 : n ≤ 8) (lw : W.length ≤ 128) :
    OK (f_law_put [.int (n : Nat), .tup (W.map wV)] h) fun v h' => v = tabV (putT n W) ∧ Keep h h' := by
  unfold f_law_put
  rw [ok_fn0]
  unfold b_law_put
  try simp (maxSteps := 4000000) only [ok_ret, ok_bnd, ok_lift, ok_var, ok_c, ok_bin, ok_un, ok_asB, ok_and, ok_or, ok_not, ok_chain, ok_nil, ok_cons, ok_tup, ok_lst, ok_fn, ok_tmp, ok_call, ok_meth, ok_tval, ok_tand, ok_tor, ok_tnot, ok_if, ok_pnone, ok_psome, ok_slice, ok_fresh, ok_lcx, ok_body, ok_true, ok_dtmp, ok_dval, ok_rng1, ok_rng2, ok_enum, ok_enumT, ok_zip, ok_gname, ok_gsnil, ok_gscons, ok_gtup, ok_gsub, fo_next, fo_seq, fo_asg, fo_expr, fo_ret, fo_retN, fo_if, fo_break, fo_cont, fo_par, fo_aug, fo_augS, fo_for, fo_body, vr_some, ra1, ra2, in_int, tr_bl, pa2, zp_two, sr_some, wk_tup, wk_rol, wk_str, oo_add, oo_addI, oo_sub, oo_mul, oo_fdiv, oo_mod, oo_pow, oo_shl, oo_shr, oo_and, oo_or, oo_neg, oo_inv, oo_le, oo_gt, oo_ge, oo_lt, oo_eq, oo_ne, oo_eqb, oo_is0, oo_isNot0, oo_nes, oo_eqs, oo_addT, oo_tup, oo_lst, oo_abs, oo_int, oo_intb, oo_max2, oo_min2, oo_max3, oo_min3, oo_lenT, oo_lenR, oo_gTuple, oo_gList, oo_gLen, oo_biT, oo_biR, oo_slT, oo_slR, oo_isaII, oo_isaIB, oo_isaIT, oo_isaIS, oo_isaBI, oo_isaBB, oo_isaBT, oo_isaBS, oo_isaNT, lo_lst, atI_0, atI_1, atI_2, ixN_0, ixN_1, or_ix, ot_ix, ol_ix, or_set, or_len, or_add, or_mul, or_append, or_isLst, or_bi, or_bl, or_sl, or_wk, or_sr, ot_sr, or_gtup, oo_neb, oo_isB, oo_isNotB, ok_lr1, ok_lr2, ok_tr1, ok_tr2, or_popAt, List.getElem?_cons_zero, List.getElem?_cons_succ, List.set_cons_zero, List.set_cons_succ, List.map_cons, List.map_nil, List.replicate_succ, List.replicate_zero, List.length_cons, List.length_nil, List.cons_append, List.nil_append, wipeD, if_true, if_false, Bool.false_eq_true, Nat.reduceAdd, Nat.reduceSub, Nat.reduceLeDiff, decide_eq_true_eq, true_and, and_true, Int.reduceNeg]
  refine ⟨by omega, ?_⟩
  have hf : (h ++ [VO.lst []])[h.length]? = some (.lst []) := hg_new
  have K0 : Keep h (h ++ [VO.lst []]) := .app
  generalize h ++ [VO.lst []] = h1 at hf K0
  refine fo_loop0 (fun i v h' => i ≤ n ∧ ∃ x3 x4 x5 x6 x7 : Option PV, v = [some (.int (n : Nat)), some (.tup (W.map wV)), some (.ref h.length), x3, x4, x5, x6, x7] ∧ h'[h.length]? = some (.lst (((putT n W).take i).map fun r => PV.tup (intL r))) ∧ Keep h h') ⟨Nat.zero_le _, _, _, _, _, _, rfl, hf, K0⟩ (fun _ _ _ _ _ => rfl) ?_ ?_
  · rintro i x v h2 hx ⟨_, x3, x4, x5, x6, x7, rfl, H2, K2⟩
    obtain ⟨hi, rfl⟩ := rng0_get hx
    rw [Int.toNat_natCast] at hi
    have l2 : h.length < h2.length := hg_lt H2
    have H3 : (h2 ++ [VO.lst []])[h.length]? = some (.lst (((putT n W).take i).map fun r => PV.tup (intL r))) := hg_app H2
    have R3 : (h2 ++ [VO.lst []])[h2.length]? = some (.lst []) := hg_new
    have K3 := K2.trans (Keep.app (k := [VO.lst []]))
    try simp (maxSteps := 4000000) only [ok_ret, ok_bnd, ok_lift, ok_var, ok_c, ok_bin, ok_un, ok_asB, ok_and, ok_or, ok_not, ok_chain, ok_nil, ok_cons, ok_tup, ok_lst, ok_fn, ok_tmp, ok_call, ok_meth, ok_tval, ok_tand, ok_tor, ok_tnot, ok_if, ok_pnone, ok_psome, ok_slice, ok_fresh, ok_lcx, ok_body, ok_true, ok_dtmp, ok_dval, ok_rng1, ok_rng2, ok_enum, ok_enumT, ok_zip, ok_gname, ok_gsnil, ok_gscons, ok_gtup, ok_gsub, fo_next, fo_seq, fo_asg, fo_expr, fo_ret, fo_retN, fo_if, fo_break, fo_cont, fo_par, fo_aug, fo_augS, fo_for, fo_body, vr_some, ra1, ra2, in_int, tr_bl, pa2, zp_two, sr_some, wk_tup, wk_rol, wk_str, oo_add, oo_addI, oo_sub, oo_mul, oo_fdiv, oo_mod, oo_pow, oo_shl, oo_shr, oo_and, oo_or, oo_neg, oo_inv, oo_le, oo_gt, oo_ge, oo_lt, oo_eq, oo_ne, oo_eqb, oo_is0, oo_isNot0, oo_nes, oo_eqs, oo_addT, oo_tup, oo_lst, oo_abs, oo_int, oo_intb, oo_max2, oo_min2, oo_max3, oo_min3, oo_lenT, oo_lenR, oo_gTuple, oo_gList, oo_gLen, oo_biT, oo_biR, oo_slT, oo_slR, oo_isaII, oo_isaIB, oo_isaIT, oo_isaIS, oo_isaBI, oo_isaBB, oo_isaBT, oo_isaBS, oo_isaNT, lo_lst, atI_0, atI_1, atI_2, ixN_0, ixN_1, or_ix, ot_ix, ol_ix, or_set, or_len, or_add, or_mul, or_append, or_isLst, or_bi, or_bl, or_sl, or_wk, or_sr, ot_sr, or_gtup, oo_neb, oo_isB, oo_isNotB, ok_lr1, ok_lr2, ok_tr1, ok_tr2, or_popAt, List.getElem?_cons_zero, List.getElem?_cons_succ, List.set_cons_zero, List.set_cons_succ, List.map_cons, List.map_nil, List.replicate_succ, List.replicate_zero, List.length_cons, List.length_nil, List.cons_append, List.nil_append, wipeD, if_true, if_false, Bool.false_eq_true, Nat.reduceAdd, Nat.reduceSub, Nat.reduceLeDiff, decide_eq_true_eq, true_and, and_true, Int.reduceNeg]
    refine ⟨by omega, ?_⟩
    generalize h2 ++ [VO.lst []] = h3 at H3 R3 K3
    generalize h2.length = R at R3 l2
    refine fo_loop0 (fun j v h' => j ≤ n ∧ ∃ x5 x6 x7 : Option PV, v = [some (.int (n : Nat)), some (.tup (W.map wV)), some (.ref h.length), some (.int (i : Nat)), some (.ref R), x5, x6, x7] ∧ h'[h.length]? = some (.lst (((putT n W).take i).map fun r => PV.tup (intL r))) ∧ h'[R]? = some (.lst (intL (((List.range n).map (dist W i)).take j))) ∧ Keep h h') ⟨Nat.zero_le _, _, _, _, rfl, H3, R3, K3⟩ (fun _ _ _ _ _ => rfl) ?_ ?_
    · rintro j x v h4 hx ⟨_, y5, y6, y7, rfl, H4, R4, K4⟩
      obtain ⟨hj, rfl⟩ := rng0_get hx
      rw [Int.toNat_natCast] at hj
      try simp (maxSteps := 4000000) only [ok_ret, ok_bnd, ok_lift, ok_var, ok_c, ok_bin, ok_un, ok_asB, ok_and, ok_or, ok_not, ok_chain, ok_nil, ok_cons, ok_tup, ok_lst, ok_fn, ok_tmp, ok_call, ok_meth, ok_tval, ok_tand, ok_tor, ok_tnot, ok_if, ok_pnone, ok_psome, ok_slice, ok_fresh, ok_lcx, ok_body, ok_true, ok_dtmp, ok_dval, ok_rng1, ok_rng2, ok_enum, ok_enumT, ok_zip, ok_gname, ok_gsnil, ok_gscons, ok_gtup, ok_gsub, fo_next, fo_seq, fo_asg, fo_expr, fo_ret, fo_retN, fo_if, fo_break, fo_cont, fo_par, fo_aug, fo_augS, fo_for, fo_body, vr_some, ra1, ra2, in_int, tr_bl, pa2, zp_two, sr_some, wk_tup, wk_rol, wk_str, oo_add, oo_addI, oo_sub, oo_mul, oo_fdiv, oo_mod, oo_pow, oo_shl, oo_shr, oo_and, oo_or, oo_neg, oo_inv, oo_le, oo_gt, oo_ge, oo_lt, oo_eq, oo_ne, oo_eqb, oo_is0, oo_isNot0, oo_nes, oo_eqs, oo_addT, oo_tup, oo_lst, oo_abs, oo_int, oo_intb, oo_max2, oo_min2, oo_max3, oo_min3, oo_lenT, oo_lenR, oo_gTuple, oo_gList, oo_gLen, oo_biT, oo_biR, oo_slT, oo_slR, oo_isaII, oo_isaIB, oo_isaIT, oo_isaIS, oo_isaBI, oo_isaBB, oo_isaBT, oo_isaBS, oo_isaNT, lo_lst, atI_0, atI_1, atI_2, ixN_0, ixN_1, or_ix, ot_ix, ol_ix, or_set, or_len, or_add, or_mul, or_append, or_isLst, or_bi, or_bl, or_sl, or_wk, or_sr, ot_sr, or_gtup, oo_neb, oo_isB, oo_isNotB, ok_lr1, ok_lr2, ok_tr1, ok_tr2, or_popAt, List.getElem?_cons_zero, List.getElem?_cons_succ, List.set_cons_zero, List.set_cons_succ, List.map_cons, List.map_nil, List.replicate_succ, List.replicate_zero, List.length_cons, List.length_nil, List.cons_append, List.nil_append, wipeD, if_true, if_false, Bool.false_eq_true, Nat.reduceAdd, Nat.reduceSub, Nat.reduceLeDiff, decide_eq_true_eq, true_and, and_true, Int.reduceNeg, R4]
      refine ⟨by rw [List.length_map]; omega, ?_⟩
      refine OK.mono (ok_lc0 (fun k acc h' => h' = h4 ∧ ∃ ns, acc = intL ns ∧ ns.sum = dist (W.take k) i j) ⟨rfl, [], rfl, by simp [dist]⟩ (fun _ _ _ _ _ => rfl) ?_ fun _ _ q => q) ?_
      · rintro k x acc h' hx ⟨rfl, ns, rfl, e⟩
        rw [List.getElem?_map] at hx
        obtain ⟨⟨s, w⟩, hs, rfl⟩ := Option.map_eq_some_iff.mp hx
        simp only [wV, sideV]
        try simp (maxSteps := 4000000) only [ok_ret, ok_bnd, ok_lift, ok_var, ok_c, ok_bin, ok_un, ok_asB, ok_and, ok_or, ok_not, ok_chain, ok_nil, ok_cons, ok_tup, ok_lst, ok_fn, ok_tmp, ok_call, ok_meth, ok_tval, ok_tand, ok_tor, ok_tnot, ok_if, ok_pnone, ok_psome, ok_slice, ok_fresh, ok_lcx, ok_body, ok_true, ok_dtmp, ok_dval, ok_rng1, ok_rng2, ok_enum, ok_enumT, ok_zip, ok_gname, ok_gsnil, ok_gscons, ok_gtup, ok_gsub, fo_next, fo_seq, fo_asg, fo_expr, fo_ret, fo_retN, fo_if, fo_break, fo_cont, fo_par, fo_aug, fo_augS, fo_for, fo_body, vr_some, ra1, ra2, in_int, tr_bl, pa2, zp_two, sr_some, wk_tup, wk_rol, wk_str, oo_add, oo_addI, oo_sub, oo_mul, oo_fdiv, oo_mod, oo_pow, oo_shl, oo_shr, oo_and, oo_or, oo_neg, oo_inv, oo_le, oo_gt, oo_ge, oo_lt, oo_eq, oo_ne, oo_eqb, oo_is0, oo_isNot0, oo_nes, oo_eqs, oo_addT, oo_tup, oo_lst, oo_abs, oo_int, oo_intb, oo_max2, oo_min2, oo_max3, oo_min3, oo_lenT, oo_lenR, oo_gTuple, oo_gList, oo_gLen, oo_biT, oo_biR, oo_slT, oo_slR, oo_isaII, oo_isaIB, oo_isaIT, oo_isaIS, oo_isaBI, oo_isaBB, oo_isaBT, oo_isaBS, oo_isaNT, lo_lst, atI_0, atI_1, atI_2, ixN_0, ixN_1, or_ix, ot_ix, ol_ix, or_set, or_len, or_add, or_mul, or_append, or_isLst, or_bi, or_bl, or_sl, or_wk, or_sr, ot_sr, or_gtup, oo_neb, oo_isB, oo_isNotB, ok_lr1, ok_lr2, ok_tr1, ok_tr2, or_popAt, List.getElem?_cons_zero, List.getElem?_cons_succ, List.set_cons_zero, List.set_cons_succ, List.map_cons, List.map_nil, List.replicate_succ, List.replicate_zero, List.length_cons, List.length_nil, List.cons_append, List.nil_append, wipeD, if_true, if_false, Bool.false_eq_true, Nat.reduceAdd, Nat.reduceSub, Nat.reduceLeDiff, decide_eq_true_eq, true_and, and_true, Int.reduceNeg, oo_inN]
        rw [dist_snoc hs, one1_if]
        by_cases c : (!decide (decide (i ∈ s) = decide (j ∈ s))) = true
        · rw [if_pos c, if_pos c]
          exact ⟨ns ++ [w], by simp [intL], by rw [List.sum_append, e]; simp⟩
        · rw [if_neg c, if_neg c]
          exact ⟨ns, by simp, by rw [e]; simp⟩
      · rintro l h' ⟨rfl, ns, rfl, e⟩
        rw [List.length_map, List.take_length] at e
        rw [oo_gSum, e]
        try simp (maxSteps := 4000000) only [ok_ret, ok_bnd, ok_lift, ok_var, ok_c, ok_bin, ok_un, ok_asB, ok_and, ok_or, ok_not, ok_chain, ok_nil, ok_cons, ok_tup, ok_lst, ok_fn, ok_tmp, ok_call, ok_meth, ok_tval, ok_tand, ok_tor, ok_tnot, ok_if, ok_pnone, ok_psome, ok_slice, ok_fresh, ok_lcx, ok_body, ok_true, ok_dtmp, ok_dval, ok_rng1, ok_rng2, ok_enum, ok_enumT, ok_zip, ok_gname, ok_gsnil, ok_gscons, ok_gtup, ok_gsub, fo_next, fo_seq, fo_asg, fo_expr, fo_ret, fo_retN, fo_if, fo_break, fo_cont, fo_par, fo_aug, fo_augS, fo_for, fo_body, vr_some, ra1, ra2, in_int, tr_bl, pa2, zp_two, sr_some, wk_tup, wk_rol, wk_str, oo_add, oo_addI, oo_sub, oo_mul, oo_fdiv, oo_mod, oo_pow, oo_shl, oo_shr, oo_and, oo_or, oo_neg, oo_inv, oo_le, oo_gt, oo_ge, oo_lt, oo_eq, oo_ne, oo_eqb, oo_is0, oo_isNot0, oo_nes, oo_eqs, oo_addT, oo_tup, oo_lst, oo_abs, oo_int, oo_intb, oo_max2, oo_min2, oo_max3, oo_min3, oo_lenT, oo_lenR, oo_gTuple, oo_gList, oo_gLen, oo_biT, oo_biR, oo_slT, oo_slR, oo_isaII, oo_isaIB, oo_isaIT, oo_isaIS, oo_isaBI, oo_isaBB, oo_isaBT, oo_isaBS, oo_isaNT, lo_lst, atI_0, atI_1, atI_2, ixN_0, ixN_1, or_ix, ot_ix, ol_ix, or_set, or_len, or_add, or_mul, or_append, or_isLst, or_bi, or_bl, or_sl, or_wk, or_sr, ot_sr, or_gtup, oo_neb, oo_isB, oo_isNotB, ok_lr1, ok_lr2, ok_tr1, ok_tr2, or_popAt, List.getElem?_cons_zero, List.getElem?_cons_succ, List.set_cons_zero, List.set_cons_succ, List.map_cons, List.map_nil, List.replicate_succ, List.replicate_zero, List.length_cons, List.length_nil, List.cons_append, List.nil_append, wipeD, if_true, if_false, Bool.false_eq_true, Nat.reduceAdd, Nat.reduceSub, Nat.reduceLeDiff, decide_eq_true_eq, true_and, and_true, Int.reduceNeg, R4]
        refine ⟨by rw [intL_len, List.length_take, List.length_map, List.length_range]; omega, by omega, _, _, _, rfl, (hg_set_ne (by omega)).trans H4, ?_, K4.set (by omega)⟩
        rw [hg_set (hg_lt R4), row_snoc hj]
        simp [intL]
    · rintro v h4 ⟨_, y5, y6, y7, rfl, H4, R4, K4⟩
      rw [rng_len, Int.toNat_natCast, List.take_of_length_le (by simp)] at R4
      try simp (maxSteps := 4000000) only [ok_ret, ok_bnd, ok_lift, ok_var, ok_c, ok_bin, ok_un, ok_asB, ok_and, ok_or, ok_not, ok_chain, ok_nil, ok_cons, ok_tup, ok_lst, ok_fn, ok_tmp, ok_call, ok_meth, ok_tval, ok_tand, ok_tor, ok_tnot, ok_if, ok_pnone, ok_psome, ok_slice, ok_fresh, ok_lcx, ok_body, ok_true, ok_dtmp, ok_dval, ok_rng1, ok_rng2, ok_enum, ok_enumT, ok_zip, ok_gname, ok_gsnil, ok_gscons, ok_gtup, ok_gsub, fo_next, fo_seq, fo_asg, fo_expr, fo_ret, fo_retN, fo_if, fo_break, fo_cont, fo_par, fo_aug, fo_augS, fo_for, fo_body, vr_some, ra1, ra2, in_int, tr_bl, pa2, zp_two, sr_some, wk_tup, wk_rol, wk_str, oo_add, oo_addI, oo_sub, oo_mul, oo_fdiv, oo_mod, oo_pow, oo_shl, oo_shr, oo_and, oo_or, oo_neg, oo_inv, oo_le, oo_gt, oo_ge, oo_lt, oo_eq, oo_ne, oo_eqb, oo_is0, oo_isNot0, oo_nes, oo_eqs, oo_addT, oo_tup, oo_lst, oo_abs, oo_int, oo_intb, oo_max2, oo_min2, oo_max3, oo_min3, oo_lenT, oo_lenR, oo_gTuple, oo_gList, oo_gLen, oo_biT, oo_biR, oo_slT, oo_slR, oo_isaII, oo_isaIB, oo_isaIT, oo_isaIS, oo_isaBI, oo_isaBB, oo_isaBT, oo_isaBS, oo_isaNT, lo_lst, atI_0, atI_1, atI_2, ixN_0, ixN_1, or_ix, ot_ix, ol_ix, or_set, or_len, or_add, or_mul, or_append, or_isLst, or_bi, or_bl, or_sl, or_wk, or_sr, ot_sr, or_gtup, oo_neb, oo_isB, oo_isNotB, ok_lr1, ok_lr2, ok_tr1, ok_tr2, or_popAt, List.getElem?_cons_zero, List.getElem?_cons_succ, List.set_cons_zero, List.set_cons_succ, List.map_cons, List.map_nil, List.replicate_succ, List.replicate_zero, List.length_cons, List.length_nil, List.cons_append, List.nil_append, wipeD, if_true, if_false, Bool.false_eq_true, Nat.reduceAdd, Nat.reduceSub, Nat.reduceLeDiff, decide_eq_true_eq, true_and, and_true, Int.reduceNeg, H4, R4]
      have e : (putT n W)[i]? = some ((List.range n).map (dist W i)) := by simp [putT, hi]
      refine ⟨by rw [List.length_map, List.length_take]; omega, by omega, _, _, _, _, _, rfl, ?_, K4.set (Nat.le_refl _)⟩
      rw [hg_set (hg_lt H4), List.take_add_one, e]
      simp
  · rintro v h2 ⟨_, x3, x4, x5, x6, x7, rfl, H2, K2⟩
    rw [rng_len, Int.toNat_natCast, List.take_of_length_le (by simp [putT])] at H2
    try simp (maxSteps := 4000000) only [ok_ret, ok_bnd, ok_lift, ok_var, ok_c, ok_bin, ok_un, ok_asB, ok_and, ok_or, ok_not, ok_chain, ok_nil, ok_cons, ok_tup, ok_lst, ok_fn, ok_tmp, ok_call, ok_meth, ok_tval, ok_tand, ok_tor, ok_tnot, ok_if, ok_pnone, ok_psome, ok_slice, ok_fresh, ok_lcx, ok_body, ok_true, ok_dtmp, ok_dval, ok_rng1, ok_rng2, ok_enum, ok_enumT, ok_zip, ok_gname, ok_gsnil, ok_gscons, ok_gtup, ok_gsub, fo_next, fo_seq, fo_asg, fo_expr, fo_ret, fo_retN, fo_if, fo_break, fo_cont, fo_par, fo_aug, fo_augS, fo_for, fo_body, vr_some, ra1, ra2, in_int, tr_bl, pa2, zp_two, sr_some, wk_tup, wk_rol, wk_str, oo_add, oo_addI, oo_sub, oo_mul, oo_fdiv, oo_mod, oo_pow, oo_shl, oo_shr, oo_and, oo_or, oo_neg, oo_inv, oo_le, oo_gt, oo_ge, oo_lt, oo_eq, oo_ne, oo_eqb, oo_is0, oo_isNot0, oo_nes, oo_eqs, oo_addT, oo_tup, oo_lst, oo_abs, oo_int, oo_intb, oo_max2, oo_min2, oo_max3, oo_min3, oo_lenT, oo_lenR, oo_gTuple, oo_gList, oo_gLen, oo_biT, oo_biR, oo_slT, oo_slR, oo_isaII, oo_isaIB, oo_isaIT, oo_isaIS, oo_isaBI, oo_isaBB, oo_isaBT, oo_isaBS, oo_isaNT, lo_lst, atI_0, atI_1, atI_2, ixN_0, ixN_1, or_ix, ot_ix, ol_ix, or_set, or_len, or_add, or_mul, or_append, or_isLst, or_bi, or_bl, or_sl, or_wk, or_sr, ot_sr, or_gtup, oo_neb, oo_isB, oo_isNotB, ok_lr1, ok_lr2, ok_tr1, ok_tr2, or_popAt, List.getElem?_cons_zero, List.getElem?_cons_succ, List.set_cons_zero, List.set_cons_succ, List.map_cons, List.map_nil, List.replicate_succ, List.replicate_zero, List.length_cons, List.length_nil, List.cons_append, List.nil_append, wipeD, if_true, if_false, Bool.false_eq_true, Nat.reduceAdd, Nat.reduceSub, Nat.reduceLeDiff, decide_eq_true_eq, true_and, and_true, Int.reduceNeg, H2]
    exact ⟨rfl, K2⟩
/-! its text -/
def wD (p : List Nat × Int) : PyData := .tuple [sideD p.1, .int p.2]
theorem pdats_w (q : Nat → Option PyData) : ∀ W : List (List Nat × Int), pdats q (W.map wV) = some (W.map wD)
  | [] => rfl
  | p :: W => by
    have := pdats_w q W
    simp only [List.map_cons, pdats, this, wV, sideV, pdat, natL, pdats_intL, sideD, wD]
theorem oo_reprW {W : List (List Nat × Int)} {h : VH} {Q : PV → VH → Prop} (lw : W.length ≤ 128) (hs : ∀ p ∈ W, p.1.length ≤ 8 ∧ ∀ x ∈ p.1, x < 8) (hw : ∀ p ∈ W, 0 ≤ p.2 ∧ p.2 ≤ 10 ^ 12) : OO (oRepr [.tup (W.map wV)] h) Q = Q (.str (PyData.tuple (W.map wD)).shown) h := by
  refine oo_repr (l := W.map wV) (k := 3) (N := 128 * (2 * (8 + 1) + 1)) rfl (by simp only [dat, pdat, pdats_w]) (gd_tuple (k := 2) (N := 2 * (8 + 1)) (m := 128) (fun d hd => ?_) (by rw [List.length_map]; exact lw)) (by decide) (by decide)
  obtain ⟨p, hp, rfl⟩ := List.mem_map.mp hd
  refine gd_tuple (k := 1) (N := 8) (m := 2) (fun d hd => ?_) (by simp)
  rcases List.mem_cons.mp hd with rfl | hd
  · refine (gd_ints (r := p.1.map fun k => ((k : Nat) : Int)) (m := 8) (by rw [List.length_map]; exact (hs p hp).1) fun x hx => ?_).mono (Nat.le_refl _) (Nat.le_refl _)
    obtain ⟨y, hy, rfl⟩ := List.mem_map.mp hx
    exact pow63 (by have := (hs p hp).2 y hy; omega)
  · rcases List.mem_cons.mp hd with rfl | hd
    · have := hw p hp
      exact (gd_int (pow63 (by omega))).mono (by omega) (by omega)
    · cases hd
theorem right_spec {n : Nat} {W : List (List Nat × Int)} {h : VH} (n1 : 1 ≤ n) (n8 : n ≤ 8) (lw : W.length ≤ 128) (hs : ∀ p ∈ W, (p.1.length ≤ 8 ∧ ∀ x ∈ p.1, x < n) ∧ p.1.Nodup) (hw : ∀ p ∈ W, 0 ≤ p.2 ∧ p.2 ≤ 10 ^ 12) :
    OK (f_law_right [.int (n : Nat), .tup (W.map wV)] h) fun v h' => v = .bl true ∧ Keep h h' := by
  unfold f_law_right
  rw [ok_fn0]
  unfold b_law_right
  have T := putT_tab n1 n8 lw hw
  have rW : ∀ (h : VH) (Q : PV → VH → Prop), OO (oRepr [.tup (W.map wV)] h) Q = Q (.str (PyData.tuple (W.map wD)).shown) h := fun h Q => oo_reprW lw (fun p hp => ⟨(hs p hp).1.1, fun x hx => by have := (hs p hp).1.2 x hx; omega⟩) hw
  have rT : ∀ (h : VH) (Q : PV → VH → Prop), OO (oRepr [tabV (putT n W)] h) Q = Q (.str (tabD (putT n W)).shown) h := fun h Q => oo_reprTab T.tab n8 (by decide)
  have sp : ∀ {h : VH}, OK (fput_together [.int (n : Nat), .tup (W.map wV)] h) fun v h' => v = tabV (putT n W) ∧ Keep h h' := put_spec n8 fun p hp => ⟨(hs p hp).2, (hs p hp).1.2⟩
  try simp (maxSteps := 4000000) only [ok_ret, ok_bnd, ok_lift, ok_var, ok_c, ok_bin, ok_un, ok_asB, ok_and, ok_or, ok_not, ok_chain, ok_nil, ok_cons, ok_tup, ok_lst, ok_fn, ok_tmp, ok_call, ok_meth, ok_tval, ok_tand, ok_tor, ok_tnot, ok_if, ok_pnone, ok_psome, ok_slice, ok_fresh, ok_lcx, ok_body, ok_true, ok_dtmp, ok_dval, ok_rng1, ok_rng2, ok_enum, ok_enumT, ok_zip, ok_gname, ok_gsnil, ok_gscons, ok_gtup, ok_gsub, fo_next, fo_seq, fo_asg, fo_expr, fo_ret, fo_retN, fo_if, fo_break, fo_cont, fo_par, fo_aug, fo_augS, fo_for, fo_body, vr_some, ra1, ra2, in_int, tr_bl, pa2, zp_two, sr_some, wk_tup, wk_rol, wk_str, oo_add, oo_addI, oo_sub, oo_mul, oo_fdiv, oo_mod, oo_pow, oo_shl, oo_shr, oo_and, oo_or, oo_neg, oo_inv, oo_le, oo_gt, oo_ge, oo_lt, oo_eq, oo_ne, oo_eqb, oo_is0, oo_isNot0, oo_nes, oo_eqs, oo_addT, oo_tup, oo_lst, oo_abs, oo_int, oo_intb, oo_max2, oo_min2, oo_max3, oo_min3, oo_lenT, oo_lenR, oo_gTuple, oo_gList, oo_gLen, oo_biT, oo_biR, oo_slT, oo_slR, oo_isaII, oo_isaIB, oo_isaIT, oo_isaIS, oo_isaBI, oo_isaBB, oo_isaBT, oo_isaBS, oo_isaNT, lo_lst, atI_0, atI_1, atI_2, ixN_0, ixN_1, or_ix, ot_ix, ol_ix, or_set, or_len, or_add, or_mul, or_append, or_isLst, or_bi, or_bl, or_sl, or_wk, or_sr, ot_sr, or_gtup, oo_neb, oo_isB, oo_isNotB, ok_lr1, ok_lr2, ok_tr1, ok_tr2, or_popAt, List.getElem?_cons_zero, List.getElem?_cons_succ, List.set_cons_zero, List.set_cons_succ, List.map_cons, List.map_nil, List.replicate_succ, List.replicate_zero, List.length_cons, List.length_nil, List.cons_append, List.nil_append, wipeD, if_true, if_false, Bool.false_eq_true, Nat.reduceAdd, Nat.reduceSub, Nat.reduceLeDiff, decide_eq_true_eq, true_and, and_true, Int.reduceNeg, rW]
  refine OK.mono sp ?_
  rintro v h1 ⟨rfl, k1⟩
  try simp (maxSteps := 4000000) only [ok_ret, ok_bnd, ok_lift, ok_var, ok_c, ok_bin, ok_un, ok_asB, ok_and, ok_or, ok_not, ok_chain, ok_nil, ok_cons, ok_tup, ok_lst, ok_fn, ok_tmp, ok_call, ok_meth, ok_tval, ok_tand, ok_tor, ok_tnot, ok_if, ok_pnone, ok_psome, ok_slice, ok_fresh, ok_lcx, ok_body, ok_true, ok_dtmp, ok_dval, ok_rng1, ok_rng2, ok_enum, ok_enumT, ok_zip, ok_gname, ok_gsnil, ok_gscons, ok_gtup, ok_gsub, fo_next, fo_seq, fo_asg, fo_expr, fo_ret, fo_retN, fo_if, fo_break, fo_cont, fo_par, fo_aug, fo_augS, fo_for, fo_body, vr_some, ra1, ra2, in_int, tr_bl, pa2, zp_two, sr_some, wk_tup, wk_rol, wk_str, oo_add, oo_addI, oo_sub, oo_mul, oo_fdiv, oo_mod, oo_pow, oo_shl, oo_shr, oo_and, oo_or, oo_neg, oo_inv, oo_le, oo_gt, oo_ge, oo_lt, oo_eq, oo_ne, oo_eqb, oo_is0, oo_isNot0, oo_nes, oo_eqs, oo_addT, oo_tup, oo_lst, oo_abs, oo_int, oo_intb, oo_max2, oo_min2, oo_max3, oo_min3, oo_lenT, oo_lenR, oo_gTuple, oo_gList, oo_gLen, oo_biT, oo_biR, oo_slT, oo_slR, oo_isaII, oo_isaIB, oo_isaIT, oo_isaIS, oo_isaBI, oo_isaBB, oo_isaBT, oo_isaBS, oo_isaNT, lo_lst, atI_0, atI_1, atI_2, ixN_0, ixN_1, or_ix, ot_ix, ol_ix, or_set, or_len, or_add, or_mul, or_append, or_isLst, or_bi, or_bl, or_sl, or_wk, or_sr, ot_sr, or_gtup, oo_neb, oo_isB, oo_isNotB, ok_lr1, ok_lr2, ok_tr1, ok_tr2, or_popAt, List.getElem?_cons_zero, List.getElem?_cons_succ, List.set_cons_zero, List.set_cons_succ, List.map_cons, List.map_nil, List.replicate_succ, List.replicate_zero, List.length_cons, List.length_nil, List.cons_append, List.nil_append, wipeD, if_true, if_false, Bool.false_eq_true, Nat.reduceAdd, Nat.reduceSub, Nat.reduceLeDiff, decide_eq_true_eq, true_and, and_true, Int.reduceNeg, rT]
  refine OK.mono (put2_spec n8 lw) ?_
  rintro v h2 ⟨rfl, k2⟩
  try simp (maxSteps := 4000000) only [ok_ret, ok_bnd, ok_lift, ok_var, ok_c, ok_bin, ok_un, ok_asB, ok_and, ok_or, ok_not, ok_chain, ok_nil, ok_cons, ok_tup, ok_lst, ok_fn, ok_tmp, ok_call, ok_meth, ok_tval, ok_tand, ok_tor, ok_tnot, ok_if, ok_pnone, ok_psome, ok_slice, ok_fresh, ok_lcx, ok_body, ok_true, ok_dtmp, ok_dval, ok_rng1, ok_rng2, ok_enum, ok_enumT, ok_zip, ok_gname, ok_gsnil, ok_gscons, ok_gtup, ok_gsub, fo_next, fo_seq, fo_asg, fo_expr, fo_ret, fo_retN, fo_if, fo_break, fo_cont, fo_par, fo_aug, fo_augS, fo_for, fo_body, vr_some, ra1, ra2, in_int, tr_bl, pa2, zp_two, sr_some, wk_tup, wk_rol, wk_str, oo_add, oo_addI, oo_sub, oo_mul, oo_fdiv, oo_mod, oo_pow, oo_shl, oo_shr, oo_and, oo_or, oo_neg, oo_inv, oo_le, oo_gt, oo_ge, oo_lt, oo_eq, oo_ne, oo_eqb, oo_is0, oo_isNot0, oo_nes, oo_eqs, oo_addT, oo_tup, oo_lst, oo_abs, oo_int, oo_intb, oo_max2, oo_min2, oo_max3, oo_min3, oo_lenT, oo_lenR, oo_gTuple, oo_gList, oo_gLen, oo_biT, oo_biR, oo_slT, oo_slR, oo_isaII, oo_isaIB, oo_isaIT, oo_isaIS, oo_isaBI, oo_isaBB, oo_isaBT, oo_isaBS, oo_isaNT, lo_lst, atI_0, atI_1, atI_2, ixN_0, ixN_1, or_ix, ot_ix, ol_ix, or_set, or_len, or_add, or_mul, or_append, or_isLst, or_bi, or_bl, or_sl, or_wk, or_sr, ot_sr, or_gtup, oo_neb, oo_isB, oo_isNotB, ok_lr1, ok_lr2, ok_tr1, ok_tr2, or_popAt, List.getElem?_cons_zero, List.getElem?_cons_succ, List.set_cons_zero, List.set_cons_succ, List.map_cons, List.map_nil, List.replicate_succ, List.replicate_zero, List.length_cons, List.length_nil, List.cons_append, List.nil_append, wipeD, if_true, if_false, Bool.false_eq_true, Nat.reduceAdd, Nat.reduceSub, Nat.reduceLeDiff, decide_eq_true_eq, true_and, and_true, Int.reduceNeg, rT, rW, decide_true, Bool.not_true]
  refine OK.mono (istable_spec T) ?_
  rintro v h3 ⟨rfl, rfl⟩
  try simp (maxSteps := 4000000) only [ok_ret, ok_bnd, ok_lift, ok_var, ok_c, ok_bin, ok_un, ok_asB, ok_and, ok_or, ok_not, ok_chain, ok_nil, ok_cons, ok_tup, ok_lst, ok_fn, ok_tmp, ok_call, ok_meth, ok_tval, ok_tand, ok_tor, ok_tnot, ok_if, ok_pnone, ok_psome, ok_slice, ok_fresh, ok_lcx, ok_body, ok_true, ok_dtmp, ok_dval, ok_rng1, ok_rng2, ok_enum, ok_enumT, ok_zip, ok_gname, ok_gsnil, ok_gscons, ok_gtup, ok_gsub, fo_next, fo_seq, fo_asg, fo_expr, fo_ret, fo_retN, fo_if, fo_break, fo_cont, fo_par, fo_aug, fo_augS, fo_for, fo_body, vr_some, ra1, ra2, in_int, tr_bl, pa2, zp_two, sr_some, wk_tup, wk_rol, wk_str, oo_add, oo_addI, oo_sub, oo_mul, oo_fdiv, oo_mod, oo_pow, oo_shl, oo_shr, oo_and, oo_or, oo_neg, oo_inv, oo_le, oo_gt, oo_ge, oo_lt, oo_eq, oo_ne, oo_eqb, oo_is0, oo_isNot0, oo_nes, oo_eqs, oo_addT, oo_tup, oo_lst, oo_abs, oo_int, oo_intb, oo_max2, oo_min2, oo_max3, oo_min3, oo_lenT, oo_lenR, oo_gTuple, oo_gList, oo_gLen, oo_biT, oo_biR, oo_slT, oo_slR, oo_isaII, oo_isaIB, oo_isaIT, oo_isaIS, oo_isaBI, oo_isaBB, oo_isaBT, oo_isaBS, oo_isaNT, lo_lst, atI_0, atI_1, atI_2, ixN_0, ixN_1, or_ix, ot_ix, ol_ix, or_set, or_len, or_add, or_mul, or_append, or_isLst, or_bi, or_bl, or_sl, or_wk, or_sr, ot_sr, or_gtup, oo_neb, oo_isB, oo_isNotB, ok_lr1, ok_lr2, ok_tr1, ok_tr2, or_popAt, List.getElem?_cons_zero, List.getElem?_cons_succ, List.set_cons_zero, List.set_cons_succ, List.map_cons, List.map_nil, List.replicate_succ, List.replicate_zero, List.length_cons, List.length_nil, List.cons_append, List.nil_append, wipeD, if_true, if_false, Bool.false_eq_true, Nat.reduceAdd, Nat.reduceSub, Nat.reduceLeDiff, decide_eq_true_eq, true_and, and_true, Int.reduceNeg, rT, rW, decide_true, Bool.not_true]
  refine OK.mono sp ?_
  rintro v h4 ⟨rfl, k4⟩
  try simp (maxSteps := 4000000) only [ok_ret, ok_bnd, ok_lift, ok_var, ok_c, ok_bin, ok_un, ok_asB, ok_and, ok_or, ok_not, ok_chain, ok_nil, ok_cons, ok_tup, ok_lst, ok_fn, ok_tmp, ok_call, ok_meth, ok_tval, ok_tand, ok_tor, ok_tnot, ok_if, ok_pnone, ok_psome, ok_slice, ok_fresh, ok_lcx, ok_body, ok_true, ok_dtmp, ok_dval, ok_rng1, ok_rng2, ok_enum, ok_enumT, ok_zip, ok_gname, ok_gsnil, ok_gscons, ok_gtup, ok_gsub, fo_next, fo_seq, fo_asg, fo_expr, fo_ret, fo_retN, fo_if, fo_break, fo_cont, fo_par, fo_aug, fo_augS, fo_for, fo_body, vr_some, ra1, ra2, in_int, tr_bl, pa2, zp_two, sr_some, wk_tup, wk_rol, wk_str, oo_add, oo_addI, oo_sub, oo_mul, oo_fdiv, oo_mod, oo_pow, oo_shl, oo_shr, oo_and, oo_or, oo_neg, oo_inv, oo_le, oo_gt, oo_ge, oo_lt, oo_eq, oo_ne, oo_eqb, oo_is0, oo_isNot0, oo_nes, oo_eqs, oo_addT, oo_tup, oo_lst, oo_abs, oo_int, oo_intb, oo_max2, oo_min2, oo_max3, oo_min3, oo_lenT, oo_lenR, oo_gTuple, oo_gList, oo_gLen, oo_biT, oo_biR, oo_slT, oo_slR, oo_isaII, oo_isaIB, oo_isaIT, oo_isaIS, oo_isaBI, oo_isaBB, oo_isaBT, oo_isaBS, oo_isaNT, lo_lst, atI_0, atI_1, atI_2, ixN_0, ixN_1, or_ix, ot_ix, ol_ix, or_set, or_len, or_add, or_mul, or_append, or_isLst, or_bi, or_bl, or_sl, or_wk, or_sr, ot_sr, or_gtup, oo_neb, oo_isB, oo_isNotB, ok_lr1, ok_lr2, ok_tr1, ok_tr2, or_popAt, List.getElem?_cons_zero, List.getElem?_cons_succ, List.set_cons_zero, List.set_cons_succ, List.map_cons, List.map_nil, List.replicate_succ, List.replicate_zero, List.length_cons, List.length_nil, List.cons_append, List.nil_append, wipeD, if_true, if_false, Bool.false_eq_true, Nat.reduceAdd, Nat.reduceSub, Nat.reduceLeDiff, decide_eq_true_eq, true_and, and_true, Int.reduceNeg, rT, rW, decide_true]
  exact (k1.trans k2).trans k4
/-! tables added, so many times -/
theorem putT_row {n : Nat} {W : List (List Nat × Int)} {i : Nat} {z : PV} (e : ((putT n W).map fun r => PV.tup (intL r))[i]? = some z) : i < n ∧ z = .tup (intL ((List.range n).map (dist W i))) := by
  have hi := hg_lt' e
  rw [List.length_map] at hi
  have hn : i < n := by simpa [putT] using hi
  refine ⟨hn, ?_⟩
  simp [putT, hn] at e
  exact e.symm
theorem rowF_inv {n : Nat} {f : Nat → Int} {i : Nat} {z : PV} (e : (intL ((List.range n).map f))[i]? = some z) : i < n ∧ z = .int (f i) := by
  have hi := hg_lt' e
  rw [intL_len, List.length_map, List.length_range] at hi
  rw [rowF_get hi] at e
  exact ⟨hi, (Option.some.inj e).symm⟩
theorem dist_app {V W : List (List Nat × Int)} {a b : Nat} : dist (V ++ W) a b = dist V a b + dist W a b := by simp [dist, List.sum_append]
theorem plus_spec {n : Nat} {V W : List (List Nat × Int)} {h : VH} (n8 : n ≤ 8) :
    OK (f_law_plus [tabV (putT n V), tabV (putT n W)] h) fun v h' => v = tabV (putT n (V ++ W)) ∧ Keep h h' := by
  unfold f_law_plus
  rw [ok_fn0]
  unfold b_law_plus
  rw [show tabV (putT n V) = .tup ((putT n V).map fun r => PV.tup (intL r)) from rfl, show tabV (putT n W) = .tup ((putT n W).map fun r => PV.tup (intL r)) from rfl]
  try simp (maxSteps := 4000000) only [ok_ret, ok_bnd, ok_lift, ok_var, ok_c, ok_bin, ok_un, ok_asB, ok_and, ok_or, ok_not, ok_chain, ok_nil, ok_cons, ok_tup, ok_lst, ok_fn, ok_tmp, ok_call, ok_meth, ok_tval, ok_tand, ok_tor, ok_tnot, ok_if, ok_pnone, ok_psome, ok_slice, ok_fresh, ok_lcx, ok_body, ok_true, ok_dtmp, ok_dval, ok_rng1, ok_rng2, ok_enum, ok_enumT, ok_zip, ok_gname, ok_gsnil, ok_gscons, ok_gtup, ok_gsub, fo_next, fo_seq, fo_asg, fo_expr, fo_ret, fo_retN, fo_if, fo_break, fo_cont, fo_par, fo_aug, fo_augS, fo_for, fo_body, vr_some, ra1, ra2, in_int, tr_bl, pa2, zp_two, sr_some, wk_tup, wk_rol, wk_str, oo_add, oo_addI, oo_sub, oo_mul, oo_fdiv, oo_mod, oo_pow, oo_shl, oo_shr, oo_and, oo_or, oo_neg, oo_inv, oo_le, oo_gt, oo_ge, oo_lt, oo_eq, oo_ne, oo_eqb, oo_is0, oo_isNot0, oo_nes, oo_eqs, oo_addT, oo_tup, oo_lst, oo_abs, oo_int, oo_intb, oo_max2, oo_min2, oo_max3, oo_min3, oo_lenT, oo_lenR, oo_gTuple, oo_gList, oo_gLen, oo_biT, oo_biR, oo_slT, oo_slR, oo_isaII, oo_isaIB, oo_isaIT, oo_isaIS, oo_isaBI, oo_isaBB, oo_isaBT, oo_isaBS, oo_isaNT, lo_lst, atI_0, atI_1, atI_2, ixN_0, ixN_1, or_ix, ot_ix, ol_ix, or_set, or_len, or_add, or_mul, or_append, or_isLst, or_bi, or_bl, or_sl, or_wk, or_sr, ot_sr, or_gtup, oo_neb, oo_isB, oo_isNotB, ok_lr1, ok_lr2, ok_tr1, ok_tr2, or_popAt, List.getElem?_cons_zero, List.getElem?_cons_succ, List.set_cons_zero, List.set_cons_succ, List.map_cons, List.map_nil, List.replicate_succ, List.replicate_zero, List.length_cons, List.length_nil, List.cons_append, List.nil_append, wipeD, if_true, if_false, Bool.false_eq_true, Nat.reduceAdd, Nat.reduceSub, Nat.reduceLeDiff, decide_eq_true_eq, true_and, and_true, Int.reduceNeg, ot_sr]
  have hf : (h ++ [VO.lst []])[h.length]? = some (.lst []) := hg_new
  have K0 : Keep h (h ++ [VO.lst []]) := .app
  generalize h ++ [VO.lst []] = h1 at hf K0
  refine fo_loop0 (fun i v h' => i ≤ n ∧ ∃ x3 x4 x5 x6 : Option PV, v = [some (.tup ((putT n V).map fun r => PV.tup (intL r))), some (.tup ((putT n W).map fun r => PV.tup (intL r))), some (.ref h.length), x3, x4, x5, x6] ∧ h'[h.length]? = some (.lst (((putT n (V ++ W)).take i).map fun r => PV.tup (intL r))) ∧ Keep h h') ⟨Nat.zero_le _, _, _, _, _, rfl, hf, K0⟩ (fun _ _ _ _ _ => rfl) ?_ ?_
  · rintro i x v h2 hx ⟨_, x3, x4, x5, x6, rfl, H2, K2⟩
    obtain ⟨p, q, e1, e2, rfl⟩ := paired_get hx
    obtain ⟨hi, rfl⟩ := putT_row e1
    obtain ⟨_, rfl⟩ := putT_row e2
    try simp (maxSteps := 4000000) only [ok_ret, ok_bnd, ok_lift, ok_var, ok_c, ok_bin, ok_un, ok_asB, ok_and, ok_or, ok_not, ok_chain, ok_nil, ok_cons, ok_tup, ok_lst, ok_fn, ok_tmp, ok_call, ok_meth, ok_tval, ok_tand, ok_tor, ok_tnot, ok_if, ok_pnone, ok_psome, ok_slice, ok_fresh, ok_lcx, ok_body, ok_true, ok_dtmp, ok_dval, ok_rng1, ok_rng2, ok_enum, ok_enumT, ok_zip, ok_gname, ok_gsnil, ok_gscons, ok_gtup, ok_gsub, fo_next, fo_seq, fo_asg, fo_expr, fo_ret, fo_retN, fo_if, fo_break, fo_cont, fo_par, fo_aug, fo_augS, fo_for, fo_body, vr_some, ra1, ra2, in_int, tr_bl, pa2, zp_two, sr_some, wk_tup, wk_rol, wk_str, oo_add, oo_addI, oo_sub, oo_mul, oo_fdiv, oo_mod, oo_pow, oo_shl, oo_shr, oo_and, oo_or, oo_neg, oo_inv, oo_le, oo_gt, oo_ge, oo_lt, oo_eq, oo_ne, oo_eqb, oo_is0, oo_isNot0, oo_nes, oo_eqs, oo_addT, oo_tup, oo_lst, oo_abs, oo_int, oo_intb, oo_max2, oo_min2, oo_max3, oo_min3, oo_lenT, oo_lenR, oo_gTuple, oo_gList, oo_gLen, oo_biT, oo_biR, oo_slT, oo_slR, oo_isaII, oo_isaIB, oo_isaIT, oo_isaIS, oo_isaBI, oo_isaBB, oo_isaBT, oo_isaBS, oo_isaNT, lo_lst, atI_0, atI_1, atI_2, ixN_0, ixN_1, or_ix, ot_ix, ol_ix, or_set, or_len, or_add, or_mul, or_append, or_isLst, or_bi, or_bl, or_sl, or_wk, or_sr, ot_sr, or_gtup, oo_neb, oo_isB, oo_isNotB, ok_lr1, ok_lr2, ok_tr1, ok_tr2, or_popAt, List.getElem?_cons_zero, List.getElem?_cons_succ, List.set_cons_zero, List.set_cons_succ, List.map_cons, List.map_nil, List.replicate_succ, List.replicate_zero, List.length_cons, List.length_nil, List.cons_append, List.nil_append, wipeD, if_true, if_false, Bool.false_eq_true, Nat.reduceAdd, Nat.reduceSub, Nat.reduceLeDiff, decide_eq_true_eq, true_and, and_true, Int.reduceNeg, H2, ot_sr]
    refine ⟨by rw [paired_len, intL_len]; simp; omega, ?_⟩
    refine OK.mono (ok_lc0 (fun k acc h' => h' = h2 ∧ acc = intL (((List.range n).map (dist (V ++ W) i)).take k)) ⟨rfl, rfl⟩ (fun _ _ _ _ _ => rfl) ?_ fun _ _ q => q) ?_
    · rintro k x acc h' hx ⟨rfl, rfl⟩
      obtain ⟨p, q, e1, e2, rfl⟩ := paired_get hx
      obtain ⟨hk, rfl⟩ := rowF_inv e1
      obtain ⟨_, rfl⟩ := rowF_inv e2
      try simp (maxSteps := 4000000) only [ok_ret, ok_bnd, ok_lift, ok_var, ok_c, ok_bin, ok_un, ok_asB, ok_and, ok_or, ok_not, ok_chain, ok_nil, ok_cons, ok_tup, ok_lst, ok_fn, ok_tmp, ok_call, ok_meth, ok_tval, ok_tand, ok_tor, ok_tnot, ok_if, ok_pnone, ok_psome, ok_slice, ok_fresh, ok_lcx, ok_body, ok_true, ok_dtmp, ok_dval, ok_rng1, ok_rng2, ok_enum, ok_enumT, ok_zip, ok_gname, ok_gsnil, ok_gscons, ok_gtup, ok_gsub, fo_next, fo_seq, fo_asg, fo_expr, fo_ret, fo_retN, fo_if, fo_break, fo_cont, fo_par, fo_aug, fo_augS, fo_for, fo_body, vr_some, ra1, ra2, in_int, tr_bl, pa2, zp_two, sr_some, wk_tup, wk_rol, wk_str, oo_add, oo_addI, oo_sub, oo_mul, oo_fdiv, oo_mod, oo_pow, oo_shl, oo_shr, oo_and, oo_or, oo_neg, oo_inv, oo_le, oo_gt, oo_ge, oo_lt, oo_eq, oo_ne, oo_eqb, oo_is0, oo_isNot0, oo_nes, oo_eqs, oo_addT, oo_tup, oo_lst, oo_abs, oo_int, oo_intb, oo_max2, oo_min2, oo_max3, oo_min3, oo_lenT, oo_lenR, oo_gTuple, oo_gList, oo_gLen, oo_biT, oo_biR, oo_slT, oo_slR, oo_isaII, oo_isaIB, oo_isaIT, oo_isaIS, oo_isaBI, oo_isaBB, oo_isaBT, oo_isaBS, oo_isaNT, lo_lst, atI_0, atI_1, atI_2, ixN_0, ixN_1, or_ix, ot_ix, ol_ix, or_set, or_len, or_add, or_mul, or_append, or_isLst, or_bi, or_bl, or_sl, or_wk, or_sr, ot_sr, or_gtup, oo_neb, oo_isB, oo_isNotB, ok_lr1, ok_lr2, ok_tr1, ok_tr2, or_popAt, List.getElem?_cons_zero, List.getElem?_cons_succ, List.set_cons_zero, List.set_cons_succ, List.map_cons, List.map_nil, List.replicate_succ, List.replicate_zero, List.length_cons, List.length_nil, List.cons_append, List.nil_append, wipeD, if_true, if_false, Bool.false_eq_true, Nat.reduceAdd, Nat.reduceSub, Nat.reduceLeDiff, decide_eq_true_eq, true_and, and_true, Int.reduceNeg]
      rw [row_snoc hk, dist_app]
      simp [intL]
    · rintro l h' ⟨rfl, rfl⟩
      have lp : (paired (intL ((List.range n).map (dist V i))) (intL ((List.range n).map (dist W i)))).length = n := by rw [paired_len, intL_len, intL_len]; simp
      rw [lp, List.take_of_length_le (by simp)]
      try simp (maxSteps := 4000000) only [ok_ret, ok_bnd, ok_lift, ok_var, ok_c, ok_bin, ok_un, ok_asB, ok_and, ok_or, ok_not, ok_chain, ok_nil, ok_cons, ok_tup, ok_lst, ok_fn, ok_tmp, ok_call, ok_meth, ok_tval, ok_tand, ok_tor, ok_tnot, ok_if, ok_pnone, ok_psome, ok_slice, ok_fresh, ok_lcx, ok_body, ok_true, ok_dtmp, ok_dval, ok_rng1, ok_rng2, ok_enum, ok_enumT, ok_zip, ok_gname, ok_gsnil, ok_gscons, ok_gtup, ok_gsub, fo_next, fo_seq, fo_asg, fo_expr, fo_ret, fo_retN, fo_if, fo_break, fo_cont, fo_par, fo_aug, fo_augS, fo_for, fo_body, vr_some, ra1, ra2, in_int, tr_bl, pa2, zp_two, sr_some, wk_tup, wk_rol, wk_str, oo_add, oo_addI, oo_sub, oo_mul, oo_fdiv, oo_mod, oo_pow, oo_shl, oo_shr, oo_and, oo_or, oo_neg, oo_inv, oo_le, oo_gt, oo_ge, oo_lt, oo_eq, oo_ne, oo_eqb, oo_is0, oo_isNot0, oo_nes, oo_eqs, oo_addT, oo_tup, oo_lst, oo_abs, oo_int, oo_intb, oo_max2, oo_min2, oo_max3, oo_min3, oo_lenT, oo_lenR, oo_gTuple, oo_gList, oo_gLen, oo_biT, oo_biR, oo_slT, oo_slR, oo_isaII, oo_isaIB, oo_isaIT, oo_isaIS, oo_isaBI, oo_isaBB, oo_isaBT, oo_isaBS, oo_isaNT, lo_lst, atI_0, atI_1, atI_2, ixN_0, ixN_1, or_ix, ot_ix, ol_ix, or_set, or_len, or_add, or_mul, or_append, or_isLst, or_bi, or_bl, or_sl, or_wk, or_sr, ot_sr, or_gtup, oo_neb, oo_isB, oo_isNotB, ok_lr1, ok_lr2, ok_tr1, ok_tr2, or_popAt, List.getElem?_cons_zero, List.getElem?_cons_succ, List.set_cons_zero, List.set_cons_succ, List.map_cons, List.map_nil, List.replicate_succ, List.replicate_zero, List.length_cons, List.length_nil, List.cons_append, List.nil_append, wipeD, if_true, if_false, Bool.false_eq_true, Nat.reduceAdd, Nat.reduceSub, Nat.reduceLeDiff, decide_eq_true_eq, true_and, and_true, Int.reduceNeg, H2]
      have e : (putT n (V ++ W))[i]? = some ((List.range n).map (dist (V ++ W) i)) := by simp [putT, hi]
      refine ⟨by rw [List.length_map, List.length_take]; omega, by omega, _, _, _, _, rfl, ?_, K2.set (Nat.le_refl _)⟩
      rw [hg_set (hg_lt H2), List.take_add_one, e]
      simp
  · rintro v h2 ⟨_, x3, x4, x5, x6, rfl, H2, K2⟩
    have lp : (paired ((putT n V).map fun r => PV.tup (intL r)) ((putT n W).map fun r => PV.tup (intL r))).length = n := by rw [paired_len]; simp [putT]
    rw [lp, List.take_of_length_le (by simp [putT])] at H2
    try simp (maxSteps := 4000000) only [ok_ret, ok_bnd, ok_lift, ok_var, ok_c, ok_bin, ok_un, ok_asB, ok_and, ok_or, ok_not, ok_chain, ok_nil, ok_cons, ok_tup, ok_lst, ok_fn, ok_tmp, ok_call, ok_meth, ok_tval, ok_tand, ok_tor, ok_tnot, ok_if, ok_pnone, ok_psome, ok_slice, ok_fresh, ok_lcx, ok_body, ok_true, ok_dtmp, ok_dval, ok_rng1, ok_rng2, ok_enum, ok_enumT, ok_zip, ok_gname, ok_gsnil, ok_gscons, ok_gtup, ok_gsub, fo_next, fo_seq, fo_asg, fo_expr, fo_ret, fo_retN, fo_if, fo_break, fo_cont, fo_par, fo_aug, fo_augS, fo_for, fo_body, vr_some, ra1, ra2, in_int, tr_bl, pa2, zp_two, sr_some, wk_tup, wk_rol, wk_str, oo_add, oo_addI, oo_sub, oo_mul, oo_fdiv, oo_mod, oo_pow, oo_shl, oo_shr, oo_and, oo_or, oo_neg, oo_inv, oo_le, oo_gt, oo_ge, oo_lt, oo_eq, oo_ne, oo_eqb, oo_is0, oo_isNot0, oo_nes, oo_eqs, oo_addT, oo_tup, oo_lst, oo_abs, oo_int, oo_intb, oo_max2, oo_min2, oo_max3, oo_min3, oo_lenT, oo_lenR, oo_gTuple, oo_gList, oo_gLen, oo_biT, oo_biR, oo_slT, oo_slR, oo_isaII, oo_isaIB, oo_isaIT, oo_isaIS, oo_isaBI, oo_isaBB, oo_isaBT, oo_isaBS, oo_isaNT, lo_lst, atI_0, atI_1, atI_2, ixN_0, ixN_1, or_ix, ot_ix, ol_ix, or_set, or_len, or_add, or_mul, or_append, or_isLst, or_bi, or_bl, or_sl, or_wk, or_sr, ot_sr, or_gtup, oo_neb, oo_isB, oo_isNotB, ok_lr1, ok_lr2, ok_tr1, ok_tr2, or_popAt, List.getElem?_cons_zero, List.getElem?_cons_succ, List.set_cons_zero, List.set_cons_succ, List.map_cons, List.map_nil, List.replicate_succ, List.replicate_zero, List.length_cons, List.length_nil, List.cons_append, List.nil_append, wipeD, if_true, if_false, Bool.false_eq_true, Nat.reduceAdd, Nat.reduceSub, Nat.reduceLeDiff, decide_eq_true_eq, true_and, and_true, Int.reduceNeg, H2]
    exact ⟨rfl, K2⟩
theorem dist_fold {W : List (List Nat × Int)} {f : Int} {a b : Nat} : dist (W.map fun p => (p.1, f * p.2)) a b = f * dist W a b := by
  induction W with
  | nil => simp [dist]
  | cons p W ih =>
    rw [List.map_cons, dist_cons, dist_cons, ih, Int.mul_add]
    congr 1
    simp only [one1]
    split
    · rfl
    · simp
theorem times_spec {d c a n : Nat} {B : Int} {h : VH} {t : List (List Nat)} (n1 : 1 ≤ n) (n8 : n ≤ 8) (hB : B < 2 ^ 39) (D : Deck d c B h) (nd : a ≠ d) (nc : a ≠ c) (ha : h[a]? = some (.lst (t.map sideV))) (ht : t.length ≤ 128) (hs : ∀ r ∈ t, (r.length ≤ 8 ∧ ∀ x ∈ r, x < n) ∧ r.Nodup) :
    OK (f_law_times_right [.ref d, .int (n : Nat), .ref a] h) fun v h' => v = .bl true ∧ Deck d c (B + 1) h' ∧ Grow d c h h' := by
  unfold f_law_times_right
  rw [ok_fn0]
  unfold b_law_times_right
  try simp (maxSteps := 4000000) only [ok_ret, ok_bnd, ok_lift, ok_var, ok_c, ok_bin, ok_un, ok_asB, ok_and, ok_or, ok_not, ok_chain, ok_nil, ok_cons, ok_tup, ok_lst, ok_fn, ok_tmp, ok_call, ok_meth, ok_tval, ok_tand, ok_tor, ok_tnot, ok_if, ok_pnone, ok_psome, ok_slice, ok_fresh, ok_lcx, ok_body, ok_true, ok_dtmp, ok_dval, ok_rng1, ok_rng2, ok_enum, ok_enumT, ok_zip, ok_gname, ok_gsnil, ok_gscons, ok_gtup, ok_gsub, fo_next, fo_seq, fo_asg, fo_expr, fo_ret, fo_retN, fo_if, fo_break, fo_cont, fo_par, fo_aug, fo_augS, fo_for, fo_body, vr_some, ra1, ra2, in_int, tr_bl, pa2, zp_two, sr_some, wk_tup, wk_rol, wk_str, oo_add, oo_addI, oo_sub, oo_mul, oo_fdiv, oo_mod, oo_pow, oo_shl, oo_shr, oo_and, oo_or, oo_neg, oo_inv, oo_le, oo_gt, oo_ge, oo_lt, oo_eq, oo_ne, oo_eqb, oo_is0, oo_isNot0, oo_nes, oo_eqs, oo_addT, oo_tup, oo_lst, oo_abs, oo_int, oo_intb, oo_max2, oo_min2, oo_max3, oo_min3, oo_lenT, oo_lenR, oo_gTuple, oo_gList, oo_gLen, oo_biT, oo_biR, oo_slT, oo_slR, oo_isaII, oo_isaIB, oo_isaIT, oo_isaIS, oo_isaBI, oo_isaBB, oo_isaBT, oo_isaBS, oo_isaNT, lo_lst, atI_0, atI_1, atI_2, ixN_0, ixN_1, or_ix, ot_ix, ol_ix, or_set, or_len, or_add, or_mul, or_append, or_isLst, or_bi, or_bl, or_sl, or_wk, or_sr, ot_sr, or_gtup, oo_neb, oo_isB, oo_isNotB, ok_lr1, ok_lr2, ok_tr1, ok_tr2, or_popAt, List.getElem?_cons_zero, List.getElem?_cons_succ, List.set_cons_zero, List.set_cons_succ, List.map_cons, List.map_nil, List.replicate_succ, List.replicate_zero, List.length_cons, List.length_nil, List.cons_append, List.nil_append, wipeD, if_true, if_false, Bool.false_eq_true, Nat.reduceAdd, Nat.reduceSub, Nat.reduceLeDiff, decide_eq_true_eq, true_and, and_true, Int.reduceNeg]
  refine OK.mono (draw_spec D (by decide) (by decide) (by omega)) ?_
  rintro v h1 ⟨r, rfl, r0, r9, D1, g1⟩
  have ha1 := g1.2 _ _ nd nc ha
  have bg : big = 18446744073709551616 := by decide
  try simp (maxSteps := 4000000) only [ok_ret, ok_bnd, ok_lift, ok_var, ok_c, ok_bin, ok_un, ok_asB, ok_and, ok_or, ok_not, ok_chain, ok_nil, ok_cons, ok_tup, ok_lst, ok_fn, ok_tmp, ok_call, ok_meth, ok_tval, ok_tand, ok_tor, ok_tnot, ok_if, ok_pnone, ok_psome, ok_slice, ok_fresh, ok_lcx, ok_body, ok_true, ok_dtmp, ok_dval, ok_rng1, ok_rng2, ok_enum, ok_enumT, ok_zip, ok_gname, ok_gsnil, ok_gscons, ok_gtup, ok_gsub, fo_next, fo_seq, fo_asg, fo_expr, fo_ret, fo_retN, fo_if, fo_break, fo_cont, fo_par, fo_aug, fo_augS, fo_for, fo_body, vr_some, ra1, ra2, in_int, tr_bl, pa2, zp_two, sr_some, wk_tup, wk_rol, wk_str, oo_add, oo_addI, oo_sub, oo_mul, oo_fdiv, oo_mod, oo_pow, oo_shl, oo_shr, oo_and, oo_or, oo_neg, oo_inv, oo_le, oo_gt, oo_ge, oo_lt, oo_eq, oo_ne, oo_eqb, oo_is0, oo_isNot0, oo_nes, oo_eqs, oo_addT, oo_tup, oo_lst, oo_abs, oo_int, oo_intb, oo_max2, oo_min2, oo_max3, oo_min3, oo_lenT, oo_lenR, oo_gTuple, oo_gList, oo_gLen, oo_biT, oo_biR, oo_slT, oo_slR, oo_isaII, oo_isaIB, oo_isaIT, oo_isaIS, oo_isaBI, oo_isaBB, oo_isaBT, oo_isaBS, oo_isaNT, lo_lst, atI_0, atI_1, atI_2, ixN_0, ixN_1, or_ix, ot_ix, ol_ix, or_set, or_len, or_add, or_mul, or_append, or_isLst, or_bi, or_bl, or_sl, or_wk, or_sr, ot_sr, or_gtup, oo_neb, oo_isB, oo_isNotB, ok_lr1, ok_lr2, ok_tr1, ok_tr2, or_popAt, List.getElem?_cons_zero, List.getElem?_cons_succ, List.set_cons_zero, List.set_cons_succ, List.map_cons, List.map_nil, List.replicate_succ, List.replicate_zero, List.length_cons, List.length_nil, List.cons_append, List.nil_append, wipeD, if_true, if_false, Bool.false_eq_true, Nat.reduceAdd, Nat.reduceSub, Nat.reduceLeDiff, decide_eq_true_eq, true_and, and_true, Int.reduceNeg, ha1]
  refine ⟨by rw [List.length_map]; omega, ?_⟩
  refine OK.mono (ok_lc0 (fun k acc h' => h' = h1 ∧ acc = (t.take k).map fun s => wV (s, 1 + (s.length : Int))) ⟨rfl, rfl⟩ (fun _ _ _ _ q => by rw [q.1]; exact srcOk_one ha1) ?_ fun _ _ q => q) ?_
  · rintro k x acc h' hx ⟨rfl, rfl⟩
    rw [List.getElem?_map] at hx
    obtain ⟨s, es, rfl⟩ := Option.map_eq_some_iff.mp hx
    have ls : (natL s).length = s.length := by simp [natL, intL]
    simp only [sideV]
    try simp (maxSteps := 4000000) only [ok_ret, ok_bnd, ok_lift, ok_var, ok_c, ok_bin, ok_un, ok_asB, ok_and, ok_or, ok_not, ok_chain, ok_nil, ok_cons, ok_tup, ok_lst, ok_fn, ok_tmp, ok_call, ok_meth, ok_tval, ok_tand, ok_tor, ok_tnot, ok_if, ok_pnone, ok_psome, ok_slice, ok_fresh, ok_lcx, ok_body, ok_true, ok_dtmp, ok_dval, ok_rng1, ok_rng2, ok_enum, ok_enumT, ok_zip, ok_gname, ok_gsnil, ok_gscons, ok_gtup, ok_gsub, fo_next, fo_seq, fo_asg, fo_expr, fo_ret, fo_retN, fo_if, fo_break, fo_cont, fo_par, fo_aug, fo_augS, fo_for, fo_body, vr_some, ra1, ra2, in_int, tr_bl, pa2, zp_two, sr_some, wk_tup, wk_rol, wk_str, oo_add, oo_addI, oo_sub, oo_mul, oo_fdiv, oo_mod, oo_pow, oo_shl, oo_shr, oo_and, oo_or, oo_neg, oo_inv, oo_le, oo_gt, oo_ge, oo_lt, oo_eq, oo_ne, oo_eqb, oo_is0, oo_isNot0, oo_nes, oo_eqs, oo_addT, oo_tup, oo_lst, oo_abs, oo_int, oo_intb, oo_max2, oo_min2, oo_max3, oo_min3, oo_lenT, oo_lenR, oo_gTuple, oo_gList, oo_gLen, oo_biT, oo_biR, oo_slT, oo_slR, oo_isaII, oo_isaIB, oo_isaIT, oo_isaIS, oo_isaBI, oo_isaBB, oo_isaBT, oo_isaBS, oo_isaNT, lo_lst, atI_0, atI_1, atI_2, ixN_0, ixN_1, or_ix, ot_ix, ol_ix, or_set, or_len, or_add, or_mul, or_append, or_isLst, or_bi, or_bl, or_sl, or_wk, or_sr, ot_sr, or_gtup, oo_neb, oo_isB, oo_isNotB, ok_lr1, ok_lr2, ok_tr1, ok_tr2, or_popAt, List.getElem?_cons_zero, List.getElem?_cons_succ, List.set_cons_zero, List.set_cons_succ, List.map_cons, List.map_nil, List.replicate_succ, List.replicate_zero, List.length_cons, List.length_nil, List.cons_append, List.nil_append, wipeD, if_true, if_false, Bool.false_eq_true, Nat.reduceAdd, Nat.reduceSub, Nat.reduceLeDiff, decide_eq_true_eq, true_and, and_true, Int.reduceNeg, ls]
    rw [List.take_add_one, es]
    simp [wV, sideV]
  rintro l h' ⟨rfl, rfl⟩
  rw [show t.take (t.map sideV).length = t by rw [List.length_map, List.take_length]]
  have eW : (t.map fun s => wV (s, 1 + (s.length : Int))) = (t.map fun s => (s, 1 + (s.length : Int))).map wV := by simp
  have hW : ∀ p ∈ (t.map fun s => (s, 1 + (s.length : Int))), ((p.1.length ≤ 8 ∧ ∀ x ∈ p.1, x < n) ∧ p.1.Nodup) ∧ 0 ≤ p.2 ∧ p.2 ≤ 9 := by
    rintro p hp
    obtain ⟨s, hs', rfl⟩ := List.mem_map.mp hp
    have := hs s hs'
    exact ⟨this, by omega, by have := this.1.1; omega⟩
  have lW : (t.map fun s => (s, 1 + (s.length : Int))).length ≤ 128 := by rw [List.length_map]; exact ht
  rw [eW]
  generalize (t.map fun s => (s, 1 + (s.length : Int))) = W at hW lW
  try simp (maxSteps := 4000000) only [ok_ret, ok_bnd, ok_lift, ok_var, ok_c, ok_bin, ok_un, ok_asB, ok_and, ok_or, ok_not, ok_chain, ok_nil, ok_cons, ok_tup, ok_lst, ok_fn, ok_tmp, ok_call, ok_meth, ok_tval, ok_tand, ok_tor, ok_tnot, ok_if, ok_pnone, ok_psome, ok_slice, ok_fresh, ok_lcx, ok_body, ok_true, ok_dtmp, ok_dval, ok_rng1, ok_rng2, ok_enum, ok_enumT, ok_zip, ok_gname, ok_gsnil, ok_gscons, ok_gtup, ok_gsub, fo_next, fo_seq, fo_asg, fo_expr, fo_ret, fo_retN, fo_if, fo_break, fo_cont, fo_par, fo_aug, fo_augS, fo_for, fo_body, vr_some, ra1, ra2, in_int, tr_bl, pa2, zp_two, sr_some, wk_tup, wk_rol, wk_str, oo_add, oo_addI, oo_sub, oo_mul, oo_fdiv, oo_mod, oo_pow, oo_shl, oo_shr, oo_and, oo_or, oo_neg, oo_inv, oo_le, oo_gt, oo_ge, oo_lt, oo_eq, oo_ne, oo_eqb, oo_is0, oo_isNot0, oo_nes, oo_eqs, oo_addT, oo_tup, oo_lst, oo_abs, oo_int, oo_intb, oo_max2, oo_min2, oo_max3, oo_min3, oo_lenT, oo_lenR, oo_gTuple, oo_gList, oo_gLen, oo_biT, oo_biR, oo_slT, oo_slR, oo_isaII, oo_isaIB, oo_isaIT, oo_isaIS, oo_isaBI, oo_isaBB, oo_isaBT, oo_isaBS, oo_isaNT, lo_lst, atI_0, atI_1, atI_2, ixN_0, ixN_1, or_ix, ot_ix, ol_ix, or_set, or_len, or_add, or_mul, or_append, or_isLst, or_bi, or_bl, or_sl, or_wk, or_sr, ot_sr, or_gtup, oo_neb, oo_isB, oo_isNotB, ok_lr1, ok_lr2, ok_tr1, ok_tr2, or_popAt, List.getElem?_cons_zero, List.getElem?_cons_succ, List.set_cons_zero, List.set_cons_succ, List.map_cons, List.map_nil, List.replicate_succ, List.replicate_zero, List.length_cons, List.length_nil, List.cons_append, List.nil_append, wipeD, if_true, if_false, Bool.false_eq_true, Nat.reduceAdd, Nat.reduceSub, Nat.reduceLeDiff, decide_eq_true_eq, true_and, and_true, Int.reduceNeg]
  refine ⟨by rw [List.length_map]; omega, ?_⟩
  refine OK.mono (ok_lc0 (fun k acc h'' => h'' = h' ∧ acc = (W.take k).map fun p => wV (p.1, (1 + r) * p.2)) ⟨rfl, rfl⟩ (fun _ _ _ _ _ => rfl) ?_ fun _ _ q => q) ?_
  · rintro k x acc h'' hx ⟨rfl, rfl⟩
    rw [List.getElem?_map] at hx
    obtain ⟨p, es, rfl⟩ := Option.map_eq_some_iff.mp hx
    have := hW p (List.mem_of_getElem? es)
    simp only [wV]
    try simp (maxSteps := 4000000) only [ok_ret, ok_bnd, ok_lift, ok_var, ok_c, ok_bin, ok_un, ok_asB, ok_and, ok_or, ok_not, ok_chain, ok_nil, ok_cons, ok_tup, ok_lst, ok_fn, ok_tmp, ok_call, ok_meth, ok_tval, ok_tand, ok_tor, ok_tnot, ok_if, ok_pnone, ok_psome, ok_slice, ok_fresh, ok_lcx, ok_body, ok_true, ok_dtmp, ok_dval, ok_rng1, ok_rng2, ok_enum, ok_enumT, ok_zip, ok_gname, ok_gsnil, ok_gscons, ok_gtup, ok_gsub, fo_next, fo_seq, fo_asg, fo_expr, fo_ret, fo_retN, fo_if, fo_break, fo_cont, fo_par, fo_aug, fo_augS, fo_for, fo_body, vr_some, ra1, ra2, in_int, tr_bl, pa2, zp_two, sr_some, wk_tup, wk_rol, wk_str, oo_add, oo_addI, oo_sub, oo_mul, oo_fdiv, oo_mod, oo_pow, oo_shl, oo_shr, oo_and, oo_or, oo_neg, oo_inv, oo_le, oo_gt, oo_ge, oo_lt, oo_eq, oo_ne, oo_eqb, oo_is0, oo_isNot0, oo_nes, oo_eqs, oo_addT, oo_tup, oo_lst, oo_abs, oo_int, oo_intb, oo_max2, oo_min2, oo_max3, oo_min3, oo_lenT, oo_lenR, oo_gTuple, oo_gList, oo_gLen, oo_biT, oo_biR, oo_slT, oo_slR, oo_isaII, oo_isaIB, oo_isaIT, oo_isaIS, oo_isaBI, oo_isaBB, oo_isaBT, oo_isaBS, oo_isaNT, lo_lst, atI_0, atI_1, atI_2, ixN_0, ixN_1, or_ix, ot_ix, ol_ix, or_set, or_len, or_add, or_mul, or_append, or_isLst, or_bi, or_bl, or_sl, or_wk, or_sr, ot_sr, or_gtup, oo_neb, oo_isB, oo_isNotB, ok_lr1, ok_lr2, ok_tr1, ok_tr2, or_popAt, List.getElem?_cons_zero, List.getElem?_cons_succ, List.set_cons_zero, List.set_cons_succ, List.map_cons, List.map_nil, List.replicate_succ, List.replicate_zero, List.length_cons, List.length_nil, List.cons_append, List.nil_append, wipeD, if_true, if_false, Bool.false_eq_true, Nat.reduceAdd, Nat.reduceSub, Nat.reduceLeDiff, decide_eq_true_eq, true_and, and_true, Int.reduceNeg]
    refine ⟨.inl (by omega), ?_⟩
    rw [List.take_add_one, es]
    simp [wV]
  rintro l h'' ⟨rfl, rfl⟩
  rw [show W.take (W.map wV).length = W by rw [List.length_map, List.take_length]]
  have eV : (W.map fun p => wV (p.1, (1 + r) * p.2)) = (W.map fun p => (p.1, (1 + r) * p.2)).map wV := by simp
  rw [eV]
  try simp (maxSteps := 4000000) only [ok_ret, ok_bnd, ok_lift, ok_var, ok_c, ok_bin, ok_un, ok_asB, ok_and, ok_or, ok_not, ok_chain, ok_nil, ok_cons, ok_tup, ok_lst, ok_fn, ok_tmp, ok_call, ok_meth, ok_tval, ok_tand, ok_tor, ok_tnot, ok_if, ok_pnone, ok_psome, ok_slice, ok_fresh, ok_lcx, ok_body, ok_true, ok_dtmp, ok_dval, ok_rng1, ok_rng2, ok_enum, ok_enumT, ok_zip, ok_gname, ok_gsnil, ok_gscons, ok_gtup, ok_gsub, fo_next, fo_seq, fo_asg, fo_expr, fo_ret, fo_retN, fo_if, fo_break, fo_cont, fo_par, fo_aug, fo_augS, fo_for, fo_body, vr_some, ra1, ra2, in_int, tr_bl, pa2, zp_two, sr_some, wk_tup, wk_rol, wk_str, oo_add, oo_addI, oo_sub, oo_mul, oo_fdiv, oo_mod, oo_pow, oo_shl, oo_shr, oo_and, oo_or, oo_neg, oo_inv, oo_le, oo_gt, oo_ge, oo_lt, oo_eq, oo_ne, oo_eqb, oo_is0, oo_isNot0, oo_nes, oo_eqs, oo_addT, oo_tup, oo_lst, oo_abs, oo_int, oo_intb, oo_max2, oo_min2, oo_max3, oo_min3, oo_lenT, oo_lenR, oo_gTuple, oo_gList, oo_gLen, oo_biT, oo_biR, oo_slT, oo_slR, oo_isaII, oo_isaIB, oo_isaIT, oo_isaIS, oo_isaBI, oo_isaBB, oo_isaBT, oo_isaBS, oo_isaNT, lo_lst, atI_0, atI_1, atI_2, ixN_0, ixN_1, or_ix, ot_ix, ol_ix, or_set, or_len, or_add, or_mul, or_append, or_isLst, or_bi, or_bl, or_sl, or_wk, or_sr, ot_sr, or_gtup, oo_neb, oo_isB, oo_isNotB, ok_lr1, ok_lr2, ok_tr1, ok_tr2, or_popAt, List.getElem?_cons_zero, List.getElem?_cons_succ, List.set_cons_zero, List.set_cons_succ, List.map_cons, List.map_nil, List.replicate_succ, List.replicate_zero, List.length_cons, List.length_nil, List.cons_append, List.nil_append, wipeD, if_true, if_false, Bool.false_eq_true, Nat.reduceAdd, Nat.reduceSub, Nat.reduceLeDiff, decide_eq_true_eq, true_and, and_true, Int.reduceNeg]
  refine OK.mono (put_spec n8 fun p hp => ⟨(hW p hp).1.2, (hW p hp).1.1.2⟩) ?_
  rintro v h2 ⟨rfl, k2⟩
  rw [show tabV (putT n W) = .tup ((putT n W).map fun r => PV.tup (intL r)) from rfl]
  try simp (maxSteps := 4000000) only [ok_ret, ok_bnd, ok_lift, ok_var, ok_c, ok_bin, ok_un, ok_asB, ok_and, ok_or, ok_not, ok_chain, ok_nil, ok_cons, ok_tup, ok_lst, ok_fn, ok_tmp, ok_call, ok_meth, ok_tval, ok_tand, ok_tor, ok_tnot, ok_if, ok_pnone, ok_psome, ok_slice, ok_fresh, ok_lcx, ok_body, ok_true, ok_dtmp, ok_dval, ok_rng1, ok_rng2, ok_enum, ok_enumT, ok_zip, ok_gname, ok_gsnil, ok_gscons, ok_gtup, ok_gsub, fo_next, fo_seq, fo_asg, fo_expr, fo_ret, fo_retN, fo_if, fo_break, fo_cont, fo_par, fo_aug, fo_augS, fo_for, fo_body, vr_some, ra1, ra2, in_int, tr_bl, pa2, zp_two, sr_some, wk_tup, wk_rol, wk_str, oo_add, oo_addI, oo_sub, oo_mul, oo_fdiv, oo_mod, oo_pow, oo_shl, oo_shr, oo_and, oo_or, oo_neg, oo_inv, oo_le, oo_gt, oo_ge, oo_lt, oo_eq, oo_ne, oo_eqb, oo_is0, oo_isNot0, oo_nes, oo_eqs, oo_addT, oo_tup, oo_lst, oo_abs, oo_int, oo_intb, oo_max2, oo_min2, oo_max3, oo_min3, oo_lenT, oo_lenR, oo_gTuple, oo_gList, oo_gLen, oo_biT, oo_biR, oo_slT, oo_slR, oo_isaII, oo_isaIB, oo_isaIT, oo_isaIS, oo_isaBI, oo_isaBB, oo_isaBT, oo_isaBS, oo_isaNT, lo_lst, atI_0, atI_1, atI_2, ixN_0, ixN_1, or_ix, ot_ix, ol_ix, or_set, or_len, or_add, or_mul, or_append, or_isLst, or_bi, or_bl, or_sl, or_wk, or_sr, ot_sr, or_gtup, oo_neb, oo_isB, oo_isNotB, ok_lr1, ok_lr2, ok_tr1, ok_tr2, or_popAt, List.getElem?_cons_zero, List.getElem?_cons_succ, List.set_cons_zero, List.set_cons_succ, List.map_cons, List.map_nil, List.replicate_succ, List.replicate_zero, List.length_cons, List.length_nil, List.cons_append, List.nil_append, wipeD, if_true, if_false, Bool.false_eq_true, Nat.reduceAdd, Nat.reduceSub, Nat.reduceLeDiff, decide_eq_true_eq, true_and, and_true, Int.reduceNeg]
  refine ⟨by simp [putT]; omega, ?_⟩
  refine OK.mono (ok_lc0 (fun k acc h'' => h'' = h2 ∧ acc = ((putT n (W.map fun p => (p.1, (1 + r) * p.2))).take k).map fun r => PV.tup (intL r)) ⟨rfl, rfl⟩ (fun _ _ _ _ _ => rfl) ?_ fun _ _ q => q) ?_
  · rintro k x acc h'' hx ⟨rfl, rfl⟩
    obtain ⟨hk, rfl⟩ := putT_row hx
    try simp (maxSteps := 4000000) only [ok_ret, ok_bnd, ok_lift, ok_var, ok_c, ok_bin, ok_un, ok_asB, ok_and, ok_or, ok_not, ok_chain, ok_nil, ok_cons, ok_tup, ok_lst, ok_fn, ok_tmp, ok_call, ok_meth, ok_tval, ok_tand, ok_tor, ok_tnot, ok_if, ok_pnone, ok_psome, ok_slice, ok_fresh, ok_lcx, ok_body, ok_true, ok_dtmp, ok_dval, ok_rng1, ok_rng2, ok_enum, ok_enumT, ok_zip, ok_gname, ok_gsnil, ok_gscons, ok_gtup, ok_gsub, fo_next, fo_seq, fo_asg, fo_expr, fo_ret, fo_retN, fo_if, fo_break, fo_cont, fo_par, fo_aug, fo_augS, fo_for, fo_body, vr_some, ra1, ra2, in_int, tr_bl, pa2, zp_two, sr_some, wk_tup, wk_rol, wk_str, oo_add, oo_addI, oo_sub, oo_mul, oo_fdiv, oo_mod, oo_pow, oo_shl, oo_shr, oo_and, oo_or, oo_neg, oo_inv, oo_le, oo_gt, oo_ge, oo_lt, oo_eq, oo_ne, oo_eqb, oo_is0, oo_isNot0, oo_nes, oo_eqs, oo_addT, oo_tup, oo_lst, oo_abs, oo_int, oo_intb, oo_max2, oo_min2, oo_max3, oo_min3, oo_lenT, oo_lenR, oo_gTuple, oo_gList, oo_gLen, oo_biT, oo_biR, oo_slT, oo_slR, oo_isaII, oo_isaIB, oo_isaIT, oo_isaIS, oo_isaBI, oo_isaBB, oo_isaBT, oo_isaBS, oo_isaNT, lo_lst, atI_0, atI_1, atI_2, ixN_0, ixN_1, or_ix, ot_ix, ol_ix, or_set, or_len, or_add, or_mul, or_append, or_isLst, or_bi, or_bl, or_sl, or_wk, or_sr, ot_sr, or_gtup, oo_neb, oo_isB, oo_isNotB, ok_lr1, ok_lr2, ok_tr1, ok_tr2, or_popAt, List.getElem?_cons_zero, List.getElem?_cons_succ, List.set_cons_zero, List.set_cons_succ, List.map_cons, List.map_nil, List.replicate_succ, List.replicate_zero, List.length_cons, List.length_nil, List.cons_append, List.nil_append, wipeD, if_true, if_false, Bool.false_eq_true, Nat.reduceAdd, Nat.reduceSub, Nat.reduceLeDiff, decide_eq_true_eq, true_and, and_true, Int.reduceNeg]
    refine ⟨by rw [intL_len]; simp; omega, ?_⟩
    refine OK.mono (ok_lc0 (fun j acc h2 => h2 = h'' ∧ acc = intL (((List.range n).map (dist (W.map fun p => (p.1, (1 + r) * p.2)) k)).take j)) ⟨rfl, rfl⟩ (fun _ _ _ _ _ => rfl) ?_ fun _ _ q => q) ?_
    · rintro j x acc h2 hx ⟨rfl, rfl⟩
      obtain ⟨hj, rfl⟩ := rowF_inv hx
      try simp (maxSteps := 4000000) only [ok_ret, ok_bnd, ok_lift, ok_var, ok_c, ok_bin, ok_un, ok_asB, ok_and, ok_or, ok_not, ok_chain, ok_nil, ok_cons, ok_tup, ok_lst, ok_fn, ok_tmp, ok_call, ok_meth, ok_tval, ok_tand, ok_tor, ok_tnot, ok_if, ok_pnone, ok_psome, ok_slice, ok_fresh, ok_lcx, ok_body, ok_true, ok_dtmp, ok_dval, ok_rng1, ok_rng2, ok_enum, ok_enumT, ok_zip, ok_gname, ok_gsnil, ok_gscons, ok_gtup, ok_gsub, fo_next, fo_seq, fo_asg, fo_expr, fo_ret, fo_retN, fo_if, fo_break, fo_cont, fo_par, fo_aug, fo_augS, fo_for, fo_body, vr_some, ra1, ra2, in_int, tr_bl, pa2, zp_two, sr_some, wk_tup, wk_rol, wk_str, oo_add, oo_addI, oo_sub, oo_mul, oo_fdiv, oo_mod, oo_pow, oo_shl, oo_shr, oo_and, oo_or, oo_neg, oo_inv, oo_le, oo_gt, oo_ge, oo_lt, oo_eq, oo_ne, oo_eqb, oo_is0, oo_isNot0, oo_nes, oo_eqs, oo_addT, oo_tup, oo_lst, oo_abs, oo_int, oo_intb, oo_max2, oo_min2, oo_max3, oo_min3, oo_lenT, oo_lenR, oo_gTuple, oo_gList, oo_gLen, oo_biT, oo_biR, oo_slT, oo_slR, oo_isaII, oo_isaIB, oo_isaIT, oo_isaIS, oo_isaBI, oo_isaBB, oo_isaBT, oo_isaBS, oo_isaNT, lo_lst, atI_0, atI_1, atI_2, ixN_0, ixN_1, or_ix, ot_ix, ol_ix, or_set, or_len, or_add, or_mul, or_append, or_isLst, or_bi, or_bl, or_sl, or_wk, or_sr, ot_sr, or_gtup, oo_neb, oo_isB, oo_isNotB, ok_lr1, ok_lr2, ok_tr1, ok_tr2, or_popAt, List.getElem?_cons_zero, List.getElem?_cons_succ, List.set_cons_zero, List.set_cons_succ, List.map_cons, List.map_nil, List.replicate_succ, List.replicate_zero, List.length_cons, List.length_nil, List.cons_append, List.nil_append, wipeD, if_true, if_false, Bool.false_eq_true, Nat.reduceAdd, Nat.reduceSub, Nat.reduceLeDiff, decide_eq_true_eq, true_and, and_true, Int.reduceNeg]
      refine ⟨.inl (by omega), ?_⟩
      rw [row_snoc hj, dist_fold]
      simp [intL]
    · rintro l h2 ⟨rfl, rfl⟩
      rw [show ((List.range n).map (dist (W.map fun p => (p.1, (1 + r) * p.2)) k)).take (intL ((List.range n).map (dist W k))).length = (List.range n).map (dist (W.map fun p => (p.1, (1 + r) * p.2)) k) from List.take_of_length_le (by rw [intL_len]; simp)]
      try simp (maxSteps := 4000000) only [ok_ret, ok_bnd, ok_lift, ok_var, ok_c, ok_bin, ok_un, ok_asB, ok_and, ok_or, ok_not, ok_chain, ok_nil, ok_cons, ok_tup, ok_lst, ok_fn, ok_tmp, ok_call, ok_meth, ok_tval, ok_tand, ok_tor, ok_tnot, ok_if, ok_pnone, ok_psome, ok_slice, ok_fresh, ok_lcx, ok_body, ok_true, ok_dtmp, ok_dval, ok_rng1, ok_rng2, ok_enum, ok_enumT, ok_zip, ok_gname, ok_gsnil, ok_gscons, ok_gtup, ok_gsub, fo_next, fo_seq, fo_asg, fo_expr, fo_ret, fo_retN, fo_if, fo_break, fo_cont, fo_par, fo_aug, fo_augS, fo_for, fo_body, vr_some, ra1, ra2, in_int, tr_bl, pa2, zp_two, sr_some, wk_tup, wk_rol, wk_str, oo_add, oo_addI, oo_sub, oo_mul, oo_fdiv, oo_mod, oo_pow, oo_shl, oo_shr, oo_and, oo_or, oo_neg, oo_inv, oo_le, oo_gt, oo_ge, oo_lt, oo_eq, oo_ne, oo_eqb, oo_is0, oo_isNot0, oo_nes, oo_eqs, oo_addT, oo_tup, oo_lst, oo_abs, oo_int, oo_intb, oo_max2, oo_min2, oo_max3, oo_min3, oo_lenT, oo_lenR, oo_gTuple, oo_gList, oo_gLen, oo_biT, oo_biR, oo_slT, oo_slR, oo_isaII, oo_isaIB, oo_isaIT, oo_isaIS, oo_isaBI, oo_isaBB, oo_isaBT, oo_isaBS, oo_isaNT, lo_lst, atI_0, atI_1, atI_2, ixN_0, ixN_1, or_ix, ot_ix, ol_ix, or_set, or_len, or_add, or_mul, or_append, or_isLst, or_bi, or_bl, or_sl, or_wk, or_sr, ot_sr, or_gtup, oo_neb, oo_isB, oo_isNotB, ok_lr1, ok_lr2, ok_tr1, ok_tr2, or_popAt, List.getElem?_cons_zero, List.getElem?_cons_succ, List.set_cons_zero, List.set_cons_succ, List.map_cons, List.map_nil, List.replicate_succ, List.replicate_zero, List.length_cons, List.length_nil, List.cons_append, List.nil_append, wipeD, if_true, if_false, Bool.false_eq_true, Nat.reduceAdd, Nat.reduceSub, Nat.reduceLeDiff, decide_eq_true_eq, true_and, and_true, Int.reduceNeg]
      have e : (putT n (W.map fun p => (p.1, (1 + r) * p.2)))[k]? = some ((List.range n).map (dist (W.map fun p => (p.1, (1 + r) * p.2)) k)) := by simp [putT, hk]
      rw [List.take_add_one, e]
      simp
  rintro l h3 ⟨rfl, rfl⟩
  rw [List.length_map, List.take_of_length_le (by simp [putT])]
  try simp (maxSteps := 4000000) only [ok_ret, ok_bnd, ok_lift, ok_var, ok_c, ok_bin, ok_un, ok_asB, ok_and, ok_or, ok_not, ok_chain, ok_nil, ok_cons, ok_tup, ok_lst, ok_fn, ok_tmp, ok_call, ok_meth, ok_tval, ok_tand, ok_tor, ok_tnot, ok_if, ok_pnone, ok_psome, ok_slice, ok_fresh, ok_lcx, ok_body, ok_true, ok_dtmp, ok_dval, ok_rng1, ok_rng2, ok_enum, ok_enumT, ok_zip, ok_gname, ok_gsnil, ok_gscons, ok_gtup, ok_gsub, fo_next, fo_seq, fo_asg, fo_expr, fo_ret, fo_retN, fo_if, fo_break, fo_cont, fo_par, fo_aug, fo_augS, fo_for, fo_body, vr_some, ra1, ra2, in_int, tr_bl, pa2, zp_two, sr_some, wk_tup, wk_rol, wk_str, oo_add, oo_addI, oo_sub, oo_mul, oo_fdiv, oo_mod, oo_pow, oo_shl, oo_shr, oo_and, oo_or, oo_neg, oo_inv, oo_le, oo_gt, oo_ge, oo_lt, oo_eq, oo_ne, oo_eqb, oo_is0, oo_isNot0, oo_nes, oo_eqs, oo_addT, oo_tup, oo_lst, oo_abs, oo_int, oo_intb, oo_max2, oo_min2, oo_max3, oo_min3, oo_lenT, oo_lenR, oo_gTuple, oo_gList, oo_gLen, oo_biT, oo_biR, oo_slT, oo_slR, oo_isaII, oo_isaIB, oo_isaIT, oo_isaIS, oo_isaBI, oo_isaBB, oo_isaBT, oo_isaBS, oo_isaNT, lo_lst, atI_0, atI_1, atI_2, ixN_0, ixN_1, or_ix, ot_ix, ol_ix, or_set, or_len, or_add, or_mul, or_append, or_isLst, or_bi, or_bl, or_sl, or_wk, or_sr, ot_sr, or_gtup, oo_neb, oo_isB, oo_isNotB, ok_lr1, ok_lr2, ok_tr1, ok_tr2, or_popAt, List.getElem?_cons_zero, List.getElem?_cons_succ, List.set_cons_zero, List.set_cons_succ, List.map_cons, List.map_nil, List.replicate_succ, List.replicate_zero, List.length_cons, List.length_nil, List.cons_append, List.nil_append, wipeD, if_true, if_false, Bool.false_eq_true, Nat.reduceAdd, Nat.reduceSub, Nat.reduceLeDiff, decide_eq_true_eq, true_and, and_true, Int.reduceNeg]
  refine OK.mono (put_spec n8 fun p hp => ?_) ?_
  · obtain ⟨q, hq, rfl⟩ := List.mem_map.mp hp
    exact ⟨(hW q hq).1.2, (hW q hq).1.1.2⟩
  rintro v h4 ⟨rfl, k4⟩
  rw [show PV.tup ((putT n (W.map fun p => (p.1, (1 + r) * p.2))).map fun r => PV.tup (intL r)) = tabV (putT n (W.map fun p => (p.1, (1 + r) * p.2))) from rfl, oo_eqTab]
  rw [decide_eq_true rfl]
  exact ⟨rfl, (k2.trans k4).deck D1, g1.trans (k2.trans k4).grow⟩
theorem W_map {W : List (List Nat × Int)} {t : List (List Nat)} (e : W.map Prod.fst = t) {p : List Nat × Int} (hp : p ∈ W) : p.1 ∈ t := by
  rw [← e]; exact List.mem_map.mpr ⟨p, hp, rfl⟩
theorem W_len {W : List (List Nat × Int)} {t : List (List Nat)} (e : W.map Prod.fst = t) : W.length = t.length := by rw [← e, List.length_map]
theorem law_true (ns : List Int) (hn : ns.length ≤ 63) : ∃ h', flaw [.rol (ns.map PV.int)] [] = .ok (.bl true) h' := by
  have key : OK (flaw [.rol (intL ns)] []) fun v _ => v = .bl true := by
    unfold flaw
    rw [ok_fn0]
    unfold blaw
    try simp (maxSteps := 4000000) only [ok_ret, ok_bnd, ok_lift, ok_var, ok_c, ok_bin, ok_un, ok_asB, ok_and, ok_or, ok_not, ok_chain, ok_nil, ok_cons, ok_tup, ok_lst, ok_fn, ok_tmp, ok_call, ok_meth, ok_tval, ok_tand, ok_tor, ok_tnot, ok_if, ok_pnone, ok_psome, ok_slice, ok_fresh, ok_lcx, ok_body, ok_true, ok_dtmp, ok_dval, ok_rng1, ok_rng2, ok_enum, ok_enumT, ok_zip, ok_gname, ok_gsnil, ok_gscons, ok_gtup, ok_gsub, fo_next, fo_seq, fo_asg, fo_expr, fo_ret, fo_retN, fo_if, fo_break, fo_cont, fo_par, fo_aug, fo_augS, fo_for, fo_body, vr_some, ra1, ra2, in_int, tr_bl, pa2, zp_two, sr_some, wk_tup, wk_rol, wk_str, oo_add, oo_addI, oo_sub, oo_mul, oo_fdiv, oo_mod, oo_pow, oo_shl, oo_shr, oo_and, oo_or, oo_neg, oo_inv, oo_le, oo_gt, oo_ge, oo_lt, oo_eq, oo_ne, oo_eqb, oo_is0, oo_isNot0, oo_nes, oo_eqs, oo_addT, oo_tup, oo_lst, oo_abs, oo_int, oo_intb, oo_max2, oo_min2, oo_max3, oo_min3, oo_lenT, oo_lenR, oo_gTuple, oo_gList, oo_gLen, oo_biT, oo_biR, oo_slT, oo_slR, oo_isaII, oo_isaIB, oo_isaIT, oo_isaIS, oo_isaBI, oo_isaBB, oo_isaBT, oo_isaBS, oo_isaNT, lo_lst, atI_0, atI_1, atI_2, ixN_0, ixN_1, or_ix, ot_ix, ol_ix, or_set, or_len, or_add, or_mul, or_append, or_isLst, or_bi, or_bl, or_sl, or_wk, or_sr, ot_sr, or_gtup, oo_neb, oo_isB, oo_isNotB, ok_lr1, ok_lr2, ok_tr1, ok_tr2, or_popAt, List.getElem?_cons_zero, List.getElem?_cons_succ, List.set_cons_zero, List.set_cons_succ, List.map_cons, List.map_nil, List.replicate_succ, List.replicate_zero, List.length_cons, List.length_nil, List.cons_append, List.nil_append, wipeD, if_true, if_false, Bool.false_eq_true, Nat.reduceAdd, Nat.reduceSub, Nat.reduceLeDiff, decide_eq_true_eq, true_and, and_true, Int.reduceNeg]
    refine OK.mono (deck_spec hn) ?_
    rintro v h ⟨d, c, rfl, D⟩
    try simp (maxSteps := 4000000) only [ok_ret, ok_bnd, ok_lift, ok_var, ok_c, ok_bin, ok_un, ok_asB, ok_and, ok_or, ok_not, ok_chain, ok_nil, ok_cons, ok_tup, ok_lst, ok_fn, ok_tmp, ok_call, ok_meth, ok_tval, ok_tand, ok_tor, ok_tnot, ok_if, ok_pnone, ok_psome, ok_slice, ok_fresh, ok_lcx, ok_body, ok_true, ok_dtmp, ok_dval, ok_rng1, ok_rng2, ok_enum, ok_enumT, ok_zip, ok_gname, ok_gsnil, ok_gscons, ok_gtup, ok_gsub, fo_next, fo_seq, fo_asg, fo_expr, fo_ret, fo_retN, fo_if, fo_break, fo_cont, fo_par, fo_aug, fo_augS, fo_for, fo_body, vr_some, ra1, ra2, in_int, tr_bl, pa2, zp_two, sr_some, wk_tup, wk_rol, wk_str, oo_add, oo_addI, oo_sub, oo_mul, oo_fdiv, oo_mod, oo_pow, oo_shl, oo_shr, oo_and, oo_or, oo_neg, oo_inv, oo_le, oo_gt, oo_ge, oo_lt, oo_eq, oo_ne, oo_eqb, oo_is0, oo_isNot0, oo_nes, oo_eqs, oo_addT, oo_tup, oo_lst, oo_abs, oo_int, oo_intb, oo_max2, oo_min2, oo_max3, oo_min3, oo_lenT, oo_lenR, oo_gTuple, oo_gList, oo_gLen, oo_biT, oo_biR, oo_slT, oo_slR, oo_isaII, oo_isaIB, oo_isaIT, oo_isaIS, oo_isaBI, oo_isaBB, oo_isaBT, oo_isaBS, oo_isaNT, lo_lst, atI_0, atI_1, atI_2, ixN_0, ixN_1, or_ix, ot_ix, ol_ix, or_set, or_len, or_add, or_mul, or_append, or_isLst, or_bi, or_bl, or_sl, or_wk, or_sr, ot_sr, or_gtup, oo_neb, oo_isB, oo_isNotB, ok_lr1, ok_lr2, ok_tr1, ok_tr2, or_popAt, List.getElem?_cons_zero, List.getElem?_cons_succ, List.set_cons_zero, List.set_cons_succ, List.map_cons, List.map_nil, List.replicate_succ, List.replicate_zero, List.length_cons, List.length_nil, List.cons_append, List.nil_append, wipeD, if_true, if_false, Bool.false_eq_true, Nat.reduceAdd, Nat.reduceSub, Nat.reduceLeDiff, decide_eq_true_eq, true_and, and_true, Int.reduceNeg]
    refine ⟨by decide, ?_⟩
    refine fo_loop0 (fun i v h' => i ≤ 5 ∧ (∃ x2 x3 x4 x5 x6 x7 x8 x9 : Option PV, v = [some (.rol (intL ns)), some (.ref d), x2, x3, x4, x5, x6, x7, x8, x9]) ∧ Deck d c (2000 * i) h') ⟨by omega, ⟨_, _, _, _, _, _, _, _, rfl⟩, D.mono (by simp)⟩ (fun _ _ _ _ _ => rfl) ?_ ?_
    · rintro i x v h1 hx ⟨_, ⟨x2, x3, x4, x5, x6, x7, x8, x9, rfl⟩, D1⟩
      obtain ⟨hi, rfl⟩ := rng0_get hx
      have hi5 : i < 5 := by simpa using hi
      try simp (maxSteps := 4000000) only [ok_ret, ok_bnd, ok_lift, ok_var, ok_c, ok_bin, ok_un, ok_asB, ok_and, ok_or, ok_not, ok_chain, ok_nil, ok_cons, ok_tup, ok_lst, ok_fn, ok_tmp, ok_call, ok_meth, ok_tval, ok_tand, ok_tor, ok_tnot, ok_if, ok_pnone, ok_psome, ok_slice, ok_fresh, ok_lcx, ok_body, ok_true, ok_dtmp, ok_dval, ok_rng1, ok_rng2, ok_enum, ok_enumT, ok_zip, ok_gname, ok_gsnil, ok_gscons, ok_gtup, ok_gsub, fo_next, fo_seq, fo_asg, fo_expr, fo_ret, fo_retN, fo_if, fo_break, fo_cont, fo_par, fo_aug, fo_augS, fo_for, fo_body, vr_some, ra1, ra2, in_int, tr_bl, pa2, zp_two, sr_some, wk_tup, wk_rol, wk_str, oo_add, oo_addI, oo_sub, oo_mul, oo_fdiv, oo_mod, oo_pow, oo_shl, oo_shr, oo_and, oo_or, oo_neg, oo_inv, oo_le, oo_gt, oo_ge, oo_lt, oo_eq, oo_ne, oo_eqb, oo_is0, oo_isNot0, oo_nes, oo_eqs, oo_addT, oo_tup, oo_lst, oo_abs, oo_int, oo_intb, oo_max2, oo_min2, oo_max3, oo_min3, oo_lenT, oo_lenR, oo_gTuple, oo_gList, oo_gLen, oo_biT, oo_biR, oo_slT, oo_slR, oo_isaII, oo_isaIB, oo_isaIT, oo_isaIS, oo_isaBI, oo_isaBB, oo_isaBT, oo_isaBS, oo_isaNT, lo_lst, atI_0, atI_1, atI_2, ixN_0, ixN_1, or_ix, ot_ix, ol_ix, or_set, or_len, or_add, or_mul, or_append, or_isLst, or_bi, or_bl, or_sl, or_wk, or_sr, ot_sr, or_gtup, oo_neb, oo_isB, oo_isNotB, ok_lr1, ok_lr2, ok_tr1, ok_tr2, or_popAt, List.getElem?_cons_zero, List.getElem?_cons_succ, List.set_cons_zero, List.set_cons_succ, List.map_cons, List.map_nil, List.replicate_succ, List.replicate_zero, List.length_cons, List.length_nil, List.cons_append, List.nil_append, wipeD, if_true, if_false, Bool.false_eq_true, Nat.reduceAdd, Nat.reduceSub, Nat.reduceLeDiff, decide_eq_true_eq, true_and, and_true, Int.reduceNeg]
      refine OK.mono (draw_spec D1 (by decide) (by decide) (by omega)) ?_
      rintro v h2 ⟨r, rfl, r0, r8, D2, g2⟩
      obtain ⟨n, en⟩ : ∃ n : Nat, 1 + r = (n : Nat) := ⟨(1 + r).toNat, by omega⟩
      rw [oo_add, en]
      have n1 : 1 ≤ n := by omega
      have n8 : n ≤ 8 := by omega
      try simp (maxSteps := 4000000) only [ok_ret, ok_bnd, ok_lift, ok_var, ok_c, ok_bin, ok_un, ok_asB, ok_and, ok_or, ok_not, ok_chain, ok_nil, ok_cons, ok_tup, ok_lst, ok_fn, ok_tmp, ok_call, ok_meth, ok_tval, ok_tand, ok_tor, ok_tnot, ok_if, ok_pnone, ok_psome, ok_slice, ok_fresh, ok_lcx, ok_body, ok_true, ok_dtmp, ok_dval, ok_rng1, ok_rng2, ok_enum, ok_enumT, ok_zip, ok_gname, ok_gsnil, ok_gscons, ok_gtup, ok_gsub, fo_next, fo_seq, fo_asg, fo_expr, fo_ret, fo_retN, fo_if, fo_break, fo_cont, fo_par, fo_aug, fo_augS, fo_for, fo_body, vr_some, ra1, ra2, in_int, tr_bl, pa2, zp_two, sr_some, wk_tup, wk_rol, wk_str, oo_add, oo_addI, oo_sub, oo_mul, oo_fdiv, oo_mod, oo_pow, oo_shl, oo_shr, oo_and, oo_or, oo_neg, oo_inv, oo_le, oo_gt, oo_ge, oo_lt, oo_eq, oo_ne, oo_eqb, oo_is0, oo_isNot0, oo_nes, oo_eqs, oo_addT, oo_tup, oo_lst, oo_abs, oo_int, oo_intb, oo_max2, oo_min2, oo_max3, oo_min3, oo_lenT, oo_lenR, oo_gTuple, oo_gList, oo_gLen, oo_biT, oo_biR, oo_slT, oo_slR, oo_isaII, oo_isaIB, oo_isaIT, oo_isaIS, oo_isaBI, oo_isaBB, oo_isaBT, oo_isaBS, oo_isaNT, lo_lst, atI_0, atI_1, atI_2, ixN_0, ixN_1, or_ix, ot_ix, ol_ix, or_set, or_len, or_add, or_mul, or_append, or_isLst, or_bi, or_bl, or_sl, or_wk, or_sr, ot_sr, or_gtup, oo_neb, oo_isB, oo_isNotB, ok_lr1, ok_lr2, ok_tr1, ok_tr2, or_popAt, List.getElem?_cons_zero, List.getElem?_cons_succ, List.set_cons_zero, List.set_cons_succ, List.map_cons, List.map_nil, List.replicate_succ, List.replicate_zero, List.length_cons, List.length_nil, List.cons_append, List.nil_append, wipeD, if_true, if_false, Bool.false_eq_true, Nat.reduceAdd, Nat.reduceSub, Nat.reduceLeDiff, decide_eq_true_eq, true_and, and_true, Int.reduceNeg]
      refine OK.mono (sides_spec n1 n8) ?_
      rintro v h3 ⟨a, t, k, rfl, rfl, ge, ha, tl, _, hr⟩
      obtain ⟨_, _, D', _⟩ := id D2
      have hd := hg_lt D'.dk
      have hc := hg_lt D'.cl
      have D3 := D2.app (x := k)
      have ad : a ≠ d := by omega
      have ac : a ≠ c := by omega
      generalize h2 ++ k = h3 at ha D3
      clear D' ge hd hc
      try simp (maxSteps := 4000000) only [ok_ret, ok_bnd, ok_lift, ok_var, ok_c, ok_bin, ok_un, ok_asB, ok_and, ok_or, ok_not, ok_chain, ok_nil, ok_cons, ok_tup, ok_lst, ok_fn, ok_tmp, ok_call, ok_meth, ok_tval, ok_tand, ok_tor, ok_tnot, ok_if, ok_pnone, ok_psome, ok_slice, ok_fresh, ok_lcx, ok_body, ok_true, ok_dtmp, ok_dval, ok_rng1, ok_rng2, ok_enum, ok_enumT, ok_zip, ok_gname, ok_gsnil, ok_gscons, ok_gtup, ok_gsub, fo_next, fo_seq, fo_asg, fo_expr, fo_ret, fo_retN, fo_if, fo_break, fo_cont, fo_par, fo_aug, fo_augS, fo_for, fo_body, vr_some, ra1, ra2, in_int, tr_bl, pa2, zp_two, sr_some, wk_tup, wk_rol, wk_str, oo_add, oo_addI, oo_sub, oo_mul, oo_fdiv, oo_mod, oo_pow, oo_shl, oo_shr, oo_and, oo_or, oo_neg, oo_inv, oo_le, oo_gt, oo_ge, oo_lt, oo_eq, oo_ne, oo_eqb, oo_is0, oo_isNot0, oo_nes, oo_eqs, oo_addT, oo_tup, oo_lst, oo_abs, oo_int, oo_intb, oo_max2, oo_min2, oo_max3, oo_min3, oo_lenT, oo_lenR, oo_gTuple, oo_gList, oo_gLen, oo_biT, oo_biR, oo_slT, oo_slR, oo_isaII, oo_isaIB, oo_isaIT, oo_isaIS, oo_isaBI, oo_isaBB, oo_isaBT, oo_isaBS, oo_isaNT, lo_lst, atI_0, atI_1, atI_2, ixN_0, ixN_1, or_ix, ot_ix, ol_ix, or_set, or_len, or_add, or_mul, or_append, or_isLst, or_bi, or_bl, or_sl, or_wk, or_sr, ot_sr, or_gtup, oo_neb, oo_isB, oo_isNotB, ok_lr1, ok_lr2, ok_tr1, ok_tr2, or_popAt, List.getElem?_cons_zero, List.getElem?_cons_succ, List.set_cons_zero, List.set_cons_succ, List.map_cons, List.map_nil, List.replicate_succ, List.replicate_zero, List.length_cons, List.length_nil, List.cons_append, List.nil_append, wipeD, if_true, if_false, Bool.false_eq_true, Nat.reduceAdd, Nat.reduceSub, Nat.reduceLeDiff, decide_eq_true_eq, true_and, and_true, Int.reduceNeg]
      refine OK.mono (some_spec (by omega) D3 ad ac ha tl) ?_
      rintro v h4 ⟨D4, g4, p, t', rfl, ge, hp, sub⟩
      obtain ⟨_, _, D', _⟩ := id D3
      have hd := hg_lt D'.dk
      have hc := hg_lt D'.cl
      have pd : p ≠ d := by omega
      have pc : p ≠ c := by omega
      have ha4 := g4.2 _ _ ad ac ha
      have tl' : t'.length ≤ 128 := Nat.le_trans sub.length_le tl
      have hr' : ∀ r ∈ t', (r.length ≤ 8 ∧ ∀ x ∈ r, x < n) ∧ r.Nodup := fun r hm => hr r (sub.subset hm)
      clear D' ge hd hc
      try simp (maxSteps := 4000000) only [ok_ret, ok_bnd, ok_lift, ok_var, ok_c, ok_bin, ok_un, ok_asB, ok_and, ok_or, ok_not, ok_chain, ok_nil, ok_cons, ok_tup, ok_lst, ok_fn, ok_tmp, ok_call, ok_meth, ok_tval, ok_tand, ok_tor, ok_tnot, ok_if, ok_pnone, ok_psome, ok_slice, ok_fresh, ok_lcx, ok_body, ok_true, ok_dtmp, ok_dval, ok_rng1, ok_rng2, ok_enum, ok_enumT, ok_zip, ok_gname, ok_gsnil, ok_gscons, ok_gtup, ok_gsub, fo_next, fo_seq, fo_asg, fo_expr, fo_ret, fo_retN, fo_if, fo_break, fo_cont, fo_par, fo_aug, fo_augS, fo_for, fo_body, vr_some, ra1, ra2, in_int, tr_bl, pa2, zp_two, sr_some, wk_tup, wk_rol, wk_str, oo_add, oo_addI, oo_sub, oo_mul, oo_fdiv, oo_mod, oo_pow, oo_shl, oo_shr, oo_and, oo_or, oo_neg, oo_inv, oo_le, oo_gt, oo_ge, oo_lt, oo_eq, oo_ne, oo_eqb, oo_is0, oo_isNot0, oo_nes, oo_eqs, oo_addT, oo_tup, oo_lst, oo_abs, oo_int, oo_intb, oo_max2, oo_min2, oo_max3, oo_min3, oo_lenT, oo_lenR, oo_gTuple, oo_gList, oo_gLen, oo_biT, oo_biR, oo_slT, oo_slR, oo_isaII, oo_isaIB, oo_isaIT, oo_isaIS, oo_isaBI, oo_isaBB, oo_isaBT, oo_isaBS, oo_isaNT, lo_lst, atI_0, atI_1, atI_2, ixN_0, ixN_1, or_ix, ot_ix, ol_ix, or_set, or_len, or_add, or_mul, or_append, or_isLst, or_bi, or_bl, or_sl, or_wk, or_sr, ot_sr, or_gtup, oo_neb, oo_isB, oo_isNotB, ok_lr1, ok_lr2, ok_tr1, ok_tr2, or_popAt, List.getElem?_cons_zero, List.getElem?_cons_succ, List.set_cons_zero, List.set_cons_succ, List.map_cons, List.map_nil, List.replicate_succ, List.replicate_zero, List.length_cons, List.length_nil, List.cons_append, List.nil_append, wipeD, if_true, if_false, Bool.false_eq_true, Nat.reduceAdd, Nat.reduceSub, Nat.reduceLeDiff, decide_eq_true_eq, true_and, and_true, Int.reduceNeg]
      refine OK.mono (weigh_spec (by omega) D4 pd pc hp tl') ?_
      rintro v h5 ⟨D5, g5, W, rfl, eW, hW⟩
      have ha5 := g5.2 _ _ ad ac ha4
      have hp5 := g5.2 _ _ pd pc hp
      try simp (maxSteps := 4000000) only [ok_ret, ok_bnd, ok_lift, ok_var, ok_c, ok_bin, ok_un, ok_asB, ok_and, ok_or, ok_not, ok_chain, ok_nil, ok_cons, ok_tup, ok_lst, ok_fn, ok_tmp, ok_call, ok_meth, ok_tval, ok_tand, ok_tor, ok_tnot, ok_if, ok_pnone, ok_psome, ok_slice, ok_fresh, ok_lcx, ok_body, ok_true, ok_dtmp, ok_dval, ok_rng1, ok_rng2, ok_enum, ok_enumT, ok_zip, ok_gname, ok_gsnil, ok_gscons, ok_gtup, ok_gsub, fo_next, fo_seq, fo_asg, fo_expr, fo_ret, fo_retN, fo_if, fo_break, fo_cont, fo_par, fo_aug, fo_augS, fo_for, fo_body, vr_some, ra1, ra2, in_int, tr_bl, pa2, zp_two, sr_some, wk_tup, wk_rol, wk_str, oo_add, oo_addI, oo_sub, oo_mul, oo_fdiv, oo_mod, oo_pow, oo_shl, oo_shr, oo_and, oo_or, oo_neg, oo_inv, oo_le, oo_gt, oo_ge, oo_lt, oo_eq, oo_ne, oo_eqb, oo_is0, oo_isNot0, oo_nes, oo_eqs, oo_addT, oo_tup, oo_lst, oo_abs, oo_int, oo_intb, oo_max2, oo_min2, oo_max3, oo_min3, oo_lenT, oo_lenR, oo_gTuple, oo_gList, oo_gLen, oo_biT, oo_biR, oo_slT, oo_slR, oo_isaII, oo_isaIB, oo_isaIT, oo_isaIS, oo_isaBI, oo_isaBB, oo_isaBT, oo_isaBS, oo_isaNT, lo_lst, atI_0, atI_1, atI_2, ixN_0, ixN_1, or_ix, ot_ix, ol_ix, or_set, or_len, or_add, or_mul, or_append, or_isLst, or_bi, or_bl, or_sl, or_wk, or_sr, ot_sr, or_gtup, oo_neb, oo_isB, oo_isNotB, ok_lr1, ok_lr2, ok_tr1, ok_tr2, or_popAt, List.getElem?_cons_zero, List.getElem?_cons_succ, List.set_cons_zero, List.set_cons_succ, List.map_cons, List.map_nil, List.replicate_succ, List.replicate_zero, List.length_cons, List.length_nil, List.cons_append, List.nil_append, wipeD, if_true, if_false, Bool.false_eq_true, Nat.reduceAdd, Nat.reduceSub, Nat.reduceLeDiff, decide_eq_true_eq, true_and, and_true, Int.reduceNeg]
      refine OK.mono (weigh_spec (by omega) D5 ad ac ha5 tl) ?_
      rintro v h6 ⟨D6, g6, V, rfl, eV, hV⟩
      have ha6 := g6.2 _ _ ad ac ha5
      have hp6 := g6.2 _ _ pd pc hp5
      have L : (h6 ++ [VO.lst [PV.tup [], .tup (W.map wV), .tup (V.map wV)]])[h6.length]? = some (.lst [PV.tup [], .tup (W.map wV), .tup (V.map wV)]) := hg_new
      have D7 := D6.app (x := [VO.lst [PV.tup [], .tup (W.map wV), .tup (V.map wV)]])
      have hp7 : (h6 ++ [VO.lst [PV.tup [], .tup (W.map wV), .tup (V.map wV)]])[p]? = some (.lst (t'.map sideV)) := hg_app hp6
      have lWt := W_len eW
      have okW : ∀ q ∈ W, (q.1.length ≤ 8 ∧ ∀ x ∈ q.1, x < n) ∧ q.1.Nodup := fun q hq => hr' _ (W_map eW hq)
      have okW2 : ∀ q ∈ W, 0 ≤ q.2 ∧ q.2 ≤ 10 ^ 12 := fun q hq => by have := hW q hq; omega
      have each : ∀ x ∈ [PV.tup [], .tup (W.map wV), .tup (V.map wV)], ∃ X : List (List Nat × Int), x = .tup (X.map wV) ∧ X.length ≤ 128 ∧ (∀ q ∈ X, (q.1.length ≤ 8 ∧ ∀ x ∈ q.1, x < n) ∧ q.1.Nodup) ∧ ∀ q ∈ X, 0 ≤ q.2 ∧ q.2 ≤ 10 ^ 12 := by
        intro x hx
        simp only [List.mem_cons, List.not_mem_nil, or_false] at hx
        rcases hx with rfl | rfl | rfl
        · exact ⟨[], rfl, by simp, by simp, by simp⟩
        · exact ⟨W, rfl, by omega, okW, okW2⟩
        · exact ⟨V, rfl, by rw [W_len eV]; exact tl, fun q hq => hr _ (W_map eV hq), fun q hq => by have := hV q hq; omega⟩
      try simp (maxSteps := 4000000) only [ok_ret, ok_bnd, ok_lift, ok_var, ok_c, ok_bin, ok_un, ok_asB, ok_and, ok_or, ok_not, ok_chain, ok_nil, ok_cons, ok_tup, ok_lst, ok_fn, ok_tmp, ok_call, ok_meth, ok_tval, ok_tand, ok_tor, ok_tnot, ok_if, ok_pnone, ok_psome, ok_slice, ok_fresh, ok_lcx, ok_body, ok_true, ok_dtmp, ok_dval, ok_rng1, ok_rng2, ok_enum, ok_enumT, ok_zip, ok_gname, ok_gsnil, ok_gscons, ok_gtup, ok_gsub, fo_next, fo_seq, fo_asg, fo_expr, fo_ret, fo_retN, fo_if, fo_break, fo_cont, fo_par, fo_aug, fo_augS, fo_for, fo_body, vr_some, ra1, ra2, in_int, tr_bl, pa2, zp_two, sr_some, wk_tup, wk_rol, wk_str, oo_add, oo_addI, oo_sub, oo_mul, oo_fdiv, oo_mod, oo_pow, oo_shl, oo_shr, oo_and, oo_or, oo_neg, oo_inv, oo_le, oo_gt, oo_ge, oo_lt, oo_eq, oo_ne, oo_eqb, oo_is0, oo_isNot0, oo_nes, oo_eqs, oo_addT, oo_tup, oo_lst, oo_abs, oo_int, oo_intb, oo_max2, oo_min2, oo_max3, oo_min3, oo_lenT, oo_lenR, oo_gTuple, oo_gList, oo_gLen, oo_biT, oo_biR, oo_slT, oo_slR, oo_isaII, oo_isaIB, oo_isaIT, oo_isaIS, oo_isaBI, oo_isaBB, oo_isaBT, oo_isaBS, oo_isaNT, lo_lst, atI_0, atI_1, atI_2, ixN_0, ixN_1, or_ix, ot_ix, ol_ix, or_set, or_len, or_add, or_mul, or_append, or_isLst, or_bi, or_bl, or_sl, or_wk, or_sr, ot_sr, or_gtup, oo_neb, oo_isB, oo_isNotB, ok_lr1, ok_lr2, ok_tr1, ok_tr2, or_popAt, List.getElem?_cons_zero, List.getElem?_cons_succ, List.set_cons_zero, List.set_cons_succ, List.map_cons, List.map_nil, List.replicate_succ, List.replicate_zero, List.length_cons, List.length_nil, List.cons_append, List.nil_append, wipeD, if_true, if_false, Bool.false_eq_true, Nat.reduceAdd, Nat.reduceSub, Nat.reduceLeDiff, decide_eq_true_eq, true_and, and_true, Int.reduceNeg, L]
      generalize h6.length = l at L
      generalize h6 ++ [VO.lst [PV.tup [], .tup (W.map wV), .tup (V.map wV)]] = h7 at L D7 hp7
      refine fo_loop0 (fun j v h' => (∃ x7 : Option PV, v = [some (.rol (intL ns)), some (.ref d), some (.int (i : Nat)), some (.int (n : Nat)), some (.ref a), some (.ref p), some (.tup (W.map wV)), x7, x8, x9]) ∧ Keep h7 h') ⟨⟨_, rfl⟩, .refl⟩ ?_ ?_ ?_
      · rintro j v h' _ ⟨_, K⟩
        exact srcOk_one (K.2 _ _ L)
      · rintro j x v h8 hx ⟨⟨y7, rfl⟩, K8⟩
        obtain ⟨X, rfl, lX, o1, o2⟩ := each x (List.mem_of_getElem? hx)
        try simp (maxSteps := 4000000) only [ok_ret, ok_bnd, ok_lift, ok_var, ok_c, ok_bin, ok_un, ok_asB, ok_and, ok_or, ok_not, ok_chain, ok_nil, ok_cons, ok_tup, ok_lst, ok_fn, ok_tmp, ok_call, ok_meth, ok_tval, ok_tand, ok_tor, ok_tnot, ok_if, ok_pnone, ok_psome, ok_slice, ok_fresh, ok_lcx, ok_body, ok_true, ok_dtmp, ok_dval, ok_rng1, ok_rng2, ok_enum, ok_enumT, ok_zip, ok_gname, ok_gsnil, ok_gscons, ok_gtup, ok_gsub, fo_next, fo_seq, fo_asg, fo_expr, fo_ret, fo_retN, fo_if, fo_break, fo_cont, fo_par, fo_aug, fo_augS, fo_for, fo_body, vr_some, ra1, ra2, in_int, tr_bl, pa2, zp_two, sr_some, wk_tup, wk_rol, wk_str, oo_add, oo_addI, oo_sub, oo_mul, oo_fdiv, oo_mod, oo_pow, oo_shl, oo_shr, oo_and, oo_or, oo_neg, oo_inv, oo_le, oo_gt, oo_ge, oo_lt, oo_eq, oo_ne, oo_eqb, oo_is0, oo_isNot0, oo_nes, oo_eqs, oo_addT, oo_tup, oo_lst, oo_abs, oo_int, oo_intb, oo_max2, oo_min2, oo_max3, oo_min3, oo_lenT, oo_lenR, oo_gTuple, oo_gList, oo_gLen, oo_biT, oo_biR, oo_slT, oo_slR, oo_isaII, oo_isaIB, oo_isaIT, oo_isaIS, oo_isaBI, oo_isaBB, oo_isaBT, oo_isaBS, oo_isaNT, lo_lst, atI_0, atI_1, atI_2, ixN_0, ixN_1, or_ix, ot_ix, ol_ix, or_set, or_len, or_add, or_mul, or_append, or_isLst, or_bi, or_bl, or_sl, or_wk, or_sr, ot_sr, or_gtup, oo_neb, oo_isB, oo_isNotB, ok_lr1, ok_lr2, ok_tr1, ok_tr2, or_popAt, List.getElem?_cons_zero, List.getElem?_cons_succ, List.set_cons_zero, List.set_cons_succ, List.map_cons, List.map_nil, List.replicate_succ, List.replicate_zero, List.length_cons, List.length_nil, List.cons_append, List.nil_append, wipeD, if_true, if_false, Bool.false_eq_true, Nat.reduceAdd, Nat.reduceSub, Nat.reduceLeDiff, decide_eq_true_eq, true_and, and_true, Int.reduceNeg]
        refine OK.mono (right_spec n1 n8 lX o1 o2) ?_
        rintro v h9 ⟨rfl, K9⟩
        try simp (maxSteps := 4000000) only [ok_ret, ok_bnd, ok_lift, ok_var, ok_c, ok_bin, ok_un, ok_asB, ok_and, ok_or, ok_not, ok_chain, ok_nil, ok_cons, ok_tup, ok_lst, ok_fn, ok_tmp, ok_call, ok_meth, ok_tval, ok_tand, ok_tor, ok_tnot, ok_if, ok_pnone, ok_psome, ok_slice, ok_fresh, ok_lcx, ok_body, ok_true, ok_dtmp, ok_dval, ok_rng1, ok_rng2, ok_enum, ok_enumT, ok_zip, ok_gname, ok_gsnil, ok_gscons, ok_gtup, ok_gsub, fo_next, fo_seq, fo_asg, fo_expr, fo_ret, fo_retN, fo_if, fo_break, fo_cont, fo_par, fo_aug, fo_augS, fo_for, fo_body, vr_some, ra1, ra2, in_int, tr_bl, pa2, zp_two, sr_some, wk_tup, wk_rol, wk_str, oo_add, oo_addI, oo_sub, oo_mul, oo_fdiv, oo_mod, oo_pow, oo_shl, oo_shr, oo_and, oo_or, oo_neg, oo_inv, oo_le, oo_gt, oo_ge, oo_lt, oo_eq, oo_ne, oo_eqb, oo_is0, oo_isNot0, oo_nes, oo_eqs, oo_addT, oo_tup, oo_lst, oo_abs, oo_int, oo_intb, oo_max2, oo_min2, oo_max3, oo_min3, oo_lenT, oo_lenR, oo_gTuple, oo_gList, oo_gLen, oo_biT, oo_biR, oo_slT, oo_slR, oo_isaII, oo_isaIB, oo_isaIT, oo_isaIS, oo_isaBI, oo_isaBB, oo_isaBT, oo_isaBS, oo_isaNT, lo_lst, atI_0, atI_1, atI_2, ixN_0, ixN_1, or_ix, ot_ix, ol_ix, or_set, or_len, or_add, or_mul, or_append, or_isLst, or_bi, or_bl, or_sl, or_wk, or_sr, ot_sr, or_gtup, oo_neb, oo_isB, oo_isNotB, ok_lr1, ok_lr2, ok_tr1, ok_tr2, or_popAt, List.getElem?_cons_zero, List.getElem?_cons_succ, List.set_cons_zero, List.set_cons_succ, List.map_cons, List.map_nil, List.replicate_succ, List.replicate_zero, List.length_cons, List.length_nil, List.cons_append, List.nil_append, wipeD, if_true, if_false, Bool.false_eq_true, Nat.reduceAdd, Nat.reduceSub, Nat.reduceLeDiff, decide_eq_true_eq, true_and, and_true, Int.reduceNeg, Bool.not_true]
        exact ⟨⟨_, rfl⟩, K8.trans K9⟩
      · rintro v h8 ⟨⟨y7, rfl⟩, K8⟩
        have D8 := K8.deck D7
        have hp8 := K8.2 _ _ hp7
        try simp (maxSteps := 4000000) only [ok_ret, ok_bnd, ok_lift, ok_var, ok_c, ok_bin, ok_un, ok_asB, ok_and, ok_or, ok_not, ok_chain, ok_nil, ok_cons, ok_tup, ok_lst, ok_fn, ok_tmp, ok_call, ok_meth, ok_tval, ok_tand, ok_tor, ok_tnot, ok_if, ok_pnone, ok_psome, ok_slice, ok_fresh, ok_lcx, ok_body, ok_true, ok_dtmp, ok_dval, ok_rng1, ok_rng2, ok_enum, ok_enumT, ok_zip, ok_gname, ok_gsnil, ok_gscons, ok_gtup, ok_gsub, fo_next, fo_seq, fo_asg, fo_expr, fo_ret, fo_retN, fo_if, fo_break, fo_cont, fo_par, fo_aug, fo_augS, fo_for, fo_body, vr_some, ra1, ra2, in_int, tr_bl, pa2, zp_two, sr_some, wk_tup, wk_rol, wk_str, oo_add, oo_addI, oo_sub, oo_mul, oo_fdiv, oo_mod, oo_pow, oo_shl, oo_shr, oo_and, oo_or, oo_neg, oo_inv, oo_le, oo_gt, oo_ge, oo_lt, oo_eq, oo_ne, oo_eqb, oo_is0, oo_isNot0, oo_nes, oo_eqs, oo_addT, oo_tup, oo_lst, oo_abs, oo_int, oo_intb, oo_max2, oo_min2, oo_max3, oo_min3, oo_lenT, oo_lenR, oo_gTuple, oo_gList, oo_gLen, oo_biT, oo_biR, oo_slT, oo_slR, oo_isaII, oo_isaIB, oo_isaIT, oo_isaIS, oo_isaBI, oo_isaBB, oo_isaBT, oo_isaBS, oo_isaNT, lo_lst, atI_0, atI_1, atI_2, ixN_0, ixN_1, or_ix, ot_ix, ol_ix, or_set, or_len, or_add, or_mul, or_append, or_isLst, or_bi, or_bl, or_sl, or_wk, or_sr, ot_sr, or_gtup, oo_neb, oo_isB, oo_isNotB, ok_lr1, ok_lr2, ok_tr1, ok_tr2, or_popAt, List.getElem?_cons_zero, List.getElem?_cons_succ, List.set_cons_zero, List.set_cons_succ, List.map_cons, List.map_nil, List.replicate_succ, List.replicate_zero, List.length_cons, List.length_nil, List.cons_append, List.nil_append, wipeD, if_true, if_false, Bool.false_eq_true, Nat.reduceAdd, Nat.reduceSub, Nat.reduceLeDiff, decide_eq_true_eq, true_and, and_true, Int.reduceNeg, hp8]
        refine OK.mono (draw_spec D8 (by omega) (by rw [List.length_map]; omega) (by omega)) ?_
        rintro v h9 ⟨r, rfl, r0, r8, D9, g9⟩
        rw [List.length_map] at r8
        have hp9 := g9.2 _ _ pd pc hp8
        obtain ⟨m, rfl⟩ : ∃ m : Nat, r = (m : Nat) := ⟨r.toNat, by omega⟩
        have mW : m ≤ W.length := by omega
        try simp (maxSteps := 4000000) only [ok_ret, ok_bnd, ok_lift, ok_var, ok_c, ok_bin, ok_un, ok_asB, ok_and, ok_or, ok_not, ok_chain, ok_nil, ok_cons, ok_tup, ok_lst, ok_fn, ok_tmp, ok_call, ok_meth, ok_tval, ok_tand, ok_tor, ok_tnot, ok_if, ok_pnone, ok_psome, ok_slice, ok_fresh, ok_lcx, ok_body, ok_true, ok_dtmp, ok_dval, ok_rng1, ok_rng2, ok_enum, ok_enumT, ok_zip, ok_gname, ok_gsnil, ok_gscons, ok_gtup, ok_gsub, fo_next, fo_seq, fo_asg, fo_expr, fo_ret, fo_retN, fo_if, fo_break, fo_cont, fo_par, fo_aug, fo_augS, fo_for, fo_body, vr_some, ra1, ra2, in_int, tr_bl, pa2, zp_two, sr_some, wk_tup, wk_rol, wk_str, oo_add, oo_addI, oo_sub, oo_mul, oo_fdiv, oo_mod, oo_pow, oo_shl, oo_shr, oo_and, oo_or, oo_neg, oo_inv, oo_le, oo_gt, oo_ge, oo_lt, oo_eq, oo_ne, oo_eqb, oo_is0, oo_isNot0, oo_nes, oo_eqs, oo_addT, oo_tup, oo_lst, oo_abs, oo_int, oo_intb, oo_max2, oo_min2, oo_max3, oo_min3, oo_lenT, oo_lenR, oo_gTuple, oo_gList, oo_gLen, oo_biT, oo_biR, oo_slT, oo_slR, oo_isaII, oo_isaIB, oo_isaIT, oo_isaIS, oo_isaBI, oo_isaBB, oo_isaBT, oo_isaBS, oo_isaNT, lo_lst, atI_0, atI_1, atI_2, ixN_0, ixN_1, or_ix, ot_ix, ol_ix, or_set, or_len, or_add, or_mul, or_append, or_isLst, or_bi, or_bl, or_sl, or_wk, or_sr, ot_sr, or_gtup, oo_neb, oo_isB, oo_isNotB, ok_lr1, ok_lr2, ok_tr1, ok_tr2, or_popAt, List.getElem?_cons_zero, List.getElem?_cons_succ, List.set_cons_zero, List.set_cons_succ, List.map_cons, List.map_nil, List.replicate_succ, List.replicate_zero, List.length_cons, List.length_nil, List.cons_append, List.nil_append, wipeD, if_true, if_false, Bool.false_eq_true, Nat.reduceAdd, Nat.reduceSub, Nat.reduceLeDiff, decide_eq_true_eq, true_and, and_true, Int.reduceNeg, cut_lo (l := W.map wV) (c := m) (by rw [List.length_map]; exact mW), ← List.map_take]
        refine OK.mono (put_spec n8 fun q hq => ⟨(okW q ((List.take_sublist _ _).subset hq)).2, (okW q ((List.take_sublist _ _).subset hq)).1.2⟩) ?_
        rintro v h10 ⟨rfl, K10⟩
        try simp (maxSteps := 4000000) only [ok_ret, ok_bnd, ok_lift, ok_var, ok_c, ok_bin, ok_un, ok_asB, ok_and, ok_or, ok_not, ok_chain, ok_nil, ok_cons, ok_tup, ok_lst, ok_fn, ok_tmp, ok_call, ok_meth, ok_tval, ok_tand, ok_tor, ok_tnot, ok_if, ok_pnone, ok_psome, ok_slice, ok_fresh, ok_lcx, ok_body, ok_true, ok_dtmp, ok_dval, ok_rng1, ok_rng2, ok_enum, ok_enumT, ok_zip, ok_gname, ok_gsnil, ok_gscons, ok_gtup, ok_gsub, fo_next, fo_seq, fo_asg, fo_expr, fo_ret, fo_retN, fo_if, fo_break, fo_cont, fo_par, fo_aug, fo_augS, fo_for, fo_body, vr_some, ra1, ra2, in_int, tr_bl, pa2, zp_two, sr_some, wk_tup, wk_rol, wk_str, oo_add, oo_addI, oo_sub, oo_mul, oo_fdiv, oo_mod, oo_pow, oo_shl, oo_shr, oo_and, oo_or, oo_neg, oo_inv, oo_le, oo_gt, oo_ge, oo_lt, oo_eq, oo_ne, oo_eqb, oo_is0, oo_isNot0, oo_nes, oo_eqs, oo_addT, oo_tup, oo_lst, oo_abs, oo_int, oo_intb, oo_max2, oo_min2, oo_max3, oo_min3, oo_lenT, oo_lenR, oo_gTuple, oo_gList, oo_gLen, oo_biT, oo_biR, oo_slT, oo_slR, oo_isaII, oo_isaIB, oo_isaIT, oo_isaIS, oo_isaBI, oo_isaBB, oo_isaBT, oo_isaBS, oo_isaNT, lo_lst, atI_0, atI_1, atI_2, ixN_0, ixN_1, or_ix, ot_ix, ol_ix, or_set, or_len, or_add, or_mul, or_append, or_isLst, or_bi, or_bl, or_sl, or_wk, or_sr, ot_sr, or_gtup, oo_neb, oo_isB, oo_isNotB, ok_lr1, ok_lr2, ok_tr1, ok_tr2, or_popAt, List.getElem?_cons_zero, List.getElem?_cons_succ, List.set_cons_zero, List.set_cons_succ, List.map_cons, List.map_nil, List.replicate_succ, List.replicate_zero, List.length_cons, List.length_nil, List.cons_append, List.nil_append, wipeD, if_true, if_false, Bool.false_eq_true, Nat.reduceAdd, Nat.reduceSub, Nat.reduceLeDiff, decide_eq_true_eq, true_and, and_true, Int.reduceNeg, cut_hi (l := W.map wV) (c := m) (by rw [List.length_map]; exact mW), ← List.map_drop]
        refine OK.mono (put_spec n8 fun q hq => ⟨(okW q ((List.drop_sublist _ _).subset hq)).2, (okW q ((List.drop_sublist _ _).subset hq)).1.2⟩) ?_
        rintro v h11 ⟨rfl, K11⟩
        try simp (maxSteps := 4000000) only [ok_ret, ok_bnd, ok_lift, ok_var, ok_c, ok_bin, ok_un, ok_asB, ok_and, ok_or, ok_not, ok_chain, ok_nil, ok_cons, ok_tup, ok_lst, ok_fn, ok_tmp, ok_call, ok_meth, ok_tval, ok_tand, ok_tor, ok_tnot, ok_if, ok_pnone, ok_psome, ok_slice, ok_fresh, ok_lcx, ok_body, ok_true, ok_dtmp, ok_dval, ok_rng1, ok_rng2, ok_enum, ok_enumT, ok_zip, ok_gname, ok_gsnil, ok_gscons, ok_gtup, ok_gsub, fo_next, fo_seq, fo_asg, fo_expr, fo_ret, fo_retN, fo_if, fo_break, fo_cont, fo_par, fo_aug, fo_augS, fo_for, fo_body, vr_some, ra1, ra2, in_int, tr_bl, pa2, zp_two, sr_some, wk_tup, wk_rol, wk_str, oo_add, oo_addI, oo_sub, oo_mul, oo_fdiv, oo_mod, oo_pow, oo_shl, oo_shr, oo_and, oo_or, oo_neg, oo_inv, oo_le, oo_gt, oo_ge, oo_lt, oo_eq, oo_ne, oo_eqb, oo_is0, oo_isNot0, oo_nes, oo_eqs, oo_addT, oo_tup, oo_lst, oo_abs, oo_int, oo_intb, oo_max2, oo_min2, oo_max3, oo_min3, oo_lenT, oo_lenR, oo_gTuple, oo_gList, oo_gLen, oo_biT, oo_biR, oo_slT, oo_slR, oo_isaII, oo_isaIB, oo_isaIT, oo_isaIS, oo_isaBI, oo_isaBB, oo_isaBT, oo_isaBS, oo_isaNT, lo_lst, atI_0, atI_1, atI_2, ixN_0, ixN_1, or_ix, ot_ix, ol_ix, or_set, or_len, or_add, or_mul, or_append, or_isLst, or_bi, or_bl, or_sl, or_wk, or_sr, ot_sr, or_gtup, oo_neb, oo_isB, oo_isNotB, ok_lr1, ok_lr2, ok_tr1, ok_tr2, or_popAt, List.getElem?_cons_zero, List.getElem?_cons_succ, List.set_cons_zero, List.set_cons_succ, List.map_cons, List.map_nil, List.replicate_succ, List.replicate_zero, List.length_cons, List.length_nil, List.cons_append, List.nil_append, wipeD, if_true, if_false, Bool.false_eq_true, Nat.reduceAdd, Nat.reduceSub, Nat.reduceLeDiff, decide_eq_true_eq, true_and, and_true, Int.reduceNeg]
        refine OK.mono (plus_spec n8) ?_
        rintro v h12 ⟨rfl, K12⟩
        rw [List.take_append_drop]
        try simp (maxSteps := 4000000) only [ok_ret, ok_bnd, ok_lift, ok_var, ok_c, ok_bin, ok_un, ok_asB, ok_and, ok_or, ok_not, ok_chain, ok_nil, ok_cons, ok_tup, ok_lst, ok_fn, ok_tmp, ok_call, ok_meth, ok_tval, ok_tand, ok_tor, ok_tnot, ok_if, ok_pnone, ok_psome, ok_slice, ok_fresh, ok_lcx, ok_body, ok_true, ok_dtmp, ok_dval, ok_rng1, ok_rng2, ok_enum, ok_enumT, ok_zip, ok_gname, ok_gsnil, ok_gscons, ok_gtup, ok_gsub, fo_next, fo_seq, fo_asg, fo_expr, fo_ret, fo_retN, fo_if, fo_break, fo_cont, fo_par, fo_aug, fo_augS, fo_for, fo_body, vr_some, ra1, ra2, in_int, tr_bl, pa2, zp_two, sr_some, wk_tup, wk_rol, wk_str, oo_add, oo_addI, oo_sub, oo_mul, oo_fdiv, oo_mod, oo_pow, oo_shl, oo_shr, oo_and, oo_or, oo_neg, oo_inv, oo_le, oo_gt, oo_ge, oo_lt, oo_eq, oo_ne, oo_eqb, oo_is0, oo_isNot0, oo_nes, oo_eqs, oo_addT, oo_tup, oo_lst, oo_abs, oo_int, oo_intb, oo_max2, oo_min2, oo_max3, oo_min3, oo_lenT, oo_lenR, oo_gTuple, oo_gList, oo_gLen, oo_biT, oo_biR, oo_slT, oo_slR, oo_isaII, oo_isaIB, oo_isaIT, oo_isaIS, oo_isaBI, oo_isaBB, oo_isaBT, oo_isaBS, oo_isaNT, lo_lst, atI_0, atI_1, atI_2, ixN_0, ixN_1, or_ix, ot_ix, ol_ix, or_set, or_len, or_add, or_mul, or_append, or_isLst, or_bi, or_bl, or_sl, or_wk, or_sr, ot_sr, or_gtup, oo_neb, oo_isB, oo_isNotB, ok_lr1, ok_lr2, ok_tr1, ok_tr2, or_popAt, List.getElem?_cons_zero, List.getElem?_cons_succ, List.set_cons_zero, List.set_cons_succ, List.map_cons, List.map_nil, List.replicate_succ, List.replicate_zero, List.length_cons, List.length_nil, List.cons_append, List.nil_append, wipeD, if_true, if_false, Bool.false_eq_true, Nat.reduceAdd, Nat.reduceSub, Nat.reduceLeDiff, decide_eq_true_eq, true_and, and_true, Int.reduceNeg]
        refine OK.mono (put_spec n8 fun q hq => ⟨(okW q hq).2, (okW q hq).1.2⟩) ?_
        rintro v h13 ⟨rfl, K13⟩
        rw [oo_neTab, decide_eq_true rfl]
        try simp (maxSteps := 4000000) only [ok_ret, ok_bnd, ok_lift, ok_var, ok_c, ok_bin, ok_un, ok_asB, ok_and, ok_or, ok_not, ok_chain, ok_nil, ok_cons, ok_tup, ok_lst, ok_fn, ok_tmp, ok_call, ok_meth, ok_tval, ok_tand, ok_tor, ok_tnot, ok_if, ok_pnone, ok_psome, ok_slice, ok_fresh, ok_lcx, ok_body, ok_true, ok_dtmp, ok_dval, ok_rng1, ok_rng2, ok_enum, ok_enumT, ok_zip, ok_gname, ok_gsnil, ok_gscons, ok_gtup, ok_gsub, fo_next, fo_seq, fo_asg, fo_expr, fo_ret, fo_retN, fo_if, fo_break, fo_cont, fo_par, fo_aug, fo_augS, fo_for, fo_body, vr_some, ra1, ra2, in_int, tr_bl, pa2, zp_two, sr_some, wk_tup, wk_rol, wk_str, oo_add, oo_addI, oo_sub, oo_mul, oo_fdiv, oo_mod, oo_pow, oo_shl, oo_shr, oo_and, oo_or, oo_neg, oo_inv, oo_le, oo_gt, oo_ge, oo_lt, oo_eq, oo_ne, oo_eqb, oo_is0, oo_isNot0, oo_nes, oo_eqs, oo_addT, oo_tup, oo_lst, oo_abs, oo_int, oo_intb, oo_max2, oo_min2, oo_max3, oo_min3, oo_lenT, oo_lenR, oo_gTuple, oo_gList, oo_gLen, oo_biT, oo_biR, oo_slT, oo_slR, oo_isaII, oo_isaIB, oo_isaIT, oo_isaIS, oo_isaBI, oo_isaBB, oo_isaBT, oo_isaBS, oo_isaNT, lo_lst, atI_0, atI_1, atI_2, ixN_0, ixN_1, or_ix, ot_ix, ol_ix, or_set, or_len, or_add, or_mul, or_append, or_isLst, or_bi, or_bl, or_sl, or_wk, or_sr, ot_sr, or_gtup, oo_neb, oo_isB, oo_isNotB, ok_lr1, ok_lr2, ok_tr1, ok_tr2, or_popAt, List.getElem?_cons_zero, List.getElem?_cons_succ, List.set_cons_zero, List.set_cons_succ, List.map_cons, List.map_nil, List.replicate_succ, List.replicate_zero, List.length_cons, List.length_nil, List.cons_append, List.nil_append, wipeD, if_true, if_false, Bool.false_eq_true, Nat.reduceAdd, Nat.reduceSub, Nat.reduceLeDiff, decide_eq_true_eq, true_and, and_true, Int.reduceNeg, Bool.not_true]
        have K := ((K10.trans K11).trans K12).trans K13
        refine OK.mono (times_spec n1 n8 (by omega) (K.deck D9) pd pc (K.2 _ _ hp9) tl' hr') ?_
        rintro v h14 ⟨rfl, D14, _⟩
        try simp (maxSteps := 4000000) only [ok_ret, ok_bnd, ok_lift, ok_var, ok_c, ok_bin, ok_un, ok_asB, ok_and, ok_or, ok_not, ok_chain, ok_nil, ok_cons, ok_tup, ok_lst, ok_fn, ok_tmp, ok_call, ok_meth, ok_tval, ok_tand, ok_tor, ok_tnot, ok_if, ok_pnone, ok_psome, ok_slice, ok_fresh, ok_lcx, ok_body, ok_true, ok_dtmp, ok_dval, ok_rng1, ok_rng2, ok_enum, ok_enumT, ok_zip, ok_gname, ok_gsnil, ok_gscons, ok_gtup, ok_gsub, fo_next, fo_seq, fo_asg, fo_expr, fo_ret, fo_retN, fo_if, fo_break, fo_cont, fo_par, fo_aug, fo_augS, fo_for, fo_body, vr_some, ra1, ra2, in_int, tr_bl, pa2, zp_two, sr_some, wk_tup, wk_rol, wk_str, oo_add, oo_addI, oo_sub, oo_mul, oo_fdiv, oo_mod, oo_pow, oo_shl, oo_shr, oo_and, oo_or, oo_neg, oo_inv, oo_le, oo_gt, oo_ge, oo_lt, oo_eq, oo_ne, oo_eqb, oo_is0, oo_isNot0, oo_nes, oo_eqs, oo_addT, oo_tup, oo_lst, oo_abs, oo_int, oo_intb, oo_max2, oo_min2, oo_max3, oo_min3, oo_lenT, oo_lenR, oo_gTuple, oo_gList, oo_gLen, oo_biT, oo_biR, oo_slT, oo_slR, oo_isaII, oo_isaIB, oo_isaIT, oo_isaIS, oo_isaBI, oo_isaBB, oo_isaBT, oo_isaBS, oo_isaNT, lo_lst, atI_0, atI_1, atI_2, ixN_0, ixN_1, or_ix, ot_ix, ol_ix, or_set, or_len, or_add, or_mul, or_append, or_isLst, or_bi, or_bl, or_sl, or_wk, or_sr, ot_sr, or_gtup, oo_neb, oo_isB, oo_isNotB, ok_lr1, ok_lr2, ok_tr1, ok_tr2, or_popAt, List.getElem?_cons_zero, List.getElem?_cons_succ, List.set_cons_zero, List.set_cons_succ, List.map_cons, List.map_nil, List.replicate_succ, List.replicate_zero, List.length_cons, List.length_nil, List.cons_append, List.nil_append, wipeD, if_true, if_false, Bool.false_eq_true, Nat.reduceAdd, Nat.reduceSub, Nat.reduceLeDiff, decide_eq_true_eq, true_and, and_true, Int.reduceNeg, Bool.not_true]
        exact ⟨by omega, ⟨_, _, _, _, _, _, _, _, rfl⟩, D14.mono (by omega)⟩
    · rintro v h' ⟨_, ⟨x2, x3, x4, x5, x6, x7, x8, x9, rfl⟩, D'⟩
      try simp (maxSteps := 4000000) only [ok_ret, ok_bnd, ok_lift, ok_var, ok_c, ok_bin, ok_un, ok_asB, ok_and, ok_or, ok_not, ok_chain, ok_nil, ok_cons, ok_tup, ok_lst, ok_fn, ok_tmp, ok_call, ok_meth, ok_tval, ok_tand, ok_tor, ok_tnot, ok_if, ok_pnone, ok_psome, ok_slice, ok_fresh, ok_lcx, ok_body, ok_true, ok_dtmp, ok_dval, ok_rng1, ok_rng2, ok_enum, ok_enumT, ok_zip, ok_gname, ok_gsnil, ok_gscons, ok_gtup, ok_gsub, fo_next, fo_seq, fo_asg, fo_expr, fo_ret, fo_retN, fo_if, fo_break, fo_cont, fo_par, fo_aug, fo_augS, fo_for, fo_body, vr_some, ra1, ra2, in_int, tr_bl, pa2, zp_two, sr_some, wk_tup, wk_rol, wk_str, oo_add, oo_addI, oo_sub, oo_mul, oo_fdiv, oo_mod, oo_pow, oo_shl, oo_shr, oo_and, oo_or, oo_neg, oo_inv, oo_le, oo_gt, oo_ge, oo_lt, oo_eq, oo_ne, oo_eqb, oo_is0, oo_isNot0, oo_nes, oo_eqs, oo_addT, oo_tup, oo_lst, oo_abs, oo_int, oo_intb, oo_max2, oo_min2, oo_max3, oo_min3, oo_lenT, oo_lenR, oo_gTuple, oo_gList, oo_gLen, oo_biT, oo_biR, oo_slT, oo_slR, oo_isaII, oo_isaIB, oo_isaIT, oo_isaIS, oo_isaBI, oo_isaBB, oo_isaBT, oo_isaBS, oo_isaNT, lo_lst, atI_0, atI_1, atI_2, ixN_0, ixN_1, or_ix, ot_ix, ol_ix, or_set, or_len, or_add, or_mul, or_append, or_isLst, or_bi, or_bl, or_sl, or_wk, or_sr, ot_sr, or_gtup, oo_neb, oo_isB, oo_isNotB, ok_lr1, ok_lr2, ok_tr1, ok_tr2, or_popAt, List.getElem?_cons_zero, List.getElem?_cons_succ, List.set_cons_zero, List.set_cons_succ, List.map_cons, List.map_nil, List.replicate_succ, List.replicate_zero, List.length_cons, List.length_nil, List.cons_append, List.nil_append, wipeD, if_true, if_false, Bool.false_eq_true, Nat.reduceAdd, Nat.reduceSub, Nat.reduceLeDiff, decide_eq_true_eq, true_and, and_true, Int.reduceNeg]
  obtain ⟨v, h', e, rfl⟩ := key.get
  exact ⟨h', e⟩
end G

open PySem PySem.W PyProof.Rows
set_option maxHeartbeats 0 in
theorem PySem.Challenge.cw_thickwalls_k31_put_together_told_holds : PySem.Challenge.rw_thickwalls_k31_put_together_told.Holds := by
  w_on; o_law; k_head; (case hw => w_witness2)
  k_fill
  refine D.walk_D (l := PySem.Challenge.rw_thickwalls_k31_put_together_told) (n := 63) (k := 7) (x := "_law_script") (CX := fun _ => L2.CX0) (f := fun _ => G.flaw) rfl (by decide) rfl ⟨rfl, by decide, by decide⟩ (fun w h Y => PySem.W.kIn_of Y) ?F (fun _ ns hl => G.law_true ns hl) (fun _ _ _ _ _ h => h)
  case F =>
    intro w mg fa h KX gg hmg
    refine' G.all_mk KX gg hmg ?a0 ?l0 ?c0 ?k0 ?a1 ?l1 ?c1 ?k1 ?a2 ?l2 ?c2 ?k2 ?a3 ?l3 ?c3 ?k3 ?a4 ?l4 ?c4 ?k4 ?a5 ?l5 ?c5 ?k5 ?a6 ?l6 ?c6 ?k6 ?a7 ?l7 ?c7 ?k7 ?a8 ?l8 ?c8 ?k8 ?a9 ?l9 ?c9 ?k9 ?a10 ?l10 ?c10 ?k10 ?a11 ?l11 ?c11 ?k11 ?a12 ?l12 ?c12 ?k12 ?a13 ?l13 ?c13 ?k13 ?a14 ?l14 ?c14 ?k14 ?a15 ?l15 ?c15 ?k15 ?a16 ?l16 ?c16 ?k16 ?a17 ?l17 ?c17 ?k17 ?a18 ?l18 ?c18 ?k18 ?z0 ?z1 ?z2 ?z3 ?z4 ?z5 ?z6 ?z7 ?z8 ?z9 ?z10 ?z11 ?z12 ?y0 ?y1
    (case a0 => k_is)
    (case l0 => k_is)
    (case c0 => k_is)
    (case k0 => k_is)
    (case a1 => k_is)
    (case l1 => k_is)
    (case c1 => k_is)
    (case k1 => k_is)
    (case a2 => k_is)
    (case l2 => k_is)
    (case c2 => k_is)
    (case k2 => k_is)
    (case a3 => k_is)
    (case l3 => k_is)
    (case c3 => k_is)
    (case k3 => k_is)
    (case a4 => k_is)
    (case l4 => k_is)
    (case c4 => k_is)
    (case k4 => k_is)
    (case a5 => k_is)
    (case l5 => k_is)
    (case c5 => k_is)
    (case k5 => k_is)
    (case a6 => k_is)
    (case l6 => k_is)
    (case c6 => k_is)
    (case k6 => k_is)
    (case a7 => k_is)
    (case l7 => k_is)
    (case c7 => k_is)
    (case k7 => k_is)
    (case a8 => k_is)
    (case l8 => k_is)
    (case c8 => k_is)
    (case k8 => k_is)
    (case a9 => k_is)
    (case l9 => k_is)
    (case c9 => k_is)
    (case k9 => k_is)
    (case a10 => k_is)
    (case l10 => k_is)
    (case c10 => k_is)
    (case k10 => k_is)
    (case a11 => k_is)
    (case l11 => k_is)
    (case c11 => k_is)
    (case k11 => k_is)
    (case a12 => k_is)
    (case l12 => k_is)
    (case c12 => k_is)
    (case k12 => k_is)
    (case a13 => k_is)
    (case l13 => k_is)
    (case c13 => k_is)
    (case k13 => k_is)
    (case a14 => k_is)
    (case l14 => k_is)
    (case c14 => k_is)
    (case k14 => k_is)
    (case a15 => k_is)
    (case l15 => k_is)
    (case c15 => k_is)
    (case k15 => k_is)
    (case a16 => k_is)
    (case l16 => k_is)
    (case c16 => k_is)
    (case k16 => k_is)
    (case a17 => k_is)
    (case l17 => k_is)
    (case c17 => k_is)
    (case k17 => k_is)
    (case a18 => k_is)
    (case l18 => k_is)
    (case c18 => k_is)
    (case k18 => k_is)
    (case z0 => k_is)
    (case z1 => k_is)
    (case z2 => k_is)
    (case z3 => k_is)
    (case z4 => k_is)
    (case z5 => k_is)
    (case z6 => k_is)
    (case z7 => k_is)
    (case z8 => k_is)
    (case z9 => k_is)
    (case z10 => k_is)
    (case z11 => k_is)
    (case z12 => k_is)
    (case y0 => k_is)
    (case y1 => k_is)

