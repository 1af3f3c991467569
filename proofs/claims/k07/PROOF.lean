import PyProof.Rows.All
import Wide.All
import OpenK.AllK
import Wide.FinOn
import HandS.ForMost
import HandS.ForExc
import HandS.Walk
import HandS.NoneIn
import HandS.TupAny
import HandS.TupLe
import HandS.Wide
import HandS.Zip
import KE.GoesEnum
import KE.DataMinMax
import KE.DataAny
import KE.DataIsa
import HandS.Flt
import HandS.RaiseMore
import PyProof.ReprRoads
import HandS.Conv
import KE.SortData
import HandS.TupSets
import HandS.Strs
import HandS.TupMul
import PyProof.Rows.Chain
import HandS.Deep
import KE.DataFind
import KE.GoesMore
import HandS.Style
import KE.KDictPairs
import HandS.DictComp
import HandS.SetFor
import HandS.Style
import KE.KRevSl
import HandS.Iter
import KE.KRangeStep
import PySem.Challenge.RW_thickwalls_k07_sides_judged_and_told
set_option Elab.async false
set_option linter.all false
set_option autoImplicit false
set_option maxRecDepth 100000
/-! layer D, part 0: pure values over a virtual heap, and how they stand in the abstract heap -/
namespace D
open PySem PySem.Spec PyProof.Rows L2

/-- values: tuples inline, a mutable object by its virtual number -/
inductive PV where
  | non | bl (b : Bool) | int (i : Int) | str (x : Str) | tup (l : List PV) | rol (l : List PV) | ref (n : Nat) | con (v : V) | xt (l : List PV)

/-- what a virtual number stands for -/
inductive VO where
  | lst (l : List PV) | dT (kvs : List (List Int × PV)) | ins (C : Str) (fs : List (Str × PV)) | xd (D : Option Addr) (fs : List (Str × PV)) | dK (kvs : List (Str × PV))

abbrev VH := List VO
abbrev Sl := List (Option PV)

/-- an exception: its class, its own fields -/
structure PX where
  cls : Str
  fs : Option (List (Str × PV))

inductive R (α : Type) where
  | ok (a : α) (h : VH) | ex (e : PX) (h : VH) | bad

abbrev M (α : Type) := VH → R α
abbrev O (α : Type) := VH → Option (α × VH)

def ret {α : Type} (a : α) : M α := fun h => .ok a h
def bnd {α β : Type} (m : M α) (f : α → M β) : M β := fun h => match m h with
  | .ok a h' => f a h'
  | .ex e h' => .ex e h'
  | .bad => .bad
def bad {α : Type} : M α := fun _ => .bad
def liftO {α : Type} (f : O α) : M α := fun h => match f h with
  | some (a, h') => .ok a h'
  | none => .bad

/-- what may be a key of a dict: these tuples are held as plain tuples -/
def keyish (xs : List V) : Prop := xs ≠ [] ∧ ∀ x ∈ xs, ∃ i, x = V.int i
/-- what may be a dict's key -/
abbrev kok (k : List Int) : Prop := k ≠ []
theorem keyish_of {k : List Int} (h : kok k) : keyish (k.map V.int) := ⟨by simpa using h, fun x hx => by obtain ⟨i, _, rfl⟩ := List.mem_map.mp hx; exact ⟨i, rfl⟩⟩
/-- a tuple object without a dict of its own -/
def XO (o : Obj) : Prop := o.cls = .type "tuple" ∧ o.dict = none ∧ ∃ its n, o.data = .seq its n
/-- a tuple that is read at a and stays -/
def TupAt (K : PySem.W.Frag) (m : List Addr) (H : Hp) (a : Addr) (xs : List V) : Prop := a ∉ m ∧ (H a = some (.tup xs) ∨ (¬ keyish xs ∧ ∃ o, H a = some (.frz o (.tup xs))))
/-- a tuple whose object is known -/
def XtAt (K : PySem.W.Frag) (m : List Addr) (H : Hp) (a : Addr) (xs : List V) : Prop := a ∉ m ∧ ∃ o, H a = some (.frz o (.tup xs)) ∧ XO o
/-- a list that is read at a and never written -/
def LstAt (K : PySem.W.Frag) (m : List Addr) (H : Hp) (a : Addr) (xs : List V) : Prop := (a ∉ m ∧ ∃ o, H a = some (.frz o (.lst xs))) ∨ ∀ H', SqL K H' a xs

mutual
def Rep (K : PySem.W.Frag) (m : List Addr) (H : Hp) : PV → V → Prop
  | .non, x => x = .non
  | .bl b, x => x = .bl b
  | .int i, x => x = .int i
  | .str z, x => x = .str z
  | .con v, x => x = v
  | .ref n, x => ∃ a, x = .ref a ∧ m[n]? = some a
  | .tup l, x => ∃ a xs, x = .ref a ∧ TupAt K m H a xs ∧ Reps K m H l xs
  | .rol l, x => ∃ a xs, x = .ref a ∧ LstAt K m H a xs ∧ Reps K m H l xs
  | .xt l, x => ∃ a xs, x = .ref a ∧ XtAt K m H a xs ∧ Reps K m H l xs
def Reps (K : PySem.W.Frag) (m : List Addr) (H : Hp) : List PV → List V → Prop
  | [], xs => xs = []
  | v :: l, xs => ∃ x r, xs = x :: r ∧ Rep K m H v x ∧ Reps K m H l r
end

/-- the abstract heap has grown: what is tracked elsewhere stands -/
structure Ext (m : List Addr) (H : Hp) (m' : List Addr) (H' : Hp) : Prop where
  app : ∃ k, m' = m ++ k ∧ ∀ a ∈ k, H a = none ∨ (a ∉ m ∧ ∃ gs, H a = some (.xd gs))
  keep' : ∀ a o, H a = some o → (∀ gs, o ≠ .xd gs) → a ∉ m → H' a = some o
  live : ∀ a o, H a = some o → ∃ o', H' a = some o'
theorem Ext.keep {m m' : List Addr} {H H' : Hp} (p : Ext m H m' H') (a : Addr) (o : HO) (e : H a = some o) (n : a ∉ m) (nx : ∀ gs, o ≠ .xd gs := by intro _ z; cases z) : H' a = some o := p.keep' a o e nx n

theorem Ext.refl {m : List Addr} {H : Hp} : Ext m H m H := ⟨⟨[], by simp, by simp⟩, fun _ _ e _ _ => e, fun _ o e => ⟨o, e⟩⟩
theorem Ext.trans {m m1 m2 : List Addr} {H H1 H2 : Hp} (p : Ext m H m1 H1) (q : Ext m1 H1 m2 H2) : Ext m H m2 H2 := by
  obtain ⟨⟨k, rfl, hk⟩, kp, lp⟩ := p
  obtain ⟨⟨j, rfl, hj⟩, kq, lq⟩ := q
  refine ⟨⟨k ++ j, by simp, fun a ha => ?_⟩, fun a o e nx hn => ?_, fun a o e => ?_⟩
  · rcases List.mem_append.mp ha with h | h
    · exact hk a h
    · cases e : H a with
      | none => exact .inl rfl
      | some o =>
        rcases hj a h with z | ⟨hn, gs, z⟩
        · obtain ⟨o', e'⟩ := lp a o e
          rw [z] at e'; cases e'
        · have hm : a ∉ m := fun x => hn (List.mem_append.mpr (.inl x))
          refine .inr ⟨hm, ?_⟩
          by_cases nx : ∃ gs, o = .xd gs
          · obtain ⟨gs', rfl⟩ := nx
            exact ⟨gs', rfl⟩
          · have w := kp a o e (fun gs z => nx ⟨gs, z⟩) hm
            rw [z] at w
            cases w
            exact absurd ⟨gs, rfl⟩ nx
  · refine kq a o (kp a o e nx hn) nx fun hm => ?_
    rcases List.mem_append.mp hm with h | h
    · exact hn h
    · rcases hk a h with z | ⟨_, gs, z⟩
      · rw [z] at e; cases e
      · rw [z] at e; cases e; exact nx gs rfl
  · obtain ⟨o', e'⟩ := lp a o e
    exact lq a o' e'
theorem Ext.notin {m m1 : List Addr} {H H1 : Hp} (p : Ext m H m1 H1) {a : Addr} {o : HO} (e : H a = some o) (n : a ∉ m) (nx : ∀ gs, o ≠ .xd gs := by intro _ z; cases z) : a ∉ m1 := by
  obtain ⟨⟨k, rfl, hk⟩, _, _⟩ := p
  intro hm
  rcases List.mem_append.mp hm with h | h
  · exact n h
  · rcases hk a h with z | ⟨_, gs, z⟩
    · rw [z] at e; cases e
    · rw [z] at e; cases e; exact nx gs rfl
theorem Ext.get {m m1 : List Addr} {H H1 : Hp} (p : Ext m H m1 H1) {n : Nat} {a : Addr} (e : m[n]? = some a) : m1[n]? = some a := by
  obtain ⟨⟨k, rfl, _⟩, _, _⟩ := p
  rw [List.getElem?_append_left (List.getElem?_eq_some_iff.mp e).1]
  exact e
theorem TupAt.ext {K : PySem.W.Frag} {m m1 : List Addr} {H H1 : Hp} {a : Addr} {xs : List V} (t : TupAt K m H a xs) (p : Ext m H m1 H1) : TupAt K m1 H1 a xs := by
  obtain ⟨n, e | ⟨k, o, e⟩⟩ := t
  · exact ⟨p.notin e n, .inl (p.keep _ _ e n)⟩
  · exact ⟨p.notin e n, .inr ⟨k, o, p.keep _ _ e n⟩⟩
theorem XtAt.ext {K : PySem.W.Frag} {m m1 : List Addr} {H H1 : Hp} {a : Addr} {xs : List V} (t : XtAt K m H a xs) (p : Ext m H m1 H1) : XtAt K m1 H1 a xs := by
  obtain ⟨n, o, e, k⟩ := t
  exact ⟨p.notin e n, o, p.keep _ _ e n, k⟩
theorem XtAt.tup {K : PySem.W.Frag} {m : List Addr} {H : Hp} {a : Addr} {xs : List V} (t : XtAt K m H a xs) (k : ¬ keyish xs) : TupAt K m H a xs := by
  obtain ⟨n, o, e, _⟩ := t
  exact ⟨n, .inr ⟨k, o, e⟩⟩
theorem TupAt.key {K : PySem.W.Frag} {m : List Addr} {H : Hp} {a : Addr} {xs : List V} (t : TupAt K m H a xs) (k : keyish xs) : H a = some (.tup xs) := by
  obtain ⟨_, e | ⟨z, _⟩⟩ := t
  · exact e
  · exact absurd k z
theorem LstAt.ext {K : PySem.W.Frag} {m m1 : List Addr} {H H1 : Hp} {a : Addr} {xs : List V} (t : LstAt K m H a xs) (p : Ext m H m1 H1) : LstAt K m1 H1 a xs := by
  rcases t with ⟨n, o, e⟩ | t
  · exact .inl ⟨p.notin e n, o, p.keep _ _ e n⟩
  · exact .inr t
theorem TupAt.sq {K : PySem.W.Frag} {m : List Addr} {H : Hp} {a : Addr} {xs : List V} (t : TupAt K m H a xs) : SqT K H a xs := by
  obtain ⟨_, e | ⟨_, o, e⟩⟩ := t
  · exact .inl (.inl e)
  · exact .inl (.inr ⟨o, e⟩)
theorem LstAt.sq {K : PySem.W.Frag} {m : List Addr} {H : Hp} {a : Addr} {xs : List V} (t : LstAt K m H a xs) : SqL K H a xs := by
  rcases t with ⟨_, o, e⟩ | t
  · exact .inl (.inr ⟨o, e⟩)
  · exact t H
mutual
theorem Rep.ext {K : PySem.W.Frag} {m m1 : List Addr} {H H1 : Hp} (p : Ext m H m1 H1) : ∀ (v : PV) (x : V), Rep K m H v x → Rep K m1 H1 v x
  | .non, _, r => r
  | .bl _, _, r => r
  | .int _, _, r => r
  | .str _, _, r => r
  | .con _, _, r => r
  | .ref n, _, r => by
    simp only [Rep] at r ⊢
    obtain ⟨a, e, q⟩ := r
    exact ⟨a, e, p.get q⟩
  | .tup l, _, r => by
    simp only [Rep] at r ⊢
    obtain ⟨a, xs, e, q, t⟩ := r
    exact ⟨a, xs, e, q.ext p, Reps.ext p l xs t⟩
  | .rol l, _, r => by
    simp only [Rep] at r ⊢
    obtain ⟨a, xs, e, q, t⟩ := r
    exact ⟨a, xs, e, q.ext p, Reps.ext p l xs t⟩
  | .xt l, _, r => by
    simp only [Rep] at r ⊢
    obtain ⟨a, xs, e, q, t⟩ := r
    exact ⟨a, xs, e, q.ext p, Reps.ext p l xs t⟩
theorem Reps.ext {K : PySem.W.Frag} {m m1 : List Addr} {H H1 : Hp} (p : Ext m H m1 H1) : ∀ (l : List PV) (xs : List V), Reps K m H l xs → Reps K m1 H1 l xs
  | [], _, r => r
  | v :: l, _, r => by
    simp only [Reps] at r ⊢
    obtain ⟨x, t, e, r1, r2⟩ := r
    exact ⟨x, t, e, Rep.ext p v x r1, Reps.ext p l t r2⟩
end
section
variable {K : PySem.W.Frag} {m m1 : List Addr} {H H1 : Hp}
theorem Reps.nil : Reps K m H [] [] := rfl
theorem Reps.cons {v : PV} {x : V} {l : List PV} {xs : List V} (r : Rep K m H v x) (t : Reps K m H l xs) : Reps K m H (v :: l) (x :: xs) := by
  simp only [Reps]
  exact ⟨x, xs, rfl, r, t⟩
theorem Reps.nil_inv {xs : List V} (r : Reps K m H [] xs) : xs = [] := r
theorem Reps.cons_inv {v : PV} {l : List PV} {xs : List V} (r : Reps K m H (v :: l) xs) : ∃ x t, xs = x :: t ∧ Rep K m H v x ∧ Reps K m H l t := by
  simpa only [Reps] using r
theorem Reps.len : ∀ {l : List PV} {xs : List V}, Reps K m H l xs → xs.length = l.length
  | [], _, r => by rw [Reps.nil_inv r]; rfl
  | _ :: l, _, r => by
    obtain ⟨x, t, rfl, _, r2⟩ := Reps.cons_inv r
    simp [Reps.len r2]
theorem Reps.append : ∀ {l l' : List PV} {xs ys : List V}, Reps K m H l xs → Reps K m H l' ys → Reps K m H (l ++ l') (xs ++ ys)
  | [], _, _, _, r, q => by rw [Reps.nil_inv r]; exact q
  | _ :: l, _, _, _, r, q => by
    obtain ⟨x, t, rfl, r1, r2⟩ := Reps.cons_inv r
    exact Reps.cons r1 (Reps.append r2 q)
theorem Reps.get : ∀ {l : List PV} {xs : List V} {i : Nat} {v : PV}, Reps K m H l xs → l[i]? = some v → ∃ x, xs[i]? = some x ∧ Rep K m H v x
  | [], _, i, v, _, e => by simp at e
  | u :: l, _, 0, v, r, e => by
    obtain ⟨x, t, rfl, r1, _⟩ := Reps.cons_inv r
    simp at e; subst e
    exact ⟨x, rfl, r1⟩
  | u :: l, _, i + 1, v, r, e => by
    obtain ⟨x, t, rfl, _, r2⟩ := Reps.cons_inv r
    obtain ⟨y, e1, r3⟩ := Reps.get (i := i) r2 (by simpa using e)
    exact ⟨y, by simpa using e1, r3⟩
theorem Reps.of_get {l : List PV} {xs : List V} (hl : xs.length = l.length) (h : ∀ (i : Nat) v x, l[i]? = some v → xs[i]? = some x → Rep K m H v x) : Reps K m H l xs := by
  induction l generalizing xs with
  | nil => exact List.eq_nil_of_length_eq_zero (by simpa using hl)
  | cons v l ih =>
    cases xs with
    | nil => simp at hl
    | cons x xs =>
      refine Reps.cons (h 0 v x rfl rfl) (ih (by simpa using hl) fun i u y e1 e2 => h (i + 1) u y (by simpa using e1) (by simpa using e2))
theorem Reps.take {l : List PV} {xs : List V} (n : Nat) (r : Reps K m H l xs) : Reps K m H (l.take n) (xs.take n) := by
  induction l generalizing xs n with
  | nil => rw [Reps.nil_inv r]; simp [Reps.nil]
  | cons v l ih =>
    obtain ⟨x, t, rfl, r1, r2⟩ := Reps.cons_inv r
    cases n with
    | zero => exact Reps.nil
    | succ n => exact Reps.cons r1 (ih n r2)
theorem Reps.drop {l : List PV} {xs : List V} (n : Nat) (r : Reps K m H l xs) : Reps K m H (l.drop n) (xs.drop n) := by
  induction l generalizing xs n with
  | nil => rw [Reps.nil_inv r]; simp [Reps.nil]
  | cons v l ih =>
    obtain ⟨x, t, rfl, r1, r2⟩ := Reps.cons_inv r
    cases n with
    | zero => exact Reps.cons r1 r2
    | succ n => exact ih n r2
theorem Reps.set {l : List PV} {xs : List V} {v : PV} {x : V} (i : Nat) (r : Reps K m H l xs) (q : Rep K m H v x) : Reps K m H (l.set i v) (xs.set i x) := by
  induction l generalizing xs i with
  | nil => rw [Reps.nil_inv r]; exact Reps.nil
  | cons u l ih =>
    obtain ⟨y, t, rfl, r1, r2⟩ := Reps.cons_inv r
    cases i with
    | zero => exact Reps.cons q r2
    | succ i => exact Reps.cons r1 (ih i r2)
theorem Reps.reverse {l : List PV} {xs : List V} (r : Reps K m H l xs) : Reps K m H l.reverse xs.reverse := by
  induction l generalizing xs with
  | nil => rw [Reps.nil_inv r]; exact Reps.nil
  | cons v l ih =>
    obtain ⟨x, t, rfl, r1, r2⟩ := Reps.cons_inv r
    rw [List.reverse_cons, List.reverse_cons]
    exact (ih r2).append (Reps.cons r1 Reps.nil)
end

/-- what a name of the text's own module stands for (a class of the program) -/
def clsAt (K : PySem.W.Frag) (x : Str) : Option Addr := match PySem.W.nsIn K mainGlobals x with
  | some (some (.ref c)) => some c
  | _ => none
/-- what stands at the real address of an object -/
def ORep (K : PySem.W.Frag) (m : List Addr) (H : Hp) (a : Addr) : VO → Prop
  | .lst l => ∃ xs, H a = some (.lst xs) ∧ Reps K m H l xs
  | .dT kvs => ∃ ks : List (List Key × V), H a = some (.dT ks) ∧ ks.map (·.1) = kvs.map (fun p => p.1.map Sum.inl) ∧ Reps K m H (kvs.map (·.2)) (ks.map (·.2))
  | .ins C fs => ∃ c dx gs, clsAt K C = some c ∧ H a = some (.ins c dx gs) ∧ fs.map (·.1) = gs.map (·.1) ∧ Reps K m H (fs.map (·.2)) (gs.map (·.2))
  | .dK kvs => ∃ ks : List (Key × V), H a = some (.dK ks) ∧ ks.map (·.1) = kvs.map (fun p => Sum.inr p.1) ∧ Reps K m H (kvs.map (·.2)) (ks.map (·.2))
  | .xd D fs => ∃ gs, H a = some (.xd gs) ∧ (∀ d, D = some d → d = a) ∧ fs.map (·.1) = gs.map (·.1) ∧ Reps K m H (fs.map (·.2)) (gs.map (·.2))
/-- the virtual heap is held -/
structure SR (K : PySem.W.Frag) (m : List Addr) (h : VH) (H : Hp) : Prop where
  len : m.length = h.length
  nd : m.Nodup
  obj : ∀ (n : Nat) o a, h[n]? = some o → m[n]? = some a → ORep K m H a o
/-- what is tracked -/
abbrev MutX (u : HO) : Prop := Mut (some u) ∨ ∃ gs, u = .xd gs
theorem ORep.some_ {K : PySem.W.Frag} {m : List Addr} {H : Hp} {a : Addr} {o : VO} (r : ORep K m H a o) : ∃ u, H a = some u ∧ MutX u := by
  cases o with
  | lst l => obtain ⟨xs, e, _⟩ := r; exact ⟨_, e, .inl trivial⟩
  | dT l => obtain ⟨xs, e, _⟩ := r; exact ⟨_, e, .inl trivial⟩
  | ins C l => obtain ⟨c, dx, xs, _, e, _⟩ := r; exact ⟨_, e, .inl trivial⟩
  | xd D l => obtain ⟨xs, e, _⟩ := r; exact ⟨_, e, .inr ⟨_, rfl⟩⟩
  | dK l => obtain ⟨xs, e, _⟩ := r; exact ⟨_, e, .inl trivial⟩
section
variable {K : PySem.W.Frag} {m m1 : List Addr} {h : VH} {H H1 : Hp}
theorem SR.at (s : SR K m h H) {n : Nat} {o : VO} (e : h[n]? = some o) : ∃ a, m[n]? = some a ∧ ORep K m H a o := by
  have hn : n < m.length := by rw [s.len]; exact (List.getElem?_eq_some_iff.mp e).1
  exact ⟨m[n], List.getElem?_eq_getElem hn, s.obj n o _ e (List.getElem?_eq_getElem hn)⟩
theorem SR.mem (s : SR K m h H) {a : Addr} (ha : a ∈ m) : ∃ u, H a = some u ∧ MutX u := by
  obtain ⟨n, hn, rfl⟩ := List.getElem_of_mem ha
  have hn' : n < h.length := by rw [← s.len]; exact hn
  exact (s.obj n _ _ (List.getElem?_eq_getElem hn') (List.getElem?_eq_getElem hn)).some_
theorem SR.fresh (s : SR K m h H) {p : Addr} (e : H p = none) : p ∉ m := fun hm => by
  obtain ⟨u, e', _⟩ := s.mem hm
  rw [e] at e'; cases e'
/-- a heap that only grew elsewhere still holds it -/
theorem ORep.ext {a : Addr} {o : VO} (r : ORep K m H a o) (p : Ext m H m1 H1) (e : H1 a = H a) : ORep K m1 H1 a o := by
  cases o with
  | lst l => obtain ⟨xs, q, t⟩ := r; exact ⟨xs, e.trans q, t.ext p⟩
  | dT l => obtain ⟨xs, q, z, t⟩ := r; exact ⟨xs, e.trans q, z, t.ext p⟩
  | ins C l => obtain ⟨c, dx, xs, qc, q, z, t⟩ := r; exact ⟨c, dx, xs, qc, e.trans q, z, t.ext p⟩
  | xd D l => obtain ⟨xs, q, y, z, t⟩ := r; exact ⟨xs, e.trans q, y, z, t.ext p⟩
  | dK l => obtain ⟨xs, q, z, t⟩ := r; exact ⟨xs, e.trans q, z, t.ext p⟩
theorem Ext.upd_new {m : List Addr} {H : Hp} {p : Addr} {o : HO} (e : H p = none) : Ext m H m (upd H p o) :=
  ⟨⟨[], by simp, by simp⟩, fun a u q _ _ => by rw [upd_ne (ne_of_none q e)]; exact q, fun a u q => ⟨u, by rw [upd_ne (ne_of_none q e)]; exact q⟩⟩
/-- something new that is not tracked by the virtual heap -/
theorem SR.more (s : SR K m h H) {p : Addr} {o : HO} (e : H p = none) : SR K m h (upd H p o) :=
  ⟨s.len, s.nd, fun n u a e1 e2 => (s.obj n u a e1 e2).ext (.upd_new e) (by
    obtain ⟨w, q, _⟩ := s.mem (List.mem_of_getElem? e2)
    rw [upd_ne (ne_of_none q e)])⟩
/-- a new tuple -/
theorem SR.tup (s : SR K m h H) {p : Addr} {l : List PV} {xs : List V} (e : H p = none) (r : Reps K m H l xs) : Rep K m (upd H p (.tup xs)) (.tup l) (.ref p) := by
  simp only [Rep]
  exact ⟨p, xs, rfl, ⟨s.fresh e, .inl upd_same⟩, r.ext (.upd_new e)⟩
theorem Ext.upd_add {m : List Addr} {H : Hp} {p : Addr} {o : HO} (e : H p = none) : Ext m H (m ++ [p]) (upd H p o) :=
  ⟨⟨[p], rfl, fun a ha => .inl (by rw [List.mem_singleton.mp ha]; exact e)⟩, fun a u q _ _ => by rw [upd_ne (ne_of_none q e)]; exact q, fun a u q => ⟨u, by rw [upd_ne (ne_of_none q e)]; exact q⟩⟩
/-- a new object of the virtual heap -/
theorem SR.add (s : SR K m h H) {p : Addr} {o : HO} {w : VO} (e : H p = none) (r : ORep K (m ++ [p]) (upd H p o) p w) : SR K (m ++ [p]) (h ++ [w]) (upd H p o) := by
  refine ⟨by simp [s.len], ?_, fun n u a e1 e2 => ?_⟩
  · rw [List.nodup_append]
    refine ⟨s.nd, by simp, fun a ha b hb => ?_⟩
    rw [List.mem_singleton.mp hb]
    rintro rfl
    exact s.fresh e ha
  · by_cases hn : n < h.length
    · rw [List.getElem?_append_left hn] at e1
      rw [List.getElem?_append_left (by rw [s.len]; exact hn)] at e2
      refine (s.obj n u a e1 e2).ext (.upd_add e) ?_
      obtain ⟨w, q, _⟩ := s.mem (List.mem_of_getElem? e2)
      rw [upd_ne (ne_of_none q e)]
    · have hm : m.length ≤ n := by rw [s.len]; omega
      rw [List.getElem?_append_right (by omega)] at e1
      rw [List.getElem?_append_right hm] at e2
      have en : n - h.length = 0 := by
        have := (List.getElem?_eq_some_iff.mp e1).1
        simp at this; omega
      have en2 : n - m.length = 0 := by rw [s.len]; exact en
      rw [en] at e1; rw [en2] at e2
      simp at e1 e2
      subst e1 e2
      exact r
theorem SR.addLst (s : SR K m h H) {p : Addr} {l : List PV} {xs : List V} (e : H p = none) (r : Reps K m H l xs) : SR K (m ++ [p]) (h ++ [.lst l]) (upd H p (.lst xs)) :=
  s.add e ⟨xs, upd_same, r.ext (.upd_add e)⟩
theorem Ext.upd_set {m : List Addr} {H : Hp} {a : Addr} {o : HO} (ha : a ∈ m) : Ext m H m (upd H a o) :=
  ⟨⟨[], by simp, by simp⟩, fun b u q _ hb => by rw [upd_ne (fun z => hb (by rw [z]; exact ha))]; exact q, fun b u q => by
    by_cases z : b = a
    · subst z; exact ⟨o, upd_same⟩
    · exact ⟨u, by rw [upd_ne z]; exact q⟩⟩
/-- an object is written -/
theorem SR.put (s : SR K m h H) {n : Nat} {a : Addr} {o : HO} {w : VO} (e : m[n]? = some a) (r : ORep K m (upd H a o) a w) : SR K m (h.set n w) (upd H a o) := by
  refine ⟨by simp [s.len], s.nd, fun k u b e1 e2 => ?_⟩
  by_cases hk : k = n
  · subst hk
    rw [e] at e2; cases e2
    have hn : k < h.length := by rw [← s.len]; exact (List.getElem?_eq_some_iff.mp e).1
    rw [List.getElem?_set_self hn] at e1
    cases e1
    exact r
  · rw [List.getElem?_set_ne (Ne.symm hk)] at e1
    refine (s.obj k u b e1 e2).ext (.upd_set (List.mem_of_getElem? e)) ?_
    refine upd_ne fun z => hk ?_
    subst z
    exact nd_ix s.nd e2 e
theorem SR.putLst (s : SR K m h H) {n : Nat} {a : Addr} {l : List PV} {xs : List V} (e : m[n]? = some a) (r : Reps K m H l xs) : SR K m (h.set n (.lst l)) (upd H a (.lst xs)) :=
  s.put e ⟨xs, upd_same, r.ext (.upd_set (List.mem_of_getElem? e))⟩
end

/-- the slots -/
structure SlD (K : PySem.W.Frag) (m : List Addr) (H : Hp) (v : Sl) (σ : L2.St) : Prop where
  len : v.length = σ.length
  at_ : ∀ (i : Nat) u, v[i]? = some (some u) → ∃ x, σ[i]? = some (some x) ∧ Rep K m H u x
section
variable {K : PySem.W.Frag} {m m1 : List Addr} {H H1 : Hp} {v : Sl} {σ : L2.St}
theorem SlD.ext (s : SlD K m H v σ) (p : Ext m H m1 H1) : SlD K m1 H1 v σ := ⟨s.len, fun i u e => let ⟨x, q, r⟩ := s.at_ i u e; ⟨x, q, r.ext p⟩⟩
theorem SlD.set (s : SlD K m H v σ) {u : PV} {x : V} (i : Nat) (r : Rep K m H u x) : SlD K m H (v.set i (some u)) (σ.set i (some x)) := by
  refine ⟨by simp [s.len], fun j w e => ?_⟩
  by_cases hj : j = i
  · subst hj
    by_cases hl : j < v.length
    · rw [List.getElem?_set_self hl] at e
      cases e
      exact ⟨x, by rw [List.getElem?_set_self (by rw [← s.len]; exact hl)], r⟩
    · rw [List.getElem?_eq_none (by simp; omega)] at e; cases e
  · rw [List.getElem?_set_ne (Ne.symm hj)] at e
    rw [List.getElem?_set_ne (Ne.symm hj)]
    exact s.at_ j w e
theorem SlD.none_ (s : SlD K m H v σ) (i : Nat) : SlD K m H (v.set i none) (σ.set i none) := by
  refine ⟨by simp [s.len], fun j w e => ?_⟩
  by_cases hj : j = i
  · subst hj
    by_cases hl : j < v.length
    · rw [List.getElem?_set_self hl] at e; cases e
    · rw [List.getElem?_eq_none (by simp; omega)] at e; cases e
  · rw [List.getElem?_set_ne (Ne.symm hj)] at e
    rw [List.getElem?_set_ne (Ne.symm hj)]
    exact s.at_ j w e
def wipeD (σ : Sl) : List Nat → Sl
  | [] => σ
  | i :: is => (wipeD σ is).set i none
theorem SlD.wipe (s : SlD K m H v σ) : ∀ is : List Nat, SlD K m H (wipeD v is) (L2.wipe σ is)
  | [] => s
  | i :: is => (SlD.wipe s is).none_ i
end

/-- an exception as it flies -/
def XRep (K : PySem.W.Frag) (m : List Addr) (H : Hp) (e : PX) (d : Option Addr) : Prop :=
  match e.fs, d with
  | none, none => True
  | some fs, some a => ∃ gs, H a = some (.xd gs) ∧ a ∉ m ∧ fs.map (·.1) = gs.map (·.1) ∧ Reps K m H (fs.map (·.2)) (gs.map (·.2))
  | _, _ => False

/-- what is wanted of an exception, by its class's name -/
def WN (K : PySem.W.Frag) (W : WX) (x : Str) (d : Option Addr) (σ : L2.St) (H : Hp) : Prop := ∃ c, clsAt K x = some c ∧ W (.ref c) d σ H
section
variable {α β : Type} {K : PySem.W.Frag} {W : WX} {σ : L2.St} {m : List Addr} {H : Hp}
/-- what is wanted behind a run -/
def Post (K : PySem.W.Frag) (W : WX) (σ : L2.St) (m : List Addr) (H : Hp) (r : R α) (Q : List Addr → Hp → VH → α → Prop) : Prop :=
  match r with
  | .ok v h' => ∀ m' H', Ext m H m' H' → SR K m' h' H' → Q m' H' h' v
  | .ex e h' => ∀ m' H' d, Ext m H m' H' → SR K m' h' H' → XRep K m' H' e d → WN K W e.cls d σ H'
  | .bad => False
theorem Post.mono {r : R α} {Q Q' : List Addr → Hp → VH → α → Prop} (p : Post K W σ m H r Q) (i : ∀ m' H' h' v, Ext m H m' H' → SR K m' h' H' → Q m' H' h' v → Q' m' H' h' v) : Post K W σ m H r Q' := by
  cases r with
  | ok v h => exact fun m' H' e s => i m' H' h v e s (p m' H' e s)
  | ex e h => exact p
  | bad => exact p
theorem Post.seq {a : M α} {f : α → M β} {h : VH} {Q : List Addr → Hp → VH → β → Prop} (p : Post K W σ m H (bnd a f h) Q) :
    Post K W σ m H (a h) fun m1 H1 h1 v => Post K W σ m1 H1 (f v h1) Q := by
  unfold bnd at p
  cases e : a h with
  | ok v h1 =>
    rw [e] at p
    simp only at p
    intro m1 H1 x1 s1
    cases e2 : f v h1 with
    | ok u h2 => rw [e2] at p; exact fun m2 H2 x2 s2 => p m2 H2 (x1.trans x2) s2
    | ex u h2 => rw [e2] at p; exact fun m2 H2 d x2 s2 => p m2 H2 d (x1.trans x2) s2
    | bad => rw [e2] at p; exact p
  | ex u h1 => rw [e] at p; exact p
  | bad => rw [e] at p; exact p
theorem Post.ret {v : α} {h : VH} {Q : List Addr → Hp → VH → α → Prop} (p : Post K W σ m H (ret v h) Q) (s : SR K m h H) : Q m H h v := p m H .refl s
theorem Post.lift {f : O α} {h : VH} {Q : List Addr → Hp → VH → α → Prop} (p : Post K W σ m H (liftO f h) Q) : ∃ v h', f h = some (v, h') ∧ ∀ m' H', Ext m H m' H' → SR K m' h' H' → Q m' H' h' v := by
  unfold liftO at p
  cases e : f h with
  | none => rw [e] at p; exact p.elim
  | some x =>
    obtain ⟨v, h'⟩ := x
    rw [e] at p
    exact ⟨v, h', rfl, p⟩
theorem Post.bad {h : VH} {Q : List Addr → Hp → VH → α → Prop} (p : Post K W σ m H (bad h) Q) : False := p
end

/-! ### the judgements -/
def TD (K : PySem.W.Frag) (W : WX) (d : Sl → M PV) : TE := fun σ H Q => ∃ m v h, SR K m h H ∧ SlD K m H v σ ∧ Post K W σ m H (d v h) fun m' H' _ u => ∀ x, Rep K m' H' u x → Q x H'
def TDT (K : PySem.W.Frag) (W : WX) (d : Sl → M Bool) : TT := fun σ H Q => ∃ m v h, SR K m h H ∧ SlD K m H v σ ∧ Post K W σ m H (d v h) fun m' H' _ u => Q u H'
def TDA (K : PySem.W.Frag) (W : WX) (d : Sl → M (List PV)) : TA := fun σ H Q => ∃ m v h, SR K m h H ∧ SlD K m H v σ ∧ Post K W σ m H (d v h) fun m' H' _ us => ∀ xs, Reps K m' H' us xs → Q xs H'
abbrev DE (X : Cx) (W : WX) (e : Expr) (d : Sl → M PV) : Prop := PE X e (TD X.K W d)
abbrev DT (X : Cx) (W : WX) (e : Expr) (d : Sl → M Bool) : Prop := PT X e (TDT X.K W d)
abbrev DA (X : Cx) (W : WX) (es : List Expr) (d : Sl → M (List PV)) : Prop := PA X es (TDA X.K W d)
theorem weakE {X : Cx} {e : Expr} {t t' : TE} (h : PE X e t) (w : ∀ σ H Q, t' σ H Q → t σ H Q) : PE X e t' := ⟨fun pins s σ H Q I q => h.run pins s σ H Q I (w σ H Q q)⟩
theorem weakT {X : Cx} {e : Expr} {t t' : TT} (h : PT X e t) (w : ∀ σ H Q, t' σ H Q → t σ H Q) : PT X e t' := ⟨fun pins s σ H Q I q => h.run pins s σ H Q I (w σ H Q q)⟩
theorem weakA {X : Cx} {e : List Expr} {t t' : TA} (h : PA X e t) (w : ∀ σ H Q, t' σ H Q → t σ H Q) : PA X e t' := ⟨fun pos pins s σ H Q I q => h.run pos pins s σ H Q I (w σ H Q q)⟩
end D

/-! layer D, part 1: expressions -/
namespace D
open PySem PySem.Spec PyProof.Rows L2

/-! ### what operations do to values -/
def rO2 (K : PySem.W.Frag) (g : PV → PV → O PV) : R2 := fun x y H Q => ∃ m h a b z h', SR K m h H ∧ Rep K m H a x ∧ Rep K m H b y ∧ g a b h = some (z, h') ∧ ∀ m' H' w, Ext m H m' H' → SR K m' h' H' → Rep K m' H' z w → Q w H'
def rO1 (K : PySem.W.Frag) (g : PV → O PV) : V → Hp → VK → Prop := fun x H Q => ∃ m h a z h', SR K m h H ∧ Rep K m H a x ∧ g a h = some (z, h') ∧ ∀ m' H' w, Ext m H m' H' → SR K m' h' H' → Rep K m' H' z w → Q w H'
def rOL (K : PySem.W.Frag) (g : List PV → O PV) : List V → Hp → VK → Prop := fun xs H Q => ∃ m h as z h', SR K m h H ∧ Reps K m H as xs ∧ g as h = some (z, h') ∧ ∀ m' H' w, Ext m H m' H' → SR K m' h' H' → Rep K m' H' z w → Q w H'
def rOM (K : PySem.W.Frag) (g : PV → List PV → O PV) : V → List V → Hp → VK → Prop := fun x xs H Q => ∃ m h a as z h', SR K m h H ∧ Rep K m H a x ∧ Reps K m H as xs ∧ g a as h = some (z, h') ∧ ∀ m' H' w, Ext m H m' H' → SR K m' h' H' → Rep K m' H' z w → Q w H'
def rOS (K : PySem.W.Frag) (g : PV → Option Int → Option Int → O PV) : V → Option Int → Option Int → Hp → VK → Prop := fun x lo hi H Q => ∃ m h a z h', SR K m h H ∧ Rep K m H a x ∧ g a lo hi h = some (z, h') ∧ ∀ m' H' w, Ext m H m' H' → SR K m' h' H' → Rep K m' H' z w → Q w H'
def rOP (K : PySem.W.Frag) (g : PV → PV → PV → O Unit) : TSet := fun o i v H Q => ∃ m h a b c h', SR K m h H ∧ Rep K m H a o ∧ Rep K m H b i ∧ Rep K m H c v ∧ g a b c h = some ((), h') ∧ ∀ m' H', Ext m H m' H' → SR K m' h' H' → Q H'

/-! ### denotations of expressions -/
def dVar (i : Nat) : Sl → M PV := fun v h => match v[i]? with
  | some (some u) => .ok u h
  | _ => .bad
def dC (u : PV) : Sl → M PV := fun _ => ret u
def dBin (g : PV → PV → O PV) (a b : Sl → M PV) : Sl → M PV := fun v => bnd (a v) fun x => bnd (b v) fun y => liftO (g x y)
def dUn (g : PV → O PV) (a : Sl → M PV) : Sl → M PV := fun v => bnd (a v) fun x => liftO (g x)
def asB : PV → M Bool
  | .bl b => ret b
  | _ => bad
def dAnd (a b : Sl → M PV) : Sl → M PV := fun v => bnd (a v) fun x => bnd (asB x) fun c => if c = true then b v else ret (.bl false)
def dOr (a b : Sl → M PV) : Sl → M PV := fun v => bnd (a v) fun x => bnd (asB x) fun c => if c = true then ret (.bl true) else b v
def dNot (a : Sl → M PV) : Sl → M PV := fun v => bnd (a v) fun x => bnd (asB x) fun c => ret (.bl (!c))
def dChain (g g' : PV → PV → O PV) (a b c : Sl → M PV) : Sl → M PV := fun v => bnd (a v) fun x => bnd (b v) fun y => bnd (liftO (g x y)) fun z => bnd (asB z) fun k =>
  if k = true then bnd (c v) fun w => liftO (g' y w) else ret (.bl false)
def dNil : Sl → M (List PV) := fun _ => ret []
def dCons (a : Sl → M PV) (r : Sl → M (List PV)) : Sl → M (List PV) := fun v => bnd (a v) fun x => bnd (r v) fun xs => ret (x :: xs)
def oTup (l : List PV) : O PV := fun h => if l.length ≤ 16777216 then some (.tup l, h) else none
def oLst (l : List PV) : O PV := fun h => if l.length ≤ 16777216 then some (.ref h.length, h ++ [.lst l]) else none
def dTup (a : Sl → M (List PV)) : Sl → M PV := fun v => bnd (a v) fun l => liftO (oTup l)
def dLst (a : Sl → M (List PV)) : Sl → M PV := fun v => bnd (a v) fun l => liftO (oLst l)
def dFn (g : List PV → O PV) (a : Sl → M (List PV)) : Sl → M PV := fun v => bnd (a v) fun l => liftO (g l)
def dCall (f : List PV → M PV) (a : Sl → M (List PV)) : Sl → M PV := fun v => bnd (a v) f
def dMt (g : PV → List PV → O PV) (o : Sl → M PV) (a : Sl → M (List PV)) : Sl → M PV := fun v => bnd (o v) fun x => bnd (a v) fun l => liftO (g x l)
def tVal (a : Sl → M PV) : Sl → M Bool := fun v => bnd (a v) asB
def tAndD (a b : Sl → M Bool) : Sl → M Bool := fun v => bnd (a v) fun c => if c = true then b v else ret false
def tOrD (a b : Sl → M Bool) : Sl → M Bool := fun v => bnd (a v) fun c => if c = true then ret true else b v
def tNotD (a : Sl → M Bool) : Sl → M Bool := fun v => bnd (a v) fun c => ret (!c)
def dIf (c : Sl → M Bool) (a b : Sl → M PV) : Sl → M PV := fun v => bnd (c v) fun k => if k = true then a v else b v
def dInt? : PV → M Int
  | .int i => ret i
  | _ => bad
def dPNone : Sl → M (Option Int) := fun _ => ret none
def dPSome (a : Sl → M PV) : Sl → M (Option Int) := fun v => bnd (a v) fun x => bnd (dInt? x) fun i => ret (some i)
def dSlice (g : PV → Option Int → Option Int → O PV) (a : Sl → M PV) (lo hi : Sl → M (Option Int)) : Sl → M PV := fun v => bnd (a v) fun x => bnd (lo v) fun l => bnd (hi v) fun u => liftO (g x l u)

section
variable {X : Cx} {W : WX} {a b c e : Expr} {es : List Expr} {da db dc : Sl → M PV} {dl : Sl → M (List PV)} {ta tb : Sl → M Bool} {pos : Pos}

theorem asB_inv {K : PySem.W.Frag} {σ : L2.St} {m : List Addr} {H : Hp} {β : Type} {x : PV} {f : Bool → M β} {h : VH} {Q : List Addr → Hp → VH → β → Prop} (p : Post K W σ m H (bnd (asB x) f h) Q) : ∃ k, x = .bl k ∧ Post K W σ m H (f k h) Q := by
  cases x <;> first | exact ⟨_, rfl, p⟩ | exact p.elim
theorem dInt_inv {K : PySem.W.Frag} {σ : L2.St} {m : List Addr} {H : Hp} {β : Type} {x : PV} {f : Int → M β} {h : VH} {Q : List Addr → Hp → VH → β → Prop} (p : Post K W σ m H (bnd (dInt? x) f h) Q) : ∃ k, x = .int k ∧ Post K W σ m H (f k h) Q := by
  cases x <;> first | exact ⟨_, rfl, p⟩ | exact p.elim
theorem rep_bl {K : PySem.W.Frag} {m : List Addr} {H : Hp} {k : Bool} {x : V} (r : Rep K m H (.bl k) x) : x = .bl k := by simpa only [Rep] using r
theorem rep_int {K : PySem.W.Frag} {m : List Addr} {H : Hp} {k : Int} {x : V} (r : Rep K m H (.int k) x) : x = .int k := by simpa only [Rep] using r
theorem rep_str {K : PySem.W.Frag} {m : List Addr} {H : Hp} {k : Str} {x : V} (r : Rep K m H (.str k) x) : x = .str k := by simpa only [Rep] using r
theorem rep_non {K : PySem.W.Frag} {m : List Addr} {H : Hp} {x : V} (r : Rep K m H .non x) : x = .non := by simpa only [Rep] using r
theorem rep_con {K : PySem.W.Frag} {m : List Addr} {H : Hp} {v x : V} (r : Rep K m H (.con v) x) : x = v := by simpa only [Rep] using r
theorem rep_tup {K : PySem.W.Frag} {m : List Addr} {H : Hp} {l : List PV} {x : V} (r : Rep K m H (.tup l) x) : ∃ a xs, x = .ref a ∧ TupAt K m H a xs ∧ Reps K m H l xs := by simpa only [Rep] using r
theorem rep_xt {K : PySem.W.Frag} {m : List Addr} {H : Hp} {l : List PV} {x : V} (r : Rep K m H (.xt l) x) : ∃ a xs, x = .ref a ∧ XtAt K m H a xs ∧ Reps K m H l xs := by simpa only [Rep] using r
theorem rep_rol {K : PySem.W.Frag} {m : List Addr} {H : Hp} {l : List PV} {x : V} (r : Rep K m H (.rol l) x) : ∃ a xs, x = .ref a ∧ LstAt K m H a xs ∧ Reps K m H l xs := by simpa only [Rep] using r
theorem rep_ref {K : PySem.W.Frag} {m : List Addr} {H : Hp} {n : Nat} {x : V} (r : Rep K m H (.ref n) x) : ∃ a, x = .ref a ∧ m[n]? = some a := by simpa only [Rep] using r
theorem rep_bl' {K : PySem.W.Frag} {m : List Addr} {H : Hp} {k : Bool} : Rep K m H (.bl k) (.bl k) := by simp only [Rep]
theorem rep_int' {K : PySem.W.Frag} {m : List Addr} {H : Hp} {k : Int} : Rep K m H (.int k) (.int k) := by simp only [Rep]
theorem rep_str' {K : PySem.W.Frag} {m : List Addr} {H : Hp} {k : Str} : Rep K m H (.str k) (.str k) := by simp only [Rep]
theorem rep_non' {K : PySem.W.Frag} {m : List Addr} {H : Hp} : Rep K m H .non .non := by simp only [Rep]
theorem rep_con' {K : PySem.W.Frag} {m : List Addr} {H : Hp} {v : V} : Rep K m H (.con v) v := by simp only [Rep]
theorem rep_ref' {K : PySem.W.Frag} {m : List Addr} {H : Hp} {n : Nat} {a : Addr} (e : m[n]? = some a) : Rep K m H (.ref n) (.ref a) := by simp only [Rep]; exact ⟨a, rfl, e⟩

theorem de_var (i : Nat) {x : Str} (hN : X.N[i]? = some x := by rfl) (hv : Vis X.env.scope x := by first | exact Or.inl rfl | exact Or.inr (Or.inl rfl) | exact Or.inr (Or.inr rfl)) (hd : (x == ("__debug__" : Str)) = false := by decide)
    (hcd : (x == ("__classdict__" : Str)) = false := by decide) : DE X W (.Name x pos) (dVar i) :=
  weakE (pe_var hN hv hd hcd) fun σ H Q ⟨m, v, h, sr, sl, p⟩ => by
    unfold dVar at p
    split at p
    · rename_i u e
      obtain ⟨x, q, r⟩ := sl.at_ i u e
      exact ⟨x, q, p m H .refl sr x r⟩
    · exact p.elim
theorem weakC {u : PV} {w : V} (h : PE X e (tC w)) (hr : ∀ m H, Rep X.K m H u w) : DE X W e (dC u) :=
  weakE h fun σ H Q ⟨m, v, hh, sr, sl, p⟩ => p m H .refl sr w (hr m H)
theorem de_int {i : Int} {j} : DE X W (.Constant (.int i) j pos) (dC (.int i)) := weakC pe_int fun _ _ => rep_int'
theorem de_bl {k : Bool} {j} : DE X W (.Constant (.bool k) j pos) (dC (.bl k)) := weakC pe_bl fun _ _ => rep_bl'
theorem de_non {j} : DE X W (.Constant .none j pos) (dC .non) := weakC pe_non fun _ _ => rep_non'
theorem de_str {z : Str} {j} : DE X W (.Constant (.str z) j pos) (dC (.str z)) := weakC pe_str fun _ _ => rep_str'
/-- a module's constant (an int, a text), a class -/
theorem de_glob {x : Str} {p : PV} {v : V} {u : Value} (hg : Gl X x) (hm : X.mg x = some u) (r : RelV v u) (hr : ∀ m H, Rep X.K m H p v) (hd : (x == ("__debug__" : Str)) = false := by decide) : DE X W (.Name x pos) (dC p) := weakC (pe_glob hg hm r hd) hr
/-- a built-in class as a value -/
theorem de_ty {x : Str} {n : String} (hg : Gl X x) (hm : X.mg x = none) (hv : bootBuiltins x = some (.type n)) (hn : x ≠ "__name__" := by decide) (hd : (x == ("__debug__" : Str)) = false := by decide) : DE X W (.Name x pos) (dC (.con (.ty n))) :=
  weakC (pe_bltn (v := .ty n) hg hm hv rfl hn hd) fun _ _ => rep_con'

theorem seq2 {K : PySem.W.Frag} {σ : L2.St} {H : Hp} {g : PV → PV → M PV} {R : V → V → Hp → Prop}
    (h : ∃ m v h, SR K m h H ∧ SlD K m H v σ ∧ ∃ Q : List Addr → Hp → VH → PV → Prop, Post K W σ m H (bnd (da v) (fun x => bnd (db v) fun y => g x y) h) Q ∧
      ∀ m2 H2 h2 a b x y, Ext m H m2 H2 → SR K m2 h2 H2 → SlD K m2 H2 v σ → Rep K m2 H2 a x → Rep K m2 H2 b y → Post K W σ m2 H2 (g a b h2) Q → R x y H2) :
    TD K W da σ H fun x H1 => TD K W db σ H1 fun y H2 => R x y H2 := by
  obtain ⟨m, v, h, sr, sl, Q, p, k⟩ := h
  refine ⟨m, v, h, sr, sl, (Post.seq p).mono fun m1 H1 h1 a x1 sr1 p1 x rx => ⟨m1, v, h1, sr1, sl.ext x1, (Post.seq p1).mono fun m2 H2 h2 b x2 sr2 p2 y ry => ?_⟩⟩
  exact k m2 H2 h2 a b x y (x1.trans x2) sr2 (sl.ext (x1.trans x2)) (rx.ext x2) ry p2
theorem rO2_of {K : PySem.W.Frag} {σ : L2.St} {m : List Addr} {H : Hp} {h : VH} {g : PV → PV → O PV} {a b : PV} {x y : V} {Q : VK} (sr : SR K m h H) (ra : Rep K m H a x) (rb : Rep K m H b y) (p : Post K W σ m H (liftO (g a b) h) fun m' H' _ u => ∀ x, Rep K m' H' u x → Q x H') :
    rO2 K g x y H Q := by
  obtain ⟨z, h', e, q⟩ := Post.lift p
  exact ⟨m, h, a, b, z, h', sr, ra, rb, e, fun m' H' w x1 s1 r1 => q m' H' x1 s1 w r1⟩
theorem de_bin {op : Operator} {g : PV → PV → O PV} (ho : OpR X (binaryOp op) (rO2 X.K g)) (ha : DE X W a da) (hb : DE X W b db) : DE X W (.BinOp a op b pos) (dBin g da db) :=
  weakE (pe_op ho ha hb) fun σ H Q ⟨m, v, h, sr, sl, p⟩ => seq2 ⟨m, v, h, sr, sl, _, p, fun m2 H2 h2 a b x y x2 sr2 _ ra rb p2 => rO2_of sr2 ra rb p2⟩
theorem de_cmp {op : CmpOp} {g : PV → PV → O PV} (ho : OpR X (compareOp op) (rO2 X.K g)) (ha : DE X W a da) (hb : DE X W b db) (hm : behindInMarks op b = false := by first | exact nomark _ | with_unfolding_all rfl) : DE X W (.Compare a [op] [b] pos) (dBin g da db) :=
  weakE (pe_cmpR ho ha hb hm) fun σ H Q ⟨m, v, h, sr, sl, p⟩ => seq2 ⟨m, v, h, sr, sl, _, p, fun m2 H2 h2 a b x y x2 sr2 _ ra rb p2 => rO2_of sr2 ra rb p2⟩
theorem dt_cmp {op : CmpOp} {g : PV → PV → O PV} (ho : OpR X (compareOp op) (rO2 X.K g)) (ha : DE X W a da) (hb : DE X W b db) (hm : behindInMarks op b = false := by first | exact nomark _ | with_unfolding_all rfl) : DT X W (.Compare a [op] [b] pos) (tVal (dBin g da db)) :=
  weakT (pt_cmpR ho ha hb hm) fun σ H Q ⟨m, v, h, sr, sl, p⟩ => by
    have p' := Post.seq p
    refine seq2 ⟨m, v, h, sr, sl, _, p', fun m2 H2 h2 a b x y x2 sr2 _ ra rb p2 => ?_⟩
    refine rO2_of sr2 ra rb (p2.mono fun m3 H3 h3 z x3 sr3 p3 w rw_ => ?_)
    obtain ⟨k, rfl, p4⟩ := asB_inv (f := ret) (by
      have : bnd (asB z) ret = asB z := by funext h; cases z <;> rfl
      rw [this]; exact p3)
    exact ⟨k, rep_bl rw_, p4 m3 H3 .refl sr3⟩
theorem de_un {op : UnaryOp} {g : PV → O PV} (ho : UnR X (unaryOp op) (rO1 X.K g)) (ha : DE X W a da) : DE X W (.UnaryOp op a pos) (dUn g da) :=
  weakE (pe_un ho ha) fun σ H Q ⟨m, v, h, sr, sl, p⟩ => ⟨m, v, h, sr, sl, (Post.seq p).mono fun m1 H1 h1 a x1 sr1 p1 x rx => by
    obtain ⟨z, h', e, q⟩ := Post.lift p1
    exact ⟨m1, h1, a, z, h', sr1, rx, e, fun m' H' w x2 s2 r2 => q m' H' x2 s2 w r2⟩⟩
theorem de_one {op} (h : DE X W a da) : DE X W (.BoolOp op [a] pos) da := pe_one h
theorem de_and (ha : DE X W a da) (hb : DE X W (.BoolOp .And (b :: es) pos) db) : DE X W (.BoolOp .And (a :: b :: es) pos) (dAnd da db) :=
  weakE (pe_and ha hb) fun σ H Q ⟨m, v, h, sr, sl, p⟩ => ⟨m, v, h, sr, sl, (Post.seq p).mono fun m1 H1 h1 u x1 sr1 p1 x rx => by
    obtain ⟨k, rfl, p2⟩ := asB_inv p1
    refine ⟨k, rep_bl rx, ?_⟩
    cases k with
    | true => exact ⟨m1, v, h1, sr1, sl.ext x1, p2⟩
    | false => exact p2 m1 H1 .refl sr1 _ rep_bl'⟩
theorem de_or (ha : DE X W a da) (hb : DE X W (.BoolOp .Or (b :: es) pos) db) : DE X W (.BoolOp .Or (a :: b :: es) pos) (dOr da db) :=
  weakE (pe_or ha hb) fun σ H Q ⟨m, v, h, sr, sl, p⟩ => ⟨m, v, h, sr, sl, (Post.seq p).mono fun m1 H1 h1 u x1 sr1 p1 x rx => by
    obtain ⟨k, rfl, p2⟩ := asB_inv p1
    refine ⟨k, rep_bl rx, ?_⟩
    cases k with
    | false => exact ⟨m1, v, h1, sr1, sl.ext x1, p2⟩
    | true => exact p2 m1 H1 .refl sr1 _ rep_bl'⟩
theorem de_not (ha : DE X W a da) : DE X W (.UnaryOp .Not a pos) (dNot da) :=
  weakE (pe_not ha) fun σ H Q ⟨m, v, h, sr, sl, p⟩ => ⟨m, v, h, sr, sl, (Post.seq p).mono fun m1 H1 h1 u x1 sr1 p1 x rx => by
    obtain ⟨k, rfl, p2⟩ := asB_inv p1
    exact ⟨k, rep_bl rx, p2 m1 H1 .refl sr1 _ rep_bl'⟩⟩
theorem de_chain {op op' : CmpOp} {g g' : PV → PV → O PV} (ho : OpR X (compareOp op) (rO2 X.K g)) (ho' : OpR X (compareOp op') (rO2 X.K g')) (ha : DE X W a da) (hb : DE X W b db) (hc : DE X W c dc)
    (hm : lastMarks [op, op'] [b, c] = false := by with_unfolding_all rfl) : DE X W (.Compare a [op, op'] [b, c] pos) (dChain g g' da db dc) :=
  weakE (pe_chain ho ho' ha hb hc hm) fun σ H Q ⟨m, v, h, sr, sl, p⟩ => seq2 ⟨m, v, h, sr, sl, _, p, fun m2 H2 h2 a b x y x2 sr2 sl2 ra rb p2 => by
    refine rO2_of sr2 ra rb ((Post.seq p2).mono fun m3 H3 h3 z x3 sr3 p3 w rw_ => ?_)
    obtain ⟨k, rfl, p4⟩ := asB_inv p3
    refine ⟨k, rep_bl rw_, ?_⟩
    cases k with
    | false => exact p4 m3 H3 .refl sr3 _ rep_bl'
    | true =>
      refine ⟨m3, v, h3, sr3, sl2.ext x3, (Post.seq p4).mono fun m4 H4 h4 u x4 sr4 p5 w' rw' => ?_⟩
      exact rO2_of sr4 (rb.ext (x3.trans x4)) rw' p5⟩
theorem dt_chain {op op' : CmpOp} {g g' : PV → PV → O PV} (ho : OpR X (compareOp op) (rO2 X.K g)) (ho' : OpR X (compareOp op') (rO2 X.K g')) (ha : DE X W a da) (hb : DE X W b db) (hc : DE X W c dc)
    (hm : lastMarks [op, op'] [b, c] = false := by with_unfolding_all rfl) : DT X W (.Compare a [op, op'] [b, c] pos) (tVal (dChain g g' da db dc)) :=
  weakT (pt_chain ho ho' ha hb hc hm) fun σ H Q ⟨m, v, h, sr, sl, p⟩ => by
    have p' := Post.seq p
    have fin : ∀ {m3 : List Addr} {H3 : Hp} {h3 : VH} {z : PV} {w : V}, SR X.K m3 h3 H3 → Post X.K W σ m3 H3 (asB z h3) (fun m' H' _ u => Q u H') → Rep X.K m3 H3 z w → ∃ k, w = V.bl k ∧ Q k H3 := fun {m3 H3 h3 z w} sr3 p3 rw_ => by
      obtain ⟨k, rfl, p4⟩ := asB_inv (f := ret) (by
        have : bnd (asB z) ret = asB z := by funext h; cases z <;> rfl
        rw [this]; exact p3)
      exact ⟨k, rep_bl rw_, p4 m3 H3 .refl sr3⟩
    refine seq2 ⟨m, v, h, sr, sl, _, p', fun m2 H2 h2 a b x y x2 sr2 sl2 ra rb p2 => ?_⟩
    refine rO2_of sr2 ra rb ((Post.seq p2).mono fun m3 H3 h3 z x3 sr3 p3 w rw_ => ?_)
    obtain ⟨k, rfl, p4⟩ := asB_inv p3
    refine ⟨k, rep_bl rw_, ?_⟩
    cases k with
    | false =>
      have p5 := p4 m3 H3 .refl sr3
      exact fin sr3 p5 rep_bl'
    | true =>
      refine ⟨m3, v, h3, sr3, sl2.ext x3, (Post.seq p4).mono fun m4 H4 h4 u x4 sr4 p5 w' rw' => ?_⟩
      exact rO2_of sr4 (rb.ext (x3.trans x4)) rw' (p5.mono fun m5 H5 h5 q x5 sr5 p6 w2 r2 => fin sr5 p6 r2)

/-! ### tests -/
abbrev DW (X : Cx) (W : WX) (e : Expr) (d : Sl → M Bool) : Prop := PW X e (TDT X.K W d)
theorem weakW {e : Expr} {t t' : TT} (h : PW X e t) (w : ∀ σ H Q, t' σ H Q → t σ H Q) : PW X e t' := ⟨fun wh pins s σ H Q I q => h.run wh pins s σ H Q I (w σ H Q q)⟩
theorem dt_val (h : DE X W e da) (he : ∀ whole, isTrue e X.env whole = (do let v ← whole; standAt e.pos; holding [v] (truthy v)) := by intro _; rfl) : DT X W e (tVal da) :=
  weakT (pt_val h he) fun σ H Q ⟨m, v, h, sr, sl, p⟩ => ⟨m, v, h, sr, sl, (Post.seq p).mono fun m1 H1 h1 z x1 sr1 p1 x rx => by
    obtain ⟨k, rfl, p4⟩ := asB_inv (f := ret) (by
      have : bnd (asB z) ret = asB z := by funext h; cases z <;> rfl
      rw [this]; exact p1)
    exact ⟨k, rep_bl rx, p4 m1 H1 .refl sr1⟩⟩
theorem dw_and1 (ha : DT X W a ta) : DW X W (.BoolOp .And [a] pos) ta := pw_and1 ha
theorem dw_or1 (ha : DT X W a ta) : DW X W (.BoolOp .Or [a] pos) ta := pw_or1 ha
theorem dw_and (ha : DT X W a ta) (hb : DW X W (.BoolOp .And (b :: es) pos) tb) : DW X W (.BoolOp .And (a :: b :: es) pos) (tAndD ta tb) :=
  weakW (pw_and ha hb) fun σ H Q ⟨m, v, h, sr, sl, p⟩ => ⟨m, v, h, sr, sl, (Post.seq p).mono fun m1 H1 h1 c x1 sr1 p1 => by
    cases c with
    | true => exact ⟨m1, v, h1, sr1, sl.ext x1, p1⟩
    | false => exact p1 m1 H1 .refl sr1⟩
theorem dw_or (ha : DT X W a ta) (hb : DW X W (.BoolOp .Or (b :: es) pos) tb) : DW X W (.BoolOp .Or (a :: b :: es) pos) (tOrD ta tb) :=
  weakW (pw_or ha hb) fun σ H Q ⟨m, v, h, sr, sl, p⟩ => ⟨m, v, h, sr, sl, (Post.seq p).mono fun m1 H1 h1 c x1 sr1 p1 => by
    cases c with
    | false => exact ⟨m1, v, h1, sr1, sl.ext x1, p1⟩
    | true => exact p1 m1 H1 .refl sr1⟩
theorem dt_w (h : DW X W e ta) : DT X W e ta := h.pt
theorem dt_not (ha : DT X W a ta) : DT X W (.UnaryOp .Not a pos) (tNotD ta) :=
  weakT (pt_not ha) fun σ H Q ⟨m, v, h, sr, sl, p⟩ => ⟨m, v, h, sr, sl, (Post.seq p).mono fun m1 H1 h1 c x1 sr1 p1 => p1 m1 H1 .refl sr1⟩
theorem de_ifExp (hc : DT X W c ta) (ha : DE X W a da) (hb : DE X W b db) : DE X W (.IfExp c a b pos) (dIf ta da db) :=
  weakE (pe_ifExp hc ha hb) fun σ H Q ⟨m, v, h, sr, sl, p⟩ => ⟨m, v, h, sr, sl, (Post.seq p).mono fun m1 H1 h1 c x1 sr1 p1 => by
    cases c with
    | true => exact ⟨m1, v, h1, sr1, sl.ext x1, p1⟩
    | false => exact ⟨m1, v, h1, sr1, sl.ext x1, p1⟩⟩

/-! ### arguments, displays, calls of built-ins -/
theorem da_nil : DA X W [] dNil := weakA pa_nil fun σ H Q ⟨m, v, h, sr, sl, p⟩ => p m H .refl sr [] Reps.nil
theorem da_cons (ha : DE X W e da) (hr : DA X W es dl) (hs : starEach (e :: es) X.env = (false, eval e X.env) :: starEach es X.env := by rfl) : DA X W (e :: es) (dCons da dl) :=
  weakA (pa_cons ha hr hs) fun σ H Q ⟨m, v, h, sr, sl, p⟩ => ⟨m, v, h, sr, sl, (Post.seq p).mono fun m1 H1 h1 u x1 sr1 p1 x rx => ⟨m1, v, h1, sr1, sl.ext x1, (Post.seq p1).mono fun m2 H2 h2 us x2 sr2 p2 xs rs =>
    p2 m2 H2 .refl sr2 (x :: xs) (Reps.cons (rx.ext x2) rs)⟩⟩
theorem de_tup {x1} (h : DA X W es dl) : DE X W (.Tuple es x1 pos) (dTup dl) :=
  weakE (pe_tup h) fun σ H Q ⟨m, v, h, sr, sl, p⟩ => ⟨m, v, h, sr, sl, (Post.seq p).mono fun m1 H1 h1 us x1 sr1 p1 xs rs => by
    obtain ⟨z, h', e, q⟩ := Post.lift p1
    unfold oTup at e
    split at e
    · rename_i hl
      cases e
      refine ⟨by rw [rs.len, sizeLine_eq]; exact hl, fun p np => q m1 _ (.upd_new np) (sr1.more np) _ (sr1.tup np rs)⟩
    · cases e⟩
theorem de_lst (h : DA X W es dl) : DE X W (.List es pos) (dLst dl) :=
  weakE (pe_lst h) fun σ H Q ⟨m, v, h, sr, sl, p⟩ => ⟨m, v, h, sr, sl, (Post.seq p).mono fun m1 H1 h1 us x1 sr1 p1 xs rs => by
    obtain ⟨z, h', e, q⟩ := Post.lift p1
    unfold oLst at e
    split at e
    · rename_i hl
      cases e
      refine ⟨by rw [rs.len, sizeLine_eq]; exact hl, fun p np => q (m1 ++ [p]) _ (.upd_add np) (sr1.addLst np rs) _ (rep_ref' ?_)⟩
      rw [← sr1.len, List.getElem?_append_right (Nat.le_refl _)]
      simp
    · cases e⟩
theorem callD {K : PySem.W.Frag} {σ : L2.St} {H : Hp} {Q : VK} {g : List PV → O PV} (h : TD K W (dFn g dl) σ H Q) : TDA K W dl σ H fun xs H1 => rOL K g xs H1 Q := by
  obtain ⟨m, v, h, sr, sl, p⟩ := h
  refine ⟨m, v, h, sr, sl, (Post.seq p).mono fun m1 H1 h1 us x1 sr1 p1 xs rs => ?_⟩
  obtain ⟨z, h', e, q⟩ := Post.lift p1
  exact ⟨m1, h1, us, z, h', sr1, rs, e, fun m' H' w x2 s2 r2 => q m' H' x2 s2 w r2⟩
theorem de_callB {x : Str} {id : String} {p : Pos} {g : List PV → O PV} (hc : CallR X (.builtin id) (rOL X.K g)) (hg : Gl X x) (hm : X.mg x = none) (hv : bootBuiltins x = some (.builtin id)) (ha : DA X W (e :: es) dl) (hn : x ≠ "__name__" := by decide) (hdb : (x == ("__debug__" : Str)) = false := by decide)
    (he : starEach (e :: es) X.env = (false, eval e X.env) :: starEach es X.env := by rfl) (hpl : (backTo pos (starEach es X.env)).any (·.1) = false := by rfl) : DE X W (.Call (.Name x p) (e :: es) [] pos) (dFn g dl) :=
  weakE (pe_callB hc hg hm hv ha hn hdb he hpl) fun σ H Q h => callD h
theorem de_callTy {x : Str} {T : String} {p : Pos} {g : List PV → O PV} (hc : CallR X (.type T) (rOL X.K g)) (hg : Gl X x) (hm : X.mg x = none) (hv : bootBuiltins x = some (.type T)) (ha : DA X W (e :: es) dl) (hn : x ≠ "__name__" := by decide) (hdb : (x == ("__debug__" : Str)) = false := by decide)
    (he : starEach (e :: es) X.env = (false, eval e X.env) :: starEach es X.env := by rfl) (hpl : (backTo pos (starEach es X.env)).any (·.1) = false := by rfl) : DE X W (.Call (.Name x p) (e :: es) [] pos) (dFn g dl) :=
  weakE (pe_callTy hc hg hm hv ha hn hdb he hpl) fun σ H Q h => callD h
theorem de_callTy0 {x : Str} {T : String} {p : Pos} {g : List PV → O PV} (hc : CallR X (.type T) (rOL X.K g)) (hg : Gl X x) (hm : X.mg x = none) (hv : bootBuiltins x = some (.type T)) (hn : x ≠ "__name__" := by decide) (hdb : (x == ("__debug__" : Str)) = false := by decide) : DE X W (.Call (.Name x p) [] [] pos) (dFn g dNil) :=
  weakE (pe_callTy0 hc hg hm hv hn hdb) fun σ H Q ⟨m, v, h, sr, sl, p⟩ => by
    obtain ⟨z, h', e, q⟩ := Post.lift (Post.seq p m H .refl sr)
    exact ⟨m, h, [], z, h', sr, Reps.nil, e, fun m' H' w x2 s2 r2 => q m' H' x2 s2 w r2⟩
/-- a[b] -/
theorem de_ix {g : PV → PV → O PV} (hr : IxR X (rO2 X.K g)) (ha : DE X W a da) (hb : DE X W b db) (hs : PlainIx b := by intro _ _; rfl) : DE X W (.Subscript a b pos) (dBin g da db) :=
  weakE (pe_ix hr ha hb hs) fun σ H Q ⟨m, v, h, sr, sl, p⟩ => seq2 ⟨m, v, h, sr, sl, _, p, fun m2 H2 h2 a b x y x2 sr2 _ ra rb p2 => rO2_of sr2 ra rb p2⟩
def TDO (K : PySem.W.Frag) (W : WX) (d : Sl → M (Option Int)) : TO := fun σ H Q => ∃ m v h, SR K m h H ∧ SlD K m H v σ ∧ Post K W σ m H (d v h) fun m' H' _ u => Q u H'
abbrev DO (X : Cx) (W : WX) (e : Option Expr) (d : Sl → M (Option Int)) : Prop := PO X e (TDO X.K W d)
theorem weakO {e : Option Expr} {t t' : TO} (h : PO X e t) (w : ∀ σ H Q, t' σ H Q → t σ H Q) : PO X e t' := ⟨fun pins s σ H Q I q => h.run pins s σ H Q I (w σ H Q q)⟩
theorem do_none : DO X W none dPNone := weakO po_none fun σ H Q ⟨m, v, h, sr, sl, p⟩ => p m H .refl sr
theorem do_some (ha : DE X W a da) : DO X W (some a) (dPSome da) := weakO (po_some ha) fun σ H Q ⟨m, v, h, sr, sl, p⟩ => ⟨m, v, h, sr, sl, (Post.seq p).mono fun m1 H1 h1 z x1 sr1 p1 x rx => by
  obtain ⟨k, rfl, p4⟩ := dInt_inv p1
  exact ⟨k, rep_int rx, p4 m1 H1 .refl sr1⟩⟩
theorem de_slice {g : PV → Option Int → Option Int → O PV} {lo hi : Option Expr} {dlo dhi : Sl → M (Option Int)} {p2 : Pos} (hr : L2.SlR X (rOS X.K g)) (he : DE X W e da) (hl : DO X W lo dlo) (hu : DO X W hi dhi) : DE X W (.Subscript e (.Slice lo hi none p2) pos) (dSlice g da dlo dhi) :=
  weakE (pe_slice hr he hl hu) fun σ H Q ⟨m, v, h, sr, sl, p⟩ => ⟨m, v, h, sr, sl, (Post.seq p).mono fun m1 H1 h1 z x1 sr1 p1 x rx => ⟨m1, v, h1, sr1, sl.ext x1, (Post.seq p1).mono fun m2 H2 h2 l x2 sr2 p2 =>
    ⟨m2, v, h2, sr2, sl.ext (x1.trans x2), (Post.seq p2).mono fun m3 H3 h3 u x3 sr3 p3 => by
      obtain ⟨z', h', e, q⟩ := Post.lift p3
      exact ⟨m3, h3, z, z', h', sr3, rx.ext (x2.trans x3), e, fun m' H' w x4 s4 r4 => q m' H' x4 s4 w r4⟩⟩⟩⟩
theorem de_bm {T name id : String} {g : PV → List PV → O PV} {o : Expr} {do_ : Sl → M PV} {apos : Pos} (pa : PlainAttrs T) (slot : Slot T name id) (hty : typeOf (.builtin id) = pure (.type "method_descriptor")) (hm : MtR X id (rOM X.K g)) (ho : DE X W o do_) (ha : DA X W (e :: es) dl) : True := trivial
end
end D

/-! layer D, part 2: what is walked, comprehensions, statements -/
namespace D
open PySem PySem.Spec PyProof.Rows L2

mutual
def PV.beq : PV → PV → Bool
  | .non, .non => true
  | .bl a, .bl b => a == b
  | .int a, .int b => a == b
  | .str a, .str b => decide (a = b)
  | .con a, .con b => decide (a = b)
  | .ref a, .ref b => a == b
  | .tup a, .tup b => PV.beqs a b
  | .rol a, .rol b => PV.beqs a b
  | .xt a, .xt b => PV.beqs a b
  | _, _ => false
def PV.beqs : List PV → List PV → Bool
  | [], [] => true
  | a :: l, b :: r => PV.beq a b && PV.beqs l r
  | _, _ => false
end
mutual
theorem PV.beq_eq : ∀ {a b : PV}, PV.beq a b = true → a = b
  | .non, .non, _ => rfl
  | .bl a, .bl b, h => by simp [PV.beq] at h; rw [h]
  | .int a, .int b, h => by simp [PV.beq] at h; rw [h]
  | .str a, .str b, h => by simp [PV.beq] at h; rw [h]
  | .con a, .con b, h => by simp [PV.beq] at h; rw [h]
  | .ref a, .ref b, h => by simp [PV.beq] at h; rw [h]
  | .tup a, .tup b, h => by simp [PV.beq] at h; rw [PV.beqs_eq h]
  | .rol a, .rol b, h => by simp [PV.beq] at h; rw [PV.beqs_eq h]
  | .xt a, .xt b, h => by simp [PV.beq] at h; rw [PV.beqs_eq h]
  | .non, .xt _, h => by simp [PV.beq] at h
  | .xt _, .non, h => by simp [PV.beq] at h
  | .bl _, .xt _, h => by simp [PV.beq] at h
  | .xt _, .bl _, h => by simp [PV.beq] at h
  | .int _, .xt _, h => by simp [PV.beq] at h
  | .xt _, .int _, h => by simp [PV.beq] at h
  | .str _, .xt _, h => by simp [PV.beq] at h
  | .xt _, .str _, h => by simp [PV.beq] at h
  | .con _, .xt _, h => by simp [PV.beq] at h
  | .xt _, .con _, h => by simp [PV.beq] at h
  | .ref _, .xt _, h => by simp [PV.beq] at h
  | .xt _, .ref _, h => by simp [PV.beq] at h
  | .tup _, .xt _, h => by simp [PV.beq] at h
  | .xt _, .tup _, h => by simp [PV.beq] at h
  | .rol _, .xt _, h => by simp [PV.beq] at h
  | .xt _, .rol _, h => by simp [PV.beq] at h
  | .non, .bl _, h => by simp [PV.beq] at h
  | .non, .int _, h => by simp [PV.beq] at h
  | .non, .str _, h => by simp [PV.beq] at h
  | .non, .con _, h => by simp [PV.beq] at h
  | .non, .ref _, h => by simp [PV.beq] at h
  | .non, .tup _, h => by simp [PV.beq] at h
  | .non, .rol _, h => by simp [PV.beq] at h
  | .bl _, .non, h => by simp [PV.beq] at h
  | .bl _, .int _, h => by simp [PV.beq] at h
  | .bl _, .str _, h => by simp [PV.beq] at h
  | .bl _, .con _, h => by simp [PV.beq] at h
  | .bl _, .ref _, h => by simp [PV.beq] at h
  | .bl _, .tup _, h => by simp [PV.beq] at h
  | .bl _, .rol _, h => by simp [PV.beq] at h
  | .int _, .non, h => by simp [PV.beq] at h
  | .int _, .bl _, h => by simp [PV.beq] at h
  | .int _, .str _, h => by simp [PV.beq] at h
  | .int _, .con _, h => by simp [PV.beq] at h
  | .int _, .ref _, h => by simp [PV.beq] at h
  | .int _, .tup _, h => by simp [PV.beq] at h
  | .int _, .rol _, h => by simp [PV.beq] at h
  | .str _, .non, h => by simp [PV.beq] at h
  | .str _, .bl _, h => by simp [PV.beq] at h
  | .str _, .int _, h => by simp [PV.beq] at h
  | .str _, .con _, h => by simp [PV.beq] at h
  | .str _, .ref _, h => by simp [PV.beq] at h
  | .str _, .tup _, h => by simp [PV.beq] at h
  | .str _, .rol _, h => by simp [PV.beq] at h
  | .con _, .non, h => by simp [PV.beq] at h
  | .con _, .bl _, h => by simp [PV.beq] at h
  | .con _, .int _, h => by simp [PV.beq] at h
  | .con _, .str _, h => by simp [PV.beq] at h
  | .con _, .ref _, h => by simp [PV.beq] at h
  | .con _, .tup _, h => by simp [PV.beq] at h
  | .con _, .rol _, h => by simp [PV.beq] at h
  | .ref _, .non, h => by simp [PV.beq] at h
  | .ref _, .bl _, h => by simp [PV.beq] at h
  | .ref _, .int _, h => by simp [PV.beq] at h
  | .ref _, .str _, h => by simp [PV.beq] at h
  | .ref _, .con _, h => by simp [PV.beq] at h
  | .ref _, .tup _, h => by simp [PV.beq] at h
  | .ref _, .rol _, h => by simp [PV.beq] at h
  | .tup _, .non, h => by simp [PV.beq] at h
  | .tup _, .bl _, h => by simp [PV.beq] at h
  | .tup _, .int _, h => by simp [PV.beq] at h
  | .tup _, .str _, h => by simp [PV.beq] at h
  | .tup _, .con _, h => by simp [PV.beq] at h
  | .tup _, .ref _, h => by simp [PV.beq] at h
  | .tup _, .rol _, h => by simp [PV.beq] at h
  | .rol _, .non, h => by simp [PV.beq] at h
  | .rol _, .bl _, h => by simp [PV.beq] at h
  | .rol _, .int _, h => by simp [PV.beq] at h
  | .rol _, .str _, h => by simp [PV.beq] at h
  | .rol _, .con _, h => by simp [PV.beq] at h
  | .rol _, .ref _, h => by simp [PV.beq] at h
  | .rol _, .tup _, h => by simp [PV.beq] at h
theorem PV.beqs_eq : ∀ {a b : List PV}, PV.beqs a b = true → a = b
  | [], [], _ => rfl
  | a :: l, b :: r, h => by
    simp [PV.beqs] at h
    rw [PV.beq_eq h.1, PV.beqs_eq h.2]
  | [], _ :: _, h => by simp [PV.beqs] at h
  | _ :: _, [], h => by simp [PV.beqs] at h
end
mutual
theorem PV.beq_refl : ∀ a : PV, PV.beq a a = true
  | .non => rfl
  | .bl _ => by simp [PV.beq]
  | .int _ => by simp [PV.beq]
  | .str _ => by simp [PV.beq]
  | .con _ => by simp [PV.beq]
  | .ref _ => by simp [PV.beq]
  | .tup l => by simp [PV.beq, PV.beqs_refl l]
  | .rol l => by simp [PV.beq, PV.beqs_refl l]
  | .xt l => by simp [PV.beq, PV.beqs_refl l]
theorem PV.beqs_refl : ∀ l : List PV, PV.beqs l l = true
  | [] => rfl
  | a :: l => by simp [PV.beqs, PV.beq_refl a, PV.beqs_refl l]
end

/-! ### what is walked: the items, and the lists that must stay as they are meanwhile -/
structure Its' where
  items : List PV
  src : List (Nat × List PV) := []
def srcOk (h : VH) (src : List (Nat × List PV)) : Bool := src.all fun p => match h[p.1]? with
  | some (.lst l) => PV.beqs l p.2
  | _ => false
@[simp] theorem srcOk_nil (h : VH) : srcOk h [] = true := rfl
theorem srcOk_mem {h : VH} {src : List (Nat × List PV)} (q : srcOk h src = true) {n : Nat} {l : List PV} (hm : (n, l) ∈ src) : h[n]? = some (.lst l) := by
  unfold srcOk at q
  have := List.all_eq_true.mp q _ hm
  simp only at this
  split at this
  · rename_i l' e
    rw [e, PV.beqs_eq this]
  · cases this
/-- the walk J gives the items -/
def ItD (K : PySem.W.Frag) (J : It) (m : List Addr) (H : Hp) (it : Its') : Prop :=
  ∀ (i : Nat) (m' : List Addr) (h' : VH) (H' : Hp), Ext m H m' H' → SR K m' h' H' → srcOk h' it.src = true →
    (i < it.items.length → J.go i H' ∧ ∀ x H'', J.yld i H' x H'' → ∃ v, it.items[i]? = some v ∧ Rep K m' H'' v x ∧ Ext m' H' m' H'' ∧ SR K m' h' H'') ∧ (i = it.items.length → J.stop i H')
theorem ItD.ext {K : PySem.W.Frag} {J : It} {m m1 : List Addr} {H H1 : Hp} {it : Its'} (t : ItD K J m H it) (p : Ext m H m1 H1) : ItD K J m1 H1 it :=
  fun i m' h' H' x s q => t i m' h' H' (p.trans x) s q
def TDI (K : PySem.W.Frag) (W : WX) (d : Sl → M Its') : TI := fun σ H R => ∃ m v h, SR K m h H ∧ SlD K m H v σ ∧ Post K W σ m H (d v h) fun m' H' h' it => ∀ J, ItD K J m' H' it → R J H'
abbrev DI (X : Cx) (W : WX) (tg e : Expr) (d : Sl → M Its') : Prop := PI X tg e (TDI X.K W d)
theorem weakI {X : Cx} {tg e : Expr} {t t' : TI} (h : PI X tg e t) (w : ∀ σ H Q, t' σ H Q → t σ H Q) : PI X tg e t' := ⟨fun pins s σ H R I q => h.run pins s σ H R I (w σ H R q)⟩

/-- another heap in which the same stands -/
theorem TupAt.dummy : True := trivial
mutual
theorem Rep.re {K : PySem.W.Frag} {m m1 : List Addr} {H H1 : Hp} (p : ∀ (k : Nat) (a : Addr), m[k]? = some a → m1[k]? = some a) (q : ∀ a xs, TupAt K m H a xs → TupAt K m1 H1 a xs) (q2 : ∀ a xs, LstAt K m H a xs → LstAt K m1 H1 a xs) (q3 : ∀ a xs, XtAt K m H a xs → XtAt K m1 H1 a xs) : ∀ (v : PV) (x : V), Rep K m H v x → Rep K m1 H1 v x
  | .non, _, r => r
  | .bl _, _, r => r
  | .int _, _, r => r
  | .str _, _, r => r
  | .con _, _, r => r
  | .ref n, _, r => by
    obtain ⟨a, e, z⟩ := rep_ref r
    subst e
    exact rep_ref' (p n a z)
  | .tup l, _, r => by
    obtain ⟨a, xs, e, z, t⟩ := rep_tup r
    simp only [Rep]
    exact ⟨a, xs, e, q a xs z, Reps.re p q q2 q3 l xs t⟩
  | .rol l, _, r => by
    obtain ⟨a, xs, e, z, t⟩ := rep_rol r
    simp only [Rep]
    exact ⟨a, xs, e, q2 a xs z, Reps.re p q q2 q3 l xs t⟩
  | .xt l, _, r => by
    obtain ⟨a, xs, e, z, t⟩ := rep_xt r
    simp only [Rep]
    exact ⟨a, xs, e, q3 a xs z, Reps.re p q q2 q3 l xs t⟩
theorem Reps.re {K : PySem.W.Frag} {m m1 : List Addr} {H H1 : Hp} (p : ∀ (k : Nat) (a : Addr), m[k]? = some a → m1[k]? = some a) (q : ∀ a xs, TupAt K m H a xs → TupAt K m1 H1 a xs) (q2 : ∀ a xs, LstAt K m H a xs → LstAt K m1 H1 a xs) (q3 : ∀ a xs, XtAt K m H a xs → XtAt K m1 H1 a xs) : ∀ (l : List PV) (xs : List V), Reps K m H l xs → Reps K m1 H1 l xs
  | [], _, r => r
  | v :: l, _, r => by
    obtain ⟨x, t, e, r1, r2⟩ := r.cons_inv
    subst e
    exact Reps.cons (Rep.re p q q2 q3 v x r1) (Reps.re p q q2 q3 l t r2)
end

/-! ### targets -/
def dgName (i : Nat) : PV → Sl → M Sl := fun u v => ret (v.set i (some u))
def TDG (K : PySem.W.Frag) (W : WX) (d : PV → Sl → M Sl) (is : List Nat) : TG := fun x σ H Q => ∃ m v h u, SR K m h H ∧ SlD K m H v σ ∧ Rep K m H u x ∧
  Post K W σ m H (d u v h) fun m' H' _ v' => ∀ σ', SlD K m' H' v' σ' → (∀ vs, (∀ i ∈ is, i ∈ vs) → L2.wipe σ' vs = L2.wipe σ vs) → Q σ' H'
abbrev DG (X : Cx) (W : WX) (tg : Expr) (d : PV → Sl → M Sl) (is : List Nat) : Prop := PG X tg (TDG X.K W d is)
theorem weakG {X : Cx} {tg : Expr} {t t' : TG} (h : PG X tg t) (w : ∀ x σ H Q, t' x σ H Q → t x σ H Q) : PG X tg t' := ⟨fun pins s σ H v u Q I r q => h.run pins s σ H v u Q I r (w v σ H Q q)⟩
theorem wipe_get {σ : L2.St} : ∀ {vs : List Nat} {j : Nat}, j < σ.length → (L2.wipe σ vs)[j]? = if j ∈ vs then some none else σ[j]?
  | [], j, h => by simp [L2.wipe]
  | i :: vs, j, h => by
    unfold L2.wipe
    by_cases e : j = i
    · subst e
      rw [List.getElem?_set_self (by rw [L2.wipe_length]; exact h)]
      simp
    · rw [List.getElem?_set_ne (Ne.symm e), wipe_get h]
      simp [e]
theorem wipe_set {σ : L2.St} {i : Nat} {x : Option V} {vs : List Nat} (hi : i ∈ vs) : L2.wipe (σ.set i x) vs = L2.wipe σ vs := by
  refine List.ext_getElem? fun j => ?_
  by_cases hj : j < σ.length
  · rw [wipe_get (by simpa using hj), wipe_get hj]
    by_cases hm : j ∈ vs
    · simp [hm]
    · rw [if_neg hm, if_neg hm, List.getElem?_set_ne (fun e : i = j => hm (e ▸ hi))]
  · rw [List.getElem?_eq_none (by rw [L2.wipe_length]; simpa using hj), List.getElem?_eq_none (by rw [L2.wipe_length]; simpa using hj)]
section
variable {X : Cx} {W : WX} {pos : Pos}
theorem dg_name (i : Nat) {x : Str} (hN : X.N.Nodup) (hi : X.N[i]? = some x := by rfl) (hx : Loc X.env.scope x := by first | exact Or.inl rfl | exact Or.inr rfl) (hf : X.fn x = true ∨ X.env.scope.names.lookup x = some .local := by first | exact .inl rfl | exact .inr rfl | assumption) : DG X W (.Name x pos) (dgName i) [i] :=
  weakG (pg_name hN hi hx hf) fun x σ H Q ⟨m, v, h, u, sr, sl, r, p⟩ => p m H .refl sr _ (sl.set i r) fun vs hv => wipe_set (hv i (List.mem_singleton.mpr rfl))
/-- several targets, the items in order -/
def dgsNil : List PV → Sl → M Sl := fun us v => match us with
  | [] => ret v
  | _ => bad
def dgsCons (d : PV → Sl → M Sl) (r : List PV → Sl → M Sl) : List PV → Sl → M Sl := fun us v => match us with
  | u :: us => bnd (d u v) fun v' => r us v'
  | [] => bad
/-- the items of a list -/
def lstOf (h : VH) : PV → Option (List PV)
  | .rol l => some l
  | .ref n => match h[n]? with
    | some (.lst l) => some l
    | _ => none
  | _ => none
theorem lst_sq {K : PySem.W.Frag} {m : List Addr} {h : VH} {H : Hp} {b : PV} {l : List PV} {y : V} (s : SR K m h H) (e : lstOf h b = some l) (r : Rep K m H b y) : ∃ a xs, y = .ref a ∧ SqL K H a xs ∧ Reps K m H l xs := by
  cases b <;> try (simp only [lstOf, reduceCtorEq] at e; done)
  · simp only [lstOf] at e
    cases e
    obtain ⟨a, xs, rfl, t, rs⟩ := rep_rol r
    exact ⟨a, xs, rfl, t.sq, rs⟩
  · rename_i n
    simp only [lstOf] at e
    split at e
    · rename_i l' el
      cases e
      obtain ⟨a, rfl, ha⟩ := rep_ref r
      obtain ⟨xs, q, rs⟩ := s.obj n _ a el ha
      exact ⟨a, xs, rfl, .of q, rs⟩
    · cases e
def dgTup (n : Nat) (d : List PV → Sl → M Sl) : PV → Sl → M Sl := fun u v h => match u with
  | .tup l => if l.length = n then d l v h else .bad
  | u => match lstOf h u with
    | some l => if l.length = n then d l v h else .bad
    | none => .bad
def TDGs (K : PySem.W.Frag) (W : WX) (d : List PV → Sl → M Sl) (is : List Nat) : TGs := fun xs σ H Q => ∃ m v h us, SR K m h H ∧ SlD K m H v σ ∧ Reps K m H us xs ∧
  Post K W σ m H (d us v h) fun m' H' _ v' => ∀ σ', SlD K m' H' v' σ' → (∀ vs, (∀ i ∈ is, i ∈ vs) → L2.wipe σ' vs = L2.wipe σ vs) → Q σ' H'
abbrev DGs (X : Cx) (W : WX) (tg : List Expr) (d : List PV → Sl → M Sl) (is : List Nat) : Prop := PGs X tg (TDGs X.K W d is)
theorem weakGs {X : Cx} {tg : List Expr} {t t' : TGs} (h : PGs X tg t) (w : ∀ x σ H Q, t' x σ H Q → t x σ H Q) : PGs X tg t' := ⟨fun pins s σ H v u Q I r q => h.run pins s σ H v u Q I r (w v σ H Q q)⟩
theorem dgs_nil : DGs X W [] dgsNil [] := weakGs pgs_nil fun xs σ H Q ⟨m, v, h, us, sr, sl, r, p⟩ => by
  cases us with
  | nil => exact ⟨r.nil_inv, p m H .refl sr _ sl fun _ _ => rfl⟩
  | cons _ _ => exact p.elim
/-- names alone (no exception, so the wish may speak of the slots) -/
theorem dgs_cons {e : Expr} {es : List Expr} {i : Nat} {d : List PV → Sl → M Sl} {is : List Nat} (h1 : DG X (fun _ _ _ _ => False) e (dgName i) [i]) (h2 : DGs X (fun _ _ _ _ => False) es d is)
    (hs : (assignEach (e :: es) X.env).map (·.2) = assign e X.env :: (assignEach es X.env).map (·.2) := by rfl) : DGs X (fun _ _ _ _ => False) (e :: es) (dgsCons (dgName i) d) (i :: is) :=
  weakGs (pgs_cons h1 h2 hs) fun xs σ H Q ⟨m, v, h, us, sr, sl, r, p⟩ => by
    cases us with
    | nil => exact p.elim
    | cons u us =>
      obtain ⟨x, t, rfl, r1, r2⟩ := r.cons_inv
      refine ⟨x, t, rfl, m, v, h, u, sr, sl, r1, fun m1 H1 x1 sr1 σ1 sl1 w1 => ?_⟩
      refine ⟨m1, _, h, us, sr1, sl1, r2.ext x1, ?_⟩
      have p1 : Post X.K (fun _ _ _ _ => False) σ m H (d us (v.set i (some u)) h) _ := p
      cases e1 : d us (v.set i (some u)) h with
      | ok v2 h2 =>
        rw [e1] at p1
        intro m2 H2 x2 sr2 σ2 sl2 w2
        exact p1 m2 H2 (x1.trans x2) sr2 σ2 sl2 fun vs hv => by
          rw [w2 vs fun j hj => hv j (List.mem_cons_of_mem _ hj), w1 vs fun j hj => hv j (by rw [List.mem_singleton.mp hj]; exact List.mem_cons_self)]
      | ex u2 h2 => rw [e1] at p1; exact fun m2 H2 dd x2 sr2 xr => p1 m2 H2 dd (x1.trans x2) sr2 xr
      | bad => rw [e1] at p1; exact p1
theorem dg_nox {tg : Expr} {d : PV → Sl → M Sl} {is : List Nat} (h : DG X (fun _ _ _ _ => False) tg d is) (hd : ∀ u v h e h', d u v h ≠ .ex e h') : DG X W tg d is :=
  weakG h fun x σ H Q ⟨m, v, h, u, sr, sl, r, p⟩ => ⟨m, v, h, u, sr, sl, r, by
    cases e1 : d u v h with
    | ok v2 h2 => rw [e1] at p; exact p
    | ex u2 h2 => exact absurd e1 (hd _ _ _ _ _)
    | bad => rw [e1] at p; exact p⟩
theorem dg_tup {es : List Expr} {k : Nat} {d : List PV → Sl → M Sl} {is : List Nat} {n : Nat} (hc : X.calm = true) (h : DGs X (fun _ _ _ _ => False) es d is)
    (hn : (assignEach es X.env).length = n := by rfl) (hst : (assignEach es X.env).findIdx? (·.1) = none := by rfl) : DG X (fun _ _ _ _ => False) (.Tuple es k pos) (dgTup n d) is :=
  ⟨fun pins s σ H vv uu Q I r ⟨m, v, hh, u, sr, sl, ru, p⟩ => by
    by_cases isT : ∃ l, u = .tup l
    · obtain ⟨l, rfl⟩ := isT
      obtain ⟨a, xs, rfl, t, rs⟩ := rep_tup ru
      unfold dgTup at p
      simp only at p
      split at p
      · rename_i hl
        exact (pg_tup hc h hn hst).run pins s σ H _ uu Q I r ⟨a, xs, rfl, t.sq, by rw [rs.len, hl], m, v, hh, l, sr, sl, rs, p⟩
      · exact p.elim
    · have e1 : dgTup n d u v hh = match lstOf hh u with
        | some l => if l.length = n then d l v hh else .bad
        | none => .bad := by
        unfold dgTup
        split
        · exact absurd ⟨_, rfl⟩ isT
        · rfl
      rw [e1] at p
      split at p
      · rename_i l el
        split at p
        · rename_i hl
          obtain ⟨a, xs, rfl, q, rs⟩ := lst_sq sr el ru
          exact (pg_unl hc h hn hst).run pins s σ H _ uu Q I r ⟨a, xs, rfl, q, by rw [rs.len, hl], m, v, hh, l, sr, sl, rs, p⟩
        · exact p.elim
      · exact p.elim⟩
/-- o[i] = .. -/
def dgSub (g : PV → PV → PV → O Unit) (a b : Sl → M PV) : PV → Sl → M Sl := fun u v => bnd (a v) fun o => bnd (b v) fun i => bnd (liftO (g o i u)) fun _ => ret v
theorem dg_sub {o i : Expr} {da db : Sl → M PV} {g : PV → PV → PV → O Unit} (ho : DE X W o da) (hi : DE X W i db) (hs : PSet X (rOP X.K g))
    (ha : ∀ v, assign (.Subscript o i pos) X.env v = (do
      let ov ← holding [v] (eval o X.env)
      let iv ← holding [v, ov] (eval i X.env)
      standAt pos
      holding [v, ov, iv] (setItem ov iv v)
      release [v, ov, iv] []) := by intro _; rfl) : DG X W (.Subscript o i pos) (dgSub g da db) [] :=
  weakG (pg_sub ho hi hs ha) fun x σ H Q ⟨m, v, h, u, sr, sl, r, p⟩ => ⟨m, v, h, sr, sl, (Post.seq p).mono fun m1 H1 h1 a x1 sr1 p1 y ry => ⟨m1, v, h1, sr1, sl.ext x1, (Post.seq p1).mono fun m2 H2 h2 b x2 sr2 p2 z rz => by
    obtain ⟨w, h', e, q⟩ := Post.lift (Post.seq p2)
    refine ⟨m2, h2, a, b, u, h', sr2, ry.ext x2, rz, r.ext (x1.trans x2), e, fun m' H' x3 s3 => ?_⟩
    exact q m' H' x3 s3 m' H' .refl s3 σ (sl.ext ((x1.trans x2).trans x3)) fun _ _ => rfl⟩⟩
end

/-! ### lists that no one else knows -/
/-- the value is a list at an address that the virtual heap does not know -/
def TDL (K : PySem.W.Frag) (W : WX) (d : Sl → M (List PV)) : TE := fun σ H Q => ∃ m v h, SR K m h H ∧ SlD K m H v σ ∧
  Post K W σ m H (d v h) fun m' H' _ l => ∀ D xs, H D = none → D ∉ m' → H' D = some (.lst xs) → Reps K m' H' l xs → Q (.ref D) H'
abbrev DL (X : Cx) (W : WX) (e : Expr) (d : Sl → M (List PV)) : Prop := PE X e (TDL X.K W d)
def oNew (l : List PV) : O PV := fun h => some (.ref h.length, h ++ [.lst l])
def dFresh (d : Sl → M (List PV)) : Sl → M PV := fun v => bnd (d v) fun l => liftO (oNew l)
theorem SR.adopt {K : PySem.W.Frag} {m : List Addr} {h : VH} {H : Hp} {D : Addr} {l : List PV} {xs : List V} (s : SR K m h H) (n : D ∉ m) (e : H D = some (.lst xs)) (r : Reps K m H l xs) : SR K (m ++ [D]) (h ++ [.lst l]) H := by
  have rx : ∀ {l : List PV} {xs : List V}, Reps K m H l xs → Reps K (m ++ [D]) H l xs := by
    have key : ∀ a : Addr, ∀ ys, TupAt K m H a ys → TupAt K (m ++ [D]) H a ys := fun a ys t => by
      obtain ⟨n1, q⟩ := t
      refine ⟨fun hm => ?_, q⟩
      rcases List.mem_append.mp hm with z | z
      · exact n1 z
      · rw [List.mem_singleton.mp z] at q
        rcases q with q | ⟨_, o, q⟩
        · rw [e] at q; cases q
        · rw [e] at q; cases q
    have key3 : ∀ a : Addr, ∀ ys, XtAt K m H a ys → XtAt K (m ++ [D]) H a ys := fun a ys t => by
      obtain ⟨n1, o, q, k⟩ := t
      refine ⟨fun hm => ?_, o, q, k⟩
      rcases List.mem_append.mp hm with z | z
      · exact n1 z
      · rw [List.mem_singleton.mp z] at q
        rw [e] at q; cases q
    have key2 : ∀ a : Addr, ∀ ys, LstAt K m H a ys → LstAt K (m ++ [D]) H a ys := fun a ys t => by
      rcases t with ⟨n1, o, q⟩ | t
      · refine .inl ⟨fun hm => ?_, o, q⟩
        rcases List.mem_append.mp hm with z | z
        · exact n1 z
        · rw [List.mem_singleton.mp z] at q
          rw [e] at q; cases q
      · exact .inr t
    intro l xs r
    exact Reps.re (fun k b q => by rw [List.getElem?_append_left (List.getElem?_eq_some_iff.mp q).1]; exact q) key key2 key3 l xs r
  refine ⟨by simp [s.len], ?_, fun k u a e1 e2 => ?_⟩
  · rw [List.nodup_append]
    refine ⟨s.nd, by simp, fun a ha b hb => ?_⟩
    rw [List.mem_singleton.mp hb]
    rintro rfl
    exact n ha
  · by_cases hk : k < h.length
    · rw [List.getElem?_append_left hk] at e1
      rw [List.getElem?_append_left (by rw [s.len]; exact hk)] at e2
      have o := s.obj k u a e1 e2
      cases u with
      | lst l => obtain ⟨ys, q, t⟩ := o; exact ⟨ys, q, rx t⟩
      | dT l => obtain ⟨ys, q, z, t⟩ := o; exact ⟨ys, q, z, rx t⟩
      | ins C l => obtain ⟨c, dx, ys, qc, q, z, t⟩ := o; exact ⟨c, dx, ys, qc, q, z, rx t⟩
      | xd D l => obtain ⟨ys, q, y, z, t⟩ := o; exact ⟨ys, q, y, z, rx t⟩
      | dK l => obtain ⟨ys, q, z, t⟩ := o; exact ⟨ys, q, z, rx t⟩
    · rw [List.getElem?_append_right (by omega)] at e1
      rw [List.getElem?_append_right (by rw [s.len]; omega)] at e2
      have z1 : k - h.length = 0 := by
        have := (List.getElem?_eq_some_iff.mp e1).1
        simp at this; omega
      have z2 : k - m.length = 0 := by rw [s.len]; exact z1
      rw [z1] at e1; rw [z2] at e2
      simp at e1 e2
      subst e1 e2
      exact ⟨xs, e, rx r⟩
theorem Ext.adopt {m m1 : List Addr} {H H1 : Hp} {D : Addr} (x : Ext m H m1 H1) (n : H D = none) : Ext m H (m1 ++ [D]) H1 := by
  obtain ⟨⟨k, rfl, hk⟩, kp, lv⟩ := x
  refine ⟨⟨k ++ [D], by simp, fun a ha => ?_⟩, kp, lv⟩
  rcases List.mem_append.mp ha with z | z
  · exact hk a z
  · rw [List.mem_singleton.mp z]; exact .inl n
section
variable {X : Cx} {W : WX} {e : Expr}
theorem de_fresh {d : Sl → M (List PV)} (h : DL X W e d) : DE X W e (dFresh d) :=
  weakE h fun σ H Q ⟨m, v, h, sr, sl, p⟩ => ⟨m, v, h, sr, sl, by
    unfold dFresh bnd at p
    cases e1 : d v h with
    | ok l h1 =>
      rw [e1] at p
      intro m1 H1 x1 sr1 D xs n1 n2 eD r
      exact p (m1 ++ [D]) H1 (x1.adopt n1) (sr1.adopt n2 eD r) _ (rep_ref' (by rw [← sr1.len, List.getElem?_append_right (Nat.le_refl _)]; simp))
    | ex u h1 => rw [e1] at p; exact p
    | bad => rw [e1] at p; exact p⟩
/-- walked -/
def dTmp (d : Sl → M (List PV)) : Sl → M Its' := fun v => bnd (d v) fun l => ret { items := l }
theorem di_tmp {tg : Expr} {d : Sl → M (List PV)} (h : DL X W e d) : DI X W tg e (dTmp d) :=
  weakI (pi_list h) fun σ H R ⟨m, v, h, sr, sl, p⟩ => ⟨m, v, h, sr, sl, by
    unfold dTmp bnd at p
    cases e1 : d v h with
    | ok l h1 =>
      rw [e1] at p
      intro m1 H1 x1 sr1 D xs n1 n2 eD r
      refine ⟨D, rfl, ⟨xs, .of eD⟩, p m1 H1 x1 sr1 _ ?_⟩
      intro i m' h' H' x s _
      have q : SqL X.K H' D xs := .of (x.keep D _ eD n2)
      have hl := r.len
      refine ⟨fun hi => ?_, fun hi => walk_list.stops H' q |> fun z => by rw [hi]; show (Itl X.K D).stop l.length H'; rw [← hl]; exact z⟩
      have hi' : i < xs.length := by rw [hl]; exact hi
      refine ⟨walk_list.goes i H' hi' q, fun y H'' hy => ?_⟩
      obtain ⟨rfl, e2⟩ := walk_list.yields i H' y H'' hi' q hy
      have r' := r.ext x
      refine ⟨l[i], List.getElem?_eq_getElem hi, ?_, .refl, s⟩
      obtain ⟨z, e3, rz⟩ := r'.get (List.getElem?_eq_getElem hi)
      rw [e2] at e3; cases e3
      exact rz
    | ex u h1 => rw [e1] at p; exact p
    | bad => rw [e1] at p; exact p⟩
end

/-! ### list comprehensions -/
def chk (src : List (Nat × List PV)) : M Unit := fun h => if srcOk h src = true then .ok () h else .bad
def lcF (src : List (Nat × List PV)) (f : PV → M (List PV)) : List PV → M (List PV)
  | [] => bnd (chk src) fun _ => ret []
  | x :: xs => bnd (chk src) fun _ => bnd (f x) fun o => bnd (lcF src f xs) fun r => ret (o ++ r)
def lcBody (g : PV → Sl → M Sl) (t : Sl → M Bool) (e : Sl → M PV) (v : Sl) (x : PV) : M (List PV) := bnd (g x v) fun v' => bnd (t v') fun k => if k = true then bnd (e v') fun y => ret [y] else ret []
def tTrue : Sl → M Bool := fun _ => ret true
def dLc (it : Sl → M Its') (g : PV → Sl → M Sl) (t : Sl → M Bool) (e : Sl → M PV) (own : List Nat) : Sl → M (List PV) := fun v => bnd (it v) fun i =>
  if i.items.length ≤ 16777216 then lcF i.src (lcBody g t e (wipeD v own)) i.items else bad
def F0 : WX := fun _ _ _ _ => False
abbrev DTs (X : Cx) (W : WX) (es : List Expr) (d : Sl → M Bool) : Prop := PTs X es (TDT X.K W d)
theorem Post.via {α β : Type} {K : PySem.W.Frag} {σ σ' : L2.St} {m m5 : List Addr} {H H5 : Hp} {a : M α} {f : α → M β} {h : VH} {Q : List Addr → Hp → VH → β → Prop} (p : Post K F0 σ m H (bnd a f h) Q) (x : Ext m H m5 H5) :
    Post K F0 σ' m5 H5 (a h) fun m' H' h' v => Ext m H m' H' ∧ Post K F0 σ m H (f v h') Q := by
  unfold bnd at p
  cases e : a h with
  | ok v h1 => rw [e] at p; exact fun m' H' x' s => ⟨x.trans x', p⟩
  | ex u h1 => rw [e] at p; exact fun m' H' d x' s xr => (p m' H' d (x.trans x') s xr).elim fun _ z => z.2.elim
  | bad => rw [e] at p; exact p.elim
theorem Post.chk {K : PySem.W.Frag} {W : WX} {σ : L2.St} {m : List Addr} {H : Hp} {β : Type} {src : List (Nat × List PV)} {f : Unit → M β} {h : VH} {Q : List Addr → Hp → VH → β → Prop} (p : Post K W σ m H (bnd (chk src) f h) Q) : srcOk h src = true ∧ Post K W σ m H (f () h) Q := by
  unfold bnd D.chk at p
  by_cases hs : srcOk h src = true
  · rw [if_pos hs] at p; exact ⟨hs, p⟩
  · rw [if_neg hs] at p; exact p.elim
/-- the list at D is written, no one else knows it -/
theorem key_updD {K : PySem.W.Frag} {m : List Addr} {H : Hp} {D : Addr} {xs ys : List V} (e : H D = some (.lst xs)) :
    (∀ a zs, TupAt K m H a zs → TupAt K m (upd H D (.lst ys)) a zs) ∧ (∀ a zs, LstAt K m H a zs → LstAt K m (upd H D (.lst ys)) a zs) ∧ (∀ a zs, XtAt K m H a zs → XtAt K m (upd H D (.lst ys)) a zs) := by
  refine ⟨fun a zs t => ?_, fun a zs t => ?_, fun a zs t => ?_⟩
  · obtain ⟨n1, q⟩ := t
    refine ⟨n1, ?_⟩
    have hb : a ≠ D := fun z => by
      rw [z, e] at q
      rcases q with q | ⟨_, o, q⟩ <;> cases q
    rw [upd_ne hb]; exact q
  · rcases t with ⟨n1, o, q⟩ | t
    · have hb : a ≠ D := fun z => by rw [z, e] at q; cases q
      exact .inl ⟨n1, o, by rw [upd_ne hb]; exact q⟩
    · exact .inr t
  · obtain ⟨n1, o, q, k⟩ := t
    have hb : a ≠ D := fun z => by rw [z, e] at q; cases q
    exact ⟨n1, o, by rw [upd_ne hb]; exact q, k⟩
theorem Reps.updD {K : PySem.W.Frag} {m : List Addr} {H : Hp} {D : Addr} {xs ys zs : List V} {l : List PV} (e : H D = some (.lst xs)) (r : Reps K m H l zs) : Reps K m (upd H D (.lst ys)) l zs :=
  Reps.re (fun _ _ q => q) (key_updD e).1 (key_updD e).2.1 (key_updD e).2.2 l zs r
theorem SR.updD {K : PySem.W.Frag} {m : List Addr} {h : VH} {H : Hp} {D : Addr} {xs ys : List V} (s : SR K m h H) (n : D ∉ m) (e : H D = some (.lst xs)) : SR K m h (upd H D (.lst ys)) := by
  refine ⟨s.len, s.nd, fun k u a e1 e2 => ?_⟩
  have hb : a ≠ D := fun z => n (by rw [← z]; exact List.mem_of_getElem? e2)
  have o := s.obj k u a e1 e2
  cases u with
  | lst l => obtain ⟨zs, q, t⟩ := o; exact ⟨zs, by rw [upd_ne hb]; exact q, t.updD e⟩
  | dT l => obtain ⟨zs, q, z, t⟩ := o; exact ⟨zs, by rw [upd_ne hb]; exact q, z, t.updD e⟩
  | ins C l => obtain ⟨c, dx, zs, qc, q, z, t⟩ := o; exact ⟨c, dx, zs, qc, by rw [upd_ne hb]; exact q, z, t.updD e⟩
  | xd D' l => obtain ⟨zs, q, y, z, t⟩ := o; exact ⟨zs, by rw [upd_ne hb]; exact q, y, z, t.updD e⟩
  | dK l => obtain ⟨zs, q, z, t⟩ := o; exact ⟨zs, by rw [upd_ne hb]; exact q, z, t.updD e⟩
theorem Ext.updD {m m1 : List Addr} {H H1 : Hp} {D : Addr} {o : HO} (x : Ext m H m1 H1) (n : H D = none) : Ext m H m1 (upd H1 D o) :=
  ⟨x.app, fun a u e nx hn => by rw [upd_ne (ne_of_none e n)]; exact x.keep' a u e nx hn, fun a u e => by rw [upd_ne (ne_of_none e n)]; exact x.live a u e⟩
theorem wipe_wipe {σ : L2.St} {vs : List Nat} : L2.wipe (L2.wipe σ vs) vs = L2.wipe σ vs := by
  refine List.ext_getElem? fun j => ?_
  by_cases hj : j < σ.length
  · rw [wipe_get (by rw [L2.wipe_length]; exact hj), wipe_get hj]
    by_cases hm : j ∈ vs <;> simp [hm]
  · rw [List.getElem?_eq_none (by rw [L2.wipe_length, L2.wipe_length]; simpa using hj), List.getElem?_eq_none (by rw [L2.wipe_length]; simpa using hj)]
section
variable {X : Cx} {W : WX}
theorem dts_nil : DTs X W [] tTrue := ⟨fun pins s σ H Q I ⟨m, v, h, sr, sl, p⟩ => pts_nil.run pins s σ H Q I (p m H .refl sr)⟩
theorem dts_one {c : Expr} {t : Sl → M Bool} (h : DT X W c t) : DTs X W [c] t := pts_one h
/-- the reading of a comprehension -/
theorem lc_read {K : PySem.W.Frag} {di : Sl → M Its'} {dg : PV → Sl → M Sl} {dt : Sl → M Bool} {de : Sl → M PV} {own is : List Nat} {σ : L2.St} {H : Hp} {Q : VK} (his : ∀ i ∈ is, i ∈ own)
    (h : TDL K F0 (dLc di dg dt de own) σ H Q) : tLc (TDI K F0 di) (TDG K F0 dg is) (TDT K F0 dt) (TD K F0 de) own σ H Q := by
  obtain ⟨m, v, h, sr, sl, p⟩ := h
  refine ⟨m, v, h, sr, sl, (Post.via p .refl).mono fun m1 H1 h1 it x1 sr1 ⟨_, p1⟩ J hJ D hD => ?_⟩
  split at p1
  case isFalse => exact p1.elim
  rename_i hlen
  have nD0 : H D = none := by
    cases e : H D with
    | none => rfl
    | some o =>
      obtain ⟨o', e'⟩ := x1.live D o e
      rw [hD] at e'; cases e'
  have nD : D ∉ m1 := sr1.fresh hD
  let Qf : List Addr → Hp → VH → List PV → Prop := fun m' H' _ l => ∀ D xs, H D = none → D ∉ m' → H' D = some (.lst xs) → Reps K m' H' l xs → Q (.ref D) H'
  let Inv (i k : Nat) (H5 : Hp) : Prop := k = it.items.length - i ∧ i ≤ it.items.length ∧ ∃ m5 h5 acc accx, Ext m H m5 H5 ∧ Ext m1 H1 m5 H5 ∧ SR K m5 h5 H5 ∧ D ∉ m5 ∧ H5 D = some (.lst accx) ∧ Reps K m5 H5 acc accx ∧ acc.length ≤ i ∧
    Post K F0 σ m H (bnd (lcF it.src (lcBody dg dt de (wipeD v own)) (it.items.drop i)) (fun r => ret (acc ++ r)) h5) Qf
  have p1' : Post K F0 σ m H (bnd (lcF it.src (lcBody dg dt de (wipeD v own)) it.items) (fun r => ret ([] ++ r)) h1) Qf := by
    have : bnd (lcF it.src (lcBody dg dt de (wipeD v own)) it.items) (fun r => ret ([] ++ r)) = lcF it.src (lcBody dg dt de (wipeD v own)) it.items := by
      funext h
      unfold bnd ret
      cases lcF it.src (lcBody dg dt de (wipeD v own)) it.items h <;> rfl
    rw [this]; exact p1
  refine ⟨Inv, ⟨it.items.length, by simp, Nat.zero_le _, m1, h1, [], [], x1.updD nD0, Ext.refl.updD hD, sr1.more hD, nD, upd_same, Reps.nil, Nat.zero_le _, by simpa using p1'⟩, ?_⟩
  rintro i k H5 ⟨rfl, hi, m5, h5, acc, accx, x5, y5, sr5, nD5, eD5, ra, hacc, p6⟩
  by_cases hlt : i < it.items.length
  · have hdrop : it.items.drop i = it.items[i] :: it.items.drop (i + 1) := List.drop_eq_getElem_cons hlt
    rw [hdrop] at p6
    have reass : bnd (lcF it.src (lcBody dg dt de (wipeD v own)) (it.items[i] :: it.items.drop (i + 1))) (fun r => ret (acc ++ r)) =
        bnd (chk it.src) fun _ => bnd (dg it.items[i] (wipeD v own)) fun v' => bnd (dt v') fun k => bnd (if k = true then bnd (de v') fun y => ret [y] else ret []) fun o =>
          bnd (lcF it.src (lcBody dg dt de (wipeD v own)) (it.items.drop (i + 1))) fun r => ret ((acc ++ o) ++ r) := by
      funext h
      show bnd (bnd (chk it.src) _) _ h = _
      unfold lcBody bnd ret
      cases chk it.src h <;> try rfl
      simp only
      cases dg it.items[i] (wipeD v own) _ <;> try rfl
      simp only
      cases dt _ _ <;> try rfl
      rename_i k hk
      simp only
      cases k with
      | true =>
        simp only [if_true]
        cases de _ _ <;> try rfl
        simp only
        cases lcF it.src _ (it.items.drop (i + 1)) _ <;> try rfl
        simp
      | false =>
        simp only [Bool.false_eq_true, if_false]
        cases lcF it.src _ (it.items.drop (i + 1)) _ <;> try rfl
        simp
    rw [reass] at p6
    obtain ⟨hs, p7⟩ := Post.chk p6
    obtain ⟨hgo, _⟩ := hJ i m5 h5 _ y5 sr5 hs
    obtain ⟨go, yl⟩ := hgo hlt
    refine .inr ⟨go, fun H' => ∃ k', k' < it.items.length - i ∧ Inv (i + 1) k' H', fun H' h => h, fun x H7 hy => ?_⟩
    obtain ⟨u, eu, ru, x7, sr7⟩ := yl x H7 hy
    rw [List.getElem?_eq_getElem hlt] at eu
    cases eu
    have slw : SlD K m5 H7 (wipeD v own) (L2.wipe σ own) := ((sl.ext x5).wipe own).ext x7
    refine ⟨m5, wipeD v own, h5, it.items[i], sr7, slw, ru, (Post.via p7 (x5.trans x7)).mono fun m8 H8 h8 v8 x8 sr8 ⟨y8, p8⟩ σ8 sl8 w8 => ⟨(w8 own his).trans wipe_wipe, ?_⟩⟩
    refine ⟨m8, v8, h8, sr8, sl8, (Post.via p8 y8).mono fun m9 H9 h9 b x9 sr9 ⟨y9, p9⟩ => ?_⟩
    have e9 : H9 D = some (.lst accx) ∧ D ∉ m9 := by
      have n7 := x7.notin eD5 nD5
      have e7 := x7.keep D _ eD5 nD5
      have n8 := x8.notin e7 n7
      have e8 := x8.keep D _ e7 n7
      exact ⟨x9.keep D _ e8 n8, x9.notin e8 n8⟩
    have ra9 := ((ra.ext x7).ext x8).ext x9
    have yy9 : Ext m1 H1 m9 H9 := ((y5.trans x7).trans x8).trans x9
    cases b with
    | false =>
      simp only [Bool.false_eq_true, if_false] at p9 ⊢
      refine ⟨it.items.length - (i + 1), by omega, rfl, hlt, m9, h9, acc, accx, y9, yy9, sr9, e9.2, e9.1, ra9, by omega, ?_⟩
      have : Post K F0 σ m H (bnd (lcF it.src (lcBody dg dt de (wipeD v own)) (it.items.drop (i + 1))) (fun r => ret ((acc ++ []) ++ r)) h9) Qf := p9
      simpa using this
    | true =>
      simp only [if_true] at p9 ⊢
      have p9' : Post K F0 σ m H (bnd (de v8) (fun y => bnd (lcF it.src (lcBody dg dt de (wipeD v own)) (it.items.drop (i + 1))) fun r => ret ((acc ++ [y]) ++ r)) h9) Qf := by
        have : bnd (bnd (de v8) fun y => ret [y]) (fun o => bnd (lcF it.src (lcBody dg dt de (wipeD v own)) (it.items.drop (i + 1))) fun r => ret ((acc ++ o) ++ r)) h9 = bnd (de v8) (fun y => bnd (lcF it.src (lcBody dg dt de (wipeD v own)) (it.items.drop (i + 1))) fun r => ret ((acc ++ [y]) ++ r)) h9 := by
          unfold bnd ret
          cases de v8 h9 <;> rfl
        rw [this] at p9; exact p9
      refine ⟨m9, v8, h9, sr9, sl8.ext x9, (Post.via p9' y9).mono fun m10 H10 h10 y x10 sr10 ⟨y10, p10⟩ z rz => ?_⟩
      have e10 := x10.keep D _ e9.1 e9.2
      have n10 := x10.notin e9.1 e9.2
      have hz : accx.length < sizeLine := by
        have := ra9.len
        rw [sizeLine_eq]
        omega
      refine ⟨accx, e10, hz, it.items.length - (i + 1), by omega, rfl, hlt, m10, h10, acc ++ [y], accx ++ [z], y10.updD nD0, (yy9.trans x10).updD hD, sr10.updD n10 e10, n10, upd_same, ?_, by simp; omega, p10⟩
      exact ((ra9.ext x10).append (Reps.cons rz Reps.nil)).updD e10
  · have e : i = it.items.length := by omega
    subst e
    rw [List.drop_length] at p6
    have p6' : Post K F0 σ m H (bnd (chk it.src) (fun _ => ret (acc ++ [])) h5) Qf := by
      have : bnd (lcF it.src (lcBody dg dt de (wipeD v own)) []) (fun r => ret (acc ++ r)) h5 = bnd (chk it.src) (fun _ => ret (acc ++ [])) h5 := by
        show bnd (bnd (chk it.src) fun _ => ret []) _ h5 = _
        unfold bnd ret
        cases chk it.src h5 <;> rfl
      rw [this] at p6; exact p6
    obtain ⟨hs, p7⟩ := Post.chk p6'
    obtain ⟨_, hst⟩ := hJ it.items.length m5 h5 _ y5 sr5 hs
    refine .inl ⟨hst rfl, ?_⟩
    exact p7 m5 H5 x5 sr5 D accx nD0 nD5 eD5 (by rw [List.append_nil]; exact ra)
end
end D

/-! layer D, part 3: statements -/
namespace D
open PySem PySem.Spec PyProof.Rows L2

/-- what a statement does -/
inductive Fl where
  | nx (v : Sl) (h : VH) | rt (u : PV) (h : VH) | bk (v : Sl) (h : VH) | ct (v : Sl) (h : VH) | xc (e : PX) (v : Sl) (h : VH) | bad
abbrev SD := Sl → VH → Fl
def bx {α : Type} (v : Sl) (m : M α) (f : α → VH → Fl) : VH → Fl := fun h => match m h with
  | .ok a h' => f a h'
  | .ex e h' => .xc e v h'
  | .bad => .bad
def PostS (K : PySem.W.Frag) (W : WX) (D : Ends) (m : List Addr) (H : Hp) : Fl → Prop
  | .nx v h => ∀ m' H' σ', Ext m H m' H' → SR K m' h H' → SlD K m' H' v σ' → D.nx σ' H'
  | .bk v h => ∀ m' H' σ', Ext m H m' H' → SR K m' h H' → SlD K m' H' v σ' → D.bk σ' H'
  | .ct v h => ∀ m' H' σ', Ext m H m' H' → SR K m' h H' → SlD K m' H' v σ' → D.ct σ' H'
  | .rt u h => ∀ m' H' x, Ext m H m' H' → SR K m' h H' → Rep K m' H' u x → D.rt x H'
  | .xc e v h => ∀ m' H' σ' d, Ext m H m' H' → SR K m' h H' → SlD K m' H' v σ' → XRep K m' H' e d → WN K W e.cls d σ' H'
  | .bad => False
section
variable {K : PySem.W.Frag} {W : WX} {DD : Ends} {m m1 : List Addr} {H H1 : Hp}
theorem PostS.ext {r : Fl} (p : PostS K W DD m H r) (x : Ext m H m1 H1) : PostS K W DD m1 H1 r := by
  cases r with
  | nx v h => exact fun m' H' σ' y s sl => p m' H' σ' (x.trans y) s sl
  | bk v h => exact fun m' H' σ' y s sl => p m' H' σ' (x.trans y) s sl
  | ct v h => exact fun m' H' σ' y s sl => p m' H' σ' (x.trans y) s sl
  | rt u h => exact fun m' H' z y s r => p m' H' z (x.trans y) s r
  | xc e v h => exact fun m' H' σ' d y s sl xr => p m' H' σ' d (x.trans y) s sl xr
  | bad => exact p
theorem PostS.bx {α : Type} {v : Sl} {a : M α} {f : α → VH → Fl} {h : VH} {σ : L2.St} (p : PostS K W DD m H (bx v a f h)) (sl : SlD K m H v σ) :
    Post K W σ m H (a h) fun m1 H1 h1 u => Ext m H m1 H1 ∧ PostS K W DD m1 H1 (f u h1) := by
  unfold D.bx at p
  cases e : a h with
  | ok u h1 => rw [e] at p; exact fun m1 H1 x1 s1 => ⟨x1, PostS.ext p x1⟩
  | ex u h1 => rw [e] at p; exact fun m1 H1 d x1 s1 xr => p m1 H1 σ d x1 s1 (sl.ext x1) xr
  | bad => rw [e] at p; exact p
end
def TDS (K : PySem.W.Frag) (W : WX) (d : SD) : TS := fun D σ H => ∃ m v h, SR K m h H ∧ SlD K m H v σ ∧ PostS K W D m H (d v h)
abbrev DS (X : Cx) (W : WX) (s : Stmt) (d : SD) : Prop := PS X s (TDS X.K W d)
abbrev DSs (X : Cx) (W : WX) (s : List Stmt) (d : SD) : Prop := PSs X s (TDS X.K W d)
theorem weakS {X : Cx} {s : Stmt} {t t' : TS} (h : PS X s t) (w : ∀ D σ H, t' D σ H → t D σ H) : PS X s t' := ⟨fun pins s σ H D I q => h.run pins s σ H D I (w D σ H q)⟩
theorem weakSs {X : Cx} {s : List Stmt} {t t' : TS} (h : PSs X s t) (w : ∀ D σ H, t' D σ H → t D σ H) : PSs X s t' := ⟨fun pins s σ H D I q => h.run pins s σ H D I (w D σ H q)⟩

/-! ### denotations of statements -/
def sNext : SD := fun v h => .nx v h
def sSeq (a b : SD) : SD := fun v h => match a v h with
  | .nx v' h' => b v' h'
  | r => r
def sAsg (e : Sl → M PV) (g : PV → Sl → M Sl) : SD := fun v => bx v (e v) fun x h1 => bx v (g x v) (fun v' h2 => .nx v' h2) h1
def sExpr (e : Sl → M PV) : SD := fun v => bx v (e v) fun _ h1 => .nx v h1
def sRet (e : Sl → M PV) : SD := fun v => bx v (e v) fun x h1 => .rt x h1
def sRetN : SD := fun _ h => .rt .non h
def sIf (c : Sl → M Bool) (a b : SD) : SD := fun v => bx v (c v) fun k h1 => if k = true then a v h1 else b v h1
def sBreak : SD := fun v h => .bk v h
def sCont : SD := fun v h => .ct v h
def sAug (g : PV → PV → O PV) (i : Nat) (e : Sl → M PV) : SD := fun v => bx v (dVar i v) fun x => bx v (e v) fun y => bx v (liftO (g x y)) fun z h => .nx (v.set i (some z)) h
def sAugS (gg : PV → PV → O PV) (gi : PV → PV → O PV) (gs : PV → PV → PV → O Unit) (o i e : Sl → M PV) : SD := fun v => bx v (o v) fun a => bx v (i v) fun b => bx v (liftO (gg a b)) fun x => bx v (e v) fun y =>
  bx v (liftO (gi x y)) fun z => bx v (liftO (gs a b z)) fun _ h => .nx v h
def forF (src : List (Nat × List PV)) (body : PV → SD) : List PV → SD
  | [], v, h => if srcOk h src = true then .nx v h else .bad
  | x :: xs, v, h => if srcOk h src = true then (match body x v h with
    | .nx v' h' => forF src body xs v' h'
    | .ct v' h' => forF src body xs v' h'
    | .bk v' h' => .nx v' h'
    | r => r) else .bad
def forBody (g : PV → Sl → M Sl) (b : SD) (x : PV) : SD := fun v => bx v (g x v) fun v' h => b v' h
def sFor (it : Sl → M Its') (g : PV → Sl → M Sl) (b : SD) : SD := fun v => bx v (it v) fun i h => forF i.src (forBody g b) i.items v h
def whileF (c : Sl → M Bool) (b : SD) : Nat → SD
  | 0, _, _ => .bad
  | n + 1, v, h => bx v (c v) (fun k h1 => if k = true then (match b v h1 with
    | .nx v' h' => whileF c b n v' h'
    | .ct v' h' => whileF c b n v' h'
    | .bk v' h' => .nx v' h'
    | r => r) else .nx v h1) h
def sWhile (n : Nat) (c : Sl → M Bool) (b : SD) : SD := whileF c b n

section
variable {X : Cx} {W : WX} {e c : Expr} {es : List Expr} {st : Stmt} {rest ba bb : List Stmt} {de : Sl → M PV} {da db : SD} {dc : Sl → M Bool} {pos : Pos}
theorem dss_nil : DSs X W [] sNext := weakSs pss_nil fun D σ H ⟨m, v, h, sr, sl, p⟩ => p m H σ .refl sr sl
theorem dss_cons (h1 : DS X W st da) (h2 : DSs X W rest db) : DSs X W (st :: rest) (sSeq da db) :=
  weakSs (pss_cons h1 h2) fun D σ H ⟨m, v, h, sr, sl, p⟩ => ⟨m, v, h, sr, sl, by
    unfold sSeq at p
    cases e : da v h with
    | nx v1 h1 =>
      rw [e] at p
      exact fun m1 H1 σ1 x1 s1 sl1 => ⟨m1, v1, h1, s1, sl1, PostS.ext p x1⟩
    | _ => rw [e] at p; exact p⟩
theorem dss_one (h1 : DS X W st da) : DSs X W [st] da := pss_one h1
theorem ds_pass : DS X W (.Pass pos) sNext := weakS ps_pass fun D σ H ⟨m, v, h, sr, sl, p⟩ => p m H σ .refl sr sl
theorem ds_break : DS X W (.Break pos) sBreak := weakS ps_break fun D σ H ⟨m, v, h, sr, sl, p⟩ => p m H σ .refl sr sl
theorem ds_continue : DS X W (.Continue pos) sCont := weakS ps_continue fun D σ H ⟨m, v, h, sr, sl, p⟩ => p m H σ .refl sr sl
theorem ds_expr (he : DE X W e de) (hs : swapsWith e none pos.line X.env = pure false := by rfl) : DS X W (.Expr e pos) (sExpr de) :=
  weakS (ps_expr he hs) fun D σ H ⟨m, v, h, sr, sl, p⟩ => ⟨m, v, h, sr, sl, (PostS.bx p sl).mono fun m1 H1 h1 u x1 s1 ⟨y, p1⟩ x rx => p1 m1 H1 σ .refl s1 (sl.ext x1)⟩
theorem ds_ret (he : DE X W e de) : DS X W (.Return (some e) pos) (sRet de) :=
  weakS (ps_ret he) fun D σ H ⟨m, v, h, sr, sl, p⟩ => ⟨m, v, h, sr, sl, (PostS.bx p sl).mono fun m1 H1 h1 u x1 s1 ⟨y, p1⟩ x rx => p1 m1 H1 x .refl s1 rx⟩
theorem ds_retN : DS X W (.Return none pos) sRetN := weakS ps_retN fun D σ H ⟨m, v, h, sr, sl, p⟩ => p m H .non .refl sr rep_non'
theorem ds_if (hc : DT X W c dc) (ha : DSs X W ba da) (hb : DSs X W bb db) : DS X W (.If c ba bb pos) (sIf dc da db) :=
  weakS (ps_if hc ha hb) fun D σ H ⟨m, v, h, sr, sl, p⟩ => ⟨m, v, h, sr, sl, (PostS.bx p sl).mono fun m1 H1 h1 k x1 s1 ⟨y, p1⟩ => by
    cases k with
    | true => exact ⟨m1, v, h1, s1, sl.ext x1, p1⟩
    | false => exact ⟨m1, v, h1, s1, sl.ext x1, p1⟩⟩
theorem asg_read {K : PySem.W.Frag} {g : PV → Sl → M Sl} {is : List Nat} {D : Ends} {σ : L2.St} {H : Hp} (h : TDS K W (sAsg de g) D σ H) : tAsg (TD K W de) (TDG K W g is) D σ H := by
  obtain ⟨m, v, h, sr, sl, p⟩ := h
  refine ⟨m, v, h, sr, sl, (PostS.bx p sl).mono fun m1 H1 h1 u x1 s1 ⟨y, p1⟩ x rx => ⟨m1, v, h1, u, s1, sl.ext x1, rx, (PostS.bx p1 (sl.ext x1)).mono fun m2 H2 h2 v2 x2 s2 ⟨_, p2⟩ σ2 sl2 _ => p2 m2 H2 σ2 .refl s2 sl2⟩⟩
theorem ds_asg {tg : Expr} {g : PV → Sl → M Sl} {is : List Nat} (he : DE X W e de) (hg : DG X W tg g is) (hs : swapsWithSole [tg] e pos.line X.env = pure false := by rfl) (hw : swappedStores [tg] e X.env = pure none := by rfl)
    (h1 : (assignEach [tg] X.env).map (·.2) = [assign tg X.env] := by rfl) : DS X W (.Assign [tg] e pos) (sAsg de g) :=
  weakS (ps_asg he hg hs hw h1) fun D σ H q => asg_read q
theorem name_read {K : PySem.W.Frag} {i : Nat} {D : Ends} {σ : L2.St} {H : Hp} (h : TDS K W (sAsg de (dgName i)) D σ H) : tAsg (TD K W de) (gName i) D σ H := by
  obtain ⟨m, v, h, sr, sl, p⟩ := h
  exact ⟨m, v, h, sr, sl, (PostS.bx p sl).mono fun m1 H1 h1 u x1 s1 ⟨y, p1⟩ x rx => p1 m1 H1 _ .refl s1 ((sl.ext x1).set i rx)⟩
theorem ds_set (i : Nat) {x : Str} {pos' : Pos} (hN : X.N.Nodup) (he : DE X W e de) (hi : X.N[i]? = some x := by rfl) (hx : Loc X.env.scope x := by first | exact Or.inl rfl | exact Or.inr rfl) (hs : swapsWith e (some (.Name x pos')) pos.line X.env = pure false := by rfl)
    (hf : X.fn x = true ∨ X.env.scope.names.lookup x = some .local := by first | exact .inl rfl | exact .inr rfl | assumption) : DS X W (.Assign [.Name x pos'] e pos) (sAsg de (dgName i)) :=
  weakS (ps_set hN hi hx he hs hf) fun D σ H q => name_read q
/-- a, b = x, y at plain locals -/
def sPar (i j : Nat) (d : Sl → M (List PV)) : SD := fun v => bx v (d v) fun l h => match l with
  | [a, b] => .nx ((v.set i (some a)).set j (some b)) h
  | _ => .bad
theorem ds_par (i j : Nat) {x y : Str} {a b : Expr} {px py pt : Pos} {kt k2 pt2} {dl : Sl → M (List PV)} (hc : X.calm = true) (hN : X.N.Nodup) (ha : DA X W [a, b] dl) (hi : X.N[i]? = some x := by rfl) (hj : X.N[j]? = some y := by rfl) (hij : i ≠ j := by decide)
    (hx : X.env.scope.names.lookup x = some .local := by rfl) (hy : X.env.scope.names.lookup y = some .local := by rfl)
    (hw : swappedStores [.Tuple [.Name x px, .Name y py] kt pt] (.Tuple [a, b] k2 pt2) X.env = pure (some [x, y]) := by rfl)
    (hs : swapsWithSole [.Tuple [.Name x px, .Name y py] kt pt] (.Tuple [a, b] k2 pt2) pos.line X.env = pure false := by rfl) :
    DS X W (.Assign [.Tuple [.Name x px, .Name y py] kt pt] (.Tuple [a, b] k2 pt2) pos) (sPar i j dl) :=
  weakS (ps_par hc hN hi hj hij hx hy ha hw hs) fun D σ H ⟨m, v, h, sr, sl, p⟩ => ⟨m, v, h, sr, sl, (PostS.bx p sl).mono fun m1 H1 h1 l x1 s1 ⟨y, p1⟩ xs rs => by
    split at p1
    · obtain ⟨x, t, rfl, r1, t1⟩ := rs.cons_inv
      obtain ⟨z, t2, rfl, r2, t3⟩ := t1.cons_inv
      rw [t3.nil_inv]
      exact ⟨x, z, rfl, p1 m1 H1 _ .refl s1 (((sl.ext x1).set i r1).set j r2)⟩
    · exact p1.elim⟩
theorem ds_aug (i : Nat) {x : Str} {op : Operator} {g : PV → PV → O PV} {pos' : Pos} (hN : X.N.Nodup) (ho : PIp X op (rO2 X.K g)) (he : DE X W e de) (hi : X.N[i]? = some x := by rfl) (hx : Loc X.env.scope x := by first | exact Or.inl rfl | exact Or.inr rfl)
    (hf : X.fn x = true ∨ X.env.scope.names.lookup x = some .local := by first | exact .inl rfl | exact .inr rfl | assumption) : DS X W (.AugAssign (.Name x pos') op e pos) (sAug g i de) :=
  weakS (ps_aug hN hi hx he ho hf) fun D σ H ⟨m, v, h, sr, sl, p⟩ => by
    unfold sAug at p
    have p0 := PostS.bx p sl
    unfold dVar at p0
    split at p0
    · rename_i u eu
      obtain ⟨_, p1⟩ := p0 m H .refl sr
      obtain ⟨x, ex, rx⟩ := sl.at_ i u eu
      refine ⟨x, ex, m, v, h, sr, sl, (PostS.bx p1 sl).mono fun m1 H1 h1 y x1 s1 ⟨_, p2⟩ z rz => ?_⟩
      obtain ⟨w, h', e, q⟩ := Post.lift (PostS.bx p2 (sl.ext x1))
      refine ⟨m1, h1, u, y, w, h', s1, rx.ext x1, rz, e, fun m' H' q' x2 s2 r2 => ?_⟩
      obtain ⟨_, p3⟩ := q m' H' x2 s2
      exact p3 m' H' _ .refl s2 ((sl.ext (x1.trans x2)).set i r2)
    · exact p0.elim
theorem ds_augS {o i : Expr} {do_ di : Sl → M PV} {op : Operator} {tpos : Pos} {gg gi : PV → PV → O PV} {gs : PV → PV → PV → O Unit} (ho : DE X W o do_) (hi : DE X W i di) (hg : PGet X (rO2 X.K gg)) (he : DE X W e de) (hp : PIp X op (rO2 X.K gi)) (hs : PSet X (rOP X.K gs))
    (ha : ∀ ov iv new, augStore i ov iv new = (do holding [new, ov, iv] (setItem ov iv new); release [new, ov, iv] []; pure .next) := by intros; rfl) : DS X W (.AugAssign (.Subscript o i tpos) op e pos) (sAugS gg gi gs do_ di de) :=
  weakS (ps_augS ho hi hg he hp hs ha) fun D σ H ⟨m, v, h, sr, sl, p⟩ => ⟨m, v, h, sr, sl, (PostS.bx p sl).mono fun m1 H1 h1 a x1 s1 ⟨_, p1⟩ ax ra => ⟨m1, v, h1, s1, sl.ext x1, (PostS.bx p1 (sl.ext x1)).mono fun m2 H2 h2 b x2 s2 ⟨_, p2⟩ bx' rb => by
    have sl2 := sl.ext (x1.trans x2)
    obtain ⟨w, h3, e, q⟩ := Post.lift (PostS.bx p2 sl2)
    refine ⟨m2, h2, a, b, w, h3, s2, ra.ext x2, rb, e, fun m3 H3 wx x3 s3 rw_ => ?_⟩
    obtain ⟨_, p3⟩ := q m3 H3 x3 s3
    refine ⟨m3, v, h3, s3, sl2.ext x3, (PostS.bx p3 (sl2.ext x3)).mono fun m4 H4 h4 y x4 s4 ⟨_, p4⟩ yx ry => ?_⟩
    have sl4 := (sl2.ext x3).ext x4
    obtain ⟨z, h5, e2, q2⟩ := Post.lift (PostS.bx p4 sl4)
    refine ⟨m4, h4, w, y, z, h5, s4, rw_.ext x4, ry, e2, fun m5 H5 zx x5 s5 rz => ?_⟩
    obtain ⟨_, p5⟩ := q2 m5 H5 x5 s5
    obtain ⟨_, h6, e3, q3⟩ := Post.lift (PostS.bx p5 (sl4.ext x5))
    refine ⟨m5, h5, a, b, z, h6, s5, ra.ext (((x2.trans x3).trans x4).trans x5), rb.ext ((x3.trans x4).trans x5), rz, e3, fun m6 H6 x6 s6 => ?_⟩
    obtain ⟨_, p6⟩ := q3 m6 H6 x6 s6
    exact p6 m6 H6 σ .refl s6 ((sl4.ext x5).ext x6)⟩⟩
theorem ds_for {tg iter : Expr} {body : List Stmt} {di : Sl → M Its'} {dg : PV → Sl → M Sl} {is : List Nat} (hp : PassesOwn (model X.prog X.w) X.A X.env X.xe) (hc : X.calm = true) (hi : DI X W tg iter di) (hg : DG X W tg dg is) (hb : DSs X W body db)
    (hs : ∀ x, foldedSetIterable iter X.env x = pure x := by intro _; rfl) : DS X W (.For tg iter body [] pos) (sFor di dg db) :=
  weakS (ps_for hp hc hi hg hb hs) fun D σ H ⟨m, v, h, sr, sl, p⟩ => ⟨m, v, h, sr, sl, (PostS.bx p sl).mono fun m1 H1 h1 it x1 s1 ⟨_, p1⟩ J hJ => by
    refine ⟨fun i k σ' H' => k = it.items.length - i ∧ i ≤ it.items.length ∧ ∃ m' v' h', Ext m1 H1 m' H' ∧ SR X.K m' h' H' ∧ SlD X.K m' H' v' σ' ∧ PostS X.K W D m' H' (forF it.src (forBody dg db) (it.items.drop i) v' h'),
      ⟨it.items.length, by simp, Nat.zero_le _, m1, v, h1, .refl, s1, sl.ext x1, by simpa using p1⟩, ?_⟩
    rintro i k σ2 H2 ⟨rfl, hle, m2, v2, h2, x2, s2, sl2, p2⟩
    by_cases hlt : i < it.items.length
    · rw [List.drop_eq_getElem_cons hlt] at p2
      unfold forF at p2
      by_cases hs : srcOk h2 it.src = true
      case neg => rw [if_neg hs] at p2; exact p2.elim
      rw [if_pos hs] at p2
      obtain ⟨hgo, _⟩ := hJ i m2 h2 _ x2 s2 hs
      obtain ⟨go, yl⟩ := hgo hlt
      let N : L2.St → Hp → Prop := fun σ' H' => i + 1 ≤ it.items.length ∧ ∃ m' v' h', Ext m1 H1 m' H' ∧ SR X.K m' h' H' ∧ SlD X.K m' H' v' σ' ∧ PostS X.K W D m' H' (forF it.src (forBody dg db) (it.items.drop (i + 1)) v' h')
      refine .inr ⟨go, N, fun σ' H' n => ⟨it.items.length - (i + 1), by omega, rfl, n⟩, fun x H3 hy => ?_⟩
      obtain ⟨u, eu, ru, x3, s3⟩ := yl x H3 hy
      rw [List.getElem?_eq_getElem hlt] at eu
      cases eu
      have sl3 := sl2.ext x3
      -- the body's end
      have body : PostS X.K W { D with nx := N, ct := N, bk := D.nx } m2 H3 (forBody dg db it.items[i] v2 h2) := by
        have p3 := PostS.ext p2 x3
        have nx : ∀ {v' : Sl} {h' : VH}, PostS X.K W D m2 H3 (forF it.src (forBody dg db) (it.items.drop (i + 1)) v' h') → ∀ m' H' σ', Ext m2 H3 m' H' → SR X.K m' h' H' → SlD X.K m' H' v' σ' → N σ' H' :=
          fun {v' h'} q m' H' σ' x' s' sl' => ⟨hlt, m', v', h', (x2.trans x3).trans x', s', sl', PostS.ext q x'⟩
        cases e : forBody dg db it.items[i] v2 h2 with
        | nx v' h' => rw [e] at p3; exact nx p3
        | ct v' h' => rw [e] at p3; exact nx p3
        | bk v' h' => rw [e] at p3; exact p3
        | rt u' h' => rw [e] at p3; exact p3
        | xc a v' h' => rw [e] at p3; exact p3
        | bad => rw [e] at p3; exact p3
      refine ⟨m2, v2, h2, it.items[i], s3, sl3, ru, (PostS.bx body sl3).mono fun m4 H4 h4 v4 x4 s4 ⟨_, p4⟩ σ4 sl4 _ => ⟨m4, v4, h4, s4, sl4, p4⟩⟩
    · have e : i = it.items.length := by omega
      subst e
      rw [List.drop_length] at p2
      unfold forF at p2
      by_cases hs : srcOk h2 it.src = true
      case neg => rw [if_neg hs] at p2; exact p2.elim
      rw [if_pos hs] at p2
      obtain ⟨_, hst⟩ := hJ it.items.length m2 h2 _ x2 s2 hs
      exact .inl ⟨hst rfl, p2 m2 H2 σ2 .refl s2 sl2⟩⟩
theorem ds_while (n : Nat) {body : List Stmt} (hp : PassesOwn (model X.prog X.w) X.A X.env X.xe) (hc : DT X W c dc) (hb : DSs X W body db) : DS X W (.While c body [] pos) (sWhile n dc db) :=
  weakS (ps_while hp hc hb) fun D σ H ⟨m, v, h, sr, sl, p⟩ => by
    refine ⟨fun k σ' H' => ∃ m' v' h', SR X.K m' h' H' ∧ SlD X.K m' H' v' σ' ∧ PostS X.K W D m' H' (whileF dc db k v' h'), ⟨n, m, v, h, sr, sl, p⟩, ?_⟩
    rintro k σ1 H1 ⟨m1, v1, h1, s1, sl1, p1⟩
    cases k with
    | zero => exact p1.elim
    | succ k =>
      unfold whileF at p1
      refine ⟨m1, v1, h1, s1, sl1, (PostS.bx p1 sl1).mono fun m2 H2 h2 b x2 s2 ⟨_, p2⟩ => ?_⟩
      have sl2 := sl1.ext x2
      cases b with
      | false =>
        simp only [Bool.false_eq_true, if_false] at p2 ⊢
        exact p2 m2 H2 σ1 .refl s2 sl2
      | true =>
        simp only [if_true] at p2 ⊢
        let N : L2.St → Hp → Prop := fun σ' H' => ∃ m' v' h', SR X.K m' h' H' ∧ SlD X.K m' H' v' σ' ∧ PostS X.K W D m' H' (whileF dc db k v' h')
        refine ⟨N, fun σ' H' q => ⟨k, Nat.lt_succ_self _, q⟩, m2, v1, h2, s2, sl2, ?_⟩
        have nx : ∀ {v' : Sl} {h' : VH}, PostS X.K W D m2 H2 (whileF dc db k v' h') → ∀ m' H' σ', Ext m2 H2 m' H' → SR X.K m' h' H' → SlD X.K m' H' v' σ' → N σ' H' :=
          fun {v' h'} q m' H' σ' x' s' sl' => ⟨m', v', h', s', sl', PostS.ext q x'⟩
        cases e : db v1 h2 with
        | nx v' h' => rw [e] at p2; exact nx p2
        | ct v' h' => rw [e] at p2; exact nx p2
        | bk v' h' => rw [e] at p2; exact p2
        | rt u' h' => rw [e] at p2; exact p2
        | xc a v' h' => rw [e] at p2; exact p2
        | bad => rw [e] at p2; exact p2

/-! ### comprehensions -/
def noex {α : Type} (m : M α) : M α := fun h => match m h with
  | .ex _ _ => .bad
  | r => r
def dLcx (it : Sl → M Its') (g : PV → Sl → M Sl) (t : Sl → M Bool) (e : Sl → M PV) (own : List Nat) : Sl → M (List PV) := fun v => noex (dLc it g t e own v)
theorem noex_read {K : PySem.W.Frag} {d : Sl → M (List PV)} {σ : L2.St} {H : Hp} {Q : VK} (h : TDL K W (fun v => noex (d v)) σ H Q) : TDL K F0 d σ H Q := by
  obtain ⟨m, v, h, sr, sl, p⟩ := h
  refine ⟨m, v, h, sr, sl, ?_⟩
  change Post K W σ m H (noex (d v) h) _ at p
  unfold noex at p
  cases e : d v h with
  | ok u h1 => rw [e] at p; exact p
  | ex u h1 => rw [e] at p; exact p.elim
  | bad => rw [e] at p; exact p
section
variable {elt tg iter : Expr} {ifs : List Expr} {scope : Scope} {own : List (Str × Nat)} {di : Sl → M Its'} {dg : PV → Sl → M Sl} {dt : Sl → M Bool} {dee : Sl → M PV} {is : List Nat}
theorem dl_lc (own : List (Str × Nat)) (hc : X.calm = true) (hN : X.N.Nodup) (hi : DI X F0 tg iter di)
    (hg : ∀ (s : Shared) (H : Hp) (C : Addr) (cl : List (Str × Addr)) (fp : List Addr), DG (X.blk s H scope (compEnvC scope cl C X.env) fp) F0 tg dg is)
    (ht : ∀ (s : Shared) (H : Hp) (C : Addr) (cl : List (Str × Addr)) (fp : List Addr), DTs (X.blk s H scope (compEnvC scope cl C X.env) fp) F0 ifs dt)
    (he : ∀ (s : Shared) (H : Hp) (C : Addr) (cl : List (Str × Addr)) (fp : List Addr), DE (X.blk s H scope (compEnvC scope cl C X.env) fp) F0 elt dee)
    (ok : blkC X.N X.env.scope scope own = true := by decide +kernel) (his : ∀ i ∈ is, i ∈ own.map (·.2) := by decide) (hs : ∀ x, foldedSetIterable iter X.env x = pure x := by intro _; rfl) :
    DL X W (.ListComp elt [⟨tg, iter, ifs, 0⟩] scope pos) (dLcx di dg dt dee (own.map (·.2))) :=
  weakE (pe_lc hc hN hi (blkOk_by ok) hg ht he hs) fun σ H Q q => lc_read his (noex_read q)
/-- name = [..] -/
theorem ds_setLc (i : Nat) (own : List (Str × Nat)) {y : Str} {py spos : Pos} (hc : X.calm = true) (hN : X.N.Nodup) (hi : DI X F0 tg iter di)
    (hg : ∀ (s : Shared) (H : Hp) (C : Addr) (cl : List (Str × Addr)) (fp : List Addr), DG (X.blk s H scope (compEnvC scope cl C X.env) fp) F0 tg dg is)
    (ht : ∀ (s : Shared) (H : Hp) (C : Addr) (cl : List (Str × Addr)) (fp : List Addr), DTs (X.blk s H scope (compEnvC scope cl C X.env) fp) F0 ifs dt)
    (he : ∀ (s : Shared) (H : Hp) (C : Addr) (cl : List (Str × Addr)) (fp : List Addr), DE (X.blk s H scope (compEnvC scope cl C X.env) fp) F0 elt dee)
    (hy : X.N[i]? = some y := by rfl) (hyl : X.env.scope.names.lookup y = some .local := by rfl) (hsw : swapsWith (.ListComp elt [⟨tg, iter, ifs, 0⟩] scope pos) (some (.Name y py)) spos.line X.env = pure true := by exact sw_true rfl rfl rfl (by decide +kernel))
    (ok : blkC X.N X.env.scope scope own = true := by decide +kernel) (his : ∀ i ∈ is, i ∈ own.map (·.2) := by decide) (hs : ∀ x, foldedSetIterable iter X.env x = pure x := by intro _; rfl) :
    DS X W (.Assign [.Name y py] (.ListComp elt [⟨tg, iter, ifs, 0⟩] scope pos) spos) (sAsg (dFresh (dLcx di dg dt dee (own.map (·.2)))) (dgName i)) :=
  weakS (ps_setLc hc hN hy hyl hsw hi (blkOk_by ok) hg ht he hs) fun D σ H q => by
    have q1 := name_read q
    have fr : ∀ {K : PySem.W.Frag} {d : Sl → M (List PV)} {σ : L2.St} {H : Hp} {Q : VK}, TD K W (dFresh d) σ H Q → TDL K W d σ H Q := fun {K d σ H Q} ⟨m, v, h, sr, sl, p⟩ => ⟨m, v, h, sr, sl, by
      unfold dFresh bnd at p
      cases e1 : d v h with
      | ok l h1 =>
        rw [e1] at p
        intro m1 H1 x1 sr1 D xs n1 n2 eD r
        exact p (m1 ++ [D]) H1 (x1.adopt n1) (sr1.adopt n2 eD r) _ (rep_ref' (by rw [← sr1.len, List.getElem?_append_right (Nat.le_refl _)]; simp))
      | ex u h1 => rw [e1] at p; exact p
      | bad => rw [e1] at p; exact p⟩
    exact lc_read his (noex_read (fr q1))
end
end
end D

/-! layer D, part 4: functions -/
namespace D
open PySem PySem.Spec PyProof.Rows L2

/-- a def that lets no exception out -/
def fn0 (N : Nat) (b : SD) : List PV → M PV := fun as h => match b (as.map some ++ List.replicate (N - as.length) none) h with
  | .rt u h' => .ok u h'
  | .nx _ h' => .ok .non h'
  | _ => .bad
/-- a def that may -/
def fnX (N : Nat) (b : SD) : List PV → M PV := fun as h => match b (as.map some ++ List.replicate (N - as.length) none) h with
  | .rt u h' => .ok u h'
  | .nx _ h' => .ok .non h'
  | .xc e _ h' => .ex e h'
  | _ => .bad
def spD (K : PySem.W.Frag) (n : Nat) (f : List PV → M PV) : Sp := fun vs H Q E => ∃ m h as, SR K m h H ∧ Reps K m H as vs ∧ as.length = n ∧
  Post K (fun c d _ H' => E c d H') [] m H (f as h) fun m' H' _ u => ∀ x, Rep K m' H' u x → Q x H'
theorem spD_len {K : PySem.W.Frag} {n : Nat} {f : List PV → M PV} {vs : List V} {H : Hp} {Q : VK} {E : XK} (h : spD K n f vs H Q E) : vs.length = n := by
  obtain ⟨m, h, as, _, r, e, _⟩ := h
  rw [r.len, e]
theorem sl_start {K : PySem.W.Frag} {m : List Addr} {H : Hp} {N : List Str} {as : List PV} {vs : List V} (r : Reps K m H as vs) : SlD K m H (as.map some ++ List.replicate (N.length - as.length) none) (L2.start N vs) := by
  unfold L2.start
  rw [← r.len]
  refine ⟨by simp [r.len], fun i u e => ?_⟩
  by_cases hi : i < as.length
  · rw [List.getElem?_append_left (by simpa using hi), List.getElem?_map, List.getElem?_eq_getElem hi] at e
    have e' : as[i] = u := by simpa using e
    obtain ⟨x, ex, rx⟩ := r.get (List.getElem?_eq_getElem hi)
    rw [e'] at rx
    refine ⟨x, ?_, rx⟩
    rw [List.getElem?_append_left (by rw [List.length_map, r.len]; exact hi), List.getElem?_map, ex]
    rfl
  · rw [List.getElem?_append_right (by simpa using hi), List.getElem?_replicate] at e
    split at e <;> cases e
theorem body0 {K : PySem.W.Frag} {N : List Str} {b : SD} {n : Nat} {vs : List V} {H : Hp} {Q : VK} {E : XK} (h : spD K n (fn0 N.length b) vs H Q E) : TDS K F0 b { nx := fun _ H' => Q .non H', rt := Q } (L2.start N vs) H := by
  obtain ⟨m, h, as, sr, r, e, p⟩ := h
  refine ⟨m, _, h, sr, sl_start r, ?_⟩
  unfold fn0 at p
  cases e1 : b (as.map some ++ List.replicate (N.length - as.length) none) h with
  | rt u h' => rw [e1] at p; exact fun m' H' x y s q => p m' H' y s x q
  | nx v h' => rw [e1] at p; exact fun m' H' x y s q => p m' H' y s _ rep_non'
  | _ => rw [e1] at p; exact p.elim
theorem bodyX {K : PySem.W.Frag} {N : List Str} {b : SD} {n : Nat} {vs : List V} {H : Hp} {Q : VK} {E : XK} (h : spD K n (fnX N.length b) vs H Q E) : TDS K (fun c d _ H' => E c d H') b { nx := fun _ H' => Q .non H', rt := Q } (L2.start N vs) H := by
  obtain ⟨m, h, as, sr, r, e, p⟩ := h
  refine ⟨m, _, h, sr, sl_start r, ?_⟩
  unfold fnX at p
  cases e1 : b (as.map some ++ List.replicate (N.length - as.length) none) h with
  | rt u h' => rw [e1] at p; exact fun m' H' x y s q => p m' H' y s x q
  | nx v h' => rw [e1] at p; exact fun m' H' x y s q => p m' H' y s _ rep_non'
  | xc a v h' => rw [e1] at p; exact fun m' H' σ' d x s sl xr => p m' H' d x s xr
  | _ => rw [e1] at p; exact p.elim

section
variable {P : Program} {w : World} {K : PySem.W.Frag} {mg : Str → Option Value} {base : Heap}
/-- where a def of the text stands -/
structure Stands (K : PySem.W.Frag) (mg : Str → Option Value) (x : Str) (st : Stmt) (ps : List Str) (f : Addr) (fd : FuncData) : Prop where
  at_ : mg x = some (.ref f)
  fn : Fun K x x st f fd
  bd : Binds K fd ps []
/-- a def is there, and does f -/
def Has (P : Program) (w : World) (K : PySem.W.Frag) (mg : Str → Option Value) (base : Heap) (CX : CXT) (x : Str) (n k : Nat) (f : List PV → M PV) : Prop :=
  ∃ (fa : Addr) (fd : FuncData) (ps : List Str), mg x = some (.ref fa) ∧ PySem.W.keepIn K (.ref fa) = true ∧ Binds K fd ps [] ∧ FnOk P w K mg base CX k fa fd ps (spD K n f)
theorem Has.mono {CX : CXT} {x : Str} {n j k : Nat} {f : List PV → M PV} (h : Has P w K mg base CX x n j f) (l : j ≤ k) : Has P w K mg base CX x n k f := by
  obtain ⟨fa, fd, ps, a, b, c, d⟩ := h
  exact ⟨fa, fd, ps, a, b, c, d.mono l⟩
/-- the context of a def's body, nothing raised -/
abbrev cx0 (P : Program) (w : World) (K : PySem.W.Frag) (mg : Str → Option Value) (base : Heap) (N : List Str) (x : Str) (st : Stmt) (f : Addr) (cdv : Value) (A : Around) (outer : List Env) (s : Shared) (H : Hp) (E : XK) : Cx :=
  (cxOf CX0 P w K mg base N x (defScope st) f cdv A outer s H E).nox
abbrev cxX (P : Program) (w : World) (K : PySem.W.Frag) (mg : Str → Option Value) (base : Heap) (N : List Str) (x : Str) (st : Stmt) (f : Addr) (cdv : Value) (A : Around) (outer : List Env) (s : Shared) (H : Hp) (E : XK) : Cx :=
  cxOf (L2.CX P w) P w K mg base N x (defScope st) f cdv A outer s H E
theorem has0 {x : Str} {st : Stmt} {ps N : List Str} {k : Nat} {b : SD} {f : Addr} {fd : FuncData} (T : Stands K mg x st ps f fd) (S : FnScope N ps (defScope st))
    (hb : ∀ (cdv : Value) (A : Around) (outer : List Env) (s : Shared) (H : Hp) (E : XK), Room k (A.deeper (envOfC x (defScope st) s.heap.objs.size f cdv)) → DSs (cx0 P w K mg base N x st f cdv A outer s H E) F0 (defBody st) b) :
    Has P w K mg base CX0 x ps.length (k + 1) (fn0 N.length b) :=
  ⟨f, fd, ps, T.at_, T.fn.kp, T.bd, T.fn.ok S (fun vs H Q E h => spD_len h) fun cdv A outer s H vs Q E hr h => ⟨_, hb cdv A outer s H E hr, body0 h⟩⟩
theorem hasX {x : Str} {st : Stmt} {ps N : List Str} {k : Nat} {b : SD} {f : Addr} {fd : FuncData} (T : Stands K mg x st ps f fd) (S : FnScope N ps (defScope st))
    (hb : ∀ (cdv : Value) (A : Around) (outer : List Env) (s : Shared) (H : Hp) (E : XK), Room k (A.deeper (envOfC x (defScope st) s.heap.objs.size f cdv)) → Takes (cxX P w K mg base N x st f cdv A outer s H E) (fun c d _ H' => E c d H') →
      PassesOwn (model P w) (cxX P w K mg base N x st f cdv A outer s H E).A (cxX P w K mg base N x st f cdv A outer s H E).env (cxX P w K mg base N x st f cdv A outer s H E).xe → DSs (cxX P w K mg base N x st f cdv A outer s H E) (fun c d _ H' => E c d H') (defBody st) b) :
    Has P w K mg base (L2.CX P w) x ps.length (k + 1) (fnX N.length b) :=
  ⟨f, fd, ps, T.at_, T.fn.kp, T.bd, T.fn.okX S (fun vs H Q E h => spD_len h) fun cdv A outer s H vs Q E hr h => ⟨_, hb cdv A outer s H E hr (takes_of rfl rfl rfl rfl) (passes_of rfl), bodyX h⟩⟩
end

section
variable {X : Cx} {W : WX} {CX : CXT} {x : Str} {n k : Nat} {f : List PV → M PV} {e : Expr} {es : List Expr} {dl : Sl → M (List PV)} {p pos : Pos}
/-- so many arguments -/
def ArgN (n : Nat) (dl : Sl → M (List PV)) : Prop := ∀ v h as h', dl v h = .ok as h' → as.length = n
theorem argN_nil : ArgN 0 dNil := fun v h as h' e => by cases e; rfl
theorem argN_cons {n : Nat} {d : Sl → M PV} {dl : Sl → M (List PV)} (h : ArgN n dl) : ArgN (n + 1) (dCons d dl) := fun v h0 as h' e => by
  unfold dCons bnd at e
  cases e1 : d v h0 with
  | ok x h1 =>
    rw [e1] at e
    simp only at e
    cases e2 : dl v h1 with
    | ok xs h2 =>
      rw [e2] at e
      cases e
      rw [List.length_cons, h v h1 xs _ e2]
    | ex _ _ => rw [e2] at e; cases e
    | bad => rw [e2] at e; cases e
  | ex _ _ => rw [e1] at e; cases e
  | bad => rw [e1] at e; cases e
theorem pass0At {σ : L2.St} {E : XK} : PassesAt CX0 X σ E := fun _ _ _ _ _ _ h => h.elim
theorem callS_read {K : PySem.W.Frag} {σ : L2.St} {H : Hp} {Q : VK} (hl : ArgN n dl) (q : TD K W (dCall f dl) σ H Q) : TDA K W dl σ H fun vs H1 => spD K n f vs H1 Q (WE W σ) := by
  obtain ⟨m, v, h, sr, sl, p⟩ := q
  refine ⟨m, v, h, sr, sl, ?_⟩
  unfold dCall at p
  cases e1 : dl v h with
  | ok as h1 =>
    have hlen := hl v h as h1 e1
    unfold bnd at p
    rw [e1] at p
    intro m1 H1 x1 s1 xs rs
    refine ⟨m1, h1, as, s1, rs, hlen, ?_⟩
    simp only at p
    cases e2 : f as h1 with
    | ok u h2 => rw [e2] at p; exact fun m2 H2 x2 s2 => p m2 H2 (x1.trans x2) s2
    | ex u h2 => rw [e2] at p; exact fun m2 H2 d x2 s2 xr => p m2 H2 d (x1.trans x2) s2 xr
    | bad => rw [e2] at p; exact p
  | ex u h1 => unfold bnd at p; rw [e1] at p; exact p
  | bad => unfold bnd at p; rw [e1] at p; exact p
theorem de_call (F : Has X.prog X.w X.K X.mg X.base CX x n k f) (hr : Room k X.A) (hx : ∀ σ, PassesAt CX X σ (WE W σ)) (ha : DA X W (e :: es) dl) (hl : ArgN n dl) (hg : Gl X x := by rfl)
    (hdb : (x == ("__debug__" : Str)) = false := by decide) (he : starEach (e :: es) X.env = (false, eval e X.env) :: starEach es X.env := by rfl) (hpl : (backTo pos (starEach es X.env)).any (·.1) = false := by rfl) :
    DE X W (.Call (.Name x p) (e :: es) [] pos) (dCall f dl) := by
  obtain ⟨fa, fd, ps, a, b, c, d⟩ := F
  exact weakE (pe_callS (E := WE W) d hr hg a b c hx ha hdb he hpl) fun σ H Q q => callS_read hl q
end
end D

/-! layer D, part 5: functions that ask for repr (no guard is held around them), the law's own end -/
namespace D
open PySem PySem.Spec PyProof.Rows L2

/-- as FnOk, where no guard is held around the call -/
structure FnG (P : Program) (w : World) (K : PySem.W.Frag) (mg : Str → Option Value) (base : Heap) (CX : CXT) (k : Nat) (f : Addr) (fd : FuncData) (ps : List Str) (sp : Sp) : Prop where
  arity : ∀ vs H Q E, sp vs H Q E → vs.length = ps.length
  go : ∀ (A : Around) (outer : List Env) (s : Shared) (H : Hp) (args : Args) (us : List Value) (vs : List V) (Q : VK) (E : XK), A.guards = some [] → Room k A →
    Env0 P w K mg base A outer s H → BindsTo s fd args (ps.zip us) → Vals vs us → sp vs H Q E → codeAny (model P w) A (.call (.ref f) args) (CR CX outer P w H s Q E) s
theorem FnG.of {P : Program} {w : World} {K : PySem.W.Frag} {mg : Str → Option Value} {base : Heap} {CX : CXT} {k : Nat} {f : Addr} {fd : FuncData} {ps : List Str} {sp : Sp} (F : FnOk P w K mg base CX k f fd ps sp) : FnG P w K mg base CX k f fd ps sp :=
  ⟨F.len, fun A outer s H args us vs Q E _ hr => F.run A outer s H args us vs Q E hr⟩
theorem FnG.up {P : Program} {w : World} {K : PySem.W.Frag} {mg : Str → Option Value} {base : Heap} {CX : CXT} {j k : Nat} {f : Addr} {fd : FuncData} {ps : List Str} {sp : Sp} (F : FnG P w K mg base CX j f fd ps sp) (l : j ≤ k) : FnG P w K mg base CX k f fd ps sp :=
  ⟨F.arity, fun A outer s H args us vs Q E g hr => F.go A outer s H args us vs Q E g (hr.mono l)⟩

section
variable {P : Program} {w : World} {K : PySem.W.Frag} {mg : Str → Option Value} {base : Heap} {CX : CXT}
/-- a def of the text, its body read where no guard is held -/
theorem fnG_of {k : Nat} {f : Addr} {x : Str} {st : Stmt} {fd : FuncData} {N ps : List Str} {sp : Sp} (F : Fun K x x st f fd) (S : FnScope N ps (defScope st)) (len : ∀ vs H Q E, sp vs H Q E → vs.length = ps.length)
    (body : ∀ (cdv : Value) (A : Around) (outer : List Env) (s : Shared) (H : Hp) (vs : List V) (Q : VK) (E : XK), A.guards = some [] → Room k (A.deeper (envOfC x (defScope st) s.heap.objs.size f cdv)) → sp vs H Q E →
      ∃ t, PSs (cxOf CX P w K mg base N x (defScope st) f cdv A outer s H E) (defBody st) t ∧ t { nx := fun _ H' => Q .non H', rt := Q } (L2.start N vs) H) : FnG P w K mg base CX (k + 1) f fd ps sp := by
  obtain ⟨oc, od, kV, doc, pm, an, cdv, ct, osl, e, lk, code⟩ := F.ex
  subst e
  constructor
  · exact len
  intro A outer s H args us vs Q E g room e0 bt rv q
  have inK : K.In s.heap := e0.mod.kin.keeps (fun b o z => (e0.bs b o z).1)
  have free : s.heap.NoLimit := e0.mod.nolimit.keeps (fun b o z => (e0.bs b o z).1)
  have kinds : ∀ y ∈ ps.zip us, (defScope st).names.lookup y.1 = some .local ∨ ((defScope st).names.lookup y.1 = some .cell ∧ ((cellsFrom (s.heap.objs.size + 1) (defScope st).names []).lookup y.1).isSome = true) := by
    rintro ⟨n, v⟩ hy
    cases S.par n (List.of_mem_zip hy).1 with
    | inl z => exact Or.inl z
    | inr z => exact Or.inr ⟨z, PySem.W.cellsFrom_some _ _ _ (Or.inl z)⟩
  apply codeAny_call_function room.depth (inK _ _ lk) rfl S.co S.gen rfl (PySem.W.codeRec_of inK code)
  apply bt
  apply wpAny_newFunctionEnv_cells S.kind kinds
  rintro env rfl s1 x1
  refine And.intro (free.keeps x1.toInCall.keep) (codeAny_func ?_)
  obtain ⟨t, ht, hq⟩ := body cdv A outer s H vs Q E g (room.deeper _) q
  have I := inv_start (CX := CX) (P := P) (w := w) (K := K) (mg := mg) (base := base) (f := f) (cd := cdv) (E := E) S room.hd e0 (len _ _ _ _ q) rv x1
  apply wpAny_mono (ht.run [] s1 (L2.start N vs) H _ I hq)
  · intro fl s' hs
    have out : ∀ {σ' : L2.St} {H' : Hp} {v : V} {u : Value}, Inv (cxOf CX P w K mg base N x (defScope st) f cdv A outer s H E) [] σ' H' s' → RelV v u → Q v H' → CE outer P w H s Q u s' := by
      intro σ' H' v u J rv q
      exact ⟨v, H', J.os, J.bare, J.base, J.hok, rv, q⟩
    match fl, hs with
    | .ret u, ⟨v, σ', H', J, rv, q⟩ => exact out J rv q
    | .next, ⟨σ', H', J, q⟩ => exact out (v := .non) (u := Value.none) J rfl q
    | .brk, ⟨_, _, _, q⟩ => exact q.elim
    | .cont, ⟨_, _, _, q⟩ => exact q.elim
  · exact fun e s' z => z
def HasG (P : Program) (w : World) (K : PySem.W.Frag) (mg : Str → Option Value) (base : Heap) (CX : CXT) (x : Str) (n k : Nat) (f : List PV → M PV) : Prop :=
  ∃ (fa : Addr) (fd : FuncData) (ps : List Str), mg x = some (.ref fa) ∧ PySem.W.keepIn K (.ref fa) = true ∧ Binds K fd ps [] ∧ FnG P w K mg base CX k fa fd ps (spD K n f)
theorem Has.g {x : Str} {n k : Nat} {f : List PV → M PV} (h : Has P w K mg base CX x n k f) : HasG P w K mg base CX x n k f := by
  obtain ⟨fa, fd, ps, a, b, c, d⟩ := h
  exact ⟨fa, fd, ps, a, b, c, .of d⟩
theorem HasG.mono {x : Str} {n j k : Nat} {f : List PV → M PV} (h : HasG P w K mg base CX x n j f) (l : j ≤ k) : HasG P w K mg base CX x n k f := by
  obtain ⟨fa, fd, ps, a, b, c, d⟩ := h
  exact ⟨fa, fd, ps, a, b, c, d.up l⟩
theorem fnG0 {x : Str} {st : Stmt} {ps N : List Str} {k : Nat} {b : SD} {f : Addr} {fd : FuncData} (T : Stands K mg x st ps f fd) (S : FnScope N ps (defScope st))
    (hb : ∀ (cdv : Value) (A : Around) (outer : List Env) (s : Shared) (H : Hp) (E : XK), A.guards = some [] → Room k (A.deeper (envOfC x (defScope st) s.heap.objs.size f cdv)) → DSs (cx0 P w K mg base N x st f cdv A outer s H E) F0 (defBody st) b) :
    FnG P w K mg base CX0 (k + 1) f fd ps (spD K ps.length (fn0 N.length b)) :=
  fnG_of T.fn S (fun vs H Q E h => spD_len h) fun cdv A outer s H vs Q E g hr h => ⟨_, (hb cdv A outer s H E g hr).nox, body0 h⟩
theorem hasG0 {x : Str} {st : Stmt} {ps N : List Str} {k : Nat} {b : SD} {f : Addr} {fd : FuncData} (T : Stands K mg x st ps f fd) (S : FnScope N ps (defScope st))
    (hb : ∀ (cdv : Value) (A : Around) (outer : List Env) (s : Shared) (H : Hp) (E : XK), A.guards = some [] → Room k (A.deeper (envOfC x (defScope st) s.heap.objs.size f cdv)) → DSs (cx0 P w K mg base N x st f cdv A outer s H E) F0 (defBody st) b) :
    HasG P w K mg base CX0 x ps.length (k + 1) (fn0 N.length b) := ⟨f, fd, ps, T.at_, T.fn.kp, T.bd, fnG0 T S hb⟩
theorem fnGX {x : Str} {st : Stmt} {ps N : List Str} {k : Nat} {b : SD} {f : Addr} {fd : FuncData} (T : Stands K mg x st ps f fd) (S : FnScope N ps (defScope st))
    (hb : ∀ (cdv : Value) (A : Around) (outer : List Env) (s : Shared) (H : Hp) (E : XK), A.guards = some [] → Room k (A.deeper (envOfC x (defScope st) s.heap.objs.size f cdv)) → Takes (cxX P w K mg base N x st f cdv A outer s H E) (fun c d _ H' => E c d H') →
      PassesOwn (model P w) (cxX P w K mg base N x st f cdv A outer s H E).A (cxX P w K mg base N x st f cdv A outer s H E).env (cxX P w K mg base N x st f cdv A outer s H E).xe → DSs (cxX P w K mg base N x st f cdv A outer s H E) (fun c d _ H' => E c d H') (defBody st) b) :
    FnG P w K mg base (L2.CX P w) (k + 1) f fd ps (spD K ps.length (fnX N.length b)) :=
  fnG_of T.fn S (fun vs H Q E h => spD_len h) fun cdv A outer s H vs Q E g hr h => ⟨_, hb cdv A outer s H E g hr (takes_of rfl rfl rfl rfl) (passes_of rfl), bodyX h⟩
theorem hasGX {x : Str} {st : Stmt} {ps N : List Str} {k : Nat} {b : SD} {f : Addr} {fd : FuncData} (T : Stands K mg x st ps f fd) (S : FnScope N ps (defScope st))
    (hb : ∀ (cdv : Value) (A : Around) (outer : List Env) (s : Shared) (H : Hp) (E : XK), A.guards = some [] → Room k (A.deeper (envOfC x (defScope st) s.heap.objs.size f cdv)) → Takes (cxX P w K mg base N x st f cdv A outer s H E) (fun c d _ H' => E c d H') →
      PassesOwn (model P w) (cxX P w K mg base N x st f cdv A outer s H E).A (cxX P w K mg base N x st f cdv A outer s H E).env (cxX P w K mg base N x st f cdv A outer s H E).xe → DSs (cxX P w K mg base N x st f cdv A outer s H E) (fun c d _ H' => E c d H') (defBody st) b) :
    HasG P w K mg base (L2.CX P w) x ps.length (k + 1) (fnX N.length b) := ⟨f, fd, ps, T.at_, T.fn.kp, T.bd, fnGX T S hb⟩
end

section
variable {X : Cx} {W : WX} {CX : CXT} {x : Str} {n k : Nat} {f : List PV → M PV} {e : Expr} {es : List Expr} {dl : Sl → M (List PV)} {p pos : Pos}
/-- a call of such a def -/
theorem de_callG (hG : X.A.guards = some []) (F : HasG X.prog X.w X.K X.mg X.base CX x n k f) (hr : Room k X.A) (hx : ∀ σ, PassesAt CX X σ (WE W σ)) (ha : DA X W (e :: es) dl) (hl : ArgN n dl) (hg : Gl X x := by rfl)
    (hdb : (x == ("__debug__" : Str)) = false := by decide) (he : starEach (e :: es) X.env = (false, eval e X.env) :: starEach es X.env := by rfl) (hpl : (backTo pos (starEach es X.env)).any (·.1) = false := by rfl) :
    DE X W (.Call (.Name x p) (e :: es) [] pos) (dCall f dl) := by
  obtain ⟨fa, fd, ps, a, b, c, d⟩ := F
  refine ⟨fun pins s σ H Q I q => ?_⟩
  apply wpAny_Call_Name_kw
  apply ld_glob I hg a _ hdb
  apply PySem.W.callWith_K I.ok.mod.kin b _ he hpl
  refine thn (ha.run pos pins s σ H _ I (callS_read hl q)) ?_
  rintro us s1 ⟨vs, H1, I1, r, q1⟩
  refine ⟨I1.kIn, wpAny_call (codeAny_mono (d.go X.A X.stack s1 H1 ⟨us, []⟩ us vs Q (WE W σ) hG hr I1.env0 ?_ r q1) ?_)⟩
  · have := c s1 us I1.kIn (by rw [List.append_nil, ← r.length]; exact d.arity _ _ _ _ q1)
    simpa using this
  · intro res s2 z
    match res, z with
    | .error ee, z => exact hx σ pins H1 s1 ee s2 I1 z
    | .ok (.ret u), z => exact I1.after z
    | .ok .next, z => exact z.elim
    | .ok .brk, z => exact z.elim
    | .ok .cont, z => exact z.elim
end
end D

/-! layer D, part 6: the law's own end -/
namespace D
open PySem PySem.Spec PyProof.Rows L2

/-- nothing is tracked but the script at a -/
structure OnlyAt (a : Addr) (H : Hp) : Prop where
  else_ : ∀ b, b ≠ a → H b = none
  frozen : ∀ o, H a = some o → ∃ ob xs, o = .frz ob (.lst xs)

section
variable {P : Program} {w : World} {K : PySem.W.Frag} {mg mb : Str → Option Value} {CX : CXT} {k : Nat} {fa a : Addr} {fd : FuncData} {x : Str} {sp : Sp} {s1 : Shared} {vs : List Value} {ns : List Int}
theorem law_run (KX : K.In s1.heap) (hns : s1.heap.Ns mainGlobals mg) (hb : s1.heap.Ns builtinsNs mb) (hbb : ∀ x : Str, x ≠ "__name__" → mb x = bootBuiltins x) (hlim : s1.heap.NoLimit) (hg : s1.gens = #[])
    (ha : s1.heap.get? a = some { cls := .type "list", data := .seq vs.toArray }) (room : Room k callerA)
    (F : ∀ base : Heap, K.In base → base.Ns mainGlobals mg → FnG P w K mg base CX k fa fd [x] sp) (hbind : ∀ (s : Shared) (u : Value), BindsTo s fd ⟨[u], []⟩ [(x, u)])
    {H : Hp} (only : OnlyAt a H) (ok : HOk P w H s1.heap) (apart : H a ≠ none → K.lookup a = none) (q : sp [.ref a] H (fun v _ => v = .bl true) fun _ _ _ => False)
    (noX : ∀ e s', CX [] H s1 (fun _ _ _ => False) e s' → False) :
    codeAny (model P w) callerA (.call (.ref fa) ⟨[.ref a], []⟩) (fun r s' => r = .ok (.ret (.bool true)) ∧ OldK s1.heap s'.heap ∧ s'.os = s1.os ∧ AllBare s'.gens) s1 := by
  have untracked : ∀ {b : Addr} {o : Obj} {es : Array DictEntry} {n : Nat}, s1.heap.get? b = some o → o.data = .dict es n → H b = none := by
    intro b o es n e d
    by_cases z : b = a
    · subst z
      rw [ha] at e
      injection e with e
      subst e
      exact absurd d (by simp)
    · exact only.else_ b z
  have space : ∀ {b : Addr} {m : Str → Option Value}, s1.heap.Ns b m → (hidT s1.heap H).Ns b m := by
    rintro b m ⟨o, es, n, e, d, r⟩
    exact ⟨o, es, n, hidT_get e (untracked e d), d, r⟩
  have kin : K.In (hidT s1.heap H) := by
    intro b o e
    refine hidT_get (KX b o e) ?_
    by_cases z : b = a
    · subst z
      cases y : H b with
      | none => rfl
      | some u => rw [apart (by rw [y]; simp)] at e; cases e
    · exact only.else_ b z
  have md : Mod K mg (hidT s1.heap H) := by
    obtain ⟨mc, h1, h2⟩ := hlim
    exact ⟨kin, space hns, ⟨mb, space hb, hbb⟩, mc, space h1, h2⟩
  have e0 : Env0 P w K mg (hidT s1.heap H) callerA [] s1 H :=
    { frames := rfl, mod := md, bs := fun b o e => of_hidT e, bsz := Nat.le_of_eq (hidT_size _ _), funs := trivial, frf := fun b z => absurd (show b ∈ ([] : List Addr) from z) List.not_mem_nil, hok := ok, bare := .of_eq hg }
  apply codeAny_mono ((F _ kin (space hns)).go callerA [] s1 H ⟨[.ref a], []⟩ [.ref a] [.ref a] _ _ rfl room e0 (hbind s1 (.ref a)) (.cons rfl .nil) q)
  intro r s' z
  match r, z with
  | .error e, z => exact (noX e s' z).elim
  | .ok .next, z => exact z.elim
  | .ok .brk, z => exact z.elim
  | .ok .cont, z => exact z.elim
  | .ok (.ret u), ⟨v, H', os, bare, un, ok', rv, e⟩ =>
    have e : v = .bl true := e
    subst e
    obtain rfl : u = Value.bool true := rv
    refine ⟨rfl, OldK.of_keep ?_, os, bare⟩
    intro b o eb
    cases y : H b with
    | none => exact un.keep b o eb y (fun z => absurd (show b ∈ ([] : List Addr) from z) List.not_mem_nil) List.not_mem_nil
    | some u =>
      have z : b = a := by
        cases Classical.em (b = a) with
        | inl z => exact z
        | inr z => rw [only.else_ b z] at y; cases y
      subst z
      obtain ⟨ob, xs, rfl⟩ := only.frozen u y
      have f2 := un.frzs b ob _ y
      obtain ⟨g1, _⟩ := ok b _ y
      obtain ⟨g2, _⟩ := ok' b _ f2
      rw [eb] at g1
      cases g1
      exact g2
/-- the law's promise: with the script it gives True -/
theorem law_call' {f : List PV → M PV} (KX : K.In s1.heap) (hns : s1.heap.Ns mainGlobals mg) (hb : s1.heap.Ns builtinsNs mb) (hbb : ∀ x : Str, x ≠ "__name__" → mb x = bootBuiltins x) (hlim : s1.heap.NoLimit) (hg : s1.gens = #[])
    (ha : s1.heap.get? a = some { cls := .type "list", data := .seq vs.toArray }) (hi : IntsAre vs ns) (small : ns.length ≤ sizeLine) (room : Room k callerA)
    (F : ∀ base : Heap, K.In base → base.Ns mainGlobals mg → FnG P w K mg base CX k fa fd [x] (spD K 1 f)) (hbind : ∀ (s : Shared) (u : Value), BindsTo s fd ⟨[u], []⟩ [(x, u)])
    (law : ∃ h', f [.rol (ns.map PV.int)] [] = .ok (.bl true) h') (noX : ∀ H e s', CX [] H s1 (fun _ _ _ => False) e s' → False) :
    codeAny (model P w) callerA (.call (.ref fa) ⟨[.ref a], []⟩) (fun r s' => r = .ok (.ret (.bool true)) ∧ OldK s1.heap s'.heap ∧ s'.os = s1.os ∧ AllBare s'.gens) s1 := by
  have rv := vals_ints hi
  have many := hi.length
  have reps : ∀ (H : Hp) (l : List Int), Reps K [] H (l.map PV.int) (l.map V.int) := by
    intro H l
    induction l with
    | nil => exact Reps.nil
    | cons i l ih => exact Reps.cons rep_int' ih
  have sp : ∀ H, LstAt K [] H a (ns.map V.int) → spD K 1 f [.ref a] H (fun v _ => v = .bl true) fun _ _ _ => False := by
    intro H at_
    refine ⟨[], [], [.rol (ns.map PV.int)], ⟨rfl, List.nodup_nil, fun n o b e _ => by simp at e⟩, Reps.cons ?_ Reps.nil, rfl, ?_⟩
    · simp only [Rep]
      exact ⟨a, _, rfl, at_, reps H ns⟩
    · obtain ⟨h', e⟩ := law
      rw [e]
      exact fun m' H' _ _ y ry => rep_bl ry
  cases hk : K.lookup a with
  | some o =>
    have e := KX a o hk
    rw [ha] at e
    injection e with e
    subst e
    refine law_run (H := fun _ => none) KX hns hb hbb hlim hg ha room F hbind ⟨fun _ _ => rfl, fun o z => nomatch z⟩ (fun b u z => nomatch z) (fun z => absurd rfl z) (sp _ (.inr fun H' => .inr ?_)) (noX _)
    exact ⟨_, vs.toArray, _, hk, rfl, rfl, rfl, by rw [List.size_toArray, many]; exact small, by simpa using rv⟩
  | none =>
    have at_ : (if a = a then some (HO.frz { cls := .type "list", data := .seq vs.toArray } (.lst (ns.map V.int))) else none) = some (HO.frz { cls := .type "list", data := .seq vs.toArray } (.lst (ns.map V.int))) := if_pos rfl
    refine law_run (H := fun b => if b = a then some (.frz { cls := .type "list", data := .seq vs.toArray } (.lst (ns.map V.int))) else none) KX hns hb hbb hlim hg ha room F hbind ⟨fun b z => if_neg z, fun o z => ?_⟩ ?_ (fun _ => hk) (sp _ (.inl ⟨List.not_mem_nil, _, at_⟩)) (noX _)
    · have z' := at_.symm.trans z
      injection z' with z'
      exact ⟨_, _, z'.symm⟩
    · intro b u z
      by_cases hba : b = a
      · subst hba
        have z' := at_.symm.trans z
        injection z' with z'
        subst z'
        exact ⟨ha, by rw [List.length_map]; exact small, vs, _, rv, ha⟩
      · have z' := (if_neg hba).symm.trans z
        cases z'
end

/-- the goal that the head leaves, from the law's function -/
theorem walk_D {l : PySem.W.OpenLaw} {n k : Nat} {q : Program} {loose : List Str} {XP : (Str → Option Value) → Heap → Prop} {YP : World → Heap → Prop} {d : DefRec} {K : Params → PySem.W.Frag} {CX : World → CXT} {x : Str} {f : World → List PV → M PV}
    (hn : l.most = some n) (hn2 : n ≤ sizeLine) (hdf : d.params.defaults = []) (hr : Room k callerA) (hY : ∀ (w : World) (h : Heap), YP w h → (K w.params).In h)
    (F : ∀ (w : World) (mg : Str → Option Value) (fa : Addr) (h : Heap), (K w.params).In h → h.Ns mainGlobals mg → mg d.name = some (.ref fa) →
      ∃ fd : FuncData, (∀ (s : Shared) (u : Value), BindsTo s fd ⟨[u], []⟩ [(x, u)]) ∧ ∀ base : Heap, (K w.params).In base → base.Ns mainGlobals mg → FnG l.prog w (K w.params) mg base (CX w) k fa fd [x] (spD (K w.params) 1 (f w)))
    (law : ∀ (w : World) (ns : List Int), ns.length ≤ n → ∃ h', f w [.rol (ns.map PV.int)] [] = .ok (.bl true) h')
    (noX : ∀ (w : World) (H : Hp) (s : Shared) (e : Value) (s' : Shared), CX w [] H s (fun _ _ _ => False) e s' → False) :
    PySem.W.WalkO q loose XP YP l.row.toRowW d [] (fun f vs => PySem.call f vs) := by
  apply Att.attach_call hn hdf
  intro w s0 s1 mg mb fa o pm cd doc a vs ns G Y ho hd hcd hmg hobj hints hlen hg
  have KX := hY w _ Y
  obtain ⟨fd, hb, hF⟩ := F w mg fa _ KX G.T.g hmg
  exact law_call' KX G.T.g G.T.b G.T.builtins G.T.nolimit hg hobj hints (Nat.le_trans hlen hn2) hr hF hb (law w ns hlen) fun H e s' => noX w H s1 e s'
end D

/-! layer D, part 7: operators -/
namespace D
open PySem PySem.Spec PyProof.Rows L2

/-! ### values as data -/
mutual
def pdat (r : Nat → Option PyData) : PV → Option PyData
  | .non => some .none
  | .bl b => some (.bool b)
  | .int i => some (.int i)
  | .str x => some (.str x)
  | .tup l => match pdats r l with
    | some ds => some (.tuple ds)
    | none => none
  | .rol l => match pdats r l with
    | some ds => some (.list ds)
    | none => none
  | .ref n => r n
  | .con _ => none
  | .xt _ => none
def pdats (r : Nat → Option PyData) : List PV → Option (List PyData)
  | [] => some []
  | v :: l => match pdat r v with
    | some d => match pdats r l with
      | some ds => some (d :: ds)
      | none => none
    | none => none
end
def rdat (h : VH) : Nat → Nat → Option PyData
  | 0, _ => none
  | n + 1, k => match h[k]? with
    | some (.lst l) => match pdats (rdat h n) l with
      | some ds => some (.list ds)
      | none => none
    | _ => none
def dat (h : VH) (v : PV) : Option PyData := pdat (rdat h 4) v
section
variable {K : PySem.W.Frag} {m : List Addr} {h : VH} {H : Hp}
mutual
theorem pdat_dp {r : Nat → Option PyData} (hr : ∀ n d a, r n = some d → m[n]? = some a → Dp K H (.ref a) d) : ∀ (v : PV) (d : PyData) (x : V), pdat r v = some d → Rep K m H v x → Dp K H x d
  | .non, d, x, e, q => by simp only [pdat] at e; cases e; rw [rep_non q]; exact .non
  | .bl b, d, x, e, q => by simp only [pdat] at e; cases e; rw [rep_bl q]; exact .bl b
  | .int i, d, x, e, q => by simp only [pdat] at e; cases e; rw [rep_int q]; exact .int i
  | .str z, d, x, e, q => by simp only [pdat] at e; cases e; rw [rep_str q]; exact .str z
  | .con _, d, x, e, q => by simp only [pdat] at e; cases e
  | .ref n, d, x, e, q => by
    simp only [pdat] at e
    obtain ⟨a, rfl, z⟩ := rep_ref q
    exact hr n d a e z
  | .tup l, d, x, e, q => by
    simp only [pdat] at e
    split at e
    · rename_i ds eds
      cases e
      obtain ⟨a, xs, rfl, t, rs⟩ := rep_tup q
      exact .tup t.sq (pdats_dp hr l ds xs eds rs)
    · cases e
  | .rol l, d, x, e, q => by
    simp only [pdat] at e
    split at e
    · rename_i ds eds
      cases e
      obtain ⟨a, xs, rfl, t, rs⟩ := rep_rol q
      exact .lst t.sq (pdats_dp hr l ds xs eds rs)
    · cases e
theorem pdats_dp {r : Nat → Option PyData} (hr : ∀ n d a, r n = some d → m[n]? = some a → Dp K H (.ref a) d) : ∀ (l : List PV) (ds : List PyData) (xs : List V), pdats r l = some ds → Reps K m H l xs → DpAll K H xs ds
  | [], ds, xs, e, q => by simp only [pdats] at e; cases e; rw [q.nil_inv]; exact .nil
  | v :: l, ds, xs, e, q => by
    simp only [pdats] at e
    split at e
    · rename_i d ed
      split at e
      · rename_i ds' eds
        cases e
        obtain ⟨x, t, rfl, r1, r2⟩ := q.cons_inv
        exact .cons (pdat_dp hr v d x ed r1) (pdats_dp hr l ds' t eds r2)
      · cases e
    · cases e
end
theorem rdat_dp (s : SR K m h H) : ∀ (k n : Nat) (d : PyData) (a : Addr), rdat h k n = some d → m[n]? = some a → Dp K H (.ref a) d
  | 0, n, d, a, e, _ => by simp only [rdat] at e; cases e
  | k + 1, n, d, a, e, ha => by
    simp only [rdat] at e
    split at e
    · rename_i l el
      split at e
      · rename_i ds eds
        cases e
        obtain ⟨xs, q, rs⟩ := s.obj n _ a el ha
        exact .lst (.of q) (pdats_dp (rdat_dp s k) l ds xs eds rs)
      · cases e
    · cases e
theorem dat_dp (s : SR K m h H) {v : PV} {d : PyData} {x : V} (e : dat h v = some d) (r : Rep K m H v x) : Dp K H x d := pdat_dp (rdat_dp s 4) v d x e r
end

/-! ### arithmetic -/
def oAdd : PV → PV → O PV
  | .int i, .int j => fun h => some (.int (i + j), h)
  | .tup l, .tup k => fun h => if l.length + k.length ≤ 16777216 then some (.tup (l ++ k), h) else none
  | .str x, .str y => fun h => if x.length + y.length ≤ 16777216 then some (.str (x ++ y), h) else none
  | .ref a, .ref b => fun h => match h[a]?, h[b]? with
    | some (.lst l), some (.lst k) => if l.length + k.length ≤ 16777216 then some (.ref h.length, h ++ [.lst (l ++ k)]) else none
    | _, _ => none
  | _, _ => fun _ => none
def oInt2 (f : Int → Int → Option PV) : PV → PV → O PV
  | .int i, .int j => fun h => match f i j with
    | some z => some (z, h)
    | none => none
  | _, _ => fun _ => none
def oSub : PV → PV → O PV := oInt2 fun i j => some (.int (i - j))
/-- a bound below which products are let -/
def big : Int := 2 ^ 64
def oMul : PV → PV → O PV
  | .int i, .int j => fun h => if (-big < i ∧ i < big) ∨ (-big < j ∧ j < big) then some (.int (i * j), h) else none
  | .ref a, .int k => fun h => match h[a]? with
    | some (.lst l) => if 0 ≤ k ∧ k ≤ 1000 ∧ l.length ≤ 1000 then some (.ref h.length, h ++ [.lst (List.replicate k.toNat l).flatten]) else none
    | _ => none
  | _, _ => fun _ => none
def oFdiv : PV → PV → O PV := oInt2 fun i j => if 0 < j ∧ j.natAbs < 2 ^ 9000 then some (.int (i / j)) else none
def oMod : PV → PV → O PV := oInt2 fun i j => if 0 < j then some (.int (i % j)) else none
def oPow : PV → PV → O PV := oInt2 fun i j => if 0 ≤ j ∧ j ≤ 1000000 ∧ i.natAbs < 2 ^ 64 then some (.int (i ^ j.toNat)) else none
def oShl : PV → PV → O PV := oInt2 fun i j => if 0 ≤ j ∧ j ≤ 1000000 ∧ i.natAbs < 2 ^ 64 then some (.int (i * 2 ^ j.toNat)) else none
def oShr : PV → PV → O PV := oInt2 fun i j => if 0 ≤ j then some (.int (i / 2 ^ j.toNat)) else none
def oAnd : PV → PV → O PV := oInt2 fun i j => some (.int (Builtin.bitAnd i j))
def oOr : PV → PV → O PV := oInt2 fun i j => some (.int (Builtin.bitOr i j))
def uNeg : PV → O PV
  | .int i => fun h => some (.int (-i), h)
  | _ => fun _ => none
def uInv : PV → O PV
  | .int i => fun h => some (.int (Builtin.bitNot i), h)
  | _ => fun _ => none

theorem tup_not_lst {X : Cx} {pins : List (Addr × Obj)} {σ : L2.St} {H : Hp} {s : Shared} {a : Addr} {xs ys : List V} (I : Inv X pins σ H s) (h : SqT X.K H a xs) (h' : SqL X.K H a ys) : False := by
  obtain ⟨its, _, ⟨o, e, c, _⟩, _⟩ := I.tuple h
  obtain ⟨its', _, ⟨o', _, e', c', _⟩, _⟩ := I.list h'
  rw [e] at e'
  cases e'
  rw [c] at c'
  exact absurd c' (by decide +kernel)
section
variable {X : Cx}
theorem oInt2_ok {f : Value → Value → Sem Value} {g : Int → Int → Option PV} (h : ∀ i j z, g i j = some z → ∃ C : Int → Int → Prop, ∃ z' : Int → Int → Int, OpR X f (rI C fun i j => .int (z' i j)) ∧ C i j ∧ z = .int (z' i j)) : OpR X f (rO2 X.K (oInt2 g)) := by
  intro pins s σ H x y v u Q I rx ry ⟨m, hh, a, b, z, h', sr, ra, rb, e, q⟩
  cases a <;> cases b <;> try (simp only [oInt2, reduceCtorEq] at e; done)
  rename_i i j
  simp only [oInt2] at e
  cases eg : g i j with
  | none => rw [eg] at e; cases e
  | some w =>
    rw [eg] at e
    cases e
    obtain ⟨C, z', op, c, e2⟩ := h i j _ eg
    subst e2
    rw [rep_int ra] at rx; rw [rep_int rb] at ry
    exact op pins s σ H _ _ v u Q I rx ry ⟨i, j, rfl, rfl, c, q m H _ .refl sr rep_int'⟩
theorem weakR {f : Value → Value → Sem Value} {g : Int → Int → Int} (h : OpR X f (rI0 fun i j => .int (g i j))) : OpR X f (rI (fun _ _ => True) fun i j => .int (g i j)) := by
  intro pins s σ H x y v u Q I rx ry ⟨i, j, a, b, _, q⟩
  exact h pins s σ H x y v u Q I rx ry ⟨i, j, a, b, q⟩
theorem p_sub : OpR X (binaryOp .Sub) (rO2 X.K oSub) := oInt2_ok fun i j z e => ⟨_, _, weakR op_sub, trivial, by cases e; rfl⟩
theorem p_mod : OpR X (binaryOp .Mod) (rO2 X.K oMod) := oInt2_ok fun i j z e => by
  by_cases c : 0 < j
  · rw [if_pos c] at e; cases e; exact ⟨_, _, op_mod, c, rfl⟩
  · rw [if_neg c] at e; cases e
theorem p_fdiv : OpR X (binaryOp .FloorDiv) (rO2 X.K oFdiv) := oInt2_ok fun i j z e => by
  by_cases c : 0 < j ∧ j.natAbs < 2 ^ 9000
  · rw [if_pos c] at e; cases e; exact ⟨_, _, op_fdivW, wide_div c.1 c.2 (by decide) (by decide), rfl⟩
  · rw [if_neg c] at e; cases e
theorem p_pow : OpR X (binaryOp .Pow) (rO2 X.K oPow) := oInt2_ok fun i j z e => by
  by_cases c : 0 ≤ j ∧ j ≤ 1000000 ∧ i.natAbs < 2 ^ 64
  · rw [if_pos c] at e; cases e; exact ⟨_, _, op_pow, c, rfl⟩
  · rw [if_neg c] at e; cases e
theorem p_shl : OpR X (binaryOp .LShift) (rO2 X.K oShl) := oInt2_ok fun i j z e => by
  by_cases c : 0 ≤ j ∧ j ≤ 1000000 ∧ i.natAbs < 2 ^ 64
  · rw [if_pos c] at e; cases e; exact ⟨_, _, op_shl, c, rfl⟩
  · rw [if_neg c] at e; cases e
theorem p_shr : OpR X (binaryOp .RShift) (rO2 X.K oShr) := oInt2_ok fun i j z e => by
  by_cases c : 0 ≤ j
  · rw [if_pos c] at e; cases e; exact ⟨_, _, op_shr, c, rfl⟩
  · rw [if_neg c] at e; cases e
theorem p_and : OpR X (binaryOp .BitAnd) (rO2 X.K oAnd) := oInt2_ok fun i j z e => ⟨_, _, weakR op_and, trivial, by cases e; rfl⟩
theorem p_or : OpR X (binaryOp .BitOr) (rO2 X.K oOr) := oInt2_ok fun i j z e => ⟨_, _, weakR op_or, trivial, by cases e; rfl⟩
theorem ip_sub : PIp X .Sub (rO2 X.K oSub) := oInt2_ok (f := inplaceOp .Sub) fun i j z e => ⟨_, _, weakR iop_sub, trivial, by cases e; rfl⟩
theorem ip_addI : PIp X .Add (rO2 X.K (oInt2 fun i j => some (.int (i + j)))) := oInt2_ok (f := inplaceOp .Add) fun i j z e => ⟨_, _, weakR iop_add, trivial, by cases e; rfl⟩
theorem p_neg : UnR X (unaryOp .USub) (rO1 X.K uNeg) := by
  intro pins s σ H x v Q I rx ⟨m, h, a, z, h', sr, ra, e, q⟩
  cases a <;> try (simp only [uNeg, reduceCtorEq] at e; done)
  rename_i i
  cases e
  rw [rep_int ra] at rx
  exact un_neg pins s σ H _ v Q I rx ⟨i, rfl, q m H _ .refl sr rep_int'⟩
theorem p_inv : UnR X (unaryOp .Invert) (rO1 X.K uInv) := by
  intro pins s σ H x v Q I rx ⟨m, h, a, z, h', sr, ra, e, q⟩
  cases a <;> try (simp only [uInv, reduceCtorEq] at e; done)
  rename_i i
  cases e
  rw [rep_int ra] at rx
  exact un_inv pins s σ H _ v Q I rx ⟨i, rfl, q m H _ .refl sr rep_int'⟩
theorem rep_get {K : PySem.W.Frag} {m : List Addr} {h : VH} {H : Hp} {n : Nat} {l : List PV} {a : Addr} (s : SR K m h H) (e : h[n]? = some (.lst l)) (ha : m[n]? = some a) : ∃ xs, H a = some (.lst xs) ∧ Reps K m H l xs := s.obj n _ a e ha
theorem p_add : OpR X (binaryOp .Add) (rO2 X.K oAdd) := by
  intro pins s σ H x y v u Q I rx ry ⟨m, hh, a, b, z, h', sr, ra, rb, e, q⟩
  cases a <;> cases b <;> try (simp only [oAdd, reduceCtorEq] at e; done)
  · rename_i i j
    simp only [oAdd] at e
    cases e
    rw [rep_int ra] at rx; rw [rep_int rb] at ry
    exact op_add pins s σ H _ _ v u Q I rx ry ⟨i, j, rfl, rfl, q m H _ .refl sr rep_int'⟩
  · rename_i i j
    simp only [oAdd] at e
    split at e
    · rename_i c
      cases e
      rw [rep_str ra] at rx; rw [rep_str rb] at ry
      exact op_add_str pins s σ H _ _ v u Q I rx ry ⟨i, j, rfl, rfl, by rw [sizeLine_eq]; exact c, q m H _ .refl sr rep_str'⟩
    · cases e
  · rename_i l k
    simp only [oAdd] at e
    split at e
    · rename_i c
      cases e
      obtain ⟨a, xs, rfl, ta, rsa⟩ := rep_tup ra
      obtain ⟨b, ys, rfl, tb, rsb⟩ := rep_tup rb
      refine op_catA pins s σ H _ _ v u Q I rx ry ⟨a, b, xs, ys, rfl, rfl, ta.sq, tb.sq, by rw [rsa.len, rsb.len, sizeLine_eq]; exact c, fun z => ?_, fun _ z => ?_, fun _ _ p np => ?_⟩
      · subst z
        refine q m H _ .refl sr ?_
        have : l = [] := List.eq_nil_of_length_eq_zero (by have := rsa.len; simpa using this.symm)
        subst this
        simpa using rb
      · subst z
        refine q m H _ .refl sr ?_
        have : k = [] := List.eq_nil_of_length_eq_zero (by have := rsb.len; simpa using this.symm)
        subst this
        simpa using ra
      · exact q m _ _ (.upd_new np) (sr.more np) (sr.tup np (rsa.append rsb))
    · cases e
  · rename_i n k
    simp only [oAdd] at e
    split at e
    · rename_i l1 l2 e1 e2
      split at e
      · rename_i c
        cases e
        obtain ⟨a, rfl, ha⟩ := rep_ref ra
        obtain ⟨b, rfl, hb⟩ := rep_ref rb
        obtain ⟨xs, ea, rsa⟩ := rep_get sr e1 ha
        obtain ⟨ys, eb, rsb⟩ := rep_get sr e2 hb
        refine op_cat pins s σ H _ _ v u Q I rx ry ⟨a, b, xs, ys, rfl, rfl, ea, eb, by rw [rsa.len, rsb.len, sizeLine_eq]; exact c, fun p np => ?_⟩
        exact q (m ++ [p]) _ _ (.upd_add np) (sr.addLst np (rsa.append rsb)) (rep_ref' (by rw [← sr.len, List.getElem?_append_right (Nat.le_refl _)]; simp))
      · cases e
    · cases e
theorem Reps.rep {K : PySem.W.Frag} {m : List Addr} {H : Hp} {l : List PV} {xs : List V} (r : Reps K m H l xs) : ∀ k : Nat, Reps K m H (List.replicate k l).flatten (List.replicate k xs).flatten
  | 0 => Reps.nil
  | k + 1 => by
    rw [List.replicate_succ, List.replicate_succ, List.flatten_cons, List.flatten_cons]
    exact r.append (Reps.rep r k)
theorem p_mul : OpR X (binaryOp .Mult) (rO2 X.K oMul) := by
  intro pins s σ H x y v u Q I rx ry ⟨m, hh, a, b, z, h', sr, ra, rb, e, q⟩
  cases a <;> cases b <;> try (simp only [oMul, reduceCtorEq] at e; done)
  · rename_i i j
    simp only [oMul] at e
    split at e
    · rename_i c
      cases e
      rw [rep_int ra] at rx; rw [rep_int rb] at ry
      exact op_mul pins s σ H _ _ v u Q I rx ry ⟨i, j, rfl, rfl, c, q m H _ .refl sr rep_int'⟩
    · cases e
  · rename_i n k
    simp only [oMul] at e
    split at e
    · rename_i l el
      split at e
      · rename_i c
        cases e
        obtain ⟨a, rfl, ha⟩ := rep_ref ra
        rw [rep_int rb] at ry
        obtain ⟨xs, ea, rsa⟩ := rep_get sr el ha
        have hl := rsa.len
        refine op_rep pins s σ H _ _ v u Q I rx ry ⟨a, k, xs, rfl, rfl, ea, by omega, by omega, ?_, fun p np => ?_⟩
        · rw [hl, sizeLine_eq]
          have h1 : k.toNat ≤ 1000 := by omega
          exact Nat.le_trans (Nat.mul_le_mul c.2.2 h1) (by decide)
        · exact q (m ++ [p]) _ _ (.upd_add np) (sr.addLst np (rsa.rep k.toNat)) (rep_ref' (by rw [← sr.len, List.getElem?_append_right (Nat.le_refl _)]; simp))
      · cases e
    · cases e

/-! ### comparisons -/
def shapedD (d : PyData) : Bool := SeqAt.shaped d
def bothS : PV → PV → Option (Str × Str)
  | .str x, .str y => some (x, y)
  | _, _ => none
theorem bothS_inv {a b : PV} {x y : Str} (e : bothS a b = some (x, y)) : a = .str x ∧ b = .str y := by
  cases a <;> cases b <;> simp only [bothS, reduceCtorEq, Option.some.injEq, Prod.mk.injEq] at e
  exact ⟨by rw [e.1], by rw [e.2]⟩
def oEq (a b : PV) : O PV := fun h => if let some (x, y) := bothS a b then some (.bl (decide (x = y)), h) else match dat h a, dat h b with
  | some d, some e => if SeqAt.shaped d = true ∧ SeqAt.shaped e = true then some (.bl (PyData.eqv d e), h) else none
  | _, _ => none
def oNe (a b : PV) : O PV := fun h => if let some (x, y) := bothS a b then some (.bl (!decide (x = y)), h) else match dat h a, dat h b with
  | some d, some e => if SeqAt.shaped d = true ∧ SeqAt.shaped e = true then some (.bl (!PyData.eqv d e), h) else none
  | _, _ => none
theorem p_eq (hu : X.A.units + 64 < cLine) : OpR X (compareOp .Eq) (rO2 X.K oEq) := by
  intro pins s σ H x y v u Q I rx ry ⟨m, hh, a, b, z, h', sr, ra, rb, e, q⟩
  unfold oEq at e
  split at e
  · rename_i x' y' e0
    cases e
    obtain ⟨rfl, rfl⟩ := bothS_inv e0
    rw [rep_str ra] at rx; rw [rep_str rb] at ry
    refine op_eq pins s σ H _ _ v u Q I rx ry ⟨rfl, ?_⟩
    have : decide (V.str x' = V.str y') = decide (x' = y') := by simp
    rw [this]
    exact q m H _ .refl sr rep_bl'
  split at e
  · rename_i d1 d2 e1 e2
    split at e
    · rename_i c
      cases e
      exact op_eqD hu pins s σ H x y v u Q I rx ry ⟨d1, d2, dat_dp sr e1 ra, dat_dp sr e2 rb, c.1, c.2, q m H _ .refl sr rep_bl'⟩
    · cases e
  · cases e
theorem p_ne (hu : X.A.units + 64 < cLine) : OpR X (compareOp .NotEq) (rO2 X.K oNe) := by
  intro pins s σ H x y v u Q I rx ry ⟨m, hh, a, b, z, h', sr, ra, rb, e, q⟩
  unfold oNe at e
  split at e
  · rename_i x' y' e0
    cases e
    obtain ⟨rfl, rfl⟩ := bothS_inv e0
    rw [rep_str ra] at rx; rw [rep_str rb] at ry
    refine op_ne pins s σ H _ _ v u Q I rx ry ⟨rfl, ?_⟩
    have : decide (V.str x' = V.str y') = decide (x' = y') := by simp
    rw [this]
    exact q m H _ .refl sr rep_bl'
  split at e
  · rename_i d1 d2 e1 e2
    split at e
    · rename_i c
      cases e
      exact op_neD hu pins s σ H x y v u Q I rx ry ⟨d1, d2, dat_dp sr e1 ra, dat_dp sr e2 rb, c.1, c.2, q m H _ .refl sr rep_bl'⟩
    · cases e
  · cases e
def isNonP : PV → Bool
  | .non => true
  | .con v => decide (v = .non)
  | _ => false
theorem rep_isNon {K : PySem.W.Frag} {m : List Addr} {H : Hp} {a : PV} {x : V} (r : Rep K m H a x) : decide (x = .non) = isNonP a := by
  cases a with
  | non => rw [rep_non r]; rfl
  | bl _ => rw [rep_bl r]; rfl
  | int _ => rw [rep_int r]; rfl
  | str _ => rw [rep_str r]; rfl
  | con _ => rw [rep_con r]; rfl
  | tup _ => obtain ⟨a, xs, rfl, _⟩ := rep_tup r; rfl
  | rol _ => obtain ⟨a, xs, rfl, _⟩ := rep_rol r; rfl
  | xt _ => obtain ⟨a, xs, rfl, _⟩ := rep_xt r; rfl
  | ref _ => obtain ⟨a, rfl, _⟩ := rep_ref r; rfl
/-- is None, is True .. -/
def oIs (a : PV) : PV → O PV
  | .non => fun h => some (.bl (isNonP a), h)
  | .bl b => fun h => match a with
    | .bl c => some (.bl (decide (c = b)), h)
    | _ => none
  | _ => fun _ => none
def oIsNot (a : PV) : PV → O PV
  | .non => fun h => some (.bl (!isNonP a), h)
  | .bl b => fun h => match a with
    | .bl c => some (.bl (!decide (c = b)), h)
    | _ => none
  | _ => fun _ => none
theorem p_is : OpR X (compareOp .Is) (rO2 X.K oIs) := by
  intro pins s σ H x y v u Q I rx ry ⟨m, hh, a, b, z, h', sr, ra, rb, e, q⟩
  cases b <;> try (simp only [oIs, reduceCtorEq] at e; done)
  · simp only [oIs] at e
    cases e
    rw [rep_non rb] at ry
    exact op_isN pins s σ H x _ v u Q I rx ry ⟨rfl, by rw [rep_isNon ra]; exact q m H _ .refl sr rep_bl'⟩
  · cases a <;> try (simp only [oIs, reduceCtorEq] at e; done)
    simp only [oIs] at e
    cases e
    rw [rep_bl ra] at rx; rw [rep_bl rb] at ry
    exact op_is_bl pins s σ H _ _ v u Q I rx ry ⟨_, _, rfl, rfl, q m H _ .refl sr rep_bl'⟩
theorem p_isNot : OpR X (compareOp .IsNot) (rO2 X.K oIsNot) := by
  intro pins s σ H x y v u Q I rx ry ⟨m, hh, a, b, z, h', sr, ra, rb, e, q⟩
  cases b <;> try (simp only [oIsNot, reduceCtorEq] at e; done)
  · simp only [oIsNot] at e
    cases e
    rw [rep_non rb] at ry
    exact op_notN pins s σ H x _ v u Q I rx ry ⟨rfl, by rw [rep_isNon ra]; exact q m H _ .refl sr rep_bl'⟩
  · cases a <;> try (simp only [oIsNot, reduceCtorEq] at e; done)
    simp only [oIsNot] at e
    cases e
    rw [rep_bl ra] at rx; rw [rep_bl rb] at ry
    exact op_isnot_bl pins s σ H _ _ v u Q I rx ry ⟨_, _, rfl, rfl, q m H _ .refl sr rep_bl'⟩

/-- a tuple of ints -/
def intsP : List PV → Option (List Int)
  | [] => some []
  | .int i :: l => match intsP l with
    | some r => some (i :: r)
    | none => none
  | _ => none
theorem intsP_rep {K : PySem.W.Frag} {m : List Addr} {H : Hp} : ∀ {l : List PV} {ns : List Int} {xs : List V}, intsP l = some ns → Reps K m H l xs → xs = ns.map V.int
  | [], ns, xs, e, r => by simp only [intsP] at e; cases e; rw [r.nil_inv]; rfl
  | v :: l, ns, xs, e, r => by
    obtain ⟨x, t, rfl, r1, r2⟩ := r.cons_inv
    cases v <;> try (simp only [intsP, reduceCtorEq] at e; done)
    simp only [intsP] at e
    split at e
    · rename_i r' e'
      cases e
      rw [rep_int r1, intsP_rep e' r2]
      rfl
    · cases e
def oLt : PV → PV → O PV
  | .int i, .int j => fun h => some (.bl (decide (i < j)), h)
  | .str x, .str y => fun h => some (.bl (decide (x.cps.toList < y.cps.toList)), h)
  | .tup l, .tup k => fun h => match intsP l, intsP k with
    | some ns, some ms => some (.bl (HT.lexLt ns ms), h)
    | _, _ => none
  | _, _ => fun _ => none
def oLe : PV → PV → O PV := oInt2 fun i j => some (.bl (decide (i ≤ j)))
def oGt : PV → PV → O PV := oInt2 fun i j => some (.bl (decide (j < i)))
def oGe : PV → PV → O PV := oInt2 fun i j => some (.bl (decide (j ≤ i)))
theorem p_lt (hu : X.A.units + 65 < cLine) : OpR X (compareOp .Lt) (rO2 X.K oLt) := by
  intro pins s σ H x y v u Q I rx ry ⟨m, hh, a, b, z, h', sr, ra, rb, e, q⟩
  cases a <;> cases b <;> try (simp only [oLt, reduceCtorEq] at e; done)
  · simp only [oLt] at e
    cases e
    rw [rep_int ra] at rx; rw [rep_int rb] at ry
    exact op_lt pins s σ H _ _ v u Q I rx ry ⟨_, _, rfl, rfl, q m H _ .refl sr rep_bl'⟩
  · simp only [oLt] at e
    cases e
    rw [rep_str ra] at rx; rw [rep_str rb] at ry
    exact op_lt_str pins s σ H _ _ v u Q I rx ry ⟨_, _, rfl, rfl, q m H _ .refl sr rep_bl'⟩
  · simp only [oLt] at e
    split at e
    · rename_i ns ms e1 e2
      cases e
      obtain ⟨a, xs, rfl, ta, rsa⟩ := rep_tup ra
      obtain ⟨b, ys, rfl, tb, rsb⟩ := rep_tup rb
      have h1 := intsP_rep e1 rsa
      have h2 := intsP_rep e2 rsb
      subst h1 h2
      exact op_ltT (by omega) pins s σ H _ _ v u Q I rx ry ⟨a, b, ns, ms, rfl, rfl, ta.sq, tb.sq, q m H _ .refl sr rep_bl'⟩
    · cases e
theorem oIntB_ok {f : Value → Value → Sem Value} {g : Int → Int → Bool} (h : OpR X f (rI0 fun i j => .bl (g i j))) : OpR X f (rO2 X.K (oInt2 fun i j => some (.bl (g i j)))) := by
  intro pins s σ H x y v u Q I rx ry ⟨m, hh, a, b, z, h', sr, ra, rb, e, q⟩
  cases a <;> cases b <;> try (simp only [oInt2, reduceCtorEq] at e; done)
  simp only [oInt2] at e
  cases e
  rw [rep_int ra] at rx; rw [rep_int rb] at ry
  exact h pins s σ H _ _ v u Q I rx ry ⟨_, _, rfl, rfl, q m H _ .refl sr rep_bl'⟩
theorem p_le : OpR X (compareOp .LtE) (rO2 X.K oLe) := oIntB_ok op_le
theorem p_gt : OpR X (compareOp .Gt) (rO2 X.K oGt) := oIntB_ok op_gt
theorem p_ge : OpR X (compareOp .GtE) (rO2 X.K oGe) := oIntB_ok op_ge

/-! ### in -/
/-- the items of a tuple or a list -/
def itemsOf (h : VH) : PV → Option (List PV)
  | .tup l => some l
  | .rol l => some l
  | .ref n => match h[n]? with
    | some (.lst l) => some l
    | _ => none
  | _ => none
def oInB (neg : Bool) (a b : PV) : O PV := fun h => match a, b with
  | .str x, .str y => some (.bl (neg ^^ !(Builtin.Str.occurrences y x 0 y.length 1).isEmpty), h)
  | a, b => match itemsOf h b with
    | some l => match dat h a, pdats (rdat h 4) l with
      | some d, some ds => if SeqAt.shaped d = true ∧ SeqAt.shaped (.list ds) = true then some (.bl (neg ^^ ds.any fun z => PyData.eqv z d), h) else none
      | _, _ => none
    | none => none
def oIn : PV → PV → O PV := oInB false
def oNotIn : PV → PV → O PV := oInB true
theorem items_dp {K : PySem.W.Frag} {m : List Addr} {h : VH} {H : Hp} {b : PV} {l : List PV} {ds : List PyData} {y : V} (s : SR K m h H) (e : itemsOf h b = some l) (ed : pdats (rdat h 4) l = some ds) (r : Rep K m H b y) : Dp K H y (.list ds) ∨ Dp K H y (.tuple ds) := by
  cases b <;> try (simp only [itemsOf, reduceCtorEq] at e; done)
  · simp only [itemsOf] at e
    cases e
    obtain ⟨a, xs, rfl, t, rs⟩ := rep_tup r
    exact .inr (.tup t.sq (pdats_dp (rdat_dp s 4) _ ds xs ed rs))
  · simp only [itemsOf] at e
    cases e
    obtain ⟨a, xs, rfl, t, rs⟩ := rep_rol r
    exact .inl (.lst t.sq (pdats_dp (rdat_dp s 4) _ ds xs ed rs))
  · rename_i n
    simp only [itemsOf] at e
    split at e
    · rename_i l' el
      cases e
      obtain ⟨a, rfl, ha⟩ := rep_ref r
      obtain ⟨xs, q, rs⟩ := rep_get s el ha
      exact .inl (.lst (.of q) (pdats_dp (rdat_dp s 4) _ ds xs ed rs))
    · cases e
theorem shaped_lt {ds : List PyData} (h : SeqAt.shaped (.list ds) = true) : PyData.canLayAll0 ds = true := by
  have := SeqAt.canLay_of_shaped h
  simpa only [PyData.canLay0] using this
theorem in_of {d : PyData} {ds : List PyData} {pins : List (Addr × Obj)} {σ : L2.St} {H : Hp} {s : Shared} {x y : V} {v u : Value} {Q : VK} (hu : X.A.units + 65 < cLine) (I : Inv X pins σ H s) (rx : RelV x v) (ry : RelV y u) (hd : Dp X.K H x d) (he : Dp X.K H y (.list ds) ∨ Dp X.K H y (.tuple ds))
    (sd : SeqAt.shaped d = true) (se : SeqAt.shaped (.list ds) = true) (q : Q (.bl (ds.any fun z => PyData.eqv z d)) H) : wpAny (model X.prog X.w) X.A (compareOp .In v u) (EP X pins σ Q) X.xe s := by
  obtain ⟨as, r1⟩ := Dp.reads I d x v hd rx
  rcases he with he | he
  · obtain ⟨bs, r2⟩ := Dp.reads I (.list ds) y u he ry
    exact SeqAt.in_list_reads r2 r1 (shaped_lt se) (SeqAt.canLay_of_shaped sd) (room_in_shaped sd hu) ⟨.bl _, H, I, rfl, q⟩
  · obtain ⟨bs, r2⟩ := Dp.reads I (.tuple ds) y u he ry
    exact SeqAt.in_tuple_reads r2 r1 (shaped_lt se) (SeqAt.canLay_of_shaped sd) (room_in_shaped sd hu) ⟨.bl _, H, I, rfl, q⟩
theorem notIn_of {d : PyData} {ds : List PyData} {pins : List (Addr × Obj)} {σ : L2.St} {H : Hp} {s : Shared} {x y : V} {v u : Value} {Q : VK} (hu : X.A.units + 65 < cLine) (I : Inv X pins σ H s) (rx : RelV x v) (ry : RelV y u) (hd : Dp X.K H x d) (he : Dp X.K H y (.list ds) ∨ Dp X.K H y (.tuple ds))
    (sd : SeqAt.shaped d = true) (se : SeqAt.shaped (.list ds) = true) (q : Q (.bl (!ds.any fun z => PyData.eqv z d)) H) : wpAny (model X.prog X.w) X.A (compareOp .NotIn v u) (EP X pins σ Q) X.xe s := by
  obtain ⟨as, r1⟩ := Dp.reads I d x v hd rx
  rcases he with he | he
  · obtain ⟨bs, r2⟩ := Dp.reads I (.list ds) y u he ry
    exact SeqAt.notIn_list_reads r2 r1 (shaped_lt se) (SeqAt.canLay_of_shaped sd) (room_in_shaped sd hu) ⟨.bl _, H, I, rfl, q⟩
  · obtain ⟨bs, r2⟩ := Dp.reads I (.tuple ds) y u he ry
    exact SeqAt.notIn_tuple_reads r2 r1 (shaped_lt se) (SeqAt.canLay_of_shaped sd) (room_in_shaped sd hu) ⟨.bl _, H, I, rfl, q⟩
theorem p_in (hu : X.A.units + 65 < cLine) : OpR X (compareOp .In) (rO2 X.K oIn) := by
  intro pins s σ H x y v u Q I rx ry ⟨m, hh, a, b, z, h', sr, ra, rb, e, q⟩
  unfold oIn oInB at e
  split at e
  · cases e
    rw [rep_str ra] at rx; rw [rep_str rb] at ry
    exact op_in_str pins s σ H _ _ v u Q I rx ry ⟨_, _, rfl, rfl, by simpa using q m H _ .refl sr rep_bl'⟩
  · split at e
    · rename_i l el
      split at e
      · rename_i d ds e1 e2
        split at e
        · rename_i c
          cases e
          exact in_of hu I rx ry (dat_dp sr e1 ra) (items_dp sr el e2 rb) c.1 c.2 (by simpa using q m H _ .refl sr rep_bl')
        · cases e
      · cases e
    · cases e
theorem p_notIn (hu : X.A.units + 65 < cLine) : OpR X (compareOp .NotIn) (rO2 X.K oNotIn) := by
  intro pins s σ H x y v u Q I rx ry ⟨m, hh, a, b, z, h', sr, ra, rb, e, q⟩
  unfold oNotIn oInB at e
  split at e
  · cases e
    rw [rep_str ra] at rx; rw [rep_str rb] at ry
    exact op_notin_str pins s σ H _ _ v u Q I rx ry ⟨_, _, rfl, rfl, by simpa using q m H _ .refl sr rep_bl'⟩
  · split at e
    · rename_i l el
      split at e
      · rename_i d ds e1 e2
        split at e
        · rename_i c
          cases e
          exact notIn_of hu I rx ry (dat_dp sr e1 ra) (items_dp sr el e2 rb) c.1 c.2 (by simpa using q m H _ .refl sr rep_bl')
        · cases e
      · cases e
    · cases e

/-! ### subscripts, slices, stores -/
def oIx : PV → PV → O PV
  | a, .int i => fun h => match a with
    | .str z => if z.length ≤ 16777216 then (match atI z.cps.toList i with
      | some c => some (.str ⟨#[c]⟩, h)
      | none => none) else none
    | a => match itemsOf h a with
      | some l => match atI l i with
        | some v => some (v, h)
        | none => none
      | none => none
  | _, _ => fun _ => none
theorem Reps.atI {K : PySem.W.Frag} {m : List Addr} {H : Hp} {l : List PV} {xs : List V} {i : Int} {v : PV} (r : Reps K m H l xs) (e : L2.atI l i = some v) : ∃ x, L2.atI xs i = some x ∧ Rep K m H v x := by
  unfold L2.atI at e ⊢
  rw [r.len]
  cases e1 : ixN l.length i with
  | none => rw [e1] at e; cases e
  | some j =>
    rw [e1] at e
    exact r.get e
theorem items_sq {K : PySem.W.Frag} {m : List Addr} {h : VH} {H : Hp} {b : PV} {l : List PV} {y : V} (s : SR K m h H) (e : itemsOf h b = some l) (r : Rep K m H b y) : ∃ a xs, y = .ref a ∧ (SqL K H a xs ∨ TupAt K m H a xs) ∧ Reps K m H l xs := by
  cases b <;> try (simp only [itemsOf, reduceCtorEq] at e; done)
  · simp only [itemsOf] at e
    cases e
    obtain ⟨a, xs, rfl, t, rs⟩ := rep_tup r
    exact ⟨a, xs, rfl, .inr t, rs⟩
  · simp only [itemsOf] at e
    cases e
    obtain ⟨a, xs, rfl, t, rs⟩ := rep_rol r
    exact ⟨a, xs, rfl, .inl t.sq, rs⟩
  · rename_i n
    simp only [itemsOf] at e
    split at e
    · rename_i l' el
      cases e
      obtain ⟨a, rfl, ha⟩ := rep_ref r
      obtain ⟨xs, q, rs⟩ := rep_get s el ha
      exact ⟨a, xs, rfl, .inl (.of q), rs⟩
    · cases e
theorem p_ix : IxR X (rO2 X.K oIx) := by
  intro value slice pins s σ H x y v u Q I rx ry ⟨m, hh, a, b, z, h', sr, ra, rb, e, q⟩ hs
  cases b <;> try (simp only [oIx, reduceCtorEq] at e; done)
  rename_i i
  rw [rep_int rb] at ry
  simp only [oIx] at e
  split at e
  · rename_i z0
    rw [rep_str ra] at rx
    split at e
    · rename_i hz
      split at e
      · rename_i c ec
        cases e
        exact ix_str value slice pins s σ H _ _ v u Q I rx ry ⟨z0, i, c, rfl, rfl, by rw [sizeLine_eq]; exact hz, ec, q m H _ .refl sr rep_str'⟩ hs
      · cases e
    · cases e
  · split at e
    · rename_i l el
      split at e
      · rename_i w ew
        cases e
        obtain ⟨p, xs, rfl, sq, rs⟩ := items_sq sr el ra
        obtain ⟨x', ex, rx'⟩ := rs.atI ew
        have qq := q m H _ .refl sr rx'
        rcases sq with sq | sq
        · exact ix_list value slice pins s σ H _ _ v u Q I rx ry ⟨p, xs, i, x', rfl, rfl, sq, ex, qq⟩ hs
        · exact ix_tup value slice pins s σ H _ _ v u Q I rx ry ⟨p, xs, i, x', rfl, rfl, sq.sq, ex, qq⟩ hs
      · cases e
    · cases e
def cutP (l : List PV) (lo hi : Option Int) : List PV := (l.drop (HT.sIx l.length 0 lo)).take (HT.sIx l.length l.length hi - HT.sIx l.length 0 lo)
def oSl (a : PV) (lo hi : Option Int) : O PV := fun h => match a with
  | .tup l => some (.tup (cutP l lo hi), h)
  | a => match itemsOf h a with
    | some l => some (.ref h.length, h ++ [.lst (cutP l lo hi)])
    | none => none
theorem Reps.cut {K : PySem.W.Frag} {m : List Addr} {H : Hp} {l : List PV} {xs : List V} (lo hi : Option Int) (r : Reps K m H l xs) : Reps K m H (cutP l lo hi) (cutV xs lo hi) := by
  unfold cutP cutV
  rw [r.len]
  exact (r.drop _).take _
theorem p_sl : L2.SlR X (rOS X.K oSl) := by
  intro pins s σ H x v vl vu lo hi sl Q I rx hs pl pu ⟨m, h, a, z, h', sr, ra, e, q⟩
  unfold oSl at e
  by_cases isT : ∃ l, a = .tup l
  · obtain ⟨l, rfl⟩ := isT
    simp only at e
    cases e
    obtain ⟨p, xs, rfl, t, rs⟩ := rep_tup ra
    refine sl_tupA pins s σ H _ v vl vu lo hi sl Q I rx hs pl pu ⟨p, xs, rfl, t.sq, fun ⟨w1, w2⟩ => ?_, fun _ p np => q m _ _ (.upd_new np) (sr.more np) (sr.tup np (rs.cut lo hi))⟩
    refine q m H _ .refl sr ?_
    have : cutP l lo hi = l := by
      unfold cutP
      rw [← rs.len, w1, w2]
      simp [rs.len]
    rw [this]
    exact ra
  · have e : (match itemsOf h a with
      | some l => some (PV.ref h.length, h ++ [VO.lst (cutP l lo hi)])
      | none => none) = some (z, h') := by
      cases a with
      | tup l => exact absurd ⟨l, rfl⟩ isT
      | _ => exact e
    split at e
    · rename_i l el
      cases e
      obtain ⟨p, xs, rfl, sq, rs⟩ := items_sq sr el ra
      rcases sq with sq | sq
      · refine sl_list pins s σ H _ v vl vu lo hi sl Q I rx hs pl pu ⟨p, xs, rfl, sq, fun p np => ?_⟩
        exact q (m ++ [p]) _ _ (.upd_add np) (sr.addLst np (rs.cut lo hi)) (rep_ref' (by rw [← sr.len, List.getElem?_append_right (Nat.le_refl _)]; simp))
      · -- a tuple has been met above
        exfalso
        cases a <;> try (simp only [itemsOf, reduceCtorEq] at el; done)
        · exact isT ⟨_, rfl⟩
        · rename_i l0
          obtain ⟨a', ys, e1, t, _⟩ := rep_rol ra
          cases e1
          exact tup_not_lst I sq.sq t.sq
        · rename_i n
          obtain ⟨a', e1, ha⟩ := rep_ref ra
          cases e1
          simp only [itemsOf] at el
          split at el
          · rename_i l' el'
            obtain ⟨ys, qy, _⟩ := rep_get sr el' ha
            exact tup_not_lst I sq.sq (.of qy)
          · cases el
    · cases e
def oSetIx (a b v : PV) : O Unit := fun h => match a, b with
  | .ref n, .int i => match h[n]? with
    | some (.lst l) => match ixN l.length i with
      | some j => some ((), h.set n (.lst (l.set j v)))
      | none => none
    | _ => none
  | _, _ => none
theorem p_setIx : PSet X (rOP X.K oSetIx) := by
  intro pins s σ H o i v ov iv u Q I ro ri rv ⟨m, h, a, b, c, h', sr, ra, rb, rc, e, q⟩
  unfold oSetIx at e
  split at e
  · rename_i n k
    split at e
    · rename_i l el
      split at e
      · rename_i j ej
        cases e
        obtain ⟨p, rfl, hp⟩ := rep_ref ra
        rw [rep_int rb] at ri
        obtain ⟨xs, ex, rs⟩ := rep_get sr el hp
        refine set_list pins s σ H _ _ v ov iv u Q I ro ri rv ⟨p, xs, k, j, rfl, rfl, ex, by rw [rs.len]; exact ej, ?_⟩
        exact q m _ (.upd_set (List.mem_of_getElem? hp)) (sr.putLst hp (rs.set j rc))
      · cases e
    · cases e
  · cases e
/-! ### methods of lists -/
def mAppend (a : PV) (as : List PV) : O PV := fun h => match a, as with
  | .ref n, [v] => match h[n]? with
    | some (.lst l) => if l.length < 16777216 then some (.non, h.set n (.lst (l ++ [v]))) else none
    | _ => none
  | _, _ => none
theorem p_append : MtR X "list.append" (rOM X.K mAppend) := by
  intro pins s σ H x xs v us Q I rx rs ⟨m, h, a, as, z, h', sr, ra, rbs, e, q⟩
  unfold mAppend at e
  split at e
  · rename_i n w
    split at e
    · rename_i l el
      split at e
      · rename_i c
        cases e
        obtain ⟨p, rfl, hp⟩ := rep_ref ra
        obtain ⟨y, t, rfl, r1, r2⟩ := rbs.cons_inv
        have ht := r2.nil_inv
        subst ht
        obtain ⟨ys, ey, rys⟩ := rep_get sr el hp
        refine mt_append pins s σ H _ _ v us Q I rx rs ⟨p, ys, y, rfl, rfl, ey, by rw [rys.len, sizeLine_eq]; exact c, ?_⟩
        exact q m _ _ (.upd_set (List.mem_of_getElem? hp)) (sr.putLst hp (rys.append (Reps.cons r1 Reps.nil))) rep_non'
      · cases e
    · cases e
  · cases e
def mPop (a : PV) (as : List PV) : O PV := fun h => match a, as with
  | .ref n, [] => match h[n]? with
    | some (.lst l) => match l[l.length - 1]? with
      | some v => some (v, h.set n (.lst l.dropLast))
      | none => none
    | _ => none
  | _, _ => none
theorem Reps.dropLast {K : PySem.W.Frag} {m : List Addr} {H : Hp} {l : List PV} {xs : List V} (r : Reps K m H l xs) : Reps K m H l.dropLast xs.dropLast := by
  rw [List.dropLast_eq_take, List.dropLast_eq_take, r.len]
  exact r.take _
theorem p_pop : MtR X "list.pop" (rOM X.K mPop) := by
  intro pins s σ H x xs v us Q I rx rs ⟨m, h, a, as, z, h', sr, ra, rbs, e, q⟩
  unfold mPop at e
  split at e
  · rename_i n
    split at e
    · rename_i l el
      split at e
      · rename_i w ew
        cases e
        obtain ⟨p, rfl, hp⟩ := rep_ref ra
        have hx := rbs.nil_inv
        subst hx
        obtain ⟨ys, ey, rys⟩ := rep_get sr el hp
        obtain ⟨y, e1, ry⟩ := rys.get ew
        refine mt_pop pins s σ H _ _ v us Q I rx rs ⟨p, ys, y, rfl, rfl, ey, by rw [rys.len]; exact e1, ?_⟩
        exact q m _ _ (.upd_set (List.mem_of_getElem? hp)) (sr.putLst hp rys.dropLast) (ry.ext (.upd_set (List.mem_of_getElem? hp)))
      · cases e
    · cases e
  · cases e
def mExtend (a : PV) (as : List PV) : O PV := fun h => match a, as with
  | .ref n, [.ref k] => match h[n]?, h[k]? with
    | some (.lst l), some (.lst r) => if l.length + r.length ≤ 16777216 then some (.non, h.set n (.lst (l ++ r))) else none
    | _, _ => none
  | _, _ => none
theorem p_extend : MtR X "list.extend" (rOM X.K mExtend) := by
  intro pins s σ H x xs v us Q I rx rs ⟨m, h, a, as, z, h', sr, ra, rbs, e, q⟩
  unfold mExtend at e
  split at e
  · rename_i n k
    split at e
    · rename_i l r el er
      split at e
      · rename_i c
        cases e
        obtain ⟨p, rfl, hp⟩ := rep_ref ra
        obtain ⟨y, t, rfl, r1, r2⟩ := rbs.cons_inv
        have ht := r2.nil_inv
        subst ht
        obtain ⟨p2, rfl, hp2⟩ := rep_ref r1
        obtain ⟨ys, ey, rys⟩ := rep_get sr el hp
        obtain ⟨zs, ez, rzs⟩ := rep_get sr er hp2
        refine mt_extend pins s σ H _ _ v us Q I rx rs ⟨p, p2, ys, zs, rfl, rfl, ey, ez, by rw [rys.len, rzs.len, sizeLine_eq]; exact c, ?_⟩
        exact q m _ _ (.upd_set (List.mem_of_getElem? hp)) (sr.putLst hp (rys.append rzs)) rep_non'
      · cases e
    · cases e
  · cases e
end
end D

/-! layer D, part 8: methods, builtins, walks -/
namespace D
open PySem PySem.Spec PySem.W PyProof.Rows L2

/-! ### methods of lists and strings -/
def isLst (h : VH) : PV → Bool
  | .rol _ => true
  | .ref n => match h[n]? with
    | some (.lst _) => true
    | _ => false
  | _ => false
def isStr (_ : VH) : PV → Bool
  | .str _ => true
  | _ => false
/-- a kind of receiver -/
structure Kd (K : PySem.W.Frag) (T : String) (c : VH → PV → Bool) : Prop where
  ok : ∀ (m : List Addr) (h : VH) (H : Hp) (a : PV) (x : V), SR K m h H → Rep K m H a x → c h a = true → tyV K T x H
theorem kd_list {K : PySem.W.Frag} : Kd K "list" isLst := ⟨fun m h H a x s r e => by
  cases a <;> try (simp only [isLst, reduceCtorEq] at e; done)
  · obtain ⟨a, xs, rfl, t, _⟩ := rep_rol r
    exact .inl ⟨rfl, xs, t.sq⟩
  · rename_i n
    obtain ⟨a, rfl, ha⟩ := rep_ref r
    simp only [isLst] at e
    split at e
    · rename_i l el
      obtain ⟨xs, q, _⟩ := rep_get s el ha
      exact .inl ⟨rfl, xs, .of q⟩
    · cases e⟩
theorem kd_str {K : PySem.W.Frag} : Kd K "str" isStr := ⟨fun m h H a x s r e => by
  cases a <;> try (simp only [isStr, reduceCtorEq, Bool.false_eq_true] at e; done)
  rw [rep_str r]
  rfl⟩
def dMeth (c : VH → PV → Bool) (g : PV → List PV → O PV) (o : Sl → M PV) (a : Sl → M (List PV)) : Sl → M PV := fun v => bnd (o v) fun x h => if c h x = true then bnd (a v) (fun l => liftO (g x l)) h else .bad
section
variable {X : Cx} {W : WX} {e o : Expr} {es : List Expr} {do_ : Sl → M PV} {dl : Sl → M (List PV)} {name : Str} {apos cpos : Pos} {T id : String} {g : PV → List PV → O PV} {c : VH → PV → Bool}
theorem de_bm1 (kd : Kd X.K T c) (pa : PlainAttrs T) (slot : Slot T name id) (hty : typeOf (.builtin id) = pure (.type "method_descriptor")) (hm : MtR X id (rOM X.K g)) (ho : DE X W o do_) (ha : DA X W (e :: es) dl)
    (hbase : attributeBase o name X.env (eval o X.env) = eval o X.env := by rfl)
    (hfew : ((backTo cpos (starEach (e :: es) X.env)).all (fun x => !x.1) && (backToKw cpos (keywordEach [] X.env)).all (fun x => x.1.isSome)
      && decide ((e :: es).length + ([] : List Keyword).length + (if ([] : List Keyword).isEmpty then 0 else 1) < 30)) = true := by rfl)
    (hline : (apos.endLine == cpos.line) = true := by rfl) (hs : starEach (e :: es) X.env = (false, eval e X.env) :: starEach es X.env := by rfl) (hplain : (backTo cpos (starEach es X.env)).any (·.1) = false := by rfl) :
    DE X W (.Call (.Attribute o name apos) (e :: es) [] cpos) (dMeth c g do_ dl) :=
  weakE (pe_bm pa slot hty hm ho ha hbase hfew hline hs hplain) fun σ H Q ⟨m, v, h, sr, sl, p⟩ => ⟨m, v, h, sr, sl, (Post.seq p).mono fun m1 H1 h1 u x1 sr1 p1 x rx => by
    by_cases hc : c h1 u = true
    case neg => rw [if_neg hc] at p1; exact p1.elim
    rw [if_pos hc] at p1
    refine ⟨kd.ok _ _ _ _ _ sr1 rx hc, m1, v, h1, sr1, sl.ext x1, (Post.seq p1).mono fun m2 H2 h2 us x2 sr2 p2 xs rs => ?_⟩
    obtain ⟨z, h', e, q⟩ := Post.lift p2
    exact ⟨m2, h2, u, us, z, h', sr2, rx.ext x2, rs, e, fun m' H' w x3 s3 r3 => q m' H' x3 s3 w r3⟩⟩
theorem de_bm0 (kd : Kd X.K T c) (pa : PlainAttrs T) (slot : Slot T name id) (hty : typeOf (.builtin id) = pure (.type "method_descriptor")) (hm : MtR X id (rOM X.K g)) (ho : DE X W o do_)
    (hbase : attributeBase o name X.env (eval o X.env) = eval o X.env := by rfl) (hline : (apos.endLine == cpos.line) = true := by rfl) : DE X W (.Call (.Attribute o name apos) [] [] cpos) (dMeth c g do_ dNil) :=
  weakE (pe_bm0 pa slot hty hm ho hbase hline) fun σ H Q ⟨m, v, h, sr, sl, p⟩ => ⟨m, v, h, sr, sl, (Post.seq p).mono fun m1 H1 h1 u x1 sr1 p1 x rx => by
    by_cases hc : c h1 u = true
    case neg => rw [if_neg hc] at p1; exact p1.elim
    rw [if_pos hc] at p1
    refine ⟨kd.ok _ _ _ _ _ sr1 rx hc, ?_⟩
    obtain ⟨z, h', e, q⟩ := Post.lift (Post.seq p1 m1 H1 .refl sr1)
    exact ⟨m1, h1, u, [], z, h', sr1, rx, Reps.nil, e, fun m' H' w x3 s3 r3 => q m' H' x3 s3 w r3⟩⟩
end

/-! ### builtins of one walked thing -/
/-- from the items of a list or a tuple -/
def rBI (K : PySem.W.Frag) (g : List PV → O PV) : List V → Hp → VK → Prop := fun xs H Q => ∃ m h l z h' a ys, SR K m h H ∧ xs = [.ref a] ∧ (SqL K H a ys ∨ TupAt K m H a ys) ∧ Reps K m H l ys ∧ g l h = some (z, h') ∧
  ∀ m' H' w, Ext m H m' H' → SR K m' h' H' → Rep K m' H' z w → Q w H'
def oBI (g : List PV → O PV) : List PV → O PV := fun as h => match as with
  | [v] => match itemsOf h v with
    | some l => g l h
    | none => none
  | _ => none
theorem bi_of {X : Cx} {f : Value} {g : List PV → O PV} (h : CallR X f (rBI X.K g)) : CallR X f (rOL X.K (oBI g)) := by
  intro pins s σ H xs us Q I rx ⟨m, hh, as, z, h', sr, rs, e, q⟩
  unfold oBI at e
  split at e
  · rename_i v
    split at e
    · rename_i l el
      obtain ⟨x, t, rfl, r1, r2⟩ := rs.cons_inv
      have ht := r2.nil_inv
      subst ht
      obtain ⟨a, ys, rfl, sq, rl⟩ := items_sq sr el r1
      exact h pins s σ H _ us Q I rx ⟨m, hh, l, z, h', a, ys, sr, rfl, sq, rl, e, q⟩
    · cases e
  · cases e
def dTmpFn (g : List PV → O PV) (d : Sl → M (List PV)) : Sl → M PV := fun v => bnd (d v) fun l => liftO (g l)
theorem tl_read {K : PySem.W.Frag} {W : WX} {d : Sl → M (List PV)} {g : List PV → O PV} {σ : L2.St} {H : Hp} {Q : VK} (q : TD K W (dTmpFn g d) σ H Q) : tCons (TDL K W d) tNil σ H fun xs H1 => rBI K g xs H1 Q := by
  obtain ⟨m, v, h, sr, sl, p⟩ := q
  refine ⟨m, v, h, sr, sl, ?_⟩
  unfold dTmpFn bnd at p
  cases e1 : d v h with
  | ok l h1 =>
    rw [e1] at p
    intro m1 H1 x1 sr1 D xs n1 n2 eD r
    show rBI K g [.ref D] H1 Q
    simp only at p
    unfold liftO at p
    cases e2 : g l h1 with
    | none => rw [e2] at p; exact p.elim
    | some z =>
      rw [e2] at p
      exact ⟨m1, h1, l, z.1, z.2, D, xs, sr1, rfl, .inl (.of eD), r, e2, fun m' H' w x2 s2 r2 => p m' H' (x1.trans x2) s2 w r2⟩
  | ex u h1 => rw [e1] at p; exact p
  | bad => rw [e1] at p; exact p
section
variable {X : Cx} {W : WX} {e : Expr} {d : Sl → M (List PV)} {g : List PV → O PV} {pos : Pos}
theorem de_callBL {x : Str} {id : String} {p : Pos} (hc : CallR X (.builtin id) (rBI X.K g)) (hg : Gl X x) (hm : X.mg x = none) (hv : bootBuiltins x = some (.builtin id)) (h : DL X W e d) (hn : x ≠ "__name__" := by decide) (hdb : (x == ("__debug__" : Str)) = false := by decide)
    (hs : starEach [e] X.env = (false, eval e X.env) :: starEach [] X.env := by rfl) : DE X W (.Call (.Name x p) [e] [] pos) (dTmpFn g d) :=
  weakE (pe_callB hc hg hm hv (pa_cons h pa_nil hs) hn hdb hs rfl) fun σ H Q q => tl_read q
theorem de_callTyL {x : Str} {T : String} {p : Pos} (hc : CallR X (.type T) (rBI X.K g)) (hg : Gl X x) (hm : X.mg x = none) (hv : bootBuiltins x = some (.type T)) (h : DL X W e d) (hn : x ≠ "__name__" := by decide) (hdb : (x == ("__debug__" : Str)) = false := by decide)
    (hs : starEach [e] X.env = (false, eval e X.env) :: starEach [] X.env := by rfl) : DE X W (.Call (.Name x p) [e] [] pos) (dTmpFn g d) :=
  weakE (pe_callTy hc hg hm hv (pa_cons h pa_nil hs) hn hdb hs rfl) fun σ H Q q => tl_read q
end
/-! which -/
def gTuple (l : List PV) : O PV := fun h => some (.tup l, h)
def gList (l : List PV) : O PV := fun h => some (.ref h.length, h ++ [.lst l])
def gLen (l : List PV) : O PV := fun h => some (.int l.length, h)
def gMax (l : List PV) : O PV := fun h => match intsP l with
  | some (n :: ns) => some (.int (ns.foldl max n), h)
  | _ => none
def gMin (l : List PV) : O PV := fun h => match intsP l with
  | some (n :: ns) => some (.int (ns.foldl min n), h)
  | _ => none
/-- truth values -/
def blsP : List PV → Option (List Bool)
  | [] => some []
  | .bl i :: l => match blsP l with
    | some r => some (i :: r)
    | none => none
  | _ => none
theorem blsP_rep {K : PySem.W.Frag} {m : List Addr} {H : Hp} : ∀ {l : List PV} {ns : List Bool} {xs : List V}, blsP l = some ns → Reps K m H l xs → xs = ns.map V.bl
  | [], ns, xs, e, r => by simp only [blsP] at e; cases e; rw [r.nil_inv]; rfl
  | v :: l, ns, xs, e, r => by
    obtain ⟨x, t, rfl, r1, r2⟩ := r.cons_inv
    cases v <;> try (simp only [blsP, reduceCtorEq] at e; done)
    simp only [blsP] at e
    split at e
    · rename_i r' e'
      cases e
      rw [rep_bl r1, blsP_rep e' r2]
      rfl
    · cases e
def gAll (l : List PV) : O PV := fun h => match blsP l with
  | some bs => some (.bl (bs.all id), h)
  | none => none
def gAny (l : List PV) : O PV := fun h => match blsP l with
  | some bs => some (.bl (bs.any id), h)
  | none => none
section
variable {X : Cx}
theorem c_tuple : CallR X (.type "tuple") (rBI X.K gTuple) := by
  intro pins s σ H xs us Q I rx ⟨m, h, l, z, h', a, ys, sr, e1, sq, rl, e, q⟩
  cases e
  refine call_tuple_of pins s σ H xs us Q I rx ⟨a, ys, e1, ?_⟩
  rcases sq with sq | sq
  · exact .inl ⟨sq, fun p np => q m _ _ (.upd_new np) (sr.more np) (sr.tup np rl)⟩
  · refine .inr ⟨sq.sq, q m _ _ .refl sr ?_⟩
    simp only [Rep]
    exact ⟨a, ys, rfl, sq, rl⟩
theorem c_list : CallR X (.type "list") (rBI X.K gList) := by
  intro pins s σ H xs us Q I rx ⟨m, h, l, z, h', a, ys, sr, e1, sq, rl, e, q⟩
  cases e
  refine call_list_of pins s σ H xs us Q I rx ⟨a, ys, e1, sq.imp id TupAt.sq, fun p np => ?_⟩
  exact q (m ++ [p]) _ _ (.upd_add np) (sr.addLst np rl) (rep_ref' (by rw [← sr.len, List.getElem?_append_right (Nat.le_refl _)]; simp))
theorem c_len : CallR X (.builtin "len") (rBI X.K gLen) := by
  intro pins s σ H xs us Q I rx ⟨m, h, l, z, h', a, ys, sr, e1, sq, rl, e, q⟩
  cases e
  refine call_len_seq pins s σ H xs us Q I rx ⟨a, ys, e1, sq.imp id TupAt.sq, q m _ _ .refl sr ?_⟩
  rw [rl.len]; exact rep_int'
/-- the items as they stand in the heap -/
theorem seq_at {pins : List (Addr × Obj)} {σ : L2.St} {H : Hp} {s : Shared} {a : Addr} {ys : List V} (I : Inv X pins σ H s) (q : SqL X.K H a ys ∨ SqT X.K H a ys) : ∃ its : List Value, Vals ys its ∧ (s.heap.IsList a its.toArray ∨ s.heap.IsTuple a its.toArray) := by
  rcases q with q | q
  · obtain ⟨its, rv, p, _⟩ := I.list q
    exact ⟨its, rv, .inl p.isList⟩
  · obtain ⟨its, rv, p, _⟩ := I.tuple q
    exact ⟨its, rv, .inr p⟩
theorem dpInts {K : PySem.W.Frag} {H : Hp} : ∀ ns : List Int, DpAll K H (ns.map V.int) (ns.map PyData.int)
  | [] => .nil
  | n :: ns => .cons (.int n) (dpInts ns)
theorem dpBls {K : PySem.W.Frag} {H : Hp} : ∀ ns : List Bool, DpAll K H (ns.map V.bl) (ns.map PyData.bool)
  | [] => .nil
  | n :: ns => .cons (.bl n) (dpBls ns)
theorem dAll_ints : ∀ ns : List Int, PyData.depthAll (ns.map PyData.int) = 0
  | [] => rfl
  | n :: ns => by simp [PyData.depthAll, PyData.depth, dAll_ints ns]
theorem alike_ints (ns : List Int) : AlikeAll (ns.map PyData.int) := by
  refine ⟨fun x hx y hy => ?_, fun x hx => ?_⟩
  · obtain ⟨i, _, rfl⟩ := List.mem_map.mp hx
    obtain ⟨j, _, rfl⟩ := List.mem_map.mp hy
    simp [alike]
  · obtain ⟨i, _, rfl⟩ := List.mem_map.mp hx
    exact fun h => nomatch h
theorem reads_int_inv {h : Heap} {v : Value} {n : Int} {bs : List Addr} (r : Reads h v (.int n) bs) : RelV (.int n) v := by
  cases r with
  | int _ t => exact ⟨t, rfl⟩
theorem c_max (hc : X.calm = true) (hu : X.A.units + 64 < cLine) : CallR X (.builtin "max") (rBI X.K gMax) := by
  intro pins s σ H xs us Q I rx ⟨m, h, l, z, h', a, ys, sr, e1, sq, rl, e, q⟩
  unfold gMax at e
  split at e
  · rename_i n ns el
    cases e
    obtain ⟨its, rv, at_⟩ := seq_at I (sq.imp id TupAt.sq)
    have hy := intsP_rep el rl
    subst hy
    obtain ⟨as, r⟩ := Dp.readsAll I _ _ _ (dpInts (n :: ns)) rv
    subst e1
    rw [Vals.ref1 rx]
    have hd : X.A.units + 1 + PyData.depthAll (PyData.int n :: ns.map PyData.int) < cLine := by
      have := dAll_ints (n :: ns)
      rw [List.map_cons] at this
      rw [this]; omega
    have fin : ∀ (i : Nat) v h' tk bs, its.toArray[i]? = some v → Reads h' v (maxD (.int n) (ns.map PyData.int)) bs → (∀ b o, s.heap.get? b = some o → h'.get? b = some o) → EP X pins σ Q v { s with heap := h', toks := tk } := by
      intro i v h' tk bs _ r k
      rw [maxD_ints] at r
      exact ⟨_, H, I.kept k, reads_int_inv r, q m _ _ .refl sr rep_int'⟩
    rcases at_ with at_ | at_
    · exact max_list_data (I.ok.hd hc) at_ (by simpa using r) (alike_ints (n :: ns)) hd fin
    · exact max_tuple_data (I.ok.hd hc) at_ (by simpa using r) (alike_ints (n :: ns)) hd fin
  · cases e
theorem c_min (hc : X.calm = true) (hu : X.A.units + 64 < cLine) : CallR X (.builtin "min") (rBI X.K gMin) := by
  intro pins s σ H xs us Q I rx ⟨m, h, l, z, h', a, ys, sr, e1, sq, rl, e, q⟩
  unfold gMin at e
  split at e
  · rename_i n ns el
    cases e
    obtain ⟨its, rv, at_⟩ := seq_at I (sq.imp id TupAt.sq)
    have hy := intsP_rep el rl
    subst hy
    obtain ⟨as, r⟩ := Dp.readsAll I _ _ _ (dpInts (n :: ns)) rv
    subst e1
    rw [Vals.ref1 rx]
    have hd : X.A.units + 1 + PyData.depthAll (PyData.int n :: ns.map PyData.int) < cLine := by
      have := dAll_ints (n :: ns)
      rw [List.map_cons] at this
      rw [this]; omega
    have fin : ∀ (i : Nat) v h' tk bs, its.toArray[i]? = some v → Reads h' v (minD (.int n) (ns.map PyData.int)) bs → (∀ b o, s.heap.get? b = some o → h'.get? b = some o) → EP X pins σ Q v { s with heap := h', toks := tk } := by
      intro i v h' tk bs _ r k
      rw [minD_ints] at r
      exact ⟨_, H, I.kept k, reads_int_inv r, q m _ _ .refl sr rep_int'⟩
    rcases at_ with at_ | at_
    · exact min_list_data (I.ok.hd hc) at_ (by simpa using r) (alike_ints (n :: ns)) hd fin
    · exact min_tuple_data (I.ok.hd hc) at_ (by simpa using r) (alike_ints (n :: ns)) hd fin
  · cases e
theorem plain_bls : ∀ ns : List Bool, PyData.plainAll (ns.map PyData.bool) = true
  | [] => rfl
  | n :: ns => by simp [PyData.plainAll, PyData.plain, plain_bls ns]
theorem c_all (hc : X.calm = true) : CallR X (.builtin "all") (rBI X.K gAll) := by
  intro pins s σ H xs us Q I rx ⟨m, h, l, z, h', a, ys, sr, e1, sq, rl, e, q⟩
  unfold gAll at e
  split at e
  · rename_i ns el
    cases e
    obtain ⟨its, rv, at_⟩ := seq_at I (sq.imp id TupAt.sq)
    have hy := blsP_rep el rl
    subst hy
    obtain ⟨as, r⟩ := Dp.readsAll I _ _ _ (dpBls ns) rv
    subst e1
    rw [Vals.ref1 rx]
    have ft : ∀ x ∈ ns.map PyData.bool, x.fits63 := fun x hx => by
      obtain ⟨b, _, rfl⟩ := List.mem_map.mp hx
      trivial
    have fin : ∀ h' tk, (∀ b o, s.heap.get? b = some o → h'.get? b = some o) → EP X pins σ Q (.bool ((ns.map PyData.bool).all PyData.truthy)) { s with heap := h', toks := tk } := by
      intro h' tk k
      refine ⟨.bl (ns.all id), H, I.kept k, ?_, q m _ _ .refl sr rep_bl'⟩
      have : (ns.map PyData.bool).all PyData.truthy = ns.all id := by
        rw [List.all_map]; rfl
      rw [this]; rfl
    rcases at_ with at_ | at_
    · exact all_list_data (I.ok.hd hc) at_ (by simpa using r) (plain_bls ns) ft fin
    · exact all_tuple_data (I.ok.hd hc) at_ (by simpa using r) (plain_bls ns) ft fin
  · cases e
theorem c_any (hc : X.calm = true) : CallR X (.builtin "any") (rBI X.K gAny) := by
  intro pins s σ H xs us Q I rx ⟨m, h, l, z, h', a, ys, sr, e1, sq, rl, e, q⟩
  unfold gAny at e
  split at e
  · rename_i ns el
    cases e
    obtain ⟨its, rv, at_⟩ := seq_at I (sq.imp id TupAt.sq)
    have hy := blsP_rep el rl
    subst hy
    obtain ⟨as, r⟩ := Dp.readsAll I _ _ _ (dpBls ns) rv
    subst e1
    rw [Vals.ref1 rx]
    have ft : ∀ x ∈ ns.map PyData.bool, x.fits63 := fun x hx => by
      obtain ⟨b, _, rfl⟩ := List.mem_map.mp hx
      trivial
    have fin : ∀ h' tk, (∀ b o, s.heap.get? b = some o → h'.get? b = some o) → EP X pins σ Q (.bool ((ns.map PyData.bool).any PyData.truthy)) { s with heap := h', toks := tk } := by
      intro h' tk k
      refine ⟨.bl (ns.any id), H, I.kept k, ?_, q m _ _ .refl sr rep_bl'⟩
      have : (ns.map PyData.bool).any PyData.truthy = ns.any id := by
        rw [List.any_map]; rfl
      rw [this]; rfl
    rcases at_ with at_ | at_
    · exact any_list_data (I.ok.hd hc) at_ (by simpa using r) (plain_bls ns) ft fin
    · exact any_tuple_data (I.ok.hd hc) at_ (by simpa using r) (plain_bls ns) ft fin
  · cases e
end

/-! ### of lists alone -/
def rBL (K : PySem.W.Frag) (g : List PV → O PV) : List V → Hp → VK → Prop := fun xs H Q => ∃ m h l z h' a ys, SR K m h H ∧ xs = [.ref a] ∧ SqL K H a ys ∧ Reps K m H l ys ∧ g l h = some (z, h') ∧
  ∀ m' H' w, Ext m H m' H' → SR K m' h' H' → Rep K m' H' z w → Q w H'
def oBL (g : List PV → O PV) : List PV → O PV := fun as h => match as with
  | [v] => match lstOf h v with
    | some l => g l h
    | none => none
  | _ => none
theorem bl_of {X : Cx} {f : Value} {g : List PV → O PV} (h : CallR X f (rBL X.K g)) : CallR X f (rOL X.K (oBL g)) := by
  intro pins s σ H xs us Q I rx ⟨m, hh, as, z, h', sr, rs, e, q⟩
  unfold oBL at e
  split at e
  · rename_i v
    split at e
    · rename_i l el
      obtain ⟨x, t, rfl, r1, r2⟩ := rs.cons_inv
      have ht := r2.nil_inv
      subst ht
      obtain ⟨a, ys, rfl, sq, rl⟩ := lst_sq sr el r1
      exact h pins s σ H _ us Q I rx ⟨m, hh, l, z, h', a, ys, sr, rfl, sq, rl, e, q⟩
    · cases e
  · cases e
theorem bl_read {K : PySem.W.Frag} {W : WX} {d : Sl → M (List PV)} {g : List PV → O PV} {σ : L2.St} {H : Hp} {Q : VK} (q : TD K W (dTmpFn g d) σ H Q) : tCons (TDL K W d) tNil σ H fun xs H1 => rBL K g xs H1 Q := by
  obtain ⟨m, v, h, sr, sl, p⟩ := q
  refine ⟨m, v, h, sr, sl, ?_⟩
  unfold dTmpFn bnd at p
  cases e1 : d v h with
  | ok l h1 =>
    rw [e1] at p
    intro m1 H1 x1 sr1 D xs n1 n2 eD r
    show rBL K g [.ref D] H1 Q
    simp only at p
    unfold liftO at p
    cases e2 : g l h1 with
    | none => rw [e2] at p; exact p.elim
    | some z =>
      rw [e2] at p
      exact ⟨m1, h1, l, z.1, z.2, D, xs, sr1, rfl, .of eD, r, e2, fun m' H' w x2 s2 r2 => p m' H' (x1.trans x2) s2 w r2⟩
  | ex u h1 => rw [e1] at p; exact p
  | bad => rw [e1] at p; exact p
theorem de_callBLl {X : Cx} {W : WX} {e : Expr} {d : Sl → M (List PV)} {g : List PV → O PV} {pos : Pos} {x : Str} {id : String} {p : Pos} (hc : CallR X (.builtin id) (rBL X.K g)) (hg : Gl X x) (hm : X.mg x = none) (hv : bootBuiltins x = some (.builtin id)) (h : DL X W e d) (hn : x ≠ "__name__" := by decide) (hdb : (x == ("__debug__" : Str)) = false := by decide)
    (hs : starEach [e] X.env = (false, eval e X.env) :: starEach [] X.env := by rfl) : DE X W (.Call (.Name x p) [e] [] pos) (dTmpFn g d) :=
  weakE (pe_callB hc hg hm hv (pa_cons h pa_nil hs) hn hdb hs rfl) fun σ H Q q => bl_read q
def gSum (l : List PV) : O PV := fun h => match intsP l with
  | some ns => some (.int ns.sum, h)
  | none => none
theorem c_sum {X : Cx} (hc : X.calm = true) : CallR X (.builtin "sum") (rBL X.K gSum) := by
  intro pins s σ H xs us Q I rx ⟨m, h, l, z, h', a, ys, sr, e1, sq, rl, e, q⟩
  unfold gSum at e
  split at e
  · rename_i ns el
    cases e
    have hy := intsP_rep el rl
    subst hy
    exact cr_sum hc pins s σ H xs us Q I rx ⟨a, ns, e1, sq, q m _ _ .refl sr rep_int'⟩
  · cases e

/-! ### others -/
def oAbs (as : List PV) : O PV := fun h => match as with
  | [.int i] => some (.int (if i < 0 then -i else i), h)
  | _ => none
def oInt (as : List PV) : O PV := fun h => match as with
  | [.int i] => some (.int i, h)
  | [.bl k] => some (.int (if k then 1 else 0), h)
  | _ => none
def oMax2 (as : List PV) : O PV := fun h => match as with
  | [.int i, .int j] => some (.int (if j > i then j else i), h)
  | _ => none
def oMin2 (as : List PV) : O PV := fun h => match as with
  | [.int i, .int j] => some (.int (if j < i then j else i), h)
  | _ => none
def oLenS (as : List PV) : O PV := fun h => match as with
  | [.str z] => if z.length ≤ 16777216 then some (.int z.length, h) else none
  | [v] => match itemsOf h v with
    | some l => some (.int l.length, h)
    | none => none
  | _ => none
def isaD : String → Option (PyData → Bool)
  | "int" => some PyData.isInt
  | "bool" => some PyData.isBool
  | "str" => some PyData.isStr
  | "tuple" => some PyData.isTuple
  | "list" => some PyData.isList
  | "dict" => some PyData.isDict
  | _ => none
def oIsa (as : List PV) : O PV := fun h => match as with
  | [a, .con (.ty T)] => match dat h a, isaD T with
    | some d, some f => some (.bl (f d), h)
    | _, _ => none
  | _ => none
def isInts : PyData → Bool
  | .int _ => true
  | _ => false
def oRepr (as : List PV) : O PV := fun h => match as with
  | [.int i] => if i.natAbs.log2 < 1920 then some (.str (toString i), h) else none
  | [a] => match itemsOf h a, dat h a with
    | some _, some d => if d.showable = true ∧ d.hasDict = false ∧ d.depth < 64 ∧ d.shown.length ≤ 16777216 then some (.str d.shown, h) else none
    | _, _ => none
  | _ => none
section
variable {X : Cx}
theorem c_abs : CallR X (.builtin "abs") (rOL X.K oAbs) := by
  intro pins s σ H xs us Q I rx ⟨m, h, as, z, h', sr, rs, e, q⟩
  unfold oAbs at e
  split at e
  · cases e
    obtain ⟨x, t, rfl, r1, r2⟩ := rs.cons_inv
    rw [rep_int r1, r2.nil_inv] at rx
    exact call_abs pins s σ H _ us Q I rx ⟨_, rfl, q m _ _ .refl sr rep_int'⟩
  · cases e
theorem c_int : CallR X (.type "int") (rOL X.K oInt) := by
  intro pins s σ H xs us Q I rx ⟨m, h, as, z, h', sr, rs, e, q⟩
  unfold oInt at e
  split at e
  · cases e
    obtain ⟨x, t, rfl, r1, r2⟩ := rs.cons_inv
    rw [rep_int r1, r2.nil_inv] at rx
    exact call_int1 pins s σ H _ us Q I rx (.inl ⟨_, rfl, q m _ _ .refl sr rep_int'⟩)
  · cases e
    obtain ⟨x, t, rfl, r1, r2⟩ := rs.cons_inv
    rw [rep_bl r1, r2.nil_inv] at rx
    exact call_int1 pins s σ H _ us Q I rx (.inr ⟨_, rfl, q m _ _ .refl sr rep_int'⟩)
  · cases e
theorem c_max2 (hc : X.calm = true) : CallR X (.builtin "max") (rOL X.K oMax2) := by
  intro pins s σ H xs us Q I rx ⟨m, h, as, z, h', sr, rs, e, q⟩
  unfold oMax2 at e
  split at e
  · cases e
    obtain ⟨x, t, rfl, r1, r2⟩ := rs.cons_inv
    obtain ⟨y, t2, rfl, r3, r4⟩ := r2.cons_inv
    rw [rep_int r1, rep_int r3, r4.nil_inv] at rx
    exact call_max2 hc pins s σ H _ us Q I rx ⟨_, _, rfl, q m _ _ .refl sr rep_int'⟩
  · cases e
theorem c_min2 (hc : X.calm = true) : CallR X (.builtin "min") (rOL X.K oMin2) := by
  intro pins s σ H xs us Q I rx ⟨m, h, as, z, h', sr, rs, e, q⟩
  unfold oMin2 at e
  split at e
  · cases e
    obtain ⟨x, t, rfl, r1, r2⟩ := rs.cons_inv
    obtain ⟨y, t2, rfl, r3, r4⟩ := r2.cons_inv
    rw [rep_int r1, rep_int r3, r4.nil_inv] at rx
    exact call_min2 hc pins s σ H _ us Q I rx ⟨_, _, rfl, q m _ _ .refl sr rep_int'⟩
  · cases e
def oMax3 (as : List PV) : O PV := fun h => match as with
  | [.int i, .int j, .int k] => some (.int (max (max i j) k), h)
  | _ => none
def oMin3 (as : List PV) : O PV := fun h => match as with
  | [.int i, .int j, .int k] => some (.int (min (min i j) k), h)
  | _ => none
theorem nu_max2 (i j : Int) : nuMax2 (.int i) (.int j) = some (.int (max i j)) := by
  have : nuMax2 (.int i) (.int j) = some (if decide (i < j) = true then V.int j else V.int i) := rfl
  rw [this]
  by_cases h : i < j
  · rw [if_pos (by simpa using h), Int.max_eq_right (by omega)]
  · rw [if_neg (by simpa using h), Int.max_eq_left (by omega)]
theorem nu_min2 (i j : Int) : nuMin2 (.int i) (.int j) = some (.int (min i j)) := by
  have : nuMin2 (.int i) (.int j) = some (if decide (j < i) = true then V.int j else V.int i) := rfl
  rw [this]
  by_cases h : j < i
  · rw [if_pos (by simpa using h), Int.min_eq_right (by omega)]
  · rw [if_neg (by simpa using h), Int.min_eq_left (by omega)]
theorem nu_max3 (i j k : Int) : nuMax3 (.int i) (.int j) (.int k) = some (.int (max (max i j) k)) := by
  unfold nuMax3
  rw [nu_max2]
  exact nu_max2 _ _
theorem nu_min3 (i j k : Int) : nuMin3 (.int i) (.int j) (.int k) = some (.int (min (min i j) k)) := by
  unfold nuMin3
  rw [nu_min2]
  exact nu_min2 _ _
theorem c_max3 (hc : X.calm = true) : CallR X (.builtin "max") (rOL X.K oMax3) := by
  intro pins s σ H xs us Q I rx ⟨m, h, as, z, h', sr, rs, e, q⟩
  unfold oMax3 at e
  split at e
  · cases e
    obtain ⟨x, t, rfl, r1, r2⟩ := rs.cons_inv
    obtain ⟨y, t2, rfl, r3, r4⟩ := r2.cons_inv
    obtain ⟨y2, t3, rfl, r5, r6⟩ := r4.cons_inv
    rw [rep_int r1, rep_int r3, rep_int r5, r6.nil_inv] at rx
    exact call_max3Nu hc pins s σ H _ us Q I rx ⟨_, _, _, _, rfl, nu_max3 _ _ _, q m _ _ .refl sr rep_int'⟩
  · cases e
theorem c_min3 (hc : X.calm = true) : CallR X (.builtin "min") (rOL X.K oMin3) := by
  intro pins s σ H xs us Q I rx ⟨m, h, as, z, h', sr, rs, e, q⟩
  unfold oMin3 at e
  split at e
  · cases e
    obtain ⟨x, t, rfl, r1, r2⟩ := rs.cons_inv
    obtain ⟨y, t2, rfl, r3, r4⟩ := r2.cons_inv
    obtain ⟨y2, t3, rfl, r5, r6⟩ := r4.cons_inv
    rw [rep_int r1, rep_int r3, rep_int r5, r6.nil_inv] at rx
    exact call_min3Nu hc pins s σ H _ us Q I rx ⟨_, _, _, _, rfl, nu_min3 _ _ _, q m _ _ .refl sr rep_int'⟩
  · cases e
theorem c_lenS : CallR X (.builtin "len") (rOL X.K oLenS) := by
  intro pins s σ H xs us Q I rx ⟨m, h, as, z, h', sr, rs, e, q⟩
  unfold oLenS at e
  split at e
  · split at e
    · rename_i c
      cases e
      obtain ⟨x, t, rfl, r1, r2⟩ := rs.cons_inv
      rw [rep_str r1, r2.nil_inv] at rx
      exact call_len_str pins s σ H _ us Q I rx ⟨_, rfl, by rw [sizeLine_eq]; exact c, q m _ _ .refl sr rep_int'⟩
    · cases e
  · rename_i v _
    split at e
    · rename_i l el
      cases e
      obtain ⟨x, t, rfl, r1, r2⟩ := rs.cons_inv
      have ht := r2.nil_inv
      subst ht
      obtain ⟨a, ys, rfl, sq, rl⟩ := items_sq sr el r1
      exact call_len_seq pins s σ H _ us Q I rx ⟨a, ys, rfl, sq.imp id TupAt.sq, q m _ _ .refl sr (by rw [rl.len]; exact rep_int')⟩
    · cases e
  · cases e
theorem c_isa : CallR X (.builtin "isinstance") (rOL X.K oIsa) := by
  intro pins s σ H xs us Q I rx ⟨m, h, as, z, h', sr, rs, e, q⟩
  unfold oIsa at e
  split at e
  · rename_i a T
    split at e
    · rename_i d f ed ef
      cases e
      obtain ⟨x, t, rfl, r1, r2⟩ := rs.cons_inv
      obtain ⟨y, t2, rfl, r3, r4⟩ := r2.cons_inv
      rw [rep_con r3, r4.nil_inv] at rx
      obtain ⟨u, w', rfl, ru, rw_⟩ := vals2 rx
      have hw : w' = Value.type T := rw_
      subst hw
      obtain ⟨bs, rd⟩ := Dp.reads I d x u (dat_dp sr ed r1) ru
      have fin : ∀ tk, s.toks ≤ tk → EP X pins σ Q (.bool (f d)) { s with toks := tk } := fun tk _ => ⟨.bl (f d), H, I.tok _, rfl, q m _ _ .refl sr rep_bl'⟩
      unfold isaD at ef
      split at ef <;> cases ef
      · exact isinstance_int_data rd fin
      · exact isinstance_bool_data rd fin
      · exact isinstance_str_data rd fin
      · exact isinstance_tuple_data rd fin
      · exact isinstance_list_data rd fin
      · exact isinstance_dict_data rd fin
    · cases e
  · cases e
theorem c_repr (hG : X.A.guards = some []) (hu : X.A.units + 128 < cLine) : CallR X (.builtin "repr") (rOL X.K oRepr) := by
  intro pins s σ H xs us Q I rx ⟨m, h, as, z, h', sr, rs, e, q⟩
  unfold oRepr at e
  split at e
  · split at e
    · rename_i c
      cases e
      obtain ⟨x, t, rfl, r1, r2⟩ := rs.cons_inv
      rw [rep_int r1, r2.nil_inv] at rx
      exact SkE.call_repr_int pins s σ H _ us Q I rx ⟨_, rfl, c, q m _ _ .refl sr rep_str'⟩
    · cases e
  · rename_i a _
    split at e
    · rename_i l d el ed
      split at e
      · rename_i c
        cases e
        obtain ⟨x, t, rfl, r1, r2⟩ := rs.cons_inv
        have ht := r2.nil_inv
        subst ht
        have dp := dat_dp sr ed r1
        obtain ⟨p, ys, rfl, sq, rl⟩ := items_sq sr el r1
        rw [Vals.ref1 rx]
        obtain ⟨bs, rd⟩ := Dp.reads I d _ (Value.ref p) dp rfl
        exact repr_of_reads' rd c.1 (fun z => by rw [c.2.1] at z; cases z) hG (by have := c.2.2.1; omega) (fun _ _ e => e) (fun h' u tk k => ⟨.str d.shown, H, I.kept k, ⟨u, rfl⟩, q m _ _ .refl sr rep_str'⟩) (by rw [sizeLine_eq]; exact c.2.2.2)
      · cases e
    · cases e
  · cases e
end
end D

/-! layer D, part 9: walks -/
namespace D
open PySem PySem.Spec PySem.W PyProof.Rows L2

/-- the thing at a holds the items as long as its source does -/
def Held (K : PySem.W.Frag) (m : List Addr) (H : Hp) (t : Bool) (a : Addr) (l : List PV) (src : List (Nat × List PV)) : Prop :=
  ∀ (m' : List Addr) (h' : VH) (H' : Hp), Ext m H m' H' → SR K m' h' H' → srcOk h' src = true → ∃ xs, (if t = true then SqT K H' a xs else SqL K H' a xs) ∧ Reps K m' H' l xs
/-- where a value's items come from -/
def srcOf (h : VH) : PV → Option (Bool × List PV × List (Nat × List PV))
  | .tup l => some (true, l, [])
  | .rol l => some (false, l, [])
  | .ref n => match h[n]? with
    | some (.lst l) => some (false, l, [(n, l)])
    | _ => none
  | _ => none
section
variable {K : PySem.W.Frag} {m : List Addr} {h : VH} {H : Hp}
theorem held_of {v : PV} {x : V} {t : Bool} {l : List PV} {src : List (Nat × List PV)} (s : SR K m h H) (e : srcOf h v = some (t, l, src)) (r : Rep K m H v x) : ∃ a, x = .ref a ∧ Held K m H t a l src := by
  cases v <;> try (simp only [srcOf, reduceCtorEq] at e; done)
  · simp only [srcOf] at e
    cases e
    obtain ⟨a, xs, rfl, q, rs⟩ := rep_tup r
    exact ⟨a, rfl, fun m' h' H' x s' _ => ⟨xs, by rw [if_pos rfl]; exact (q.ext x).sq, rs.ext x⟩⟩
  · simp only [srcOf] at e
    cases e
    obtain ⟨a, xs, rfl, q, rs⟩ := rep_rol r
    exact ⟨a, rfl, fun m' h' H' x s' _ => ⟨xs, by rw [if_neg (by decide)]; exact (q.ext x).sq, rs.ext x⟩⟩
  · rename_i n
    simp only [srcOf] at e
    split at e
    · rename_i l' el
      cases e
      obtain ⟨a, rfl, ha⟩ := rep_ref r
      refine ⟨a, rfl, fun m' h' H' x s' ok => ?_⟩
      obtain ⟨xs, q, rs⟩ := rep_get s' (srcOk_mem ok (List.mem_singleton.mpr rfl)) (x.get ha)
      exact ⟨xs, by rw [if_neg (by decide)]; exact .of q, rs⟩
    · cases e
theorem held_tmp {D : Addr} {l : List PV} {xs : List V} (n : D ∉ m) (e : H D = some (.lst xs)) (r : Reps K m H l xs) : Held K m H false D l [] := fun m' h' H' x s' _ =>
  ⟨xs, by rw [if_neg (by decide)]; exact .of (x.keep D _ e n), r.ext x⟩
theorem Held.now {t : Bool} {a : Addr} {l : List PV} {src : List (Nat × List PV)} (w : Held K m H t a l src) (s : SR K m h H) (ok : srcOk h src = true) : ∃ xs, (if t = true then SqT K H a xs else SqL K H a xs) ∧ Reps K m H l xs := w m h H .refl s ok
theorem src_now {v : PV} {t : Bool} {l : List PV} {src : List (Nat × List PV)} (e : srcOf h v = some (t, l, src)) : srcOk h src = true := by
  cases v <;> try (simp only [srcOf, reduceCtorEq] at e; done)
  · cases e; rfl
  · cases e; rfl
  · rename_i n
    simp only [srcOf] at e
    split at e
    · rename_i l' el
      cases e
      simp [srcOk, el, PV.beqs_refl]
    · cases e
end

/-! ### a value walked -/
def dVal (d : Sl → M PV) : Sl → M Its' := fun v => bnd (d v) fun x h => match srcOf h x with
  | some (_, l, src) => .ok { items := l, src := src } h
  | none => match x with
    | .str z => .ok { items := z.cps.toList.map fun c => .str ⟨#[c]⟩ } h
    | _ => .bad
section
variable {K : PySem.W.Frag} {m : List Addr} {h : VH} {H : Hp}
theorem itD_L {a : Addr} {l : List PV} {src : List (Nat × List PV)} (w : Held K m H false a l src) : ItD K (Itl K a) m H { items := l, src := src } := by
  intro i m' h' H' x s ok
  obtain ⟨xs, q, rs⟩ := w m' h' H' x s ok
  rw [if_neg (by decide)] at q
  have hl := rs.len
  refine ⟨fun hi => ?_, fun hi => ⟨xs, q, by rw [hl, hi]; exact Nat.le_refl _⟩⟩
  have hi' : i < xs.length := by rw [hl]; exact hi
  refine ⟨⟨xs, xs[i], q, List.getElem?_eq_getElem hi'⟩, fun y H'' hy => ?_⟩
  obtain ⟨rfl, f⟩ := hy
  have e2 := f xs q
  refine ⟨l[i]'hi, List.getElem?_eq_getElem hi, ?_, .refl, s⟩
  obtain ⟨z, e3, rz⟩ := rs.get (List.getElem?_eq_getElem hi)
  rw [e2] at e3; cases e3
  exact rz
theorem itD_T {a : Addr} {l : List PV} {src : List (Nat × List PV)} (w : Held K m H true a l src) : ItD K (Itt K a) m H { items := l, src := src } := by
  intro i m' h' H' x s ok
  obtain ⟨xs, q, rs⟩ := w m' h' H' x s ok
  rw [if_pos rfl] at q
  have hl := rs.len
  refine ⟨fun hi => ?_, fun hi => ⟨xs, q, by rw [hl, hi]; exact Nat.le_refl _⟩⟩
  have hi' : i < xs.length := by rw [hl]; exact hi
  refine ⟨⟨xs, xs[i], q, List.getElem?_eq_getElem hi'⟩, fun y H'' hy => ?_⟩
  obtain ⟨rfl, f⟩ := hy
  have e2 := f xs q
  refine ⟨l[i]'hi, List.getElem?_eq_getElem hi, ?_, .refl, s⟩
  obtain ⟨z, e3, rz⟩ := rs.get (List.getElem?_eq_getElem hi)
  rw [e2] at e3; cases e3
  exact rz
theorem itD_R {lo : Int} {n : Nat} : ItD K (Itr lo n) m H { items := (List.range n).map fun i => .int (lo + (i : Nat)) } := by
  intro i m' h' H' x s _
  refine ⟨fun hi => ?_, fun hi => by simp at hi; show n ≤ i; omega⟩
  have hi' : i < n := by simpa using hi
  refine ⟨hi', fun y H'' hy => ?_⟩
  obtain ⟨rfl, rfl⟩ := hy
  exact ⟨.int (lo + (i : Nat)), by simp [hi'], rep_int', .refl, s⟩
end
section
variable {X : Cx} {W : WX} {tg e : Expr} {pos : Pos}
theorem di_val {d : Sl → M PV} (he : DE X W e d) : DI X W tg e (dVal d) := by
  refine ⟨fun pins s σ H R I ⟨m, v, h, sr, sl, p⟩ => ?_⟩
  unfold dVal bnd at p
  cases e1 : d v h with
  | bad => rw [e1] at p; exact p.elim
  | ex u h1 =>
    rw [e1] at p
    exact (pi_list he).run pins s σ H R I ⟨m, v, h, sr, sl, by rw [e1]; exact p⟩
  | ok x h1 =>
    rw [e1] at p
    simp only at p
    cases e2 : srcOf h1 x with
    | some z =>
      obtain ⟨t, l, src⟩ := z
      rw [e2] at p
      simp only at p
      cases t with
      | false =>
        refine (pi_list he).run pins s σ H R I ⟨m, v, h, sr, sl, ?_⟩
        rw [e1]
        intro m1 H1 x1 s1 y ry
        obtain ⟨a, rfl, w⟩ := held_of s1 e2 ry
        obtain ⟨xs, q, _⟩ := w.now s1 (src_now e2)
        rw [if_neg (by decide)] at q
        exact ⟨a, rfl, ⟨xs, q⟩, p m1 H1 x1 s1 _ (itD_L w)⟩
      | true =>
        refine (pi_tup he).run pins s σ H R I ⟨m, v, h, sr, sl, ?_⟩
        rw [e1]
        intro m1 H1 x1 s1 y ry
        obtain ⟨a, rfl, w⟩ := held_of s1 e2 ry
        obtain ⟨xs, q, _⟩ := w.now s1 (src_now e2)
        rw [if_pos rfl] at q
        exact ⟨a, rfl, ⟨xs, q⟩, p m1 H1 x1 s1 _ (itD_T w)⟩
    | none =>
      rw [e2] at p
      simp only at p
      cases x <;> try (exact p.elim)
      rename_i z
      refine (pi_str he).run pins s σ H R I ⟨m, v, h, sr, sl, ?_⟩
      rw [e1]
      intro m1 H1 x1 s1 y ry
      rw [rep_str ry]
      refine ⟨z, rfl, p m1 H1 x1 s1 _ ?_⟩
      intro i m' h' H' x s _
      refine ⟨fun hi => ?_, fun hi => ?_⟩
      · have hi' : i < z.cps.size := by simpa using hi
        refine ⟨hi', fun y H'' hy => ?_⟩
        obtain ⟨rfl, c, ec, ey⟩ := hy
        refine ⟨.str ⟨#[c]⟩, ?_, ?_, .refl, s⟩
        · simp [ec]
        · rw [ey]; exact rep_str'
      · simp at hi
        show z.cps.size ≤ i
        omega
/-! ### range -/
def dRng1 (d : Sl → M (List PV)) : Sl → M Its' := fun v => bnd (d v) fun as h => match as with
  | [.int j] => if -1000000000 < j ∧ j < 1000000000 then .ok { items := (List.range j.toNat).map fun i => .int (0 + (i : Nat)) } h else .bad
  | _ => .bad
def dRng2 (d : Sl → M (List PV)) : Sl → M Its' := fun v => bnd (d v) fun as h => match as with
  | [.int k, .int j] => if -1000000000 < k ∧ k < 1000000000 ∧ -1000000000 < j ∧ j < 1000000000 then .ok { items := (List.range (j - k).toNat).map fun i => .int (k + (i : Nat)) } h else .bad
  | _ => .bad
theorem di_range1 {a : Expr} {d : Sl → M (List PV)} {p : Pos} (hg : Gl X "range") (hm : X.mg "range" = none) (ha : DA X W [a] d) (hs : starEach [a] X.env = [(false, eval a X.env)] := by rfl) : DI X W tg (.Call (.Name "range" p) [a] [] pos) (dRng1 d) :=
  weakI (pi_range1 hg hm ha hs) fun σ H R ⟨m, v, h, sr, sl, p⟩ => ⟨m, v, h, sr, sl, (Post.seq p).mono fun m1 H1 h1 as x1 s1 p1 xs rs => by
    split at p1
    · rename_i j
      split at p1
      case isFalse => exact p1.elim
      rename_i hj
      obtain ⟨x, t, rfl, r1, r2⟩ := rs.cons_inv
      rw [rep_int r1, r2.nil_inv]
      exact ⟨j, rfl, by omega, by omega, p1 m1 H1 .refl s1 _ itD_R⟩
    · exact p1.elim⟩
theorem di_range2 {a b : Expr} {d : Sl → M (List PV)} {p : Pos} (hg : Gl X "range") (hm : X.mg "range" = none) (ha : DA X W [a, b] d) (hs : starEach [a, b] X.env = [(false, eval a X.env), (false, eval b X.env)] := by rfl) (hs2 : starEach [b] X.env = [(false, eval b X.env)] := by rfl) :
    DI X W tg (.Call (.Name "range" p) [a, b] [] pos) (dRng2 d) :=
  weakI (pi_range2 hg hm ha hs hs2) fun σ H R ⟨m, v, h, sr, sl, p⟩ => ⟨m, v, h, sr, sl, (Post.seq p).mono fun m1 H1 h1 as x1 s1 p1 xs rs => by
    split at p1
    · rename_i k j
      split at p1
      case isFalse => exact p1.elim
      rename_i hj
      obtain ⟨x, t, rfl, r1, r2⟩ := rs.cons_inv
      obtain ⟨y, t2, rfl, r3, r4⟩ := r2.cons_inv
      rw [rep_int r1, rep_int r3, r4.nil_inv]
      exact ⟨k, j, rfl, ⟨by omega, by omega, by omega, by omega⟩, p1 m1 H1 .refl s1 _ itD_R⟩
    · exact p1.elim⟩
end

/-! ### enumerate -/
def IteU (K : PySem.W.Frag) (t : Bool) (a : Addr) : It where
  go i H := ∃ (xs : List V) (x : V), (if t = true then SqT K H a xs else SqL K H a xs) ∧ xs[i]? = some x
  yld i H v H' := ∃ T x, v = .ref T ∧ H T = none ∧ H' = upd H T (.tup [.int (i : Nat), x]) ∧ ∀ xs, (if t = true then SqT K H a xs else SqL K H a xs) → xs[i]? = some x
  stop i H := ∃ xs : List V, (if t = true then SqT K H a xs else SqL K H a xs) ∧ xs.length = i
/-- its parts, for a tuple -/
theorem turn_enumU {P : Program} {w : World} {K : PySem.W.Frag} {elts : List Expr} {kk : Nat} {tpos : Pos} (a e it : Addr) :
    Turn P w K (.Tuple elts kk tpos) (IteU K true a) [e, it] e (fun i h => (∃ old, IsEnum h e it ((i : Nat) : Int) old) ∧ (h.IsTupleIter it a i ∧ e ≠ it ∧ a ≠ it ∧ e ≠ a)) where
  mem := by simp
  obj := by
    rintro i h ⟨⟨old, en⟩, ⟨o, ho, hc, hd⟩, _⟩ b hb
    rcases (by simpa using hb : b = e ∨ b = it) with rfl | rfl
    · exact ⟨_, en, fun v q => nomatch q⟩
    · exact ⟨o, ho, fun v q => by rw [hd] at q; cases q⟩
  keep := by
    rintro i h h' ⟨⟨old, en⟩, hi, ne⟩ k
    exact ⟨⟨old, k e (by simp) _ en⟩, hi.at fun o q => k it (by simp) o q, ne⟩
  item := by
    intro X hP hw hK hc i pins s σ H E I hf st hg
    subst hP hw hK
    obtain ⟨⟨old, en⟩, tit, n1, n2, n3⟩ := st
    obtain ⟨xs, x, hq, hx⟩ := hg
    rw [if_pos rfl] at hq
    obtain ⟨its, rv, p, _⟩ := I.tuple hq
    obtain ⟨u, hu, ru⟩ := rv.get hx
    have hel : e < s.heap.objs.size := Heap.lt_size en
    have hil : it < s.heap.objs.size := by obtain ⟨_, q, _⟩ := tit; exact Heap.lt_size q
    have hn : i < its.length := (List.getElem?_eq_some_iff.mp hu).1
    refine wpAny_pyNext_enum_itemC (Draws.tuple (A := X.A.in1) (I.ok.hd hc) it a n2 its.toArray) en ⟨tit, p⟩ (by simpa using hn) n1 (fun hm => (by simpa using hm : e = it ∨ e = a).elim n1 n3) fun x' h' tk hP' ho hs' hT hsz hk => ?_
    have ex : x' = u := by
      have := hP'
      simp only [List.getElem?_toArray] at this
      rw [hu] at this
      exact (Option.some.inj this).symm
    subst ex
    refine ⟨_, rfl, wpAny_letOwnedTupleGo_enum (s := { s with heap := h', toks := tk + 1 }) ho fun h'' he' sb => ?_⟩
    have hT2 : h''.get? s.heap.objs.size = some { cls := .type "tuple", data := .seq #[.int i tk, x'] } := (sb.2 _ (Nat.ne_of_gt hel)).trans hT
    have made : ObjOk X.prog X.w (upd H s.heap.objs.size (.tup [.int (i : Nat), x])) h'' s.heap.objs.size (.tup [.int (i : Nat), x]) :=
      ⟨by show 2 ≤ sizeLine; decide, [.int i tk, x'], .cons ⟨tk, rfl⟩ (.cons ru .nil), ⟨_, hT2, rfl, _, rfl⟩⟩
    have I1 : Inv X pins σ (upd H s.heap.objs.size (.tup [.int (i : Nat), x])) { s with heap := h'', toks := tk + 1 } :=
      I.turnedNew (ch := [e, it]) (fun b ob nb q => (sb.2 b (fun z => nb (by simp [z]))).trans (hk b ob (fun z => nb (by simp [z])) (fun z => nb (by simp [z])) q)) hf (Nat.le_refl _) made
    refine ⟨.ref s.heap.objs.size, _, I1, rfl, ⟨_, x, rfl, I.hok.fresh (Nat.le_refl _), rfl, fun ys hy => by rw [if_pos rfl] at hy; rw [I.tuple_inj hy hq]; exact hx⟩, ⟨⟨x', ?_⟩, hs'.1.at fun o q => (sb.2 it (Ne.symm n1)).trans q, n1, n2, n3⟩, fun b hb => ?_⟩
    · rw [show ((i + 1 : Nat) : Int) = (i : Int) + 1 by omega]; exact he'
    · have lt : b < s.heap.objs.size := by
        rcases (by simpa using hb : b = e ∨ b = it) with rfl | rfl
        · exact hel
        · exact hil
      rw [upd_ne (Nat.ne_of_lt lt)]
      exact (hf b hb).1
  done := by
    intro X hP hw hK hc i pins s σ H E I hf st hg
    subst hP hw hK
    obtain ⟨⟨old, en⟩, tit, n1, n2, n3⟩ := st
    obtain ⟨xs, hq, hx⟩ := hg
    rw [if_pos rfl] at hq
    obtain ⟨its, rv, p, _⟩ := I.tuple hq
    obtain ⟨f0, f1, f2, f3, f4, f5⟩ := hf it (by simp)
    subst hx
    have hz : its.toArray.size = xs.length := by simp [rv.length]
    refine wpAny_pyNext_enum_endD (Draws.tuple (A := X.A.in1) (I.ok.hd hc) it a n2 its.toArray) en (by rw [hz]; exact ⟨tit, p⟩) fun h' eb => ?_
    exact ⟨rfl, I.turned (t' := s.toks) (fun b o nb q => eb b o nb q) f0 f1 f3 f4 f5⟩
  self := fun A i s Q E st h => let ⟨⟨_, en⟩, _⟩ := st; wpAny_pyIter_enum en h
def iEnumU (K : PySem.W.Frag) (ta : TA) : TI := fun σ H R => ta σ H fun vs H1 => ∃ a xs, vs = [.ref a] ∧ ((SqL K H1 a xs ∧ R (Ite K a) H1) ∨ (SqT K H1 a xs ∧ R (IteU K true a) H1))
section
variable {prog : Program} {w : World} {A : Around} {E : Value → Shared → Prop} {s : Shared}
theorem meets_enumB1 {v : Value} {o : Obj} {H : Heap → Prop} (B : Begins v o H) :
    Meets (Builtin.«enumerate.__new__» ⟨[.type "enumerate", v], []⟩) (fun _ R s => H s.heap ∧
      R (.ok (.ret (.ref (s.heap.push o).objs.size))) { s with heap := (s.heap.push o).push { cls := .type "enumerate", data := .fields #[.none, .bool false, .ref s.heap.objs.size, rawInt 0, .none, .none] } }) :=
  .of_wp fun prog w A R s h => by
    obtain ⟨hp, g, d, tk, os⟩ := s; obtain ⟨hv, h⟩ := h
    have hsub := sub_enumerate
    have step : ∀ {A' : Around} {E : Value → Shared → Prop} {Q : Value → Shared → Prop}, Q (.ref hp.objs.size) ⟨hp.push o, g, d, tk, os⟩ → wpAny (model prog w) A' (pyIter v) Q E ⟨hp, g, d, tk, os⟩ :=
      fun q => B.iter prog w _ _ ⟨hp, g, d, tk, os⟩ _ hv q
    wp_walk using step
    refine wpAny_stack_any fun st => wpAny_pure ?_
    split
    · rename_i c _ _ _ _ _
      cases (c == Value.type "enumerate")
      · wp_walk using step
        exact ⟨_, rfl, h⟩
      · wp_walk using step
        exact ⟨_, rfl, h⟩
    · wp_walk using step
      exact ⟨_, rfl, h⟩
theorem enum_of {v : Value} {o : Obj} {H : Heap → Prop} {Q : Value → Shared → Prop} (B : Begins v o H) (hv : H s.heap)
    (h : ∀ h', IsEnum h' (s.heap.objs.size + 1) s.heap.objs.size 0 .none → h'.get? s.heap.objs.size = some o → h'.objs.size = s.heap.objs.size + 2 →
      (∀ b o, s.heap.get? b = some o → h'.get? b = some o) → Q (.ref (s.heap.objs.size + 1)) { s with heap := h' }) :
    wpAny (model prog w) A (call (.type "enumerate") [v]) Q E s := by
  refine callType_new F.called_enumerate (by decide) (F.typeCall_enumerate_1 _) (F.newCall_enumerate_1 _) (fun obj => F.args_object_init_2 obj _) F.entry_enumerate_new (meets_enumB1 B) ⟨hv, ?_⟩
  have hz : (s.heap.push o).objs.size = s.heap.objs.size + 1 := Heap.size_push ..
  show _ ∧ _
  rw [hz]
  have he := Heap.get?_push_size (s.heap.push o) (o := { cls := .type "enumerate", data := .fields #[.none, .bool false, .ref s.heap.objs.size, rawInt 0, .none, .none] }) rfl
  rw [hz] at he
  exact ⟨⟨_, he, rfl⟩, h _ he (Heap.get?_push_of_some _ (Heap.get?_push_size _ B.free)) (by rw [Heap.size_push, hz]) fun b o x => Heap.get?_push_of_some _ (Heap.get?_push_of_some _ x)⟩
end
theorem pi_enumU {X : Cx} {e : Expr} {ta : TA} {p pos tpos : Pos} {elts : List Expr} {kk : Nat} (hg : Gl X "enumerate") (hm : X.mg "enumerate" = none) (ha : PA X [e] ta) (hs : starEach [e] X.env = [(false, eval e X.env)] := by rfl) :
    PI X (.Tuple elts kk tpos) (.Call (.Name "enumerate" p) [e] [] pos) (iEnumU X.K ta) := by
  refine ⟨fun pins s σ H R I h => ?_⟩
  refine Call_ (ld_blt I hg hm boot_enumerate (PyProof.Rows.callWith_type1 (thn (ha.run pos pins s σ H _ I h) fun us s1 ⟨vs, H1, I1, rv, q1⟩ => ?_) hs rfl))
  obtain ⟨a, xs, rfl, q1⟩ := q1
  rw [Vals.ref1 rv]
  have fr : ∀ b, b ∈ [s1.heap.objs.size + 1, s1.heap.objs.size] → FpOk X pins H1 b := fun b hb => by
    have hle : s1.heap.objs.size ≤ b := by
      rcases (by simpa using hb : b = s1.heap.objs.size + 1 ∨ b = s1.heap.objs.size) with z | z <;> (rw [z]; omega)
    exact I1.fpOk hle (I1.hok.fresh hle)
  rcases q1 with ⟨hq, q⟩ | ⟨hq, q⟩
  · obtain ⟨its, _, pl, _⟩ := I1.list hq
    refine call_enumerate_list pl.isList fun h' he hit hsz hk => wpAny_pyIter_enum he ?_
    exact ⟨s1.heap.objs.size + 1, [s1.heap.objs.size + 1, s1.heap.objs.size], _, _, H1, rfl, I1.kept (t' := s1.toks) hk, turn_enum a (s1.heap.objs.size + 1) s1.heap.objs.size, ⟨⟨.none, he⟩, hit, Nat.succ_ne_self _⟩, fr, q⟩
  · obtain ⟨its, _, pl, _⟩ := I1.tuple hq
    have la : a < s1.heap.objs.size := pl.lt
    refine enum_of (begins_tuple a its.toArray) pl fun h' he hit hsz hk => wpAny_pyIter_enum he ?_
    refine ⟨s1.heap.objs.size + 1, [s1.heap.objs.size + 1, s1.heap.objs.size], _, _, H1, rfl, I1.kept (t' := s1.toks) hk, turn_enumU a (s1.heap.objs.size + 1) s1.heap.objs.size, ⟨⟨.none, he⟩, ⟨_, hit, rfl, rfl⟩, Nat.succ_ne_self _, Nat.ne_of_lt la, Ne.symm (Nat.ne_of_lt (Nat.lt_succ_of_lt la))⟩, fr, q⟩

def numbered (l : List PV) : List PV := (List.range l.length).zipWith (fun i x => .tup [.int ((i : Nat) : Int), x]) l
theorem numbered_len (l : List PV) : (numbered l).length = l.length := by simp [numbered]
theorem numbered_get {l : List PV} {i : Nat} (h : i < l.length) : (numbered l)[i]? = some (.tup [.int ((i : Nat) : Int), l[i]]) := by
  simp [numbered, h]
section
variable {K : PySem.W.Frag} {m : List Addr} {h : VH} {H : Hp}
theorem itD_en {J : It} {t : Bool} {a : Addr} {l : List PV} {src : List (Nat × List PV)} (w : Held K m H t a l src)
    (go : ∀ i H (xs : List V) x, (if t = true then SqT K H a xs else SqL K H a xs) → xs[i]? = some x → J.go i H)
    (yl : ∀ i H v H', J.yld i H v H' → ∃ T x, v = .ref T ∧ H T = none ∧ H' = upd H T (.tup [.int (i : Nat), x]) ∧ ∀ xs, (if t = true then SqT K H a xs else SqL K H a xs) → xs[i]? = some x)
    (st : ∀ i H (xs : List V), (if t = true then SqT K H a xs else SqL K H a xs) → xs.length = i → J.stop i H) : ItD K J m H { items := numbered l, src := src } := by
  intro i m' h' H' x s ok
  obtain ⟨xs, q, rs⟩ := w m' h' H' x s ok
  have hl := rs.len
  refine ⟨fun hi => ?_, fun hi => st i H' xs q (by rw [hl, hi]; exact (numbered_len l).symm)⟩
  have hi0 : i < l.length := by simpa [numbered_len] using hi
  have hi' : i < xs.length := by rw [hl]; exact hi0
  refine ⟨go i H' xs xs[i] q (List.getElem?_eq_getElem hi'), fun y H'' hy => ?_⟩
  obtain ⟨T, z, rfl, nT, rfl, f⟩ := yl i H' y H'' hy
  have e2 := f xs q
  obtain ⟨z', e3, rz⟩ := rs.get (List.getElem?_eq_getElem hi0)
  rw [e2] at e3; cases e3
  exact ⟨_, numbered_get hi0, s.tup nT (Reps.cons rep_int' (Reps.cons rz Reps.nil)), .upd_new nT, s.more nT⟩
end
def dEnum (d : Sl → M PV) : Sl → M Its' := fun v => bnd (d v) fun x h => match srcOf h x with
  | some (_, l, src) => .ok { items := numbered l, src := src } h
  | none => .bad
def dEnumT (d : Sl → M (List PV)) : Sl → M Its' := fun v => bnd (d v) fun l => ret { items := numbered l }
section
variable {X : Cx} {W : WX} {e : Expr} {p pos tpos : Pos} {elts : List Expr} {kk : Nat}
theorem di_enum {d : Sl → M PV} (hg : Gl X "enumerate") (hm : X.mg "enumerate" = none) (he : DE X W e d) (hs : starEach [e] X.env = [(false, eval e X.env)] := by rfl) (hs' : starEach [e] X.env = (false, eval e X.env) :: starEach [] X.env := by rfl) :
    DI X W (.Tuple elts kk tpos) (.Call (.Name "enumerate" p) [e] [] pos) (dEnum d) :=
  weakI (pi_enumU hg hm (pa_cons he pa_nil hs') hs) fun σ H R ⟨m, v, h, sr, sl, p⟩ => ⟨m, v, h, sr, sl, (Post.seq p).mono fun m1 H1 h1 x x1 s1 p1 y ry => by
    show ∃ a xs, [y] = [V.ref a] ∧ _
    split at p1
    · rename_i t l src e2
      obtain ⟨a, rfl, w⟩ := held_of s1 e2 ry
      obtain ⟨xs, q, _⟩ := w.now s1 (src_now e2)
      refine ⟨a, xs, rfl, ?_⟩
      cases t with
      | false =>
        rw [if_neg (by decide)] at q
        refine .inl ⟨q, p1 m1 H1 .refl s1 _ (itD_en w ?_ ?_ ?_)⟩
        · intro i H xs x hx e; rw [if_neg (by decide)] at hx; exact ⟨xs, x, hx, e⟩
        · rintro i H v H' ⟨T, x, a1, a2, a3, a4⟩
          exact ⟨T, x, a1, a2, a3, fun xs hx => by rw [if_neg (by decide)] at hx; exact a4 xs hx⟩
        · intro i H xs hx e; rw [if_neg (by decide)] at hx; exact ⟨xs, hx, by omega⟩
      | true =>
        rw [if_pos rfl] at q
        refine .inr ⟨q, p1 m1 H1 .refl s1 _ (itD_en w ?_ ?_ ?_)⟩
        · intro i H xs x hx e; exact ⟨xs, x, hx, e⟩
        · rintro i H v H' ⟨T, x, a1, a2, a3, a4⟩
          exact ⟨T, x, a1, a2, a3, a4⟩
        · intro i H xs hx e; exact ⟨xs, hx, e⟩
    · exact p1.elim⟩
theorem di_enumT {d : Sl → M (List PV)} (hg : Gl X "enumerate") (hm : X.mg "enumerate" = none) (he : DL X W e d) (hs : starEach [e] X.env = [(false, eval e X.env)] := by rfl) (hs' : starEach [e] X.env = (false, eval e X.env) :: starEach [] X.env := by rfl) :
    DI X W (.Tuple elts kk tpos) (.Call (.Name "enumerate" p) [e] [] pos) (dEnumT d) :=
  weakI (pi_enumU hg hm (pa_cons he pa_nil hs') hs) fun σ H R ⟨m, v, h, sr, sl, p⟩ => ⟨m, v, h, sr, sl, by
    unfold dEnumT bnd at p
    cases e1 : d v h with
    | ok l h1 =>
      rw [e1] at p
      intro m1 H1 x1 s1 D xs n1 n2 eD r
      show ∃ a xs, [V.ref D] = [V.ref a] ∧ _
      have w := held_tmp n2 eD r
      refine ⟨D, xs, rfl, .inl ⟨.of eD, p m1 H1 x1 s1 _ (itD_en w ?_ ?_ ?_)⟩⟩
      · intro i H xs x hx e; rw [if_neg (by decide)] at hx; exact ⟨xs, x, hx, e⟩
      · rintro i H v H' ⟨T, x, a1, a2, a3, a4⟩
        exact ⟨T, x, a1, a2, a3, fun xs hx => by rw [if_neg (by decide)] at hx; exact a4 xs hx⟩
      · intro i H xs hx e; rw [if_neg (by decide)] at hx; exact ⟨xs, hx, by omega⟩
    | ex u h1 => rw [e1] at p; exact p
    | bad => rw [e1] at p; exact p⟩
end

/-! ### zip -/
def paired (l r : List PV) : List PV := l.zipWith (fun x y => .tup [x, y]) r
def dZip (d : Sl → M (List PV)) : Sl → M Its' := fun v => bnd (d v) fun as h => match as with
  | [x, y] => match srcOf h x, srcOf h y with
    | some (t, l, s1), some (u, r, s2) => if t = u then .ok { items := paired l r, src := s1 ++ s2 } h else .bad
    | _, _ => .bad
  | _ => .bad
theorem srcOk_app {h : VH} {a b : List (Nat × List PV)} (q : srcOk h (a ++ b) = true) : srcOk h a = true ∧ srcOk h b = true := by
  unfold srcOk at q ⊢
  rw [List.all_append, Bool.and_eq_true] at q
  exact q
section
variable {K : PySem.W.Frag} {m : List Addr} {h : VH} {H : Hp}
theorem paired_len (l r : List PV) : (paired l r).length = min l.length r.length := by simp [paired]
theorem itD_zp {J : It} {t : Bool} {a b : Addr} {l r : List PV} {s1 s2 : List (Nat × List PV)} (w1 : Held K m H t a l s1) (w2 : Held K m H t b r s2)
    (go : ∀ i H (xs ys : List V) x y, (if t = true then SqT K H a xs else SqL K H a xs) → (if t = true then SqT K H b ys else SqL K H b ys) → xs[i]? = some x → ys[i]? = some y → J.go i H)
    (yl : ∀ i H v H', J.yld i H v H' → ∃ T x y, v = .ref T ∧ H T = none ∧ H' = upd H T (.tup [x, y]) ∧ (∀ xs, (if t = true then SqT K H a xs else SqL K H a xs) → xs[i]? = some x) ∧ ∀ ys, (if t = true then SqT K H b ys else SqL K H b ys) → ys[i]? = some y)
    (st : ∀ i H (xs ys : List V), (if t = true then SqT K H a xs else SqL K H a xs) → (if t = true then SqT K H b ys else SqL K H b ys) → xs.length ≤ i ∨ ys.length ≤ i → J.stop i H) : ItD K J m H { items := paired l r, src := s1 ++ s2 } := by
  intro i m' h' H' x s ok
  obtain ⟨ok1, ok2⟩ := srcOk_app ok
  obtain ⟨xs, q1, rs1⟩ := w1 m' h' H' x s ok1
  obtain ⟨ys, q2, rs2⟩ := w2 m' h' H' x s ok2
  have hl1 := rs1.len
  have hl2 := rs2.len
  refine ⟨fun hi => ?_, fun hi => st i H' xs ys q1 q2 ?_⟩
  · have hi0 : i < min l.length r.length := by simpa [paired_len] using hi
    have hia : i < l.length := by omega
    have hib : i < r.length := by omega
    have hi1 : i < xs.length := by omega
    have hi2 : i < ys.length := by omega
    refine ⟨go i H' xs ys xs[i] ys[i] q1 q2 (List.getElem?_eq_getElem hi1) (List.getElem?_eq_getElem hi2), fun z H'' hy => ?_⟩
    obtain ⟨T, z1, z2, rfl, nT, rfl, f1, f2⟩ := yl i H' z H'' hy
    have e1 := f1 xs q1
    have e2 := f2 ys q2
    obtain ⟨z1', e3, rz1⟩ := rs1.get (List.getElem?_eq_getElem hia)
    obtain ⟨z2', e4, rz2⟩ := rs2.get (List.getElem?_eq_getElem hib)
    rw [e1] at e3; cases e3
    rw [e2] at e4; cases e4
    exact ⟨.tup [l[i], r[i]], by show (paired l r)[i]? = _; rw [paired, List.getElem?_zipWith, List.getElem?_eq_getElem hia, List.getElem?_eq_getElem hib], s.tup nT (Reps.cons rz1 (Reps.cons rz2 Reps.nil)), .upd_new nT, s.more nT⟩
  · have : (paired l r).length = i := hi.symm
    rw [paired_len] at this
    omega
end
section
variable {X : Cx} {W : WX} {e e2 : Expr} {p pos tpos : Pos} {elts : List Expr} {kk : Nat}
theorem di_zip {d : Sl → M (List PV)} (hg : Gl X "zip") (hm : X.mg "zip" = none) (ha : DA X W [e, e2] d) (hs : starEach [e, e2] X.env = (false, eval e X.env) :: starEach [e2] X.env := by rfl) (hpl : (backTo pos (starEach [e2] X.env)).any (·.1) = false := by rfl) :
    DI X W (.Tuple elts kk tpos) (.Call (.Name "zip" p) [e, e2] [] pos) (dZip d) :=
  weakI (RZ.pi_zipA hg hm ha hs hpl) fun σ H R ⟨m, v, h, sr, sl, p⟩ => ⟨m, v, h, sr, sl, (Post.seq p).mono fun m1 H1 h1 as x1 s1 p1 xs rs => by
    split at p1
    · rename_i x y
      split at p1
      · rename_i t l sa u r sb ea eb
        split at p1
        case isFalse => exact p1.elim
        rename_i htu
        subst htu
        obtain ⟨a', t', rfl, r1, r2⟩ := rs.cons_inv
        obtain ⟨b', t2, rfl, r3, r4⟩ := r2.cons_inv
        obtain ⟨a, rfl, w1⟩ := held_of s1 ea r1
        obtain ⟨b, rfl, w2⟩ := held_of s1 eb r3
        obtain ⟨xs, q1, _⟩ := w1.now s1 (src_now ea)
        obtain ⟨ys, q2, _⟩ := w2.now s1 (src_now eb)
        rw [r4.nil_inv]
        refine ⟨a, b, xs, ys, rfl, ?_⟩
        cases t with
        | false =>
          rw [if_neg (by decide)] at q1 q2
          refine .inl ⟨q1, q2, p1 m1 H1 .refl s1 _ (itD_zp w1 w2 ?_ ?_ ?_)⟩
          · intro i H xs ys x y h1 h2 e1 e2; rw [if_neg (by decide)] at h1 h2; exact ⟨xs, ys, x, y, h1, h2, e1, e2⟩
          · rintro i H v H' ⟨T, x, y, a1, a2, a3, a4, a5⟩
            exact ⟨T, x, y, a1, a2, a3, fun xs hx => by rw [if_neg (by decide)] at hx; exact a4 xs hx, fun xs hx => by rw [if_neg (by decide)] at hx; exact a5 xs hx⟩
          · intro i H xs ys h1 h2 e; rw [if_neg (by decide)] at h1 h2; exact ⟨xs, ys, h1, h2, e⟩
        | true =>
          rw [if_pos rfl] at q1 q2
          refine .inr ⟨q1, q2, p1 m1 H1 .refl s1 _ (itD_zp w1 w2 ?_ ?_ ?_)⟩
          · intro i H xs ys x y h1 h2 e1 e2; exact ⟨xs, ys, x, y, h1, h2, e1, e2⟩
          · rintro i H v H' ⟨T, x, y, a1, a2, a3, a4, a5⟩
            exact ⟨T, x, y, a1, a2, a3, a4, a5⟩
          · intro i H xs ys h1 h2 e; exact ⟨xs, ys, h1, h2, e⟩
      · exact p1.elim
    · exact p1.elim⟩
end
end D

/-! layer D, part 10: odds and ends -/
namespace D
open PySem PySem.Spec PySem.W PyProof.Rows L2

/-- the fuel is at its end: nothing is said -/
theorem has_bad {P : Program} {w : World} {K : PySem.W.Frag} {mg : Str → Option Value} {base : Heap} {x : Str} {st : Stmt} {ps : List Str} {f : Addr} {fd : FuncData} {n k : Nat} (T : Stands K mg x st ps f fd) :
    Has P w K mg base CX0 x n k (fun _ => bad) := by
  have no : ∀ vs H Q E, ¬ spD K n (fun _ => bad) vs H Q E := fun vs H Q E h => by
    obtain ⟨m, h, as, _, _, _, p⟩ := h
    exact p
  exact ⟨f, fd, ps, T.at_, T.fn.kp, T.bd, ⟨fun vs H Q E h => (no vs H Q E h).elim, fun A outer s H args us vs Q E _ _ _ _ h => (no vs H Q E h).elim⟩⟩
section
variable {P : Program} {w : World} {K : PySem.W.Frag} {mg : Str → Option Value} {base : Heap} {x : Str} {st : Stmt} {ps N : List Str} {b : SD} {f : Addr} {fd : FuncData}
/-- the same, the numbers told -/
theorem has0n (n NN k : Nat) (T : Stands K mg x st ps f fd) (S : FnScope N ps (defScope st)) (hn : ps.length = n) (hN : N.length = NN)
    (hb : ∀ (cdv : Value) (A : Around) (outer : List Env) (s : Shared) (H : Hp) (E : XK), Room k (A.deeper (envOfC x (defScope st) s.heap.objs.size f cdv)) → DSs (cx0 P w K mg base N x st f cdv A outer s H E) F0 (defBody st) b) :
    Has P w K mg base CX0 x n (k + 1) (fn0 NN b) := by
  subst hn hN
  exact has0 T S hb
theorem hasG0n (n NN k : Nat) (T : Stands K mg x st ps f fd) (S : FnScope N ps (defScope st)) (hn : ps.length = n) (hN : N.length = NN)
    (hb : ∀ (cdv : Value) (A : Around) (outer : List Env) (s : Shared) (H : Hp) (E : XK), A.guards = some [] → Room k (A.deeper (envOfC x (defScope st) s.heap.objs.size f cdv)) → DSs (cx0 P w K mg base N x st f cdv A outer s H E) F0 (defBody st) b) :
    HasG P w K mg base CX0 x n (k + 1) (fn0 NN b) := by
  subst hn hN
  exact hasG0 T S hb
theorem fnG0n (n NN k : Nat) (T : Stands K mg x st ps f fd) (S : FnScope N ps (defScope st)) (hn : ps.length = n) (hN : N.length = NN)
    (hb : ∀ (cdv : Value) (A : Around) (outer : List Env) (s : Shared) (H : Hp) (E : XK), A.guards = some [] → Room k (A.deeper (envOfC x (defScope st) s.heap.objs.size f cdv)) → DSs (cx0 P w K mg base N x st f cdv A outer s H E) F0 (defBody st) b) :
    FnG P w K mg base CX0 (k + 1) f fd ps (spD K n (fn0 NN b)) := by
  subst hn hN
  exact fnG0 T S hb
end
/-- an inner block's names, by the outer one's -/
def relab (scope sc : Scope) : Scope := { scope with names := scope.names.map fun (n, k) => if (k == .free && sc.kind == .function && sc.names.lookup n == some .cell) then (n, .cell) else (n, k) }
theorem relabel_eq (scope : Scope) (env : Env) : relabel scope env = relab scope env.scope := rfl
def oAddI : PV → PV → O PV := oInt2 fun i j => some (.int (i + j))
end D

/-! layer D, part 11: what a denotation gives, by rules -/
namespace D
open PySem PySem.Spec PySem.W PyProof.Rows L2

@[irreducible] def OK {α : Type} (r : R α) (Q : α → VH → Prop) : Prop := match r with
  | .ok a h => Q a h
  | _ => False
@[irreducible] def OO {α : Type} (r : Option (α × VH)) (Q : α → VH → Prop) : Prop := match r with
  | some (a, h) => Q a h
  | none => False
/-- ends of a statement -/
structure En where
  nx : Sl → VH → Prop := fun _ _ => False
  ct : Sl → VH → Prop := fun _ _ => False
  bk : Sl → VH → Prop := fun _ _ => False
  rt : PV → VH → Prop := fun _ _ => False
@[irreducible] def FO (r : Fl) (E : En) : Prop := match r with
  | .nx v h => E.nx v h
  | .ct v h => E.ct v h
  | .bk v h => E.bk v h
  | .rt u h => E.rt u h
  | _ => False
section
variable {α β : Type} {Q : α → VH → Prop} {Q' : β → VH → Prop} {P : PV → VH → Prop} {h : VH} {v : Sl} {E : En}
theorem OK.mono {r : R α} {Q1 Q2 : α → VH → Prop} (p : OK r Q1) (i : ∀ a h, Q1 a h → Q2 a h) : OK r Q2 := by
  unfold OK at p ⊢
  cases r with
  | ok a h => exact i a h p
  | _ => exact p
theorem OK.get {r : R α} {Q1 : α → VH → Prop} (p : OK r Q1) : ∃ a h, r = .ok a h ∧ Q1 a h := by
  unfold OK at p
  cases r with
  | ok a h => exact ⟨a, h, rfl, p⟩
  | _ => exact p.elim
theorem OO.mono {r : Option (α × VH)} {Q1 Q2 : α → VH → Prop} (p : OO r Q1) (i : ∀ a h, Q1 a h → Q2 a h) : OO r Q2 := by
  unfold OO at p ⊢
  cases r with
  | some y => exact i y.1 y.2 p
  | _ => exact p
theorem fo_nx {v : Sl} {h : VH} {E : En} : FO (.nx v h) E = E.nx v h := by with_unfolding_all rfl
theorem fo_ct {v : Sl} {h : VH} {E : En} : FO (.ct v h) E = E.ct v h := by with_unfolding_all rfl
theorem fo_bk {v : Sl} {h : VH} {E : En} : FO (.bk v h) E = E.bk v h := by with_unfolding_all rfl
theorem fo_rt {u : PV} {h : VH} {E : En} : FO (.rt u h) E = E.rt u h := by with_unfolding_all rfl
theorem fo_xc {e : PX} {v : Sl} {h : VH} {E : En} : FO (.xc e v h) E = False := by with_unfolding_all rfl
theorem fo_bad {E : En} : FO .bad E = False := by with_unfolding_all rfl
theorem ok_bad : OK .bad Q = False := by with_unfolding_all rfl
theorem ok_ok {a : α} : OK (.ok a h) Q = Q a h := by with_unfolding_all rfl
theorem ok_ret {a : α} : OK (ret a h) Q = Q a h := by with_unfolding_all rfl
theorem ok_bnd {m : M β} {f : β → M α} : OK (bnd m f h) Q = OK (m h) fun a h' => OK (f a h') Q := by
  unfold bnd
  cases m h <;> with_unfolding_all rfl
theorem ok_lift {f : O α} : OK (liftO f h) Q = OO (f h) Q := by
  unfold liftO
  cases f h <;> with_unfolding_all rfl
def Vr (o : Option (Option PV)) (q : PV → Prop) : Prop := match o with
  | some (some u) => q u
  | _ => False
theorem vr_some {u : PV} {q : PV → Prop} : Vr (some (some u)) q = q u := by with_unfolding_all rfl
theorem ok_var {i : Nat} : OK (dVar i v h) P = Vr v[i]? fun u => P u h := by
  unfold dVar
  generalize v[i]? = o
  rcases o with _ | _ | u <;> with_unfolding_all rfl
theorem ok_c {u : PV} : OK (dC u v h) P = P u h := by with_unfolding_all rfl
theorem ok_bin {g : PV → PV → O PV} {a b : Sl → M PV} : OK (dBin g a b v h) P = OK (a v h) fun x h1 => OK (b v h1) fun y h2 => OO (g x y h2) P := by
  unfold dBin; simp only [ok_bnd, ok_lift]
theorem ok_un {g : PV → O PV} {a : Sl → M PV} : OK (dUn g a v h) P = OK (a v h) fun x h1 => OO (g x h1) P := by
  unfold dUn; simp only [ok_bnd, ok_lift]
/-- a truth value -/
def Tr (u : PV) (q : Bool → Prop) : Prop := match u with
  | .bl b => q b
  | _ => False
theorem tr_bl {b : Bool} {q : Bool → Prop} : Tr (.bl b) q = q b := by with_unfolding_all rfl
theorem ok_asB {u : PV} {Q : Bool → VH → Prop} : OK (asB u h) Q = Tr u fun b => Q b h := by
  cases u <;> with_unfolding_all rfl
theorem ok_and {a b : Sl → M PV} : OK (dAnd a b v h) P = OK (a v h) fun x h1 => Tr x fun c => if c = true then OK (b v h1) P else P (.bl false) h1 := by
  unfold dAnd; simp only [ok_bnd, ok_asB]; congr 1; funext x h1; congr 1; funext c; cases c <;> with_unfolding_all rfl
theorem ok_or {a b : Sl → M PV} : OK (dOr a b v h) P = OK (a v h) fun x h1 => Tr x fun c => if c = true then P (.bl true) h1 else OK (b v h1) P := by
  unfold dOr; simp only [ok_bnd, ok_asB]; congr 1; funext x h1; congr 1; funext c; cases c <;> with_unfolding_all rfl
theorem ok_not {a : Sl → M PV} : OK (dNot a v h) P = OK (a v h) fun x h1 => Tr x fun c => P (.bl (!c)) h1 := by
  unfold dNot; simp only [ok_bnd, ok_asB, ok_ret]
theorem ok_chain {g g' : PV → PV → O PV} {a b c : Sl → M PV} : OK (dChain g g' a b c v h) P = OK (a v h) fun x h1 => OK (b v h1) fun y h2 => OO (g x y h2) fun z h3 => Tr z fun k => if k = true then OK (c v h3) fun w h4 => OO (g' y w h4) P else P (.bl false) h3 := by
  unfold dChain; simp only [ok_bnd, ok_asB, ok_lift]; congr 1; funext x h1; congr 1; funext y h2; congr 1; funext z h3; congr 1; funext k; cases k <;> simp [ok_bnd, ok_lift, ok_ret]
theorem ok_nil {Q : List PV → VH → Prop} : OK (dNil v h) Q = Q [] h := by with_unfolding_all rfl
theorem ok_cons {Q : List PV → VH → Prop} {a : Sl → M PV} {r : Sl → M (List PV)} : OK (dCons a r v h) Q = OK (a v h) fun x h1 => OK (r v h1) fun xs h2 => Q (x :: xs) h2 := by
  unfold dCons; simp only [ok_bnd, ok_ret]
theorem ok_tup {a : Sl → M (List PV)} : OK (dTup a v h) P = OK (a v h) fun l h1 => OO (oTup l h1) P := by
  unfold dTup; simp only [ok_bnd, ok_lift]
theorem ok_lst {a : Sl → M (List PV)} : OK (dLst a v h) P = OK (a v h) fun l h1 => OO (oLst l h1) P := by
  unfold dLst; simp only [ok_bnd, ok_lift]
theorem ok_fn {g : List PV → O PV} {a : Sl → M (List PV)} : OK (dFn g a v h) P = OK (a v h) fun l h1 => OO (g l h1) P := by
  unfold dFn; simp only [ok_bnd, ok_lift]
theorem ok_tmp {g : List PV → O PV} {a : Sl → M (List PV)} : OK (dTmpFn g a v h) P = OK (a v h) fun l h1 => OO (g l h1) P := by
  unfold dTmpFn; simp only [ok_bnd, ok_lift]
theorem ok_call {f : List PV → M PV} {a : Sl → M (List PV)} : OK (dCall f a v h) P = OK (a v h) fun l h1 => OK (f l h1) P := by
  unfold dCall; simp only [ok_bnd]
theorem ok_meth {c : VH → PV → Bool} {g : PV → List PV → O PV} {o : Sl → M PV} {a : Sl → M (List PV)} : OK (dMeth c g o a v h) P = OK (o v h) fun x h1 => c h1 x = true ∧ OK (a v h1) fun l h2 => OO (g x l h2) P := by
  unfold dMeth; simp only [ok_bnd]; congr 1; funext x h1
  by_cases hc : c h1 x = true
  · rw [if_pos hc]; simp only [ok_bnd, ok_lift, hc, true_and]
  · rw [if_neg hc]; rw [Bool.not_eq_true] at hc; rw [hc, ok_bad]; simp only [Bool.false_eq_true, false_and]
theorem ok_tval {Q : Bool → VH → Prop} {a : Sl → M PV} : OK (tVal a v h) Q = OK (a v h) fun x h1 => Tr x fun c => Q c h1 := by
  unfold tVal; simp only [ok_bnd, ok_asB]
theorem ok_tand {Q : Bool → VH → Prop} {a b : Sl → M Bool} : OK (tAndD a b v h) Q = OK (a v h) fun c h1 => if c = true then OK (b v h1) Q else Q false h1 := by
  unfold tAndD; simp only [ok_bnd]; congr 1; funext c h1; cases c <;> with_unfolding_all rfl
theorem ok_tor {Q : Bool → VH → Prop} {a b : Sl → M Bool} : OK (tOrD a b v h) Q = OK (a v h) fun c h1 => if c = true then Q true h1 else OK (b v h1) Q := by
  unfold tOrD; simp only [ok_bnd]; congr 1; funext c h1; cases c <;> with_unfolding_all rfl
theorem ok_tnot {Q : Bool → VH → Prop} {a : Sl → M Bool} : OK (tNotD a v h) Q = OK (a v h) fun c h1 => Q (!c) h1 := by
  unfold tNotD; simp only [ok_bnd, ok_ret]
theorem ok_if {c : Sl → M Bool} {a b : Sl → M PV} : OK (dIf c a b v h) P = OK (c v h) fun k h1 => if k = true then OK (a v h1) P else OK (b v h1) P := by
  unfold dIf; simp only [ok_bnd]; congr 1; funext k h1; cases k <;> with_unfolding_all rfl
theorem ok_pnone {Q : Option Int → VH → Prop} : OK (dPNone v h) Q = Q none h := by with_unfolding_all rfl
def In (u : PV) (q : Int → Prop) : Prop := match u with
  | .int i => q i
  | _ => False
theorem in_int {i : Int} {q : Int → Prop} : In (.int i) q = q i := by with_unfolding_all rfl
theorem ok_psome {Q : Option Int → VH → Prop} {a : Sl → M PV} : OK (dPSome a v h) Q = OK (a v h) fun x h1 => In x fun i => Q (some i) h1 := by
  unfold dPSome; simp only [ok_bnd]; congr 1; funext x h1; cases x <;> with_unfolding_all rfl
theorem ok_slice {g : PV → Option Int → Option Int → O PV} {a : Sl → M PV} {lo hi : Sl → M (Option Int)} : OK (dSlice g a lo hi v h) P = OK (a v h) fun x h1 => OK (lo v h1) fun l h2 => OK (hi v h2) fun u h3 => OO (g x l u h3) P := by
  unfold dSlice; simp only [ok_bnd, ok_lift]
theorem ok_fresh {d : Sl → M (List PV)} : OK (dFresh d v h) P = OK (d v h) fun l h1 => P (.ref h1.length) (h1 ++ [.lst l]) := by
  unfold dFresh; simp only [ok_bnd]; with_unfolding_all rfl
theorem ok_noex {m : M α} : OK (noex m h) Q = OK (m h) Q := by
  unfold noex; cases m h <;> with_unfolding_all rfl
theorem ok_lcx {it : Sl → M Its'} {g : PV → Sl → M Sl} {t : Sl → M Bool} {e : Sl → M PV} {own : List Nat} {Q : List PV → VH → Prop} :
    OK (dLcx it g t e own v h) Q = OK (it v h) fun i h1 => i.items.length ≤ 16777216 ∧ OK (lcF i.src (lcBody g t e (wipeD v own)) i.items h1) Q := by
  unfold dLcx dLc; simp only [ok_noex, ok_bnd]; congr 1; funext i h1
  by_cases hc : i.items.length ≤ 16777216
  · rw [if_pos hc]; simp only [hc, true_and]
  · rw [if_neg hc]; simp only [hc, false_and]; with_unfolding_all rfl
theorem ok_body {g : PV → Sl → M Sl} {t : Sl → M Bool} {e : Sl → M PV} {x : PV} {Q : List PV → VH → Prop} : OK (lcBody g t e v x h) Q = OK (g x v h) fun v' h1 => OK (t v' h1) fun k h2 => if k = true then OK (e v' h2) fun y h3 => Q [y] h3 else Q [] h2 := by
  unfold lcBody; simp only [ok_bnd]; congr 1; funext v' h1; congr 1; funext k h2; cases k <;> simp [ok_bnd, ok_ret]
theorem ok_true {Q : Bool → VH → Prop} : OK (tTrue v h) Q = Q true h := by with_unfolding_all rfl
theorem ok_dtmp {d : Sl → M (List PV)} {Q : Its' → VH → Prop} : OK (dTmp d v h) Q = OK (d v h) fun l h1 => Q { items := l } h1 := by
  unfold dTmp; simp only [ok_bnd, ok_ret]
/-- what is walked -/
def Wk (h : VH) (x : PV) (q : List PV → List (Nat × List PV) → Prop) : Prop := match srcOf h x with
  | some (_, l, src) => q l src
  | none => match x with
    | .str z => q (z.cps.toList.map fun c => .str ⟨#[c]⟩) []
    | _ => False
theorem wk_tup {l : List PV} {q : List PV → List (Nat × List PV) → Prop} : Wk h (.tup l) q = q l [] := by with_unfolding_all rfl
theorem wk_rol {l : List PV} {q : List PV → List (Nat × List PV) → Prop} : Wk h (.rol l) q = q l [] := by with_unfolding_all rfl
theorem wk_str {z : Str} {q : List PV → List (Nat × List PV) → Prop} : Wk h (.str z) q = q (z.cps.toList.map fun c => .str ⟨#[c]⟩) [] := by with_unfolding_all rfl
theorem wk_ref {n : Nat} {l : List PV} {q : List PV → List (Nat × List PV) → Prop} (e : h[n]? = some (.lst l)) : Wk h (.ref n) q = q l [(n, l)] := by
  have : srcOf h (.ref n) = some (false, l, [(n, l)]) := by simp only [srcOf, e]
  unfold Wk; rw [this]
theorem ok_dval {d : Sl → M PV} {Q : Its' → VH → Prop} : OK (dVal d v h) Q = OK (d v h) fun x h1 => Wk h1 x fun l src => Q { items := l, src := src } h1 := by
  unfold dVal; simp only [ok_bnd]; congr 1; funext x h1
  unfold Wk
  cases e : srcOf h1 x with
  | some z => with_unfolding_all rfl
  | none => cases x <;> with_unfolding_all rfl
def Ra1 (as : List PV) (q : Int → Prop) : Prop := match as with
  | [.int j] => q j
  | _ => False
theorem ra1 {j : Int} {q : Int → Prop} : Ra1 [.int j] q = q j := by with_unfolding_all rfl
def Ra2 (as : List PV) (q : Int → Int → Prop) : Prop := match as with
  | [.int i, .int j] => q i j
  | _ => False
theorem ra2 {i j : Int} {q : Int → Int → Prop} : Ra2 [.int i, .int j] q = q i j := by with_unfolding_all rfl
def rng (lo : Int) (n : Nat) : List PV := (List.range n).map fun i => .int (lo + (i : Nat))
theorem rng_len (lo : Int) (n : Nat) : (rng lo n).length = n := by simp [rng]
theorem rng_get {lo : Int} {n i : Nat} {x : PV} (e : (rng lo n)[i]? = some x) : i < n ∧ x = .int (lo + (i : Nat)) := by
  unfold rng at e
  rw [List.getElem?_map] at e
  by_cases hi : i < n
  · rw [List.getElem?_range hi] at e
    exact ⟨hi, (Option.some.inj e).symm⟩
  · rw [List.getElem?_eq_none (by simpa using hi)] at e
    cases e
theorem ok_rng1 {d : Sl → M (List PV)} {Q : Its' → VH → Prop} : OK (dRng1 d v h) Q = OK (d v h) fun as h1 => Ra1 as fun j => (-1000000000 < j ∧ j < 1000000000) ∧ Q { items := rng 0 j.toNat } h1 := by
  unfold dRng1; simp only [ok_bnd]; congr 1; funext as h1
  rcases as with _ | ⟨a, _ | ⟨b, t⟩⟩
  · with_unfolding_all rfl
  · cases a <;> try with_unfolding_all rfl
    rename_i j
    show OK (if _ then _ else _) Q = _
    by_cases c : -1000000000 < j ∧ j < 1000000000
    · rw [if_pos c, ra1]; simp only [c, and_self, true_and]; with_unfolding_all rfl
    · rw [if_neg c, ra1]; simp only [c, false_and]; with_unfolding_all rfl
  · cases a <;> with_unfolding_all rfl
theorem ok_rng2 {d : Sl → M (List PV)} {Q : Its' → VH → Prop} : OK (dRng2 d v h) Q = OK (d v h) fun as h1 => Ra2 as fun k j => (-1000000000 < k ∧ k < 1000000000 ∧ -1000000000 < j ∧ j < 1000000000) ∧ Q { items := rng k (j - k).toNat } h1 := by
  unfold dRng2; simp only [ok_bnd]; congr 1; funext as h1
  rcases as with _ | ⟨a, _ | ⟨b, _ | ⟨c, t⟩⟩⟩
  · with_unfolding_all rfl
  · cases a <;> with_unfolding_all rfl
  · cases a <;> try with_unfolding_all rfl
    cases b <;> try with_unfolding_all rfl
    rename_i k j
    show OK (if _ then _ else _) Q = _
    by_cases c : -1000000000 < k ∧ k < 1000000000 ∧ -1000000000 < j ∧ j < 1000000000
    · rw [if_pos c, ra2]; simp only [c, and_self, true_and]; with_unfolding_all rfl
    · rw [if_neg c, ra2]; simp only [c, false_and]; with_unfolding_all rfl
  · cases a <;> try with_unfolding_all rfl
    cases b <;> with_unfolding_all rfl
def Sr (o : Option (Bool × List PV × List (Nat × List PV))) (q : Bool → List PV → List (Nat × List PV) → Prop) : Prop := match o with
  | some (t, l, s) => q t l s
  | none => False
theorem sr_some {t : Bool} {l : List PV} {s : List (Nat × List PV)} {q : Bool → List PV → List (Nat × List PV) → Prop} : Sr (some (t, l, s)) q = q t l s := by with_unfolding_all rfl
theorem ok_enum {d : Sl → M PV} {Q : Its' → VH → Prop} : OK (dEnum d v h) Q = OK (d v h) fun x h1 => Sr (srcOf h1 x) fun _ l src => Q { items := numbered l, src := src } h1 := by
  unfold dEnum; simp only [ok_bnd]; congr 1; funext x h1
  cases e : srcOf h1 x <;> with_unfolding_all rfl
theorem ok_enumT {d : Sl → M (List PV)} {Q : Its' → VH → Prop} : OK (dEnumT d v h) Q = OK (d v h) fun l h1 => Q { items := numbered l } h1 := by
  unfold dEnumT; simp only [ok_bnd, ok_ret]
def Zp (h : VH) (as : List PV) (q : List PV → List (Nat × List PV) → Prop) : Prop := match as with
  | [x, y] => Sr (srcOf h x) fun t l s1 => Sr (srcOf h y) fun u r s2 => t = u ∧ q (paired l r) (s1 ++ s2)
  | _ => False
theorem zp_two {x y : PV} {q : List PV → List (Nat × List PV) → Prop} : Zp h [x, y] q = Sr (srcOf h x) fun t l s1 => Sr (srcOf h y) fun u r s2 => t = u ∧ q (paired l r) (s1 ++ s2) := by with_unfolding_all rfl
theorem ok_zip {d : Sl → M (List PV)} {Q : Its' → VH → Prop} : OK (dZip d v h) Q = OK (d v h) fun as h1 => Zp h1 as fun l s => Q { items := l, src := s } h1 := by
  unfold dZip; simp only [ok_bnd]; congr 1; funext as h1
  rcases as with _ | ⟨a, _ | ⟨b, _ | ⟨c, t⟩⟩⟩ <;> try with_unfolding_all rfl
  rw [zp_two]
  simp only
  cases e1 : srcOf h1 a with
  | none => with_unfolding_all rfl
  | some z =>
    cases e2 : srcOf h1 b with
    | none => with_unfolding_all rfl
    | some y =>
      obtain ⟨t, l, s1⟩ := z
      obtain ⟨u, r, s2⟩ := y
      rw [sr_some, sr_some]
      simp only
      by_cases c : t = u
      · rw [if_pos c]; simp only [c, true_and]; with_unfolding_all rfl
      · rw [if_neg c]; simp only [c, false_and]; with_unfolding_all rfl
theorem ok_gname {i : Nat} {u : PV} {Q : Sl → VH → Prop} : OK (dgName i u v h) Q = Q (v.set i (some u)) h := by with_unfolding_all rfl
theorem ok_gsnil {Q : Sl → VH → Prop} : OK (dgsNil [] v h) Q = Q v h := by with_unfolding_all rfl
theorem ok_gscons {d : PV → Sl → M Sl} {r : List PV → Sl → M Sl} {u : PV} {us : List PV} {Q : Sl → VH → Prop} : OK (dgsCons d r (u :: us) v h) Q = OK (d u v h) fun v' h1 => OK (r us v' h1) Q := by
  unfold dgsCons; simp only [ok_bnd]
theorem ok_gtup {n : Nat} {d : List PV → Sl → M Sl} {l : List PV} {Q : Sl → VH → Prop} : OK (dgTup n d (.tup l) v h) Q = (l.length = n ∧ OK (d l v h) Q) := by
  unfold dgTup
  by_cases c : l.length = n
  · simp only [c, if_true, true_and]
  · simp only [c, if_false, false_and]; with_unfolding_all rfl
theorem ok_gsub {g : PV → PV → PV → O Unit} {a b : Sl → M PV} {u : PV} {Q : Sl → VH → Prop} : OK (dgSub g a b u v h) Q = OK (a v h) fun o h1 => OK (b v h1) fun i h2 => OO (g o i u h2) fun _ h3 => Q v h3 := by
  unfold dgSub; simp only [ok_bnd, ok_lift, ok_ret]
/-! statements -/
theorem fo_bx {m : M α} {f : α → VH → Fl} : FO (bx v m f h) E = OK (m h) fun a h1 => FO (f a h1) E := by
  unfold bx; cases m h <;> with_unfolding_all rfl
theorem fo_next : FO (sNext v h) E = E.nx v h := by with_unfolding_all rfl
theorem fo_seq {a b : SD} : FO (sSeq a b v h) E = FO (a v h) { E with nx := fun v' h' => FO (b v' h') E } := by
  unfold sSeq; cases a v h <;> with_unfolding_all rfl
theorem fo_asg {e : Sl → M PV} {g : PV → Sl → M Sl} : FO (sAsg e g v h) E = OK (e v h) fun x h1 => OK (g x v h1) fun v' h2 => E.nx v' h2 := by
  unfold sAsg; simp only [fo_bx]; with_unfolding_all rfl
theorem fo_expr {e : Sl → M PV} : FO (sExpr e v h) E = OK (e v h) fun _ h1 => E.nx v h1 := by
  unfold sExpr; simp only [fo_bx]; with_unfolding_all rfl
theorem fo_ret {e : Sl → M PV} : FO (sRet e v h) E = OK (e v h) fun x h1 => E.rt x h1 := by
  unfold sRet; simp only [fo_bx]; with_unfolding_all rfl
theorem fo_retN : FO (sRetN v h) E = E.rt .non h := by with_unfolding_all rfl
theorem fo_if {c : Sl → M Bool} {a b : SD} : FO (sIf c a b v h) E = OK (c v h) fun k h1 => if k = true then FO (a v h1) E else FO (b v h1) E := by
  unfold sIf; simp only [fo_bx]; congr 1; funext k h1; cases k <;> with_unfolding_all rfl
theorem fo_break : FO (sBreak v h) E = E.bk v h := by with_unfolding_all rfl
theorem fo_cont : FO (sCont v h) E = E.ct v h := by with_unfolding_all rfl
def Pa2 (l : List PV) (q : PV → PV → Prop) : Prop := match l with
  | [a, b] => q a b
  | _ => False
theorem pa2 {a b : PV} {q : PV → PV → Prop} : Pa2 [a, b] q = q a b := by with_unfolding_all rfl
theorem fo_par {i j : Nat} {d : Sl → M (List PV)} : FO (sPar i j d v h) E = OK (d v h) fun l h1 => Pa2 l fun a b => E.nx ((v.set i (some a)).set j (some b)) h1 := by
  unfold sPar; simp only [fo_bx]; congr 1; funext l h1
  rcases l with _ | ⟨a, _ | ⟨b, _ | ⟨c, t⟩⟩⟩ <;> with_unfolding_all rfl
theorem fo_aug {g : PV → PV → O PV} {i : Nat} {e : Sl → M PV} : FO (sAug g i e v h) E = OK (dVar i v h) fun x h1 => OK (e v h1) fun y h2 => OO (g x y h2) fun z h3 => E.nx (v.set i (some z)) h3 := by
  unfold sAug; simp only [fo_bx, ok_lift]; with_unfolding_all rfl
theorem fo_for {it : Sl → M Its'} {g : PV → Sl → M Sl} {b : SD} : FO (sFor it g b v h) E = OK (it v h) fun i h1 => FO (forF i.src (forBody g b) i.items v h1) E := by
  unfold sFor; simp only [fo_bx]
theorem fo_body {g : PV → Sl → M Sl} {b : SD} {x : PV} : FO (forBody g b x v h) E = OK (g x v h) fun v' h1 => FO (b v' h1) E := by
  unfold forBody; simp only [fo_bx]
theorem ok_fn0 {N : Nat} {b : SD} {as : List PV} : OK (fn0 N b as h) P = FO (b (as.map some ++ List.replicate (N - as.length) none) h) { nx := fun _ h' => P .non h', rt := P } := by
  unfold fn0; cases b (as.map some ++ List.replicate (N - as.length) none) h <;> with_unfolding_all rfl
/-- a loop, by what holds ahead of each turn -/
theorem fo_loop {src : List (Nat × List PV)} {body : PV → SD} (I : Nat → Sl → VH → Prop) : ∀ {items : List PV} {k : Nat} {v : Sl} {h : VH}, I k v h →
    (∀ i v h, i ≤ items.length → I (k + i) v h → srcOk h src = true) → (∀ (i : Nat) x v h, items[i]? = some x → I (k + i) v h → FO (body x v h) { nx := I (k + i + 1), ct := I (k + i + 1), bk := E.nx, rt := E.rt }) → (∀ v h, I (k + items.length) v h → E.nx v h) →
    FO (forF src body items v h) E
  | [], k, v, h, h0, ok, _, dn => by
    unfold forF
    rw [if_pos (ok 0 v h (Nat.le_refl _) h0), fo_nx]
    exact dn v h h0
  | x :: xs, k, v, h, h0, ok, st, dn => by
    unfold forF
    rw [if_pos (ok 0 v h (Nat.zero_le _) h0)]
    have p := st 0 x v h rfl h0
    have next : ∀ v' h', I (k + 1) v' h' → FO (forF src body xs v' h') E := fun v' h' q =>
      fo_loop I (k := k + 1) q (fun i v h hi q => ok (i + 1) v h (by simpa using hi) (by rw [show k + (i + 1) = k + 1 + i by omega]; exact q))
        (fun i y v h e q => by
          have := st (i + 1) y v h (by simpa using e) (by rw [show k + (i + 1) = k + 1 + i by omega]; exact q)
          rw [show k + (i + 1) + 1 = k + 1 + i + 1 by omega] at this
          exact this)
        (fun v h q => dn v h (by rw [List.length_cons, show k + (xs.length + 1) = k + 1 + xs.length by omega]; exact q))
    cases e : body x v h with
    | nx v' h' => rw [e, fo_nx] at p; exact next v' h' p
    | ct v' h' => rw [e, fo_ct] at p; exact next v' h' p
    | bk v' h' => rw [e, fo_bk] at p; show FO (.nx v' h') E; rw [fo_nx]; exact p
    | rt u h' => rw [e, fo_rt] at p; show FO (.rt u h') E; rw [fo_rt]; exact p
    | xc a v' h' => rw [e, fo_xc] at p; exact p.elim
    | bad => rw [e, fo_bad] at p; exact p.elim
theorem fo_loop0 {src : List (Nat × List PV)} {body : PV → SD} {items : List PV} (I : Nat → Sl → VH → Prop) (h0 : I 0 v h)
    (ok : ∀ i v h, i ≤ items.length → I i v h → srcOk h src = true) (st : ∀ (i : Nat) x v h, items[i]? = some x → I i v h → FO (body x v h) { nx := I (i + 1), ct := I (i + 1), bk := E.nx, rt := E.rt }) (dn : ∀ v h, I items.length v h → E.nx v h) :
    FO (forF src body items v h) E :=
  fo_loop I (k := 0) h0 (fun i v h hi q => ok i v h hi (by simpa using q)) (fun i x v h e q => by simpa using st i x v h e (by simpa using q)) (fun v h q => dn v h (by simpa using q))
/-- a comprehension, by what holds ahead of each item -/
theorem ok_lc {src : List (Nat × List PV)} {f : PV → M (List PV)} (I : Nat → List PV → VH → Prop) : ∀ {items : List PV} {k : Nat} {acc : List PV} {h : VH} {Q : List PV → VH → Prop}, I k acc h →
    (∀ i acc h, i ≤ items.length → I (k + i) acc h → srcOk h src = true) → (∀ (i : Nat) x acc h, items[i]? = some x → I (k + i) acc h → OK (f x h) fun o h' => I (k + i + 1) (acc ++ o) h') → (∀ acc h, I (k + items.length) acc h → Q acc h) →
    OK (lcF src f items h) fun r h' => Q (acc ++ r) h'
  | [], k, acc, h, Q, h0, ok, _, dn => by
    unfold lcF chk
    simp only [ok_bnd]
    rw [if_pos (ok 0 acc h (Nat.le_refl _) h0)]
    rw [ok_ok, ok_ret]
    rw [List.append_nil]
    exact dn acc h h0
  | x :: xs, k, acc, h, Q, h0, ok, st, dn => by
    unfold lcF chk
    simp only [ok_bnd]
    rw [if_pos (ok 0 acc h (Nat.zero_le _) h0), ok_ok]
    refine OK.mono (st 0 x acc h rfl h0) fun o h' q => ?_
    have := ok_lc I (items := xs) (k := k + 1) (acc := acc ++ o) (h := h') (Q := Q) q (fun i a h hi q => ok (i + 1) a h (by simpa using hi) (by rw [show k + (i + 1) = k + 1 + i by omega]; exact q))
      (fun i y a h e q => by
        have := st (i + 1) y a h (by simpa using e) (by rw [show k + (i + 1) = k + 1 + i by omega]; exact q)
        rw [show k + (i + 1) + 1 = k + 1 + i + 1 by omega] at this
        exact this)
      (fun a h q => dn a h (by rw [List.length_cons, show k + (xs.length + 1) = k + 1 + xs.length by omega]; exact q))
    refine OK.mono this fun r h'' q => ?_
    rw [ok_ret]
    rw [← List.append_assoc]
    exact q
theorem ok_lc0 {src : List (Nat × List PV)} {f : PV → M (List PV)} {items : List PV} {Q : List PV → VH → Prop} (I : Nat → List PV → VH → Prop) (h0 : I 0 [] h)
    (ok : ∀ i acc h, i ≤ items.length → I i acc h → srcOk h src = true) (st : ∀ (i : Nat) x acc h, items[i]? = some x → I i acc h → OK (f x h) fun o h' => I (i + 1) (acc ++ o) h') (dn : ∀ acc h, I items.length acc h → Q acc h) :
    OK (lcF src f items h) Q := by
  have := ok_lc I (k := 0) (acc := []) (Q := Q) h0 (fun i a h hi q => ok i a h hi (by simpa using q)) (fun i x a h e q => by simpa using st i x a h e (by simpa using q)) (fun a h q => dn a h (by simpa using q))
  simpa using this
/-- a while, by a measure -/
theorem fo_while {c : Sl → M Bool} {b : SD} (I : Nat → Sl → VH → Prop) (st : ∀ k v h, I k v h → OK (c v h) fun t h1 => if t = true then ∃ j, k = j + 1 ∧ FO (b v h1) { nx := I j, ct := I j, bk := E.nx, rt := E.rt } else E.nx v h1) : ∀ {n k : Nat} {v : Sl} {h : VH}, k < n → I k v h → FO (whileF c b n v h) E
  | 0, k, v, h, hk, _ => absurd hk (Nat.not_lt_zero _)
  | n + 1, k, v, h, hk, q => by
    unfold whileF
    rw [fo_bx]
    refine OK.mono (st k v h q) fun t h1 p => ?_
    cases t with
    | false =>
      simp only [Bool.false_eq_true, if_false] at p ⊢
      rw [fo_nx]
      exact p
    | true =>
      simp only [if_true] at p ⊢
      obtain ⟨j, rfl, p⟩ := p
      cases e : b v h1 with
      | nx v' h' => rw [e, fo_nx] at p; exact fo_while I st (by omega) p
      | ct v' h' => rw [e, fo_ct] at p; exact fo_while I st (by omega) p
      | bk v' h' => rw [e, fo_bk] at p; show FO (.nx v' h') E; rw [fo_nx]; exact p
      | rt u h' => rw [e, fo_rt] at p; show FO (.rt u h') E; rw [fo_rt]; exact p
      | xc a v' h' => rw [e, fo_xc] at p; exact p.elim
      | bad => rw [e, fo_bad] at p; exact p.elim
end
end D

/-! layer D, part 12: what the operators give -/
namespace D
open PySem PySem.Spec PySem.W PyProof.Rows L2
section
variable {Q : PV → VH → Prop} {h : VH} {i j : Int}
theorem oo_some {α : Type} {a : α} {Q : α → VH → Prop} : OO (some (a, h)) Q = Q a h := by with_unfolding_all rfl
theorem oo_add : OO (oAdd (.int i) (.int j) h) Q = Q (.int (i + j)) h := by with_unfolding_all rfl
theorem oo_addI : OO (oAddI (.int i) (.int j) h) Q = Q (.int (i + j)) h := by with_unfolding_all rfl
theorem oo_sub : OO (oSub (.int i) (.int j) h) Q = Q (.int (i - j)) h := by with_unfolding_all rfl
theorem oo_if {α : Type} {c : Prop} [Decidable c] {a : α} {Q : α → VH → Prop} : OO (if c then some (a, h) else none) Q = (c ∧ Q a h) := by
  by_cases e : c
  · rw [if_pos e]; simp only [e, true_and]; with_unfolding_all rfl
  · rw [if_neg e]; simp only [e, false_and]; with_unfolding_all rfl
theorem oInt2_if {c : Prop} [Decidable c] {z : PV} {f : Int → Int → Option PV} (hf : f i j = if c then some z else none) : OO (oInt2 f (.int i) (.int j) h) Q = (c ∧ Q z h) := by
  unfold oInt2
  simp only [hf]
  by_cases e : c
  · simp only [e, if_true, true_and]; with_unfolding_all rfl
  · simp only [e, if_false, false_and]; with_unfolding_all rfl
theorem oo_mul : OO (oMul (.int i) (.int j) h) Q = (((-big < i ∧ i < big) ∨ (-big < j ∧ j < big)) ∧ Q (.int (i * j)) h) := oo_if
theorem oo_fdiv : OO (oFdiv (.int i) (.int j) h) Q = ((0 < j ∧ j.natAbs < 2 ^ 9000) ∧ Q (.int (i / j)) h) := oInt2_if rfl
theorem oo_mod : OO (oMod (.int i) (.int j) h) Q = (0 < j ∧ Q (.int (i % j)) h) := oInt2_if rfl
theorem oo_pow : OO (oPow (.int i) (.int j) h) Q = ((0 ≤ j ∧ j ≤ 1000000 ∧ i.natAbs < 2 ^ 64) ∧ Q (.int (i ^ j.toNat)) h) := oInt2_if rfl
theorem oo_shl : OO (oShl (.int i) (.int j) h) Q = ((0 ≤ j ∧ j ≤ 1000000 ∧ i.natAbs < 2 ^ 64) ∧ Q (.int (i * 2 ^ j.toNat)) h) := oInt2_if rfl
theorem oo_shr : OO (oShr (.int i) (.int j) h) Q = (0 ≤ j ∧ Q (.int (i / 2 ^ j.toNat)) h) := oInt2_if rfl
theorem oo_and : OO (oAnd (.int i) (.int j) h) Q = Q (.int (Builtin.bitAnd i j)) h := by with_unfolding_all rfl
theorem oo_or : OO (oOr (.int i) (.int j) h) Q = Q (.int (Builtin.bitOr i j)) h := by with_unfolding_all rfl
theorem oo_neg : OO (uNeg (.int i) h) Q = Q (.int (-i)) h := by with_unfolding_all rfl
theorem oo_inv : OO (uInv (.int i) h) Q = Q (.int (Builtin.bitNot i)) h := by with_unfolding_all rfl
theorem oo_le : OO (oLe (.int i) (.int j) h) Q = Q (.bl (decide (i ≤ j))) h := by with_unfolding_all rfl
theorem oo_gt : OO (oGt (.int i) (.int j) h) Q = Q (.bl (decide (j < i))) h := by with_unfolding_all rfl
theorem oo_ge : OO (oGe (.int i) (.int j) h) Q = Q (.bl (decide (j ≤ i))) h := by with_unfolding_all rfl
theorem oo_lt : OO (oLt (.int i) (.int j) h) Q = Q (.bl (decide (i < j))) h := by with_unfolding_all rfl
theorem eqv_int : PyData.eqv (.int i) (.int j) = decide (i = j) := by
  simp only [PyData.eqv]
  by_cases c : i = j <;> simp [c]
theorem oo_eq : OO (oEq (.int i) (.int j) h) Q = Q (.bl (decide (i = j))) h := by
  rw [← eqv_int]; with_unfolding_all rfl
theorem oo_ne : OO (oNe (.int i) (.int j) h) Q = Q (.bl (!decide (i = j))) h := by
  rw [← eqv_int]; with_unfolding_all rfl
theorem oo_eqb {a b : Bool} : OO (oEq (.bl a) (.bl b) h) Q = Q (.bl (decide (a = b))) h := by
  cases a <;> cases b <;> with_unfolding_all rfl
theorem oo_neb {a b : Bool} : OO (oNe (.bl a) (.bl b) h) Q = Q (.bl (!decide (a = b))) h := by
  cases a <;> cases b <;> with_unfolding_all rfl
theorem oo_isB {a b : Bool} : OO (oIs (.bl a) (.bl b) h) Q = Q (.bl (decide (a = b))) h := by with_unfolding_all rfl
theorem oo_isNotB {a b : Bool} : OO (oIsNot (.bl a) (.bl b) h) Q = Q (.bl (!decide (a = b))) h := by with_unfolding_all rfl
theorem oo_is0 {a : PV} : OO (oIs a .non h) Q = Q (.bl (isNonP a)) h := by with_unfolding_all rfl
theorem oo_isNot0 {a : PV} : OO (oIsNot a .non h) Q = Q (.bl (!isNonP a)) h := by with_unfolding_all rfl
theorem eqv_str {a b : Str} : PyData.eqv (.str a) (.str b) = decide (a = b) := by
  simp only [PyData.eqv]
  by_cases c : a = b <;> simp [c]
theorem oo_nes {a b : Str} : OO (oNe (.str a) (.str b) h) Q = Q (.bl (!decide (a = b))) h := by with_unfolding_all rfl
theorem oo_eqs {a b : Str} : OO (oEq (.str a) (.str b) h) Q = Q (.bl (decide (a = b))) h := by with_unfolding_all rfl
theorem oo_addT {l k : List PV} : OO (oAdd (.tup l) (.tup k) h) Q = (l.length + k.length ≤ 16777216 ∧ Q (.tup (l ++ k)) h) := oo_if
theorem oo_tup {l : List PV} : OO (oTup l h) Q = (l.length ≤ 16777216 ∧ Q (.tup l) h) := oo_if
theorem oo_lst {l : List PV} : OO (oLst l h) Q = (l.length ≤ 16777216 ∧ Q (.ref h.length) (h ++ [.lst l])) := oo_if
theorem oo_addL {a b : Nat} {l k : List PV} (ea : h[a]? = some (.lst l)) (eb : h[b]? = some (.lst k)) : OO (oAdd (.ref a) (.ref b) h) Q = (l.length + k.length ≤ 16777216 ∧ Q (.ref h.length) (h ++ [.lst (l ++ k)])) := by
  unfold oAdd; simp only [ea, eb]; exact oo_if
theorem oo_mulL {a : Nat} {l : List PV} {k : Int} (ea : h[a]? = some (.lst l)) : OO (oMul (.ref a) (.int k) h) Q = ((0 ≤ k ∧ k ≤ 1000 ∧ l.length ≤ 1000) ∧ Q (.ref h.length) (h ++ [.lst (List.replicate k.toNat l).flatten])) := by
  unfold oMul; simp only [ea]; exact oo_if
theorem atI_nn {α : Type} {l : List α} {v : α} (h0 : 0 ≤ i) (e : l[i.toNat]? = some v) : L2.atI l i = some v := by
  unfold L2.atI ixN
  have := (List.getElem?_eq_some_iff.mp e).1
  rw [if_pos h0, if_pos (by omega)]
  exact e
theorem oo_ixT {l : List PV} {v : PV} (h0 : 0 ≤ i) (e : l[i.toNat]? = some v) : OO (oIx (.tup l) (.int i) h) Q = Q v h := by
  have : oIx (.tup l) (.int i) h = some (v, h) := by simp only [oIx, itemsOf, atI_nn h0 e]
  rw [this]; with_unfolding_all rfl
theorem oo_ixR {l : List PV} {v : PV} (h0 : 0 ≤ i) (e : l[i.toNat]? = some v) : OO (oIx (.rol l) (.int i) h) Q = Q v h := by
  have : oIx (.rol l) (.int i) h = some (v, h) := by simp only [oIx, itemsOf, atI_nn h0 e]
  rw [this]; with_unfolding_all rfl
theorem oo_ixL {a : Nat} {l : List PV} {v : PV} (ea : h[a]? = some (.lst l)) (h0 : 0 ≤ i) (e : l[i.toNat]? = some v) : OO (oIx (.ref a) (.int i) h) Q = Q v h := by
  have : oIx (.ref a) (.int i) h = some (v, h) := by simp only [oIx, itemsOf, ea, atI_nn h0 e]
  rw [this]; with_unfolding_all rfl
theorem oo_setIx {a : Nat} {l : List PV} {v : PV} {Q : Unit → VH → Prop} (ea : h[a]? = some (.lst l)) (h0 : 0 ≤ i) (hi : i.toNat < l.length) : OO (oSetIx (.ref a) (.int i) v h) Q = Q () (h.set a (.lst (l.set i.toNat v))) := by
  have : ixN l.length i = some i.toNat := by
    unfold ixN
    rw [if_pos h0, if_pos (by omega)]
  have : oSetIx (.ref a) (.int i) v h = some ((), h.set a (.lst (l.set i.toNat v))) := by simp only [oSetIx, ea, this]
  rw [this]; with_unfolding_all rfl
theorem oo_append {a : Nat} {l : List PV} {v : PV} (ea : h[a]? = some (.lst l)) : OO (mAppend (.ref a) [v] h) Q = (l.length < 16777216 ∧ Q .non (h.set a (.lst (l ++ [v])))) := by
  unfold mAppend; simp only [ea]; exact oo_if
theorem isLst_ref {a : Nat} {l : List PV} (ea : h[a]? = some (.lst l)) : isLst h (.ref a) = true := by
  simp only [isLst, ea]
theorem oo_abs : OO (oAbs [.int i] h) Q = Q (.int (if i < 0 then -i else i)) h := by with_unfolding_all rfl
theorem oo_int : OO (oInt [.int i] h) Q = Q (.int i) h := by with_unfolding_all rfl
theorem oo_intb {b : Bool} : OO (oInt [.bl b] h) Q = Q (.int (if b = true then 1 else 0)) h := by cases b <;> with_unfolding_all rfl
theorem oo_max2 : OO (oMax2 [.int i, .int j] h) Q = Q (.int (max i j)) h := by
  have : OO (oMax2 [.int i, .int j] h) Q = Q (.int (if j > i then j else i)) h := by with_unfolding_all rfl
  rw [this]
  by_cases c : j > i
  · rw [if_pos c, Int.max_eq_right (by omega)]
  · rw [if_neg c, Int.max_eq_left (by omega)]
theorem oo_min2 : OO (oMin2 [.int i, .int j] h) Q = Q (.int (min i j)) h := by
  have : OO (oMin2 [.int i, .int j] h) Q = Q (.int (if j < i then j else i)) h := by with_unfolding_all rfl
  rw [this]
  by_cases c : j < i
  · rw [if_pos c, Int.min_eq_right (by omega)]
  · rw [if_neg c, Int.min_eq_left (by omega)]
theorem oo_max3 {k : Int} : OO (oMax3 [.int i, .int j, .int k] h) Q = Q (.int (max (max i j) k)) h := by with_unfolding_all rfl
theorem oo_min3 {k : Int} : OO (oMin3 [.int i, .int j, .int k] h) Q = Q (.int (min (min i j) k)) h := by with_unfolding_all rfl
theorem oo_lenT {l : List PV} : OO (oLenS [.tup l] h) Q = Q (.int l.length) h := by with_unfolding_all rfl
theorem oo_lenR {l : List PV} : OO (oLenS [.rol l] h) Q = Q (.int l.length) h := by with_unfolding_all rfl
theorem oo_lenL {a : Nat} {l : List PV} (ea : h[a]? = some (.lst l)) : OO (oLenS [.ref a] h) Q = Q (.int l.length) h := by
  have : oLenS [.ref a] h = some (.int l.length, h) := by simp only [oLenS, itemsOf, ea]
  rw [this]; with_unfolding_all rfl
theorem oo_gTuple {l : List PV} : OO (gTuple l h) Q = Q (.tup l) h := by with_unfolding_all rfl
theorem oo_gList {l : List PV} : OO (gList l h) Q = Q (.ref h.length) (h ++ [.lst l]) := by with_unfolding_all rfl
theorem oo_gLen {l : List PV} : OO (gLen l h) Q = Q (.int l.length) h := by with_unfolding_all rfl
/-- intL as values -/
def intL (ns : List Int) : List PV := ns.map PV.int
theorem intL_len (ns : List Int) : (intL ns).length = ns.length := by simp [intL]
theorem intsP_ints : ∀ ns : List Int, intsP (intL ns) = some ns
  | [] => rfl
  | n :: ns => by
    have := intsP_ints ns
    show intsP (.int n :: intL ns) = _
    simp only [intsP, this]
theorem oo_gMax {n : Int} {ns : List Int} : OO (gMax (intL (n :: ns)) h) Q = Q (.int (ns.foldl max n)) h := by
  unfold gMax; rw [intsP_ints]; with_unfolding_all rfl
theorem oo_gMin {n : Int} {ns : List Int} : OO (gMin (intL (n :: ns)) h) Q = Q (.int (ns.foldl min n)) h := by
  unfold gMin; rw [intsP_ints]; with_unfolding_all rfl
theorem oo_gSum {ns : List Int} : OO (gSum (intL ns) h) Q = Q (.int ns.sum) h := by
  unfold gSum; rw [intsP_ints]; with_unfolding_all rfl
def bls (bs : List Bool) : List PV := bs.map PV.bl
theorem blsP_bls : ∀ ns : List Bool, blsP (bls ns) = some ns
  | [] => rfl
  | n :: ns => by
    have := blsP_bls ns
    show blsP (.bl n :: bls ns) = _
    simp only [blsP, this]
theorem oo_gAll {ns : List Bool} : OO (gAll (bls ns) h) Q = Q (.bl (ns.all id)) h := by
  unfold gAll; rw [blsP_bls]; with_unfolding_all rfl
theorem oo_gAny {ns : List Bool} : OO (gAny (bls ns) h) Q = Q (.bl (ns.any id)) h := by
  unfold gAny; rw [blsP_bls]; with_unfolding_all rfl
theorem oo_biT {g : List PV → O PV} {l : List PV} : OO (oBI g [.tup l] h) Q = OO (g l h) Q := by with_unfolding_all rfl
theorem oo_biR {g : List PV → O PV} {l : List PV} : OO (oBI g [.rol l] h) Q = OO (g l h) Q := by with_unfolding_all rfl
theorem oo_biL {g : List PV → O PV} {a : Nat} {l : List PV} (ea : h[a]? = some (.lst l)) : OO (oBI g [.ref a] h) Q = OO (g l h) Q := by
  unfold oBI; simp only [itemsOf, ea]
theorem oo_blL {g : List PV → O PV} {a : Nat} {l : List PV} (ea : h[a]? = some (.lst l)) : OO (oBL g [.ref a] h) Q = OO (g l h) Q := by
  unfold oBL; simp only [lstOf, ea]
theorem oo_slT {l : List PV} {lo hi : Option Int} : OO (oSl (.tup l) lo hi h) Q = Q (.tup (cutP l lo hi)) h := by with_unfolding_all rfl
theorem oo_slR {l : List PV} {lo hi : Option Int} : OO (oSl (.rol l) lo hi h) Q = Q (.ref h.length) (h ++ [.lst (cutP l lo hi)]) := by with_unfolding_all rfl
theorem oo_slL {a : Nat} {l : List PV} {lo hi : Option Int} (ea : h[a]? = some (.lst l)) : OO (oSl (.ref a) lo hi h) Q = Q (.ref h.length) (h ++ [.lst (cutP l lo hi)]) := by
  unfold oSl; simp only [itemsOf, ea]; with_unfolding_all rfl
theorem oo_isaII : OO (oIsa [.int i, .con (.ty "int")] h) Q = Q (.bl true) h := by with_unfolding_all rfl
theorem oo_isaIB : OO (oIsa [.int i, .con (.ty "bool")] h) Q = Q (.bl false) h := by with_unfolding_all rfl
theorem oo_isaIT : OO (oIsa [.int i, .con (.ty "tuple")] h) Q = Q (.bl false) h := by with_unfolding_all rfl
theorem oo_isaIS : OO (oIsa [.int i, .con (.ty "str")] h) Q = Q (.bl false) h := by with_unfolding_all rfl
theorem oo_isaBI {b : Bool} : OO (oIsa [.bl b, .con (.ty "int")] h) Q = Q (.bl true) h := by with_unfolding_all rfl
theorem oo_isaBB {b : Bool} : OO (oIsa [.bl b, .con (.ty "bool")] h) Q = Q (.bl true) h := by with_unfolding_all rfl
theorem oo_isaBT {b : Bool} : OO (oIsa [.bl b, .con (.ty "tuple")] h) Q = Q (.bl false) h := by with_unfolding_all rfl
theorem oo_isaBS {b : Bool} : OO (oIsa [.bl b, .con (.ty "str")] h) Q = Q (.bl false) h := by with_unfolding_all rfl
theorem oo_isaNT : OO (oIsa [.non, .con (.ty "tuple")] h) Q = Q (.bl false) h := by with_unfolding_all rfl
/-- data all through -/
def isDat (h : VH) (l : List PV) : Prop := ∃ ds, pdats (rdat h 4) l = some ds
theorem oo_isaTT {l : List PV} (d : isDat h l) : OO (oIsa [.tup l, .con (.ty "tuple")] h) Q = Q (.bl true) h := by
  obtain ⟨ds, e⟩ := d
  have : oIsa [.tup l, .con (.ty "tuple")] h = some (.bl true, h) := by
    simp only [oIsa, dat, pdat, e]; with_unfolding_all rfl
  rw [this]; with_unfolding_all rfl
/-- a list that stands in the heap -/
def Lo (o : Option VO) (q : List PV → Prop) : Prop := match o with
  | some (.lst l) => q l
  | _ => False
theorem lo_lst {l : List PV} {q : List PV → Prop} : Lo (some (.lst l)) q = q l := by with_unfolding_all rfl
def AtI (l : List PV) (i : Int) (q : PV → Prop) : Prop := match L2.atI l i with
  | some v => q v
  | none => False
theorem atI_0 {a : PV} {l : List PV} {q : PV → Prop} : AtI (a :: l) 0 q = q a := by
  unfold AtI; rw [atI_nn (Int.le_refl 0) (v := a) rfl]
theorem atI_1 {a b : PV} {l : List PV} {q : PV → Prop} : AtI (a :: b :: l) 1 q = q b := by
  unfold AtI; rw [atI_nn (by decide) (v := b) rfl]
theorem atI_2 {a b c : PV} {l : List PV} {q : PV → Prop} : AtI (a :: b :: c :: l) 2 q = q c := by
  unfold AtI; rw [atI_nn (by decide) (v := c) rfl]
theorem atI_of {l : List PV} {v : PV} {q : PV → Prop} (h0 : 0 ≤ i) (e : l[i.toNat]? = some v) (p : q v) : AtI l i q := by
  unfold AtI; rw [atI_nn h0 e]; exact p
def IxN (n : Nat) (i : Int) (q : Nat → Prop) : Prop := match L2.ixN n i with
  | some j => q j
  | none => False
theorem ixN_of {n : Nat} {q : Nat → Prop} (h0 : 0 ≤ i) (hi : i.toNat < n) (p : q i.toNat) : IxN n i q := by
  unfold IxN L2.ixN
  rw [if_pos h0, if_pos (by omega)]
  exact p
theorem ixN_0 {n : Nat} {q : Nat → Prop} : IxN (n + 1) 0 q = q 0 := by
  unfold IxN L2.ixN
  rw [if_pos (by decide), if_pos (by omega)]
  with_unfolding_all rfl
theorem ixN_1 {n : Nat} {q : Nat → Prop} : IxN (n + 1 + 1) 1 q = q 1 := by
  unfold IxN L2.ixN
  rw [if_pos (by decide), if_pos (by omega)]
  with_unfolding_all rfl
theorem or_ix {a : Nat} : OO (oIx (.ref a) (.int i) h) Q = Lo h[a]? fun l => AtI l i fun v => Q v h := by
  unfold oIx itemsOf
  simp only
  generalize h[a]? = o
  rcases o with _ | _ | _ | _ <;> try with_unfolding_all rfl
  rename_i l
  rw [lo_lst]
  unfold AtI
  simp only
  cases L2.atI l i <;> with_unfolding_all rfl
theorem ot_ix {l : List PV} : OO (oIx (.tup l) (.int i) h) Q = AtI l i fun v => Q v h := by
  unfold oIx itemsOf AtI
  simp only
  cases L2.atI l i <;> with_unfolding_all rfl
theorem ol_ix {l : List PV} : OO (oIx (.rol l) (.int i) h) Q = AtI l i fun v => Q v h := by
  unfold oIx itemsOf AtI
  simp only
  cases L2.atI l i <;> with_unfolding_all rfl
theorem or_set {a : Nat} {v : PV} {Q : Unit → VH → Prop} : OO (oSetIx (.ref a) (.int i) v h) Q = Lo h[a]? fun l => IxN l.length i fun j => Q () (h.set a (.lst (l.set j v))) := by
  unfold oSetIx
  simp only
  generalize h[a]? = o
  rcases o with _ | l | _ | _ <;> try with_unfolding_all rfl
  rw [lo_lst]
  unfold IxN
  simp only
  cases L2.ixN l.length i <;> with_unfolding_all rfl
theorem or_len {a : Nat} : OO (oLenS [.ref a] h) Q = Lo h[a]? fun l => Q (.int l.length) h := by
  unfold oLenS itemsOf
  simp only
  generalize h[a]? = o
  rcases o with _ | _ | _ | _ <;> with_unfolding_all rfl
theorem or_add {a b : Nat} : OO (oAdd (.ref a) (.ref b) h) Q = Lo h[a]? fun l => Lo h[b]? fun k => (l.length + k.length ≤ 16777216 ∧ Q (.ref h.length) (h ++ [.lst (l ++ k)])) := by
  unfold oAdd
  simp only
  generalize h[a]? = o
  generalize h[b]? = u
  rcases o with _ | _ | _ | _ <;> try with_unfolding_all rfl
  rcases u with _ | _ | _ | _ <;> try with_unfolding_all rfl
  exact oo_if
theorem or_mul {a : Nat} {k : Int} : OO (oMul (.ref a) (.int k) h) Q = Lo h[a]? fun l => ((0 ≤ k ∧ k ≤ 1000 ∧ l.length ≤ 1000) ∧ Q (.ref h.length) (h ++ [.lst (List.replicate k.toNat l).flatten])) := by
  unfold oMul
  simp only
  generalize h[a]? = o
  rcases o with _ | _ | _ | _ <;> try with_unfolding_all rfl
  exact oo_if
theorem or_append {a : Nat} {v : PV} : OO (mAppend (.ref a) [v] h) Q = Lo h[a]? fun l => (l.length < 16777216 ∧ Q .non (h.set a (.lst (l ++ [v])))) := by
  unfold mAppend
  simp only
  generalize h[a]? = o
  rcases o with _ | _ | _ | _ <;> try with_unfolding_all rfl
  exact oo_if
theorem or_isLst {a : Nat} {p : Prop} : (isLst h (.ref a) = true ∧ p) = Lo h[a]? fun _ => p := by
  unfold isLst
  simp only
  generalize h[a]? = o
  rcases o with _ | _ | _ | _ <;> simp [Lo]
theorem or_bi {a : Nat} {g : List PV → O PV} : OO (oBI g [.ref a] h) Q = Lo h[a]? fun l => OO (g l h) Q := by
  unfold oBI itemsOf
  simp only
  generalize h[a]? = o
  rcases o with _ | _ | _ | _ <;> with_unfolding_all rfl
theorem or_bl {a : Nat} {g : List PV → O PV} : OO (oBL g [.ref a] h) Q = Lo h[a]? fun l => OO (g l h) Q := by
  unfold oBL lstOf
  simp only
  generalize h[a]? = o
  rcases o with _ | _ | _ | _ <;> with_unfolding_all rfl
theorem or_sl {a : Nat} {lo hi : Option Int} : OO (oSl (.ref a) lo hi h) Q = Lo h[a]? fun l => Q (.ref h.length) (h ++ [.lst (cutP l lo hi)]) := by
  unfold oSl itemsOf
  simp only
  generalize h[a]? = o
  rcases o with _ | _ | _ | _ <;> with_unfolding_all rfl
theorem or_wk {a : Nat} {q : List PV → List (Nat × List PV) → Prop} : Wk h (.ref a) q = Lo h[a]? fun l => q l [(a, l)] := by
  unfold Wk srcOf
  simp only
  generalize h[a]? = o
  rcases o with _ | _ | _ | _ <;> with_unfolding_all rfl
theorem or_sr {a : Nat} {q : Bool → List PV → List (Nat × List PV) → Prop} : Sr (srcOf h (.ref a)) q = Lo h[a]? fun l => q false l [(a, l)] := by
  unfold srcOf
  simp only
  generalize h[a]? = o
  rcases o with _ | _ | _ | _ <;> with_unfolding_all rfl
theorem ot_sr {l : List PV} {q : Bool → List PV → List (Nat × List PV) → Prop} : Sr (srcOf h (.tup l)) q = q true l [] := by with_unfolding_all rfl
theorem or_gtup {n a : Nat} {d : List PV → Sl → M Sl} {v : Sl} {Q : Sl → VH → Prop} : OK (dgTup n d (.ref a) v h) Q = Lo h[a]? fun l => (l.length = n ∧ OK (d l v h) Q) := by
  unfold dgTup lstOf
  simp only
  generalize h[a]? = o
  rcases o with _ | l | _ | _ <;> try with_unfolding_all rfl
  rw [lo_lst]
  by_cases c : l.length = n
  · simp only [c, if_true, true_and]
  · simp only [c, if_false, false_and]; with_unfolding_all rfl
theorem srcOk_one {a : Nat} {l : List PV} (e : h[a]? = some (.lst l)) : srcOk h [(a, l)] = true := by
  simp [srcOk, e, PV.beqs_refl]
/-- heaps -/
theorem hg_set_ne {a b : Nat} {o : VO} (n : b ≠ a) : (h.set a o)[b]? = h[b]? := List.getElem?_set_ne (Ne.symm n)
theorem hg_set {a : Nat} {o : VO} (n : a < h.length) : (h.set a o)[a]? = some o := List.getElem?_set_self n
theorem hg_app {a : Nat} {o : VO} {k : VH} (e : h[a]? = some o) : (h ++ k)[a]? = some o := by
  rw [List.getElem?_append_left (List.getElem?_eq_some_iff.mp e).1]; exact e
theorem hg_new {o : VO} : (h ++ [o])[h.length]? = some o := by simp
theorem hg_lt {a : Nat} {o : VO} (e : h[a]? = some o) : a < h.length := (List.getElem?_eq_some_iff.mp e).1
end
end D

/-! layer D, part 13: the deck, matrices -/
namespace D
open PySem PySem.Spec PySem.W PyProof.Rows L2
/-- the deck: its cells, how many draws were made -/
structure Dk (d c : Nat) (k : Int) (cells : List Int) (h : VH) : Prop where
  dk : h[d]? = some (.lst [.ref c, .int k])
  cl : h[c]? = some (.lst (intL cells))
  ne : d ≠ c
  pos : ∀ x ∈ cells, 0 ≤ x
  k0 : 0 ≤ k
  len : cells.length ≤ 63
def Deck (d c : Nat) (B : Int) (h : VH) : Prop := ∃ k cells, Dk d c k cells h ∧ k ≤ B
def Grow (d c : Nat) (h h' : VH) : Prop := h.length ≤ h'.length ∧ ∀ n o, n ≠ d → n ≠ c → h[n]? = some o → h'[n]? = some o
theorem Grow.refl {d c : Nat} {h : VH} : Grow d c h h := ⟨Nat.le_refl _, fun _ _ _ _ e => e⟩
theorem Grow.trans {d c : Nat} {h h1 h2 : VH} (p : Grow d c h h1) (q : Grow d c h1 h2) : Grow d c h h2 := ⟨Nat.le_trans p.1 q.1, fun n o a b e => q.2 n o a b (p.2 n o a b e)⟩
theorem Grow.app {d c : Nat} {h : VH} {k : VH} : Grow d c h (h ++ k) := ⟨by simp, fun n o _ _ e => hg_app e⟩
theorem Dk.app {d c : Nat} {k : Int} {cells : List Int} {h x : VH} (D : Dk d c k cells h) : Dk d c k cells (h ++ x) := ⟨hg_app D.dk, hg_app D.cl, D.ne, D.pos, D.k0, D.len⟩
theorem Deck.app {d c : Nat} {B : Int} {h x : VH} (D : Deck d c B h) : Deck d c B (h ++ x) := by
  obtain ⟨k, cells, D, e⟩ := D
  exact ⟨k, cells, D.app, e⟩
theorem Dk.upd {d c a : Nat} {k : Int} {cells : List Int} {h : VH} {o : VO} (D : Dk d c k cells h) (n1 : a ≠ d) (n2 : a ≠ c) : Dk d c k cells (h.set a o) :=
  ⟨(hg_set_ne (Ne.symm n1)).trans D.dk, (hg_set_ne (Ne.symm n2)).trans D.cl, D.ne, D.pos, D.k0, D.len⟩
theorem Deck.upd {d c a : Nat} {B : Int} {h : VH} {o : VO} (D : Deck d c B h) (n1 : a ≠ d) (n2 : a ≠ c) : Deck d c B (h.set a o) := by
  obtain ⟨k, cells, D, e⟩ := D
  exact ⟨k, cells, D.upd n1 n2, e⟩
theorem intL_get {ns : List Int} {i : Nat} (hi : i < ns.length) : (intL ns)[i]? = some (.int ns[i]) := by
  simp [intL, hi]
theorem intL_set {ns : List Int} {i : Nat} {x : Int} : (intL ns).set i (.int x) = intL (ns.set i x) := by
  simp [intL, List.map_set]

theorem Deck.mono {d c : Nat} {B B' : Int} {h : VH} (D : Deck d c B h) (e : B ≤ B') : Deck d c B' h := by
  obtain ⟨k, cells, D, q⟩ := D
  exact ⟨k, cells, D, Int.le_trans q e⟩

theorem atI_nat' {l : List PV} {i : Nat} {v : PV} {q : PV → Prop} (e : l[i]? = some v) (p : q v) : AtI l (i : Nat) q := atI_of (by omega) (by simpa using e) p
theorem ixN_nat {n i : Nat} {q : Nat → Prop} (hi : i < n) (p : q i) : IxN n (i : Nat) q := ixN_of (by omega) (by simpa using hi) (by simpa using p)
theorem rng0_get {n i : Nat} {x : PV} (e : (rng 0 n)[i]? = some x) : i < n ∧ x = .int (i : Nat) := by
  obtain ⟨a, b⟩ := rng_get e
  exact ⟨a, by rw [b, Int.zero_add]⟩
theorem map_get {α : Type} {f : α → PV} {l : List α} {i : Nat} {x : α} (e : l[i]? = some x) : (l.map f)[i]? = some (f x) := by rw [List.getElem?_map, e]; rfl
theorem intL_at {ns : List Int} {i : Nat} (hi : i < ns.length) : ∃ x, ns[i]? = some x ∧ (intL ns)[i]? = some (.int x) ∧ x ∈ ns := ⟨ns[i], List.getElem?_eq_getElem hi, intL_get hi, List.getElem_mem hi⟩
theorem hg_lt' {α : Type} {l : List α} {i : Nat} {x : α} (e : l[i]? = some x) : i < l.length := (List.getElem?_eq_some_iff.mp e).1
/-! ### matrices in the heap -/
/-- a list of lists of ints, n by n, all new above L, all entries from 0 to M -/
structure Mat (L : Nat) (h : VH) (a : Nat) (rs : List Nat) (n : Nat) (M : Int) : Prop where
  ha : h[a]? = some (.lst (rs.map PV.ref))
  la : L ≤ a
  len : rs.length = n
  nd : rs.Nodup
  an : a ∉ rs
  row : ∀ r ∈ rs, L ≤ r ∧ ∃ v, h[r]? = some (.lst (intL v)) ∧ v.length = n ∧ ∀ x ∈ v, 0 ≤ x ∧ x ≤ M
section
variable {L a n d c : Nat} {h h' h0 : VH} {rs : List Nat} {M N B : Int}
theorem Mat.mono (m : Mat L h a rs n M) (e : M ≤ N) : Mat L h a rs n N := ⟨m.ha, m.la, m.len, m.nd, m.an, fun r hr => by
  obtain ⟨p, v, q1, q2, q3⟩ := m.row r hr
  exact ⟨p, v, q1, q2, fun x hx => ⟨(q3 x hx).1, Int.le_trans (q3 x hx).2 e⟩⟩⟩
theorem Mat.at (m : Mat L h a rs n M) {i : Nat} (hi : i < n) : ∃ r v, rs[i]? = some r ∧ r ∈ rs ∧ L ≤ r ∧ h[r]? = some (.lst (intL v)) ∧ v.length = n ∧ ∀ x ∈ v, 0 ≤ x ∧ x ≤ M := by
  have hi' : i < rs.length := by rw [m.len]; exact hi
  obtain ⟨p, v, q1, q2, q3⟩ := m.row rs[i] (List.getElem_mem hi')
  exact ⟨rs[i], v, List.getElem?_eq_getElem hi', List.getElem_mem hi', p, q1, q2, q3⟩
/-- the same under a heap that keeps all at L and above -/
theorem Mat.keep (m : Mat L h a rs n M) (k : ∀ (x : Nat) o, L ≤ x → h[x]? = some o → h'[x]? = some o) : Mat L h' a rs n M := ⟨k _ _ m.la m.ha, m.la, m.len, m.nd, m.an, fun r hr => by
  obtain ⟨p, v, q1, q2⟩ := m.row r hr
  exact ⟨p, v, k _ _ p q1, q2⟩⟩
theorem Mat.set (m : Mat L h a rs n M) {r j : Nat} {v : List Int} {x : Int} (hr : r ∈ rs) (hv : h[r]? = some (.lst (intL v))) (hx : 0 ≤ x ∧ x ≤ M) : Mat L (h.set r (.lst (intL (v.set j x)))) a rs n M := by
  have ar : a ≠ r := fun e => m.an (by rw [e]; exact hr)
  refine ⟨(hg_set_ne ar).trans m.ha, m.la, m.len, m.nd, m.an, fun s hs => ?_⟩
  obtain ⟨p, w, q1, q2, q3⟩ := m.row s hs
  by_cases e : s = r
  · subst e
    rw [hv] at q1
    have ew : intL v = intL w := by injection (Option.some.inj q1)
    have ev : v = w := by
      have := congrArg intsP ew
      rw [intsP_ints, intsP_ints] at this
      exact Option.some.inj this
    subst ev
    refine ⟨p, v.set j x, hg_set (hg_lt hv), by simpa using q2, fun y hy => ?_⟩
    rcases List.mem_or_eq_of_mem_set hy with z | z
    · exact q3 y z
    · rw [z]; exact hx
  · exact ⟨p, w, (hg_set_ne e).trans q1, q2, q3⟩
/-- rows alone -/
structure Rows (L : Nat) (h : VH) (rs : List Nat) (k n : Nat) (M : Int) : Prop where
  len : rs.length = k
  nd : rs.Nodup
  row : ∀ r ∈ rs, L ≤ r ∧ ∃ v, h[r]? = some (.lst (intL v)) ∧ v.length = n ∧ ∀ x ∈ v, 0 ≤ x ∧ x ≤ M
theorem Rows.mat {k : VH} (q : Rows h0.length (h0 ++ k) rs n n M) : Mat h0.length ((h0 ++ k) ++ [.lst (rs.map PV.ref)]) (h0 ++ k).length rs n M :=
  ⟨hg_new, by simp, q.len, q.nd, fun hm => by
    obtain ⟨_, v, hv, _⟩ := q.row _ hm
    exact absurd (hg_lt hv) (Nat.lt_irrefl _), fun r hr => by
    obtain ⟨p, v, q1, q2⟩ := q.row r hr
    exact ⟨p, v, hg_app q1, q2⟩⟩
theorem Rows.snoc {k : Nat} {v : List Int} {x y : VH} (q : Rows h0.length (h0 ++ x) rs k n M) (hv : v.length = n) (hb : ∀ z ∈ v, 0 ≤ z ∧ z ≤ M) : Rows h0.length (h0 ++ (x ++ (y ++ [.lst (intL v)]))) (rs ++ [(h0 ++ (x ++ y)).length]) (k + 1) n M := by
  have e : h0 ++ (x ++ (y ++ [VO.lst (intL v)])) = (h0 ++ x) ++ (y ++ [.lst (intL v)]) := by simp
  have e2 : h0 ++ (x ++ (y ++ [VO.lst (intL v)])) = (h0 ++ (x ++ y)) ++ [.lst (intL v)] := by simp
  refine ⟨by simp [q.len], ?_, fun r hr => ?_⟩
  · rw [List.nodup_append]
    refine ⟨q.nd, by simp, fun y' hy z hz => ?_⟩
    rw [List.mem_singleton.mp hz]
    rintro rfl
    obtain ⟨_, v, hv, _⟩ := q.row _ hy
    have := hg_lt hv
    simp at this
    omega
  · rcases List.mem_append.mp hr with z | z
    · obtain ⟨p, w, q1, q2⟩ := q.row r z
      exact ⟨p, w, by rw [e]; exact hg_app q1, q2⟩
    · rw [List.mem_singleton.mp z]
      exact ⟨by simp, v, by rw [e2]; exact hg_new, hv, hb⟩
/-- the state of a matrix that is being made with a deck -/
structure MS (d c : Nat) (h0 : VH) (B : Int) (a : Nat) (rs : List Nat) (n : Nat) (M : Int) (h : VH) : Prop where
  deck : Deck d c B h
  mat : Mat h0.length h a rs n M
  gr : Grow d c h0 h
  dl : d < h0.length
  cl : c < h0.length
theorem MS.mono {B' : Int} (m : MS d c h0 B a rs n M h) (e : M ≤ N) (eb : B ≤ B') : MS d c h0 B' a rs n N h := ⟨m.deck.mono eb, m.mat.mono e, m.gr, m.dl, m.cl⟩
theorem MS.set {r j : Nat} {v : List Int} {x : Int} (m : MS d c h0 B a rs n M h) (hr : r ∈ rs) (hv : h[r]? = some (.lst (intL v))) (hx : 0 ≤ x ∧ x ≤ M) : MS d c h0 B a rs n M (h.set r (.lst (intL (v.set j x)))) := by
  obtain ⟨lr, _⟩ := m.mat.row r hr
  have := m.dl
  have := m.cl
  refine ⟨m.deck.upd (by omega) (by omega), m.mat.set hr hv hx, ⟨by simpa using m.gr.1, fun n o n1 n2 e => ?_⟩, m.dl, m.cl⟩
  have := hg_lt e
  exact (hg_set_ne (by omega)).trans (m.gr.2 n o n1 n2 e)
theorem MS.app {k : VH} (m : MS d c h0 B a rs n M h) : MS d c h0 B a rs n M (h ++ k) := ⟨m.deck.app, m.mat.keep fun x o _ e => hg_app e, m.gr.trans .app, m.dl, m.cl⟩
theorem MS.ge (m : MS d c h0 B a rs n M h) : h0.length ≤ h.length := m.gr.1
theorem km_mono {K K' : Nat} (e : K ≤ K') (m0 : 0 ≤ M) : (K : Int) * M ≤ (K' : Int) * M := Int.mul_le_mul_of_nonneg_right (by omega) m0
theorem km_add {K : Nat} {x y : Int} (hx : x ≤ (K : Int) * M) (hy : y ≤ M) : x + y ≤ ((K + 1 : Nat) : Int) * M := by
  have : ((K + 1 : Nat) : Int) * M = (K : Int) * M + M := by rw [Int.natCast_add, Int.add_mul]; simp
  omega
/-- a list of ints beside it -/
structure Beside (h0 : VH) (rs : List Nat) (b : Nat) (ns : List Int) (h : VH) : Prop where
  at_ : h[b]? = some (.lst (intL ns))
  ge : h0.length ≤ b
  out : b ∉ rs
theorem Beside.new {ns : List Int} (m : MS d c h0 B a rs n M h) : Beside h0 rs h.length ns (h ++ [.lst (intL ns)]) := ⟨hg_new, m.ge, fun hm => by
  obtain ⟨_, v, hv, _⟩ := m.mat.row _ hm
  exact absurd (hg_lt hv) (Nat.lt_irrefl _)⟩
theorem Beside.set {ns : List Int} {b r : Nat} {o : VO} (q : Beside h0 rs b ns h) (hr : r ∈ rs) : Beside h0 rs b ns (h.set r o) := ⟨(hg_set_ne fun e => q.out (by rw [e]; exact hr)).trans q.at_, q.ge, q.out⟩
theorem Beside.drawn {ns : List Int} {b : Nat} (q : Beside h0 rs b ns h) (m : MS d c h0 B a rs n M h) (g : Grow d c h h') : Beside h0 rs b ns h' := by
  have := m.dl
  have := m.cl
  have := q.ge
  exact ⟨g.2 _ _ (by omega) (by omega) q.at_, q.ge, q.out⟩
/-- draws leave it -/
theorem MS.drawn {B' : Int} (m : MS d c h0 B a rs n M h) (D : Deck d c B' h') (g : Grow d c h h') : MS d c h0 B' a rs n M h' := by
  have := m.dl
  have := m.cl
  exact ⟨D, m.mat.keep fun x o hx e => g.2 x o (by omega) (by omega) e, m.gr.trans g, m.dl, m.cl⟩
end
section
variable {P : PV → VH → Prop} {h : VH}
theorem wset_ne {σ : Sl} {i j : Nat} {x : Option PV} (n : i ≠ j) : ((σ.set j none).set j x)[i]? = σ[i]? := by
  rw [List.getElem?_set_ne (Ne.symm n), List.getElem?_set_ne (Ne.symm n)]
theorem wset_eq {σ : Sl} {j : Nat} {x : Option PV} (n : j < σ.length) : ((σ.set j none).set j x)[j]? = some x := by
  rw [List.getElem?_set_self (by simpa using n)]
theorem flat_one (k : Nat) (x : PV) : (List.replicate k [x]).flatten = List.replicate k x := by
  induction k with
  | zero => rfl
  | succ k ih => rw [List.replicate_succ, List.flatten_cons, ih]; rfl
theorem rep_intL (k : Nat) (x : Int) : List.replicate k (PV.int x) = intL (List.replicate k x) := by simp [intL]
/-- [[0] * n for _ in range(n)] -/
theorem zeros_lc {σ : Sl} {i j : Nat} {n : Int} (e : σ[i]? = some (some (.int n))) (ij : i ≠ j) (n0 : 0 ≤ n) (n8 : n ≤ 8) :
    OK (lcF [] (lcBody (dgName j) tTrue (dBin oMul (dLst (dCons (dC (.int 0)) dNil)) (dVar i)) σ) (rng 0 n.toNat) h) fun l h' => ∃ rs k, l = rs.map PV.ref ∧ h' = h ++ k ∧ Rows h.length (h ++ k) rs n.toNat n.toNat 0 := by
  refine ok_lc0 (fun t acc h' => ∃ rs k, acc = rs.map PV.ref ∧ h' = h ++ k ∧ Rows h.length (h ++ k) rs t n.toNat 0) ⟨[], [], rfl, by simp, rfl, List.nodup_nil, by simp⟩ (fun _ _ _ _ _ => rfl) ?_ ?_
  · rintro t x acc h' hx ⟨rs, k, rfl, rfl, q⟩
    have g1 : (σ.set j (some x))[i]? = some (some (.int n)) := (List.getElem?_set_ne (Ne.symm ij)).trans e
    have g2 : ((h ++ k) ++ [VO.lst [PV.int 0]])[(h ++ k).length]? = some (.lst [.int 0]) := hg_new
    try simp only [ok_ret, ok_bnd, ok_lift, ok_var, ok_c, ok_bin, ok_un, ok_asB, ok_and, ok_or, ok_not, ok_chain, ok_nil, ok_cons, ok_tup, ok_lst, ok_fn, ok_tmp, ok_call, ok_meth, ok_tval, ok_tand, ok_tor, ok_tnot, ok_if, ok_pnone, ok_psome, ok_slice, ok_fresh, ok_lcx, ok_body, ok_true, ok_dtmp, ok_dval, ok_rng1, ok_rng2, ok_enum, ok_enumT, ok_zip, ok_gname, ok_gsnil, ok_gscons, ok_gtup, ok_gsub, fo_next, fo_seq, fo_asg, fo_expr, fo_ret, fo_retN, fo_if, fo_break, fo_cont, fo_par, fo_aug, fo_for, fo_body, vr_some, ra1, ra2, in_int, tr_bl, pa2, zp_two, sr_some, wk_tup, wk_rol, wk_str, oo_add, oo_addI, oo_sub, oo_mul, oo_fdiv, oo_mod, oo_pow, oo_shl, oo_shr, oo_and, oo_or, oo_neg, oo_inv, oo_le, oo_gt, oo_ge, oo_lt, oo_eq, oo_ne, oo_eqb, oo_is0, oo_isNot0, oo_nes, oo_eqs, oo_addT, oo_tup, oo_lst, oo_abs, oo_int, oo_intb, oo_max2, oo_min2, oo_max3, oo_min3, oo_lenT, oo_lenR, oo_gTuple, oo_gList, oo_gLen, oo_biT, oo_biR, oo_slT, oo_slR, oo_isaII, oo_isaIB, oo_isaIT, oo_isaIS, oo_isaBI, oo_isaBB, oo_isaBT, oo_isaBS, oo_isaNT, lo_lst, atI_0, atI_1, atI_2, ixN_0, ixN_1, or_ix, ot_ix, ol_ix, or_set, or_len, or_add, or_mul, or_append, or_isLst, or_bi, or_bl, or_sl, or_wk, or_sr, ot_sr, or_gtup, oo_neb, oo_isB, oo_isNotB, List.getElem?_cons_zero, List.getElem?_cons_succ, List.set_cons_zero, List.set_cons_succ, List.map_cons, List.map_nil, List.replicate_succ, List.replicate_zero, List.length_cons, List.length_nil, List.cons_append, List.nil_append, wipeD, if_true, if_false, Bool.false_eq_true, Nat.reduceAdd, Nat.reduceSub, Nat.reduceLeDiff, decide_eq_true_eq, true_and, and_true, Int.reduceNeg, g1, g2]
    refine ⟨⟨n0, by omega⟩, rs ++ [(h ++ (k ++ [VO.lst [PV.int 0]])).length], k ++ ([.lst [.int 0]] ++ [.lst (intL (List.replicate n.toNat 0))]), ?_, ?_, q.snoc (by simp) fun x hx => ?_⟩
    · simp
    · rw [flat_one, rep_intL]; simp
    · rw [List.eq_of_mem_replicate hx]; exact ⟨Int.le_refl _, Int.le_refl _⟩
  · rintro acc h' ⟨rs, k, rfl, rfl, q⟩
    rw [rng_len] at q
    exact ⟨rs, k, rfl, rfl, q⟩
/-- [list(row) for row in square] -/
theorem copy_lc {σ : Sl} {j a L n : Nat} {rs : List Nat} {M : Int} (hj : j < σ.length) (m : Mat L h a rs n M) :
    OK (lcF [(a, rs.map PV.ref)] (lcBody (dgName j) tTrue (dFn (oBI gList) (dCons (dVar j) dNil)) σ) (rs.map PV.ref) h) fun l h' => ∃ rs' k, l = rs'.map PV.ref ∧ h' = h ++ k ∧ Rows h.length (h ++ k) rs' n n M := by
  refine ok_lc0 (fun t acc h' => ∃ rs' k, acc = rs'.map PV.ref ∧ h' = h ++ k ∧ Rows h.length (h ++ k) rs' t n M) ⟨[], [], rfl, by simp, rfl, List.nodup_nil, by simp⟩ ?_ ?_ ?_
  · rintro t acc h' _ ⟨rs', k, rfl, rfl, _⟩
    exact srcOk_one (hg_app m.ha)
  · rintro t x acc h' hx ⟨rs', k, rfl, rfl, q⟩
    rw [List.getElem?_map] at hx
    obtain ⟨r, hr1, rfl⟩ := Option.map_eq_some_iff.mp hx
    obtain ⟨_, v, q1, q2, q3⟩ := m.row r (List.mem_of_getElem? hr1)
    have g1 : (σ.set j (some (PV.ref r)))[j]? = some (some (.ref r)) := List.getElem?_set_self hj
    have g2 : (h ++ k)[r]? = some (.lst (intL v)) := hg_app q1
    try simp only [ok_ret, ok_bnd, ok_lift, ok_var, ok_c, ok_bin, ok_un, ok_asB, ok_and, ok_or, ok_not, ok_chain, ok_nil, ok_cons, ok_tup, ok_lst, ok_fn, ok_tmp, ok_call, ok_meth, ok_tval, ok_tand, ok_tor, ok_tnot, ok_if, ok_pnone, ok_psome, ok_slice, ok_fresh, ok_lcx, ok_body, ok_true, ok_dtmp, ok_dval, ok_rng1, ok_rng2, ok_enum, ok_enumT, ok_zip, ok_gname, ok_gsnil, ok_gscons, ok_gtup, ok_gsub, fo_next, fo_seq, fo_asg, fo_expr, fo_ret, fo_retN, fo_if, fo_break, fo_cont, fo_par, fo_aug, fo_for, fo_body, vr_some, ra1, ra2, in_int, tr_bl, pa2, zp_two, sr_some, wk_tup, wk_rol, wk_str, oo_add, oo_addI, oo_sub, oo_mul, oo_fdiv, oo_mod, oo_pow, oo_shl, oo_shr, oo_and, oo_or, oo_neg, oo_inv, oo_le, oo_gt, oo_ge, oo_lt, oo_eq, oo_ne, oo_eqb, oo_is0, oo_isNot0, oo_nes, oo_eqs, oo_addT, oo_tup, oo_lst, oo_abs, oo_int, oo_intb, oo_max2, oo_min2, oo_max3, oo_min3, oo_lenT, oo_lenR, oo_gTuple, oo_gList, oo_gLen, oo_biT, oo_biR, oo_slT, oo_slR, oo_isaII, oo_isaIB, oo_isaIT, oo_isaIS, oo_isaBI, oo_isaBB, oo_isaBT, oo_isaBS, oo_isaNT, lo_lst, atI_0, atI_1, atI_2, ixN_0, ixN_1, or_ix, ot_ix, ol_ix, or_set, or_len, or_add, or_mul, or_append, or_isLst, or_bi, or_bl, or_sl, or_wk, or_sr, ot_sr, or_gtup, oo_neb, oo_isB, oo_isNotB, List.getElem?_cons_zero, List.getElem?_cons_succ, List.set_cons_zero, List.set_cons_succ, List.map_cons, List.map_nil, List.replicate_succ, List.replicate_zero, List.length_cons, List.length_nil, List.cons_append, List.nil_append, wipeD, if_true, if_false, Bool.false_eq_true, Nat.reduceAdd, Nat.reduceSub, Nat.reduceLeDiff, decide_eq_true_eq, true_and, and_true, Int.reduceNeg, g1, g2, or_bi]
    refine ⟨rs' ++ [(h ++ (k ++ [])).length], k ++ ([] ++ [.lst (intL v)]), by simp, by simp, q.snoc q2 q3⟩
  · rintro acc h' ⟨rs', k, rfl, rfl, q⟩
    rw [List.length_map, m.len] at q
    exact ⟨rs', k, rfl, rfl, q⟩
/-- [draw(..) for _ in ..] -/
theorem draws_lc {σ : Sl} {j d c : Nat} {B m : Int} {e : Sl → M PV} {items : List PV} (hB : B + items.length < 2 ^ 40) (D : Deck d c B h)
    (he : ∀ x B h, Deck d c B h → B < 2 ^ 40 → OK (e (σ.set j (some x)) h) fun v h' => ∃ r, v = .int r ∧ 0 ≤ r ∧ r < m ∧ Deck d c (B + 1) h' ∧ Grow d c h h') :
    OK (lcF [] (lcBody (dgName j) tTrue e σ) items h) fun l h' => ∃ ns, l = intL ns ∧ ns.length = items.length ∧ (∀ x ∈ ns, 0 ≤ x ∧ x < m) ∧ Deck d c (B + items.length) h' ∧ Grow d c h h' := by
  refine ok_lc0 (fun t acc h' => t ≤ items.length ∧ ∃ ns, acc = intL ns ∧ ns.length = t ∧ (∀ x ∈ ns, 0 ≤ x ∧ x < m) ∧ Deck d c (B + t) h' ∧ Grow d c h h') ⟨Nat.zero_le _, [], rfl, rfl, by simp, by simpa using D, .refl⟩ (fun _ _ _ _ _ => rfl) ?_ ?_
  · rintro t x acc h' hx ⟨ht, ns, rfl, hn, hb, D', g⟩
    have lt : t < items.length := hg_lt' hx
    try simp only [ok_ret, ok_bnd, ok_lift, ok_var, ok_c, ok_bin, ok_un, ok_asB, ok_and, ok_or, ok_not, ok_chain, ok_nil, ok_cons, ok_tup, ok_lst, ok_fn, ok_tmp, ok_call, ok_meth, ok_tval, ok_tand, ok_tor, ok_tnot, ok_if, ok_pnone, ok_psome, ok_slice, ok_fresh, ok_lcx, ok_body, ok_true, ok_dtmp, ok_dval, ok_rng1, ok_rng2, ok_enum, ok_enumT, ok_zip, ok_gname, ok_gsnil, ok_gscons, ok_gtup, ok_gsub, fo_next, fo_seq, fo_asg, fo_expr, fo_ret, fo_retN, fo_if, fo_break, fo_cont, fo_par, fo_aug, fo_for, fo_body, vr_some, ra1, ra2, in_int, tr_bl, pa2, zp_two, sr_some, wk_tup, wk_rol, wk_str, oo_add, oo_addI, oo_sub, oo_mul, oo_fdiv, oo_mod, oo_pow, oo_shl, oo_shr, oo_and, oo_or, oo_neg, oo_inv, oo_le, oo_gt, oo_ge, oo_lt, oo_eq, oo_ne, oo_eqb, oo_is0, oo_isNot0, oo_nes, oo_eqs, oo_addT, oo_tup, oo_lst, oo_abs, oo_int, oo_intb, oo_max2, oo_min2, oo_max3, oo_min3, oo_lenT, oo_lenR, oo_gTuple, oo_gList, oo_gLen, oo_biT, oo_biR, oo_slT, oo_slR, oo_isaII, oo_isaIB, oo_isaIT, oo_isaIS, oo_isaBI, oo_isaBB, oo_isaBT, oo_isaBS, oo_isaNT, lo_lst, atI_0, atI_1, atI_2, ixN_0, ixN_1, or_ix, ot_ix, ol_ix, or_set, or_len, or_add, or_mul, or_append, or_isLst, or_bi, or_bl, or_sl, or_wk, or_sr, ot_sr, or_gtup, oo_neb, oo_isB, oo_isNotB, List.getElem?_cons_zero, List.getElem?_cons_succ, List.set_cons_zero, List.set_cons_succ, List.map_cons, List.map_nil, List.replicate_succ, List.replicate_zero, List.length_cons, List.length_nil, List.cons_append, List.nil_append, wipeD, if_true, if_false, Bool.false_eq_true, Nat.reduceAdd, Nat.reduceSub, Nat.reduceLeDiff, decide_eq_true_eq, true_and, and_true, Int.reduceNeg]
    refine OK.mono (he x (B + t) h' D' (by omega)) ?_
    rintro v h'' ⟨r, rfl, r0, r1, D'', g'⟩
    refine ⟨lt, ns ++ [r], by simp [intL], by simp [hn], fun y hy => ?_, by rw [show B + ((t + 1 : Nat) : Int) = B + t + 1 by omega]; exact D'', g.trans g'⟩
    rcases List.mem_append.mp hy with z | z
    · exact hb y z
    · rw [List.mem_singleton.mp z]; exact ⟨r0, r1⟩
  · rintro acc h' ⟨_, ns, rfl, hn, hb, D', g⟩
    exact ⟨ns, rfl, hn, hb, D', g⟩
/-- a choice of two -/
theorem atI_two {e : Prop} [Decidable e] {a b : Int} {q : PV → Prop} (p : q (.int (if e then b else a))) : AtI [.int a, .int b] (if e then 1 else 0) q := by
  by_cases c : e
  · rw [if_pos c] at p ⊢; rw [atI_1]; exact p
  · rw [if_neg c] at p ⊢; rw [atI_0]; exact p
/-! ### tables -/
def tabV (t : List (List Int)) : PV := .tup (t.map fun r => .tup (intL r))
def Tab (n : Nat) (M : Int) (t : List (List Int)) : Prop := t.length = n ∧ ∀ r ∈ t, r.length = n ∧ ∀ x ∈ r, 0 ≤ x ∧ x ≤ M
theorem Tab.mono {n : Nat} {M N : Int} {t : List (List Int)} (p : Tab n M t) (e : M ≤ N) : Tab n N t := ⟨p.1, fun r hr => ⟨(p.2 r hr).1, fun x hx => ⟨((p.2 r hr).2 x hx).1, Int.le_trans ((p.2 r hr).2 x hx).2 e⟩⟩⟩
/-- rows as tuples in a list of the heap, a deck beside -/
structure TL (d c : Nat) (h0 : VH) (B : Int) (a : Nat) (t : List (List Int)) (n : Nat) (M : Int) (h : VH) : Prop where
  deck : Deck d c B h
  at_ : h[a]? = some (.lst (t.map fun r => PV.tup (intL r)))
  ge : h0.length ≤ a
  row : ∀ r ∈ t, r.length = n ∧ ∀ x ∈ r, 0 ≤ x ∧ x ≤ M
  gr : Grow d c h0 h
  dl : d < h0.length
  cl : c < h0.length
theorem TL.snoc {d c a n : Nat} {h0 h : VH} {B M : Int} {t : List (List Int)} {r : List Int} (q : TL d c h0 B a t n M h) (hr : r.length = n) (hb : ∀ x ∈ r, 0 ≤ x ∧ x ≤ M) :
    TL d c h0 B a (t ++ [r]) n M (h.set a (.lst ((t.map fun r => PV.tup (intL r)) ++ [.tup (intL r)]))) := by
  have := q.dl
  have := q.cl
  have := q.ge
  refine ⟨q.deck.upd (by omega) (by omega), by rw [hg_set (hg_lt q.at_)]; simp, q.ge, fun s hs => ?_, ⟨by simpa using q.gr.1, fun n o n1 n2 e => ?_⟩, q.dl, q.cl⟩
  · rcases List.mem_append.mp hs with z | z
    · exact q.row s z
    · rw [List.mem_singleton.mp z]; exact ⟨hr, hb⟩
  · have := hg_lt e
    exact (hg_set_ne (by omega)).trans (q.gr.2 n o n1 n2 e)
theorem TL.drawn {d c a n : Nat} {h0 h h' : VH} {B B' M : Int} {t : List (List Int)} (q : TL d c h0 B a t n M h) (D : Deck d c B' h') (g : Grow d c h h') : TL d c h0 B' a t n M h' := by
  have := q.dl
  have := q.cl
  have := q.ge
  exact ⟨D, g.2 _ _ (by omega) (by omega) q.at_, q.ge, q.row, q.gr.trans g, q.dl, q.cl⟩
theorem TL.mono {d c a n : Nat} {h0 h : VH} {B B' M M' : Int} {t : List (List Int)} (q : TL d c h0 B a t n M h) (e : B ≤ B') (e2 : M ≤ M') : TL d c h0 B' a t n M' h := ⟨q.deck.mono e, q.at_, q.ge, fun r hr => ⟨(q.row r hr).1, fun x hx => ⟨((q.row r hr).2 x hx).1, Int.le_trans ((q.row r hr).2 x hx).2 e2⟩⟩, q.gr, q.dl, q.cl⟩
theorem TL.app {d c a n : Nat} {h0 h k : VH} {B M : Int} {t : List (List Int)} (q : TL d c h0 B a t n M h) : TL d c h0 B a t n M (h ++ k) := ⟨q.deck.app, hg_app q.at_, q.ge, q.row, q.gr.trans .app, q.dl, q.cl⟩
/-- tuple([tuple(row) for row in made]) -/
theorem tuples_lc {σ : Sl} {j a L n : Nat} {rs : List Nat} {M : Int} (hj : j < σ.length) (m : Mat L h a rs n M) :
    OK (lcF [(a, rs.map PV.ref)] (lcBody (dgName j) tTrue (dFn (oBI gTuple) (dCons (dVar j) dNil)) σ) (rs.map PV.ref) h) fun l h' => h' = h ∧ ∃ t, PV.tup l = tabV t ∧ Tab n M t := by
  refine ok_lc0 (fun k acc h' => h' = h ∧ ∃ t : List (List Int), acc = t.map (fun r => PV.tup (intL r)) ∧ t.length = k ∧ ∀ r ∈ t, r.length = n ∧ ∀ x ∈ r, 0 ≤ x ∧ x ≤ M) ⟨rfl, [], rfl, rfl, by simp⟩ ?_ ?_ ?_
  · rintro k acc h' _ ⟨rfl, _⟩
    exact srcOk_one m.ha
  · rintro k x acc h' hx ⟨rfl, t, rfl, ht, hr⟩
    rw [List.getElem?_map] at hx
    obtain ⟨r, hr1, rfl⟩ := Option.map_eq_some_iff.mp hx
    obtain ⟨_, v, q1, q2, q3⟩ := m.row r (List.mem_of_getElem? hr1)
    have g1 : (σ.set j (some (PV.ref r)))[j]? = some (some (.ref r)) := List.getElem?_set_self hj
    try simp only [ok_ret, ok_bnd, ok_lift, ok_var, ok_c, ok_bin, ok_un, ok_asB, ok_and, ok_or, ok_not, ok_chain, ok_nil, ok_cons, ok_tup, ok_lst, ok_fn, ok_tmp, ok_call, ok_meth, ok_tval, ok_tand, ok_tor, ok_tnot, ok_if, ok_pnone, ok_psome, ok_slice, ok_fresh, ok_lcx, ok_body, ok_true, ok_dtmp, ok_dval, ok_rng1, ok_rng2, ok_enum, ok_enumT, ok_zip, ok_gname, ok_gsnil, ok_gscons, ok_gtup, ok_gsub, fo_next, fo_seq, fo_asg, fo_expr, fo_ret, fo_retN, fo_if, fo_break, fo_cont, fo_par, fo_aug, fo_for, fo_body, vr_some, ra1, ra2, in_int, tr_bl, pa2, zp_two, sr_some, wk_tup, wk_rol, wk_str, oo_add, oo_addI, oo_sub, oo_mul, oo_fdiv, oo_mod, oo_pow, oo_shl, oo_shr, oo_and, oo_or, oo_neg, oo_inv, oo_le, oo_gt, oo_ge, oo_lt, oo_eq, oo_ne, oo_eqb, oo_is0, oo_isNot0, oo_nes, oo_eqs, oo_addT, oo_tup, oo_lst, oo_abs, oo_int, oo_intb, oo_max2, oo_min2, oo_max3, oo_min3, oo_lenT, oo_lenR, oo_gTuple, oo_gList, oo_gLen, oo_biT, oo_biR, oo_slT, oo_slR, oo_isaII, oo_isaIB, oo_isaIT, oo_isaIS, oo_isaBI, oo_isaBB, oo_isaBT, oo_isaBS, oo_isaNT, lo_lst, atI_0, atI_1, atI_2, ixN_0, ixN_1, or_ix, ot_ix, ol_ix, or_set, or_len, or_add, or_mul, or_append, or_isLst, or_bi, or_bl, or_sl, or_wk, or_sr, ot_sr, or_gtup, oo_neb, oo_isB, oo_isNotB, List.getElem?_cons_zero, List.getElem?_cons_succ, List.set_cons_zero, List.set_cons_succ, List.map_cons, List.map_nil, List.replicate_succ, List.replicate_zero, List.length_cons, List.length_nil, List.cons_append, List.nil_append, wipeD, if_true, if_false, Bool.false_eq_true, Nat.reduceAdd, Nat.reduceSub, Nat.reduceLeDiff, decide_eq_true_eq, true_and, and_true, Int.reduceNeg, g1, q1]
    refine ⟨t ++ [v], by simp, by simp [ht], fun s hs => ?_⟩
    rcases List.mem_append.mp hs with z | z
    · exact hr s z
    · rw [List.mem_singleton.mp z]; exact ⟨q2, q3⟩
  · rintro acc h' ⟨rfl, t, rfl, ht, hr⟩
    exact ⟨rfl, t, rfl, by rw [ht]; simpa using m.len, hr⟩
theorem paired_get {l r : List PV} {i : Nat} {z : PV} (e : (paired l r)[i]? = some z) : ∃ a b, l[i]? = some a ∧ r[i]? = some b ∧ z = .tup [a, b] := by
  unfold paired at e
  rw [List.getElem?_zipWith] at e
  cases e1 : l[i]? with
  | none => rw [e1] at e; cases e
  | some a =>
    cases e2 : r[i]? with
    | none => rw [e1, e2] at e; cases e
    | some b =>
      rw [e1, e2] at e
      exact ⟨a, b, rfl, rfl, (Option.some.inj e).symm⟩
theorem intL_inv {ns : List Int} {i : Nat} {z : PV} (e : (intL ns)[i]? = some z) : ∃ x, ns[i]? = some x ∧ z = .int x ∧ x ∈ ns := by
  unfold intL at e
  rw [List.getElem?_map] at e
  obtain ⟨x, e1, rfl⟩ := Option.map_eq_some_iff.mp e
  exact ⟨x, e1, rfl, List.mem_of_getElem? e1⟩
theorem rowL_inv {t : List (List Int)} {i : Nat} {z : PV} (e : (t.map fun r => PV.tup (intL r))[i]? = some z) : ∃ r, t[i]? = some r ∧ z = .tup (intL r) ∧ r ∈ t := by
  rw [List.getElem?_map] at e
  obtain ⟨x, e1, rfl⟩ := Option.map_eq_some_iff.mp e
  exact ⟨x, e1, rfl, List.mem_of_getElem? e1⟩
theorem le_foldl_max {b : Int} : ∀ {ns : List Int} {a : Int}, b ≤ a → b ≤ ns.foldl max a
  | [], _, h => h
  | x :: ns, a, h => le_foldl_max (ns := ns) (Int.le_trans h (Int.le_max_left ..))
theorem foldl_max_le {b : Int} : ∀ {ns : List Int} {a : Int}, a ≤ b → (∀ x ∈ ns, x ≤ b) → ns.foldl max a ≤ b
  | [], _, h, _ => h
  | x :: ns, a, h, q => foldl_max_le (ns := ns) (Int.max_le.mpr ⟨h, q x List.mem_cons_self⟩) fun y hy => q y (List.mem_cons_of_mem _ hy)
theorem mem_le_foldl_max {x : Int} : ∀ {ns : List Int} {a : Int}, x ∈ ns → x ≤ ns.foldl max a
  | y :: ns, a, h => by
    rcases List.mem_cons.mp h with rfl | h
    · exact le_foldl_max (ns := ns) (Int.le_max_right ..)
    · exact mem_le_foldl_max (ns := ns) h
/-- each item made anew from a list of rows -/
theorem rows_lc {σ : Sl} {g : PV → Sl → M Sl} {e : Sl → M PV} {items : List PV} {src : List (Nat × List PV)} {n : Nat} {M : Int} (hs : srcOk h src = true)
    (he : ∀ (i : Nat) x, items[i]? = some x → OK (g x σ h) fun v' h1 => OK (e v' h1) fun u h2 => h2 = h ∧ ∃ r : List Int, u = .tup (intL r) ∧ r.length = n ∧ ∀ x ∈ r, 0 ≤ x ∧ x ≤ M) :
    OK (lcF src (lcBody g tTrue e σ) items h) fun l h' => h' = h ∧ ∃ t : List (List Int), l = t.map (fun r => PV.tup (intL r)) ∧ t.length = items.length ∧ ∀ r ∈ t, r.length = n ∧ ∀ x ∈ r, 0 ≤ x ∧ x ≤ M := by
  refine ok_lc0 (fun k acc h' => h' = h ∧ ∃ t : List (List Int), acc = t.map (fun r => PV.tup (intL r)) ∧ t.length = k ∧ ∀ r ∈ t, r.length = n ∧ ∀ x ∈ r, 0 ≤ x ∧ x ≤ M) ⟨rfl, [], rfl, rfl, by simp⟩ (fun _ _ _ _ q => by rw [q.1]; exact hs) ?_ fun _ _ q => q
  rintro k x acc h' hx ⟨rfl, t, rfl, ht, hb⟩
  simp only [ok_body, ok_true, if_true]
  refine OK.mono (he k x hx) ?_
  intro v' h1 q
  refine OK.mono q ?_
  rintro u h2 ⟨rfl, r, rfl, hr, hrb⟩
  refine ⟨rfl, t ++ [r], by simp, by simp [ht], fun s hs => ?_⟩
  rcases List.mem_append.mp hs with z | z
  · exact hb s z
  · rw [List.mem_singleton.mp z]; exact ⟨hr, hrb⟩
/-- each item an int -/
theorem ints_lc {σ : Sl} {g : PV → Sl → M Sl} {e : Sl → M PV} {items : List PV} {src : List (Nat × List PV)} {C : Int → Prop} (hs : srcOk h src = true)
    (he : ∀ (i : Nat) x, items[i]? = some x → OK (g x σ h) fun v' h1 => OK (e v' h1) fun u h2 => h2 = h ∧ ∃ r : Int, u = .int r ∧ C r) :
    OK (lcF src (lcBody g tTrue e σ) items h) fun l h' => h' = h ∧ ∃ t : List Int, l = intL t ∧ t.length = items.length ∧ ∀ r ∈ t, C r := by
  refine ok_lc0 (fun k acc h' => h' = h ∧ ∃ t : List Int, acc = intL t ∧ t.length = k ∧ ∀ r ∈ t, C r) ⟨rfl, [], rfl, rfl, by simp⟩ (fun _ _ _ _ q => by rw [q.1]; exact hs) ?_ fun _ _ q => q
  rintro k x acc h' hx ⟨rfl, t, rfl, ht, hb⟩
  simp only [ok_body, ok_true, if_true]
  refine OK.mono (he k x hx) ?_
  intro v' h1 q
  refine OK.mono q ?_
  rintro u h2 ⟨rfl, r, rfl, hr⟩
  refine ⟨rfl, t ++ [r], by simp [intL], by simp [ht], fun s hs => ?_⟩
  rcases List.mem_append.mp hs with z | z
  · exact hb s z
  · rw [List.mem_singleton.mp z]; exact hr
end
end D

/-! layer D, part 14: data that repr tells -/
namespace D
open PySem PySem.Spec PySem.W PyProof.Rows L2
/-- small data: so deep at most, so many parts -/
structure Gd (d : PyData) (k N : Nat) : Prop where
  sh : d.showable = true
  nd : d.hasDict = false
  dp : d.depth ≤ k
  ls : d.leavesShort 2000 = true
  bk : d.bulk ≤ N
theorem Gd.mono {d : PyData} {k N k' N' : Nat} (g : Gd d k N) (h1 : k ≤ k') (h2 : N ≤ N') : Gd d k' N' := ⟨g.sh, g.nd, Nat.le_trans g.dp h1, g.ls, Nat.le_trans g.bk h2⟩
theorem log_small {i : Int} (h : i.natAbs < 2 ^ 1000) : i.natAbs.log2 < 1920 := by
  by_cases z : i.natAbs = 0
  · rw [z]; decide
  · have := (Nat.log2_lt z (k := 1000)).mpr h
    omega
theorem gd_int {i : Int} (h : i.natAbs < 2 ^ 1000) : Gd (.int i) 0 0 := by
  have h' := log_small h
  refine ⟨by simp only [PyData.showable]; exact decide_eq_true h', rfl, Nat.le_refl _, ?_, Nat.le_refl _⟩
  simp only [PyData.leavesShort, decide_eq_true_eq]
  have := int_text_len_1921 h'
  show (PySem.Str.ofString (toString i)).length ≤ 2000
  omega
theorem gd_bool {b : Bool} : Gd (.bool b) 0 0 := ⟨rfl, rfl, Nat.le_refl _, rfl, Nat.le_refl _⟩
theorem gd_none : Gd .none 0 0 := ⟨rfl, rfl, Nat.le_refl _, rfl, Nat.le_refl _⟩
structure GdAll (ds : List PyData) (k N : Nat) : Prop where
  sh : PyData.showableAll ds = true
  nd : PyData.hasDictAll ds = false
  dp : PyData.depthAll ds ≤ k
  ls : PyData.leavesShortAll 2000 ds = true
  bk : PyData.bulkAll ds ≤ ds.length * (N + 1)
theorem gdAll_of {k N : Nat} : ∀ {ds : List PyData}, (∀ d ∈ ds, Gd d k N) → GdAll ds k N
  | [], _ => ⟨rfl, rfl, Nat.zero_le _, rfl, by simp [PyData.bulkAll]⟩
  | d :: ds, h => by
    have g := h d List.mem_cons_self
    have t := gdAll_of fun x hx => h x (List.mem_cons_of_mem _ hx)
    refine ⟨by simp only [PyData.showableAll, g.sh, t.sh, Bool.and_self], by simp only [PyData.hasDictAll, g.nd, t.nd, Bool.or_self], ?_, by simp only [PyData.leavesShortAll, g.ls, t.ls, Bool.and_self], ?_⟩
    · simp only [PyData.depthAll]
      have := g.dp
      have := t.dp
      omega
    · simp only [PyData.bulkAll, List.length_cons]
      have := g.bk
      have := t.bk
      rw [Nat.add_mul]
      omega
theorem gd_tuple {ds : List PyData} {k N m : Nat} (h : ∀ d ∈ ds, Gd d k N) (hm : ds.length ≤ m) : Gd (.tuple ds) (k + 1) (m * (N + 1)) := by
  have g := gdAll_of h
  refine ⟨by simp only [PyData.showable, g.sh], by simp only [PyData.hasDict, g.nd], by simp only [PyData.depth]; have := g.dp; omega, by simp only [PyData.leavesShort, g.ls], ?_⟩
  simp only [PyData.bulk]
  exact Nat.le_trans g.bk (Nat.mul_le_mul_right _ hm)
theorem gd_list {ds : List PyData} {k N m : Nat} (h : ∀ d ∈ ds, Gd d k N) (hm : ds.length ≤ m) : Gd (.list ds) (k + 1) (m * (N + 1)) := by
  have g := gdAll_of h
  refine ⟨by simp only [PyData.showable, g.sh], by simp only [PyData.hasDict, g.nd], by simp only [PyData.depth]; have := g.dp; omega, by simp only [PyData.leavesShort, g.ls], ?_⟩
  simp only [PyData.bulk]
  exact Nat.le_trans g.bk (Nat.mul_le_mul_right _ hm)
theorem Gd.len {d : PyData} {k N : Nat} (g : Gd d k N) (h : N ≤ 8000) : d.shown.length ≤ 16777216 := by
  have h1 := PyData.shown_le_bulk 2000 (by decide) d g.ls
  have h2 : (2000 + 2) * d.bulk ≤ (2000 + 2) * 8000 := Nat.mul_le_mul_left _ (Nat.le_trans g.bk h)
  omega
section
variable {Q : PV → VH → Prop} {h : VH}
theorem oo_repr {a : PV} {l : List PV} {d : PyData} {k N : Nat} (ei : itemsOf h a = some l) (ed : dat h a = some d) (g : Gd d k N) (hk : k < 64) (hN : N ≤ 8000) : OO (oRepr [a] h) Q = Q (.str d.shown) h := by
  have : oRepr [a] h = some (.str d.shown, h) := by
    unfold oRepr
    split
    · rename_i e
      cases e
      simp only [itemsOf] at ei
      cases ei
    · rename_i a' e1 e2
      cases e2
      simp only [ei, ed]
      rw [if_pos ⟨g.sh, g.nd, Nat.lt_of_le_of_lt g.dp hk, g.len hN⟩]
    · rename_i e
      exact absurd rfl (e a)
  rw [this]
  with_unfolding_all rfl
theorem pdats_intL (r : Nat → Option PyData) : ∀ ns : List Int, pdats r (intL ns) = some (ns.map PyData.int)
  | [] => rfl
  | n :: ns => by
    have := pdats_intL r ns
    show pdats r (.int n :: intL ns) = _
    simp only [pdats, pdat, this, List.map_cons]
theorem pdats_rows (r : Nat → Option PyData) : ∀ t : List (List Int), pdats r (t.map fun r => PV.tup (intL r)) = some (t.map fun r => PyData.tuple (r.map PyData.int))
  | [] => rfl
  | n :: ns => by
    have := pdats_rows r ns
    simp only [List.map_cons, pdats, pdat, pdats_intL, this]
def tabD (t : List (List Int)) : PyData := .tuple (t.map fun r => PyData.tuple (r.map PyData.int))
theorem dat_tab {t : List (List Int)} : dat h (tabV t) = some (tabD t) := by
  simp only [dat, tabV, pdat, pdats_rows, tabD]
theorem gd_row {r : List Int} {m : Nat} {M : Int} (hl : r.length ≤ m) (hM : M ≤ 2 ^ 900) (h : ∀ x ∈ r, 0 ≤ x ∧ x ≤ M) : Gd (.tuple (r.map PyData.int)) 1 (m * 1) := by
  refine gd_tuple (k := 0) (N := 0) (fun d hd => ?_) (by simpa using hl)
  obtain ⟨x, hx, rfl⟩ := List.mem_map.mp hd
  have := h x hx
  refine gd_int (Nat.lt_of_le_of_lt (show x.natAbs ≤ 2 ^ 900 by omega) (Nat.pow_lt_pow_right (by decide) (by decide)))
theorem gd_tab {t : List (List Int)} {n : Nat} {M : Int} (T : Tab n M t) (n8 : n ≤ 8) (hM : M ≤ 2 ^ 900) : Gd (tabD t) 2 72 := by
  refine gd_tuple (k := 1) (N := 8) (m := 8) (fun d hd => ?_) (by simpa using (by rw [T.1]; exact n8 : t.length ≤ 8))
  obtain ⟨r, hr, rfl⟩ := List.mem_map.mp hd
  exact gd_row (m := 8) (by rw [(T.2 r hr).1]; exact n8) hM (T.2 r hr).2
theorem oo_reprTab {t : List (List Int)} {n : Nat} {M : Int} (T : Tab n M t) (n8 : n ≤ 8) (hM : M ≤ 2 ^ 900) : OO (oRepr [tabV t] h) Q = Q (.str (tabD t).shown) h :=
  oo_repr (l := t.map fun r => PV.tup (intL r)) rfl dat_tab (gd_tab T n8 hM) (by decide) (by decide)
theorem oo_isaIL {ns : List Int} : OO (oIsa [.tup (intL ns), .con (.ty "tuple")] h) Q = Q (.bl true) h := oo_isaTT ⟨_, pdats_intL _ ns⟩
end
end D

/-! layer D, part 15: more of tables; membership; choices -/
namespace D
open PySem PySem.Spec PySem.W PyProof.Rows L2
def at2 (t : List (List Int)) (a b : Int) : Int := ((t[a.toNat]?.getD [])[b.toNat]?).getD 0
theorem tab_ix {t : List (List Int)} {n : Nat} {M a b : Int} {h : VH} {Q : PV → VH → Prop} (T : Tab n M t) (ha : 0 ≤ a ∧ a < n) (hb : 0 ≤ b ∧ b < n) :
    (AtI (t.map fun r => PV.tup (intL r)) a fun v => OO (oIx v (.int b) h) Q) = Q (.int (at2 t a b)) h := by
  have l1 : a.toNat < t.length := by rw [T.1]; omega
  have l2 : b.toNat < t[a.toNat].length := by rw [(T.2 _ (List.getElem_mem l1)).1]; omega
  have e1 : (t.map fun r => PV.tup (intL r))[a.toNat]? = some (.tup (intL t[a.toNat])) := map_get (f := fun r => PV.tup (intL r)) (List.getElem?_eq_getElem l1)
  have e2 : at2 t a b = t[a.toNat][b.toNat] := by
    unfold at2
    rw [List.getElem?_eq_getElem l1, Option.getD_some, List.getElem?_eq_getElem l2, Option.getD_some]
  unfold AtI
  rw [atI_nn ha.1 e1]
  simp only
  rw [oo_ixT hb.1 (intL_get l2), e2]
theorem at2_pos {t : List (List Int)} {n : Nat} {M a b : Int} (T : Tab n M t) (ha : 0 ≤ a ∧ a < n) (hb : 0 ≤ b ∧ b < n) : 0 ≤ at2 t a b ∧ at2 t a b ≤ M := by
  have l1 : a.toNat < t.length := by rw [T.1]; omega
  have l2 : b.toNat < t[a.toNat].length := by rw [(T.2 _ (List.getElem_mem l1)).1]; omega
  have e2 : at2 t a b = t[a.toNat][b.toNat] := by
    unfold at2
    rw [List.getElem?_eq_getElem l1, Option.getD_some, List.getElem?_eq_getElem l2, Option.getD_some]
  rw [e2]
  exact (T.2 _ (List.getElem_mem l1)).2 _ (List.getElem_mem l2)
theorem oo_max3T {a b c : Int} {h : VH} {Q : PV → VH → Prop} : OO (gMax [.int a, .int b, .int c] h) Q = Q (.int (max (max a b) c)) h := by with_unfolding_all rfl
theorem oo_max2T {a b : Int} {h : VH} {Q : PV → VH → Prop} : OO (gMax [.int a, .int b] h) Q = Q (.int (max a b)) h := by with_unfolding_all rfl

section
variable {Q : PV → VH → Prop} {h : VH}
theorem canLay_ints : ∀ ns : List Int, PyData.canLayAll0 (ns.map PyData.int) = true
  | [] => rfl
  | n :: ns => by simp only [List.map_cons, PyData.canLayAll0, PyData.canLay0, canLay_ints ns, Bool.and_self]
theorem shaped_ints (ns : List Int) : SeqAt.shaped (.list (ns.map PyData.int)) = true := by
  simp only [SeqAt.shaped, PyData.canLay0, canLay_ints, PyData.depth, dAll_ints, Bool.true_and]
  decide
theorem any_ints {i : Int} : ∀ ns : List Int, ((ns.map PyData.int).any fun z => PyData.eqv z (.int i)) = decide (i ∈ ns)
  | [] => rfl
  | n :: ns => by
    rw [List.map_cons, List.any_cons, any_ints ns, eqv_int]
    by_cases e : n = i
    · subst e; simp
    · have : ¬ i = n := fun z => e z.symm
      simp [e, this]
theorem oo_inT {i : Int} {ns : List Int} : OO (oIn (.int i) (.tup (intL ns)) h) Q = Q (.bl (decide (i ∈ ns))) h := by
  have : oIn (.int i) (.tup (intL ns)) h = some (.bl (decide (i ∈ ns)), h) := by
    simp only [oIn, oInB, itemsOf, dat, pdat, pdats_intL]
    rw [if_pos ⟨rfl, shaped_ints ns⟩, any_ints]
    simp
  rw [this]; with_unfolding_all rfl
theorem oo_notInT {i : Int} {ns : List Int} : OO (oNotIn (.int i) (.tup (intL ns)) h) Q = Q (.bl (!decide (i ∈ ns))) h := by
  have : oNotIn (.int i) (.tup (intL ns)) h = some (.bl (!decide (i ∈ ns)), h) := by
    simp only [oNotIn, oInB, itemsOf, dat, pdat, pdats_intL]
    rw [if_pos ⟨rfl, shaped_ints ns⟩, any_ints]
    simp
  rw [this]; with_unfolding_all rfl
theorem foldl_min_mem : ∀ {ns : List Int} {a : Int}, ns.foldl min a ∈ a :: ns
  | [], _ => List.mem_cons_self
  | x :: ns, a => by
    have := foldl_min_mem (ns := ns) (a := min a x)
    rw [List.foldl_cons]
    rcases List.mem_cons.mp this with e | e
    · rw [e]
      by_cases c : a ≤ x
      · rw [Int.min_eq_left c]; exact List.mem_cons_self
      · rw [Int.min_eq_right (by omega)]; exact List.mem_cons_of_mem _ List.mem_cons_self
    · exact List.mem_cons_of_mem _ (List.mem_cons_of_mem _ e)
theorem foldl_max_mem : ∀ {ns : List Int} {a : Int}, ns.foldl max a ∈ a :: ns
  | [], _ => List.mem_cons_self
  | x :: ns, a => by
    have := foldl_max_mem (ns := ns) (a := max a x)
    rw [List.foldl_cons]
    rcases List.mem_cons.mp this with e | e
    · rw [e]
      by_cases c : a ≤ x
      · rw [Int.max_eq_right c]; exact List.mem_cons_of_mem _ List.mem_cons_self
      · rw [Int.max_eq_left (by omega)]; exact List.mem_cons_self
    · exact List.mem_cons_of_mem _ (List.mem_cons_of_mem _ e)
theorem foldl_min_le {b : Int} : ∀ {ns : List Int} {a : Int}, a ≤ b → ns.foldl min a ≤ b
  | [], _, h => h
  | x :: ns, a, h => foldl_min_le (ns := ns) (Int.le_trans (Int.min_le_left ..) h)
theorem foldl_min_le_mem {x : Int} : ∀ {ns : List Int} {a : Int}, x ∈ a :: ns → ns.foldl min a ≤ x
  | [], a, h => by rw [List.mem_singleton.mp h]; exact Int.le_refl _
  | y :: ns, a, h => by
    rw [List.foldl_cons]
    rcases List.mem_cons.mp h with rfl | h
    · exact foldl_min_le (Int.min_le_left ..)
    · rcases List.mem_cons.mp h with rfl | h
      · exact foldl_min_le (Int.min_le_right ..)
      · exact foldl_min_le_mem (List.mem_cons_of_mem _ h)
theorem le_foldl_max_mem {x : Int} : ∀ {ns : List Int} {a : Int}, x ∈ a :: ns → x ≤ ns.foldl max a
  | [], a, h => by rw [List.mem_singleton.mp h]; exact Int.le_refl _
  | y :: ns, a, h => by
    rw [List.foldl_cons]
    rcases List.mem_cons.mp h with rfl | h
    · exact le_foldl_max (Int.le_max_left ..)
    · rcases List.mem_cons.mp h with rfl | h
      · exact le_foldl_max (Int.le_max_right ..)
      · exact le_foldl_max_mem (List.mem_cons_of_mem _ h)
/-- numbers of a range that a test lets by -/
def pickN (n : Nat) (p : Nat → Bool) : List Int := ((List.range n).filter p).map fun k => ((k : Nat) : Int)
theorem mem_pickN {n : Nat} {p : Nat → Bool} {x : Int} : x ∈ pickN n p ↔ 0 ≤ x ∧ x < n ∧ p x.toNat = true := by
  unfold pickN
  simp only [List.mem_map, List.mem_filter, List.mem_range]
  constructor
  · rintro ⟨k, ⟨hk, hp⟩, rfl⟩
    exact ⟨by omega, by omega, by simpa using hp⟩
  · rintro ⟨h0, h1, h2⟩
    exact ⟨x.toNat, ⟨by omega, h2⟩, by omega⟩
theorem pickN_lt (n : Nat) (p : Nat → Bool) : (pickN n p).Pairwise (· < ·) := by
  unfold pickN
  rw [List.pairwise_map]
  refine List.Pairwise.filter _ ?_
  exact (List.pairwise_lt_range (n := n)).imp fun h => by omega
theorem pickN_len (n : Nat) (p : Nat → Bool) : (pickN n p).length ≤ n := by
  unfold pickN
  rw [List.length_map]
  exact Nat.le_trans (List.length_filter_le _ _) (by simp)
theorem pickN_lc {σ : Sl} {g : PV → Sl → M Sl} {t : Sl → M Bool} {e : Sl → M PV} {n : Nat} {p : Nat → Bool}
    (he : ∀ k, k < n → OK (g (.int (k : Nat)) σ h) fun v' h1 => OK (t v' h1) fun c h2 => h2 = h ∧ c = p k ∧ (c = true → OK (e v' h2) fun u h3 => h3 = h ∧ u = .int (k : Nat))) :
    OK (lcF [] (lcBody g t e σ) (rng 0 n) h) fun l h' => h' = h ∧ l = intL (pickN n p) := by
  refine ok_lc0 (fun k acc h' => k ≤ n ∧ h' = h ∧ acc = intL (pickN k p)) ⟨Nat.zero_le _, rfl, rfl⟩ (fun _ _ _ _ _ => rfl) ?_ ?_
  · rintro k x acc h' hx ⟨_, rfl, rfl⟩
    obtain ⟨hk, rfl⟩ := rng0_get hx
    simp only [ok_body]
    refine OK.mono (he k hk) ?_
    intro v' h1 q
    refine OK.mono q ?_
    rintro c h2 ⟨rfl, rfl, q2⟩
    have step : pickN (k + 1) p = pickN k p ++ (if p k = true then [((k : Nat) : Int)] else []) := by
      unfold pickN
      rw [List.range_succ, List.filter_append, List.map_append]
      by_cases z : p k = true <;> simp [z]
    by_cases z : p k = true
    · rw [if_pos z]
      refine OK.mono (q2 z) ?_
      rintro u h3 ⟨rfl, rfl⟩
      exact ⟨hk, rfl, by rw [step, if_pos z]; simp [intL]⟩
    · rw [if_neg z]
      exact ⟨hk, rfl, by rw [step, if_neg z]; simp⟩
  · rintro acc h' ⟨_, rfl, rfl⟩
    rw [rng_len]
    exact ⟨rfl, rfl⟩
/-- a list in the heap, as data -/
theorem dat_lst {a : Nat} {l : List PV} {ds : List PyData} (e : h[a]? = some (.lst l)) (hd : ∀ r, pdats r l = some ds) : dat h (.ref a) = some (.list ds) := by
  simp only [dat, pdat, rdat, e, hd]
theorem gd_ints {r : List Int} {m : Nat} (hl : r.length ≤ m) (h : ∀ x ∈ r, x.natAbs < 2 ^ 1000) : Gd (.tuple (r.map PyData.int)) 1 (m * 1) := by
  refine gd_tuple (k := 0) (N := 0) (fun d hd => ?_) (by simpa using hl)
  obtain ⟨x, hx, rfl⟩ := List.mem_map.mp hd
  exact gd_int (h x hx)
theorem pow63 {x : Int} (h : x.natAbs < 2 ^ 63) : x.natAbs < 2 ^ 1000 := Nat.lt_of_lt_of_le h (Nat.pow_le_pow_right (by decide) (by decide))
end
end D

/-! layer D, part 16: sorted, ranges as values, pop at a place -/
namespace D
open PySem PySem.Spec PySem.W PyProof.Rows L2
/-! ### list(range(..)), tuple(range(..)) -/
def rgOk (a b : Int) : Bool := decide (-1000000 ≤ a) && decide (a ≤ 1000000) && decide (-1000000 ≤ b) && decide (b ≤ 1000000)
theorem rgOk_ok {a b : Int} (e : rgOk a b = true) : L2.RgOk a b := by
  simp only [rgOk, Bool.and_eq_true, decide_eq_true_eq] at e
  refine ⟨by omega, by omega, by omega, by omega, by omega⟩
def dLR (a b : Sl → M PV) : Sl → M PV := fun v => bnd (a v) fun x => bnd (b v) fun y h => match x, y with
  | .int i, .int j => if rgOk i j = true then .ok (.ref h.length) (h ++ [.lst (rng i (j - i).toNat)]) else .bad
  | _, _ => .bad
def dTR (a b : Sl → M PV) : Sl → M PV := fun v => bnd (a v) fun x => bnd (b v) fun y h => match x, y with
  | .int i, .int j => if rgOk i j = true then .ok (.tup (rng i (j - i).toNat)) h else .bad
  | _, _ => .bad
theorem reps_rg {K : PySem.W.Frag} {m : List Addr} {H : Hp} (a : Int) : ∀ n : Nat, Reps K m H (rng a n) ((List.range n).map fun i => V.int (a + (i : Nat)))
  | 0 => Reps.nil
  | n + 1 => by
    have := reps_rg (K := K) (m := m) (H := H) a n
    unfold rng at this ⊢
    rw [List.range_succ, List.map_append, List.map_append]
    exact this.append (Reps.cons rep_int' Reps.nil)
section
variable {X : Cx} {W : WX} {a b : Expr} {da db : Sl → M PV} {p p2 pos pos2 : Pos}
theorem rg_read {K : PySem.W.Frag} {σ : L2.St} {H : Hp} {R : Int → Int → Hp → Prop} {k : PV → PV → M PV}
    (h : ∃ m v h, SR K m h H ∧ SlD K m H v σ ∧ ∃ Q : List Addr → Hp → VH → PV → Prop, Post K W σ m H (bnd (da v) (fun x => bnd (db v) fun y => k x y) h) Q ∧
      ∀ m2 H2 h2 x y, Ext m H m2 H2 → SR K m2 h2 H2 → Post K W σ m2 H2 (k x y h2) Q → ∃ i j, x = .int i ∧ y = .int j ∧ R i j H2) : L2.tRg2 (TD K W da) (TD K W db) σ H R := by
  obtain ⟨m, v, h, sr, sl, Q, p, q⟩ := h
  refine ⟨m, v, h, sr, sl, (Post.seq p).mono fun m1 H1 h1 x x1 sr1 p1 u ru => ⟨m1, v, h1, sr1, sl.ext x1, (Post.seq p1).mono fun m2 H2 h2 y x2 sr2 p2 w rw_ => ?_⟩⟩
  obtain ⟨i, j, rfl, rfl, r⟩ := q m2 H2 h2 x y (x1.trans x2) sr2 p2
  exact ⟨i, j, rep_int ru, rep_int rw_, r⟩
theorem de_lr2 (hc : X.calm = true) (hg : Gl X "list") (hm : X.mg "list" = none) (hg2 : Gl X "range") (hm2 : X.mg "range" = none) (ha : DE X W a da) (hb : DE X W b db)
    (na : starEach [a, b] X.env = (false, eval a X.env) :: starEach [b] X.env := by rfl) (nb : starEach [b] X.env = (false, eval b X.env) :: starEach [] X.env := by rfl) (hp : (backTo pos (starEach [b] X.env)).any (·.1) = false := by rfl)
    (nc : starEach [.Call (.Name "range" p) [a, b] [] pos] X.env = (false, eval (.Call (.Name "range" p) [a, b] [] pos) X.env) :: starEach [] X.env := by rfl) :
    DE X W (.Call (.Name "list" p2) [.Call (.Name "range" p) [a, b] [] pos] [] pos2) (dLR da db) :=
  weakE (pe_listRg hc hg hm (prg_2 hg2 hm2 ha hb na nb hp) nc) fun σ H Q ⟨m, v, h, sr, sl, q⟩ => rg_read ⟨m, v, h, sr, sl, _, q, fun m2 H2 h2 x y x2 sr2 p2 => by
    split at p2
    · rename_i i j
      split at p2
      · rename_i c
        refine ⟨i, j, rfl, rfl, rgOk_ok c, fun q nq => ?_⟩
        have rs := reps_rg (K := X.K) (m := m2) (H := H2) i (j - i).toNat
        exact p2 (m2 ++ [q]) _ (.upd_add nq) (sr2.addLst nq rs) _ (rep_ref' (by rw [← sr2.len, List.getElem?_append_right (Nat.le_refl _)]; simp))
      · exact p2.elim
    · exact p2.elim⟩
theorem de_tr2 (hc : X.calm = true) (hg : Gl X "tuple") (hm : X.mg "tuple" = none) (hg2 : Gl X "range") (hm2 : X.mg "range" = none) (ha : DE X W a da) (hb : DE X W b db)
    (na : starEach [a, b] X.env = (false, eval a X.env) :: starEach [b] X.env := by rfl) (nb : starEach [b] X.env = (false, eval b X.env) :: starEach [] X.env := by rfl) (hp : (backTo pos (starEach [b] X.env)).any (·.1) = false := by rfl)
    (nc : starEach [.Call (.Name "range" p) [a, b] [] pos] X.env = (false, eval (.Call (.Name "range" p) [a, b] [] pos) X.env) :: starEach [] X.env := by rfl) :
    DE X W (.Call (.Name "tuple" p2) [.Call (.Name "range" p) [a, b] [] pos] [] pos2) (dTR da db) :=
  weakE (pe_tupRg hc hg hm (prg_2 hg2 hm2 ha hb na nb hp) nc) fun σ H Q ⟨m, v, h, sr, sl, q⟩ => rg_read ⟨m, v, h, sr, sl, _, q, fun m2 H2 h2 x y x2 sr2 p2 => by
    split at p2
    · rename_i i j
      split at p2
      · rename_i c
        refine ⟨i, j, rfl, rfl, rgOk_ok c, fun q nq => ?_⟩
        have rs := reps_rg (K := X.K) (m := m2) (H := H2) i (j - i).toNat
        exact p2 m2 _ (.upd_new nq) (sr2.more nq) _ (sr2.tup nq rs)
      · exact p2.elim
    · exact p2.elim⟩
def dLR1 (a : Sl → M PV) : Sl → M PV := fun v => bnd (a v) fun y h => match y with
  | .int j => if rgOk 0 j = true then .ok (.ref h.length) (h ++ [.lst (rng 0 (j - 0).toNat)]) else .bad
  | _ => .bad
def dTR1 (a : Sl → M PV) : Sl → M PV := fun v => bnd (a v) fun y h => match y with
  | .int j => if rgOk 0 j = true then .ok (.tup (rng 0 (j - 0).toNat)) h else .bad
  | _ => .bad
theorem de_lr1 (hc : X.calm = true) (hg : Gl X "list") (hm : X.mg "list" = none) (hg2 : Gl X "range") (hm2 : X.mg "range" = none) (ha : DE X W a da)
    (na : starEach [a] X.env = (false, eval a X.env) :: starEach [] X.env := by rfl)
    (nc : starEach [.Call (.Name "range" p) [a] [] pos] X.env = (false, eval (.Call (.Name "range" p) [a] [] pos) X.env) :: starEach [] X.env := by rfl) :
    DE X W (.Call (.Name "list" p2) [.Call (.Name "range" p) [a] [] pos] [] pos2) (dLR1 da) :=
  weakE (pe_listRg hc hg hm (prg_1 hg2 hm2 ha na) nc) fun σ H Q ⟨m, v, h, sr, sl, q⟩ => ⟨m, v, h, sr, sl, (Post.seq q).mono fun m2 H2 h2 x x2 sr2 p2 u ru => by
    split at p2
    · rename_i j
      split at p2
      · rename_i c
        refine ⟨j, rep_int ru, rgOk_ok c, fun q nq => ?_⟩
        have rs := reps_rg (K := X.K) (m := m2) (H := H2) 0 (j - 0).toNat
        exact p2 (m2 ++ [q]) _ (.upd_add nq) (sr2.addLst nq rs) _ (rep_ref' (by rw [← sr2.len, List.getElem?_append_right (Nat.le_refl _)]; simp))
      · exact p2.elim
    · exact p2.elim⟩
theorem de_tr1 (hc : X.calm = true) (hg : Gl X "tuple") (hm : X.mg "tuple" = none) (hg2 : Gl X "range") (hm2 : X.mg "range" = none) (ha : DE X W a da)
    (na : starEach [a] X.env = (false, eval a X.env) :: starEach [] X.env := by rfl)
    (nc : starEach [.Call (.Name "range" p) [a] [] pos] X.env = (false, eval (.Call (.Name "range" p) [a] [] pos) X.env) :: starEach [] X.env := by rfl) :
    DE X W (.Call (.Name "tuple" p2) [.Call (.Name "range" p) [a] [] pos] [] pos2) (dTR1 da) :=
  weakE (pe_tupRg hc hg hm (prg_1 hg2 hm2 ha na) nc) fun σ H Q ⟨m, v, h, sr, sl, q⟩ => ⟨m, v, h, sr, sl, (Post.seq q).mono fun m2 H2 h2 x x2 sr2 p2 u ru => by
    split at p2
    · rename_i j
      split at p2
      · rename_i c
        refine ⟨j, rep_int ru, rgOk_ok c, fun q nq => ?_⟩
        have rs := reps_rg (K := X.K) (m := m2) (H := H2) 0 (j - 0).toNat
        exact p2 m2 _ (.upd_new nq) (sr2.more nq) _ (sr2.tup nq rs)
      · exact p2.elim
    · exact p2.elim⟩
end

/-! ### pop at a place -/
def mPopAt (a : PV) (as : List PV) : O PV := fun h => match a, as with
  | .ref n, [.int i] => match h[n]? with
    | some (.lst l) => if 0 ≤ i ∧ i < l.length ∧ l.length ≤ 16777216 then (match l[i.toNat]? with
      | some v => some (v, h.set n (.lst (l.eraseIdx i.toNat)))
      | none => none) else none
    | _ => none
  | _, _ => none
theorem Reps.erase {K : PySem.W.Frag} {m : List Addr} {H : Hp} {l : List PV} {xs : List V} (k : Nat) (r : Reps K m H l xs) : Reps K m H (l.eraseIdx k) (xs.eraseIdx k) := by
  induction l generalizing xs k with
  | nil => rw [Reps.nil_inv r]; exact Reps.nil
  | cons v l ih =>
    obtain ⟨x, t, rfl, r1, r2⟩ := Reps.cons_inv r
    cases k with
    | zero => exact r2
    | succ k => exact Reps.cons r1 (ih k r2)
theorem p_popAt {X : Cx} : MtR X "list.pop" (rOM X.K mPopAt) := by
  intro pins s σ H x xs v us Q I rx rs ⟨m, h, a, as, z, h', sr, ra, rbs, e, q⟩
  unfold mPopAt at e
  split at e
  · rename_i n i
    split at e
    · rename_i l el
      split at e
      · rename_i c
        split at e
        · rename_i w ew
          cases e
          obtain ⟨p, rfl, hp⟩ := rep_ref ra
          obtain ⟨y, t, rfl, r1, r2⟩ := rbs.cons_inv
          have ht := r2.nil_inv
          subst ht
          obtain ⟨ys, ey, rys⟩ := rep_get sr el hp
          obtain ⟨y', e1, ry⟩ := rys.get ew
          have hl := rys.len
          have hk : seqIndex? i ys.length = some i.toNat := by
            have h1 : ixN ys.length i = some i.toNat := by
              unfold L2.ixN
              rw [if_pos c.1, if_pos (by omega)]
            exact (ixN_seq h1).1
          refine mt_popAt pins s σ H _ _ v us Q I rx rs ⟨p, ys, i, i.toNat, y', rfl, by rw [rep_int r1], ey, by omega, by omega, hk, e1, ?_⟩
          exact q m _ _ (.upd_set (List.mem_of_getElem? hp)) (sr.putLst hp (rys.erase _)) (ry.ext (.upd_set (List.mem_of_getElem? hp)))
        · cases e
      · cases e
    · cases e
  · cases e

/-! ### sorted -/
def alikeB (ds : List PyData) : Bool := ds.all fun a => ds.all fun b => alike a b
def tupNe : PyData → Bool
  | .tuple (_ :: _) => true
  | _ => false
def plainE : PyData → Bool
  | .none => false
  | .tuple _ => false
  | _ => true
def sortOk (ds : List PyData) : Bool := alikeB ds && (ds.all tupNe || ds.all plainE) && ds.all (fun d => decide (d.depth ≤ 60)) && decide (ds.length ≤ 16777216)
def sortP (zs : List (PV × PyData)) : List PV := (zs.mergeSort (dataLe false Prod.snd)).map Prod.fst
def gSort (l : List PV) : O PV := fun h => match pdats (rdat h 4) l with
  | some ds => if sortOk ds = true then some (.ref h.length, h ++ [.lst (sortP (l.zip ds))]) else none
  | none => none
theorem pdats_len {r : Nat → Option PyData} : ∀ {l : List PV} {ds : List PyData}, pdats r l = some ds → ds.length = l.length
  | [], ds, e => by simp only [pdats] at e; cases e; rfl
  | v :: l, ds, e => by
    simp only [pdats] at e
    split at e
    · split at e
      · rename_i e2
        cases e
        simp [pdats_len e2]
      · cases e
    · cases e
theorem each_zip {K : PySem.W.Frag} {m : List Addr} {H : Hp} : ∀ {l : List PV} {ds : List PyData} {ys : List V} {its : List Value}, ds.length = l.length → Reps K m H l ys → Vals ys its → EachIs (fun v (b : PV × PyData) => ∃ x, RelV x v ∧ Rep K m H b.1 x) its (l.zip ds)
  | [], [], _, _, _, r, v => by
    rw [r.nil_inv] at v
    cases v
    exact .nil
  | a :: l, d :: ds, _, _, hl, r, v => by
    obtain ⟨x, t, rfl, r1, r2⟩ := r.cons_inv
    cases v with
    | cons v1 v2 => exact .cons ⟨x, v1, r1⟩ (each_zip (by simpa using hl) r2 v2)
theorem each_out {K : PySem.W.Frag} {m : List Addr} {H : Hp} : ∀ {out : List Value} {bs : List (PV × PyData)}, EachIs (fun v (b : PV × PyData) => ∃ x, RelV x v ∧ Rep K m H b.1 x) out bs → ∃ xs, Vals xs out ∧ Reps K m H (bs.map Prod.fst) xs
  | _, _, .nil => ⟨[], .nil, Reps.nil⟩
  | _, _, .cons ⟨x, h1, h2⟩ t => by
    obtain ⟨xs, a, b⟩ := each_out t
    exact ⟨x :: xs, .cons h1 a, Reps.cons h2 b⟩
theorem sortOk_ok {ds : List PyData} (e : sortOk ds = true) : AllAlike ds ∧ Sortable ds ∧ (∀ d ∈ ds, d.depth ≤ 60) ∧ ds.length ≤ 16777216 := by
  simp only [sortOk, Bool.and_eq_true, Bool.or_eq_true, decide_eq_true_eq] at e
  obtain ⟨⟨⟨h1, h2⟩, h3⟩, h4⟩ := e
  refine ⟨fun d hd d' hd' => List.all_eq_true.mp (List.all_eq_true.mp h1 d hd) d' hd', ?_, fun d hd => by simpa using List.all_eq_true.mp h3 d hd, h4⟩
  rcases h2 with h2 | h2
  · refine .inl fun d hd => ?_
    have := List.all_eq_true.mp h2 d hd
    cases d <;> try (simp only [tupNe, Bool.false_eq_true] at this; done)
    rename_i xs
    cases xs with
    | nil => simp [tupNe] at this
    | cons x r => exact ⟨x, r, rfl⟩
  · refine .inr fun d hd => ?_
    have := List.all_eq_true.mp h2 d hd
    cases d <;> simp [plainE] at this <;> simp
theorem c_sorted {X : Cx} (hu : X.A.units + 65 < cLine) : CallR X (.builtin "sorted") (rBL X.K gSort) := by
  intro pins s σ H xs us Q I rx ⟨m, h, l, z, h', a, ys, sr, e1, sq, rl, e, q⟩
  unfold gSort at e
  split at e
  · rename_i ds eds
    split at e
    · rename_i c
      cases e
      obtain ⟨k1, k2, k3, k4⟩ := sortOk_ok c
      have hl := pdats_len eds
      obtain ⟨its, rv, pl, hz⟩ := I.list sq
      have dp := pdats_dp (rdat_dp sr 4) l ds ys eds rl
      obtain ⟨as, rd⟩ := Dp.readsAll I _ _ _ dp rv
      have ez : (l.zip ds).map Prod.snd = ds := List.map_snd_zip (by omega)
      have el : (l.zip ds).map Prod.fst = l := List.map_fst_zip (by omega)
      subst e1
      rw [Vals.ref1 rx]
      refine sorted_data (β := PV × PyData) (enc := Prod.snd) (vs := its) pl.isList (each_zip hl rl rv) (readsAll_each (enc := Prod.snd) (by rw [ez]; exact rd)) (by rw [ez]; exact k1) (by rw [ez]; exact k2) ?_ ?_ ?_
      · rw [List.length_zip, sizeLine_eq]; omega
      · intro b hb
        have : b.2 ∈ ds := by rw [← ez]; exact List.mem_map.mpr ⟨b, hb, rfl⟩
        have := k3 _ this
        omega
      · intro out ho eo
        obtain ⟨xs', v1, r1⟩ := each_out eo
        obtain ⟨ep, he'⟩ := PyProof.Rows.sortedAll_at s.heap its (List.toArray out)
        have hlen : xs'.length ≤ sizeLine := by
          rw [v1.length, ho, List.length_zip, sizeLine_eq]
          omega
        have np := I.hok.fresh (Nat.le_succ s.heap.objs.size)
        refine ⟨.ref (s.heap.objs.size + 1), upd H (s.heap.objs.size + 1) (.lst xs'), I.laid (t' := s.toks) (fun _ _ => PyProof.Rows.sortedAll_old) (Nat.le_succ _) ⟨hlen, out, ep, v1, he'⟩, rfl, ?_⟩
        exact q (m ++ [s.heap.objs.size + 1]) _ _ (.upd_add np) (sr.addLst np r1) (rep_ref' (by rw [← sr.len, List.getElem?_append_right (Nat.le_refl _)]; simp))
    · cases e
  · cases e
section
variable {P : PV → VH → Prop} {h : VH} {v : Sl}
theorem ok_lr2 {a b : Sl → M PV} : OK (dLR a b v h) P = OK (a v h) fun x h1 => OK (b v h1) fun y h2 => In x fun i => In y fun j => rgOk i j = true ∧ P (.ref h2.length) (h2 ++ [.lst (rng i (j - i).toNat)]) := by
  unfold dLR; simp only [ok_bnd]; congr 1; funext x h1; congr 1; funext y h2
  cases x <;> try (with_unfolding_all rfl)
  cases y <;> try (with_unfolding_all rfl)
  rename_i i j
  rw [in_int, in_int]
  by_cases c : rgOk i j = true
  · simp only [c, if_true, true_and]; with_unfolding_all rfl
  · simp only [c, if_false, false_and, Bool.false_eq_true]; with_unfolding_all rfl
theorem ok_tr2 {a b : Sl → M PV} : OK (dTR a b v h) P = OK (a v h) fun x h1 => OK (b v h1) fun y h2 => In x fun i => In y fun j => rgOk i j = true ∧ P (.tup (rng i (j - i).toNat)) h2 := by
  unfold dTR; simp only [ok_bnd]; congr 1; funext x h1; congr 1; funext y h2
  cases x <;> try (with_unfolding_all rfl)
  cases y <;> try (with_unfolding_all rfl)
  rename_i i j
  rw [in_int, in_int]
  by_cases c : rgOk i j = true
  · simp only [c, if_true, true_and]; with_unfolding_all rfl
  · simp only [c, if_false, false_and, Bool.false_eq_true]; with_unfolding_all rfl
theorem ok_lr1 {b : Sl → M PV} : OK (dLR1 b v h) P = OK (b v h) fun y h2 => In y fun j => rgOk 0 j = true ∧ P (.ref h2.length) (h2 ++ [.lst (rng 0 (j - 0).toNat)]) := by
  unfold dLR1; simp only [ok_bnd]; congr 1; funext y h2
  cases y <;> try (with_unfolding_all rfl)
  rename_i j
  rw [in_int]
  by_cases c : rgOk 0 j = true
  · simp only [c, if_true, true_and]; with_unfolding_all rfl
  · simp only [c, if_false, false_and, Bool.false_eq_true]; with_unfolding_all rfl
theorem ok_tr1 {b : Sl → M PV} : OK (dTR1 b v h) P = OK (b v h) fun y h2 => In y fun j => rgOk 0 j = true ∧ P (.tup (rng 0 (j - 0).toNat)) h2 := by
  unfold dTR1; simp only [ok_bnd]; congr 1; funext y h2
  cases y <;> try (with_unfolding_all rfl)
  rename_i j
  rw [in_int]
  by_cases c : rgOk 0 j = true
  · simp only [c, if_true, true_and]; with_unfolding_all rfl
  · simp only [c, if_false, false_and, Bool.false_eq_true]; with_unfolding_all rfl
theorem rng_intL (n : Nat) : rng 0 n = intL ((List.range n).map fun k => ((k : Nat) : Int)) := by
  simp [rng, intL]
theorem or_popAt {a : Nat} {i : Int} : OO (mPopAt (.ref a) [.int i] h) P = Lo h[a]? fun l => (0 ≤ i ∧ i < l.length ∧ l.length ≤ 16777216) ∧ AtI l i fun v => P v (h.set a (.lst (l.eraseIdx i.toNat))) := by
  unfold mPopAt
  simp only
  generalize h[a]? = o
  rcases o with _ | l | _ | _ <;> try with_unfolding_all rfl
  rw [lo_lst]
  by_cases c : 0 ≤ i ∧ i < l.length ∧ l.length ≤ 16777216
  · simp only [c, and_self, if_true, true_and]
    have e : l[i.toNat]? = some (l[i.toNat]'(by omega)) := List.getElem?_eq_getElem (by omega)
    unfold AtI
    rw [atI_nn c.1 e, e]
    with_unfolding_all rfl
  · simp only [c, if_false, false_and]; with_unfolding_all rfl
theorem sortP_perm {l : List PV} {ds : List PyData} (e : ds.length = l.length) : (sortP (l.zip ds)).Perm l := by
  unfold sortP
  have := (List.mergeSort_perm (l.zip ds) (dataLe false Prod.snd)).map Prod.fst
  rw [List.map_fst_zip (by omega)] at this
  exact this
theorem oo_notInL {a : Nat} {i : Int} {ns : List Int} (e : h[a]? = some (.lst (intL ns))) : OO (oNotIn (.int i) (.ref a) h) P = P (.bl (!decide (i ∈ ns))) h := by
  have : oNotIn (.int i) (.ref a) h = some (.bl (!decide (i ∈ ns)), h) := by
    simp only [oNotIn, oInB, itemsOf, dat, pdat, pdats_intL, e]
    rw [if_pos ⟨rfl, shaped_ints ns⟩, any_ints]
    simp
  rw [this]; with_unfolding_all rfl
theorem oo_inL {a : Nat} {i : Int} {ns : List Int} (e : h[a]? = some (.lst (intL ns))) : OO (oIn (.int i) (.ref a) h) P = P (.bl (decide (i ∈ ns))) h := by
  have : oIn (.int i) (.ref a) h = some (.bl (decide (i ∈ ns)), h) := by
    simp only [oIn, oInB, itemsOf, dat, pdat, pdats_intL, e]
    rw [if_pos ⟨rfl, shaped_ints ns⟩, any_ints]
    simp
  rw [this]; with_unfolding_all rfl
end
end D

namespace D
open PySem PySem.Spec PySem.W PyProof.Rows L2
variable {X : Cx}
theorem get_list : L2.PGet X (rIxL X.K) := by
  intro pins s σ H o i ov iv Q I rx ry h
  obtain ⟨p, xs, i, z, rfl, rfl, hq, he, q⟩ := h
  cases rx
  obtain ⟨t, rfl⟩ := ry
  obtain ⟨its, r, pl, hz⟩ := I.list hq
  obtain ⟨j, h1, h2, h3, h4, h5⟩ := atI_get he
  obtain ⟨w, ew, rw'⟩ := r.get h2
  have hl := r.length
  have hn := line63
  have fin : EP X pins σ Q w s := ⟨z, H, I, rw', q⟩
  by_cases h0 : 0 ≤ i
  · have hj : i.toNat = j := by
      rw [seqIndex_of h0 h5] at h1
      exact Option.some.inj h1
    exact wpAny_getItem_list pl.isList h0 (by omega) (by rw [hj]; simpa using ew) fin
  · have hj : (i + (its.toArray.size : Int)).toNat = j := by
      rw [seqIndex_neg (by omega) h4] at h1
      rw [List.size_toArray, ← hl]
      exact Option.some.inj h1
    exact wpAny_getItem_list_neg pl.isList (by omega) (by rw [List.size_toArray] <;> omega) (by omega) (by rw [hj]; simpa using ew) fin
theorem get_tup : L2.PGet X (rIxT X.K) := by
  intro pins s σ H o i ov iv Q I rx ry h
  obtain ⟨p, xs, i, z, rfl, rfl, hq, he, q⟩ := h
  cases rx
  obtain ⟨t, rfl⟩ := ry
  obtain ⟨its, r, pl, hz⟩ := I.tuple hq
  obtain ⟨j, h1, h2, h3, h4, h5⟩ := atI_get he
  obtain ⟨w, ew, rw'⟩ := r.get h2
  have hl := r.length
  have hn := line63
  exact getItem_tuple (j := j) pl (by omega) (by omega) (by rw [List.size_toArray, ← hl]; exact h1) (by simpa using ew) ⟨z, H, I, rw', q⟩
theorem get_str : L2.PGet X rIxS := by
  intro pins s σ H o i ov iv Q I rx ry h
  obtain ⟨z, i, c, rfl, rfl, hz, he, q⟩ := h
  obtain ⟨t, rfl⟩ := rx
  obtain ⟨t', rfl⟩ := ry
  obtain ⟨j, h1, h2, h3, h4, h5⟩ := atI_get he
  have hl : z.cps.toList.length = z.length := by simp [Str.length]
  rw [hl] at h1 h4 h5
  have hn := line63
  exact getItem_str (c := c) (by
    have e1 : decide (i < -(2 ^ 63 : Int)) = false := decide_eq_false (by omega)
    have e2 : decide (i ≥ 2 ^ 63) = false := decide_eq_false (by omega)
    rw [e1, e2, Bool.or_false]) (by rw [h1]; simpa using h2) ⟨.str ⟨#[c]⟩, H, I.tok _, ⟨_, rfl⟩, q⟩
theorem p_get : L2.PGet X (rO2 X.K oIx) := by
  intro pins s σ H x y v u Q I rx ry ⟨m, hh, a, b, z, h', sr, ra, rb, e, q⟩
  cases b <;> try (simp only [oIx, reduceCtorEq] at e; done)
  rename_i i
  rw [rep_int rb] at ry
  simp only [oIx] at e
  split at e
  · rename_i z0
    rw [rep_str ra] at rx
    split at e
    · rename_i hz
      split at e
      · rename_i c ec
        cases e
        exact get_str pins s σ H _ _ v u Q I rx ry ⟨z0, i, c, rfl, rfl, by rw [sizeLine_eq]; exact hz, ec, q m H _ .refl sr rep_str'⟩
      · cases e
    · cases e
  · split at e
    · rename_i l el
      split at e
      · rename_i w ew
        cases e
        obtain ⟨p, xs, rfl, sq, rs⟩ := items_sq sr el ra
        obtain ⟨x', ex, rx'⟩ := rs.atI ew
        have qq := q m H _ .refl sr rx'
        rcases sq with sq | sq
        · exact get_list pins s σ H _ _ v u Q I rx ry ⟨p, xs, i, x', rfl, rfl, sq, ex, qq⟩
        · exact get_tup pins s σ H _ _ v u Q I rx ry ⟨p, xs, i, x', rfl, rfl, sq.sq, ex, qq⟩
      · cases e
    · cases e
theorem fo_augS {v : Sl} {h : VH} {E : En} {gg gi : PV → PV → O PV} {gs : PV → PV → PV → O Unit} {o i e : Sl → M PV} : FO (sAugS gg gi gs o i e v h) E = OK (o v h) fun a h1 => OK (i v h1) fun b h2 => OO (gg a b h2) fun x h3 => OK (e v h3) fun y h4 => OO (gi x y h4) fun z h5 => OO (gs a b z h5) fun _ h6 => E.nx v h6 := by
  unfold sAugS; simp only [fo_bx, ok_lift]; with_unfolding_all rfl
end D

/-! layer D, part 18: sorted of tuples where the first one is empty; sorted(set(..)) of tuples of ints; t.index -/
namespace D
open PySem PySem.Spec PySem.W PyProof.Rows L2
def TupFs (h : Heap) : List Value → List (Option Value) → Prop
  | [], [] => True
  | v :: vs, f :: fs => (∃ a o xs n, v = .ref a ∧ h.get? a = some o ∧ o.cls = .type "tuple" ∧ o.data = .seq xs n ∧ xs[0]? = f) ∧ TupFs h vs fs
  | _, _ => False
section
variable {M : Model} {A : Around} {E : Value → Shared → Prop} {s : Shared}
theorem tup_firsts : ∀ (vs : List Value) (fs : List (Option Value)) {Q : List (Option Value) → Shared → Prop}, TupFs s.heap vs fs → Q fs s → wpAny M A (vs.mapM firstOfTuple') Q E s
  | [], [], _, _, h => by rw [List.mapM_nil]; exact wpAny_pure h
  | [], _ :: _, _, t, _ => t.elim
  | _ :: _, [], _, t, _ => t.elim
  | v :: vs, f :: fs, Q, t, h => by
    obtain ⟨⟨a, o, xs, n, rfl, ho, hc, hd, hf⟩, t⟩ := t
    rw [List.mapM_cons]
    refine wpAny_bind ?_
    rw [kas_first_eq]
    refine wpAny_bind (Looks.here (show Looks M s.heap (typeOf (.ref a)) o.cls from (Looks.ld ho).andThen .now) ?_)
    rw [hc, if_neg (by first | decide | simp)]
    refine wpAny_bind (listItems_at ho hd (wpAny_pure ?_))
    rw [hf]
    exact wpAny_bind (tup_firsts vs fs (Q := fun bs s' => wpAny M A (pure (f :: bs)) Q E s') t (wpAny_pure h))
theorem tup_looks {h : Heap} : ∀ {vs : List Value} {fs : List (Option Value)}, TupFs h vs fs → ∀ v ∈ vs, Looks M h (typeOf v) (Value.type "tuple")
  | [], _, _, v, hv => nomatch hv
  | _ :: _, [], t, _, _ => t.elim
  | u :: us, f :: fs, t, v, hv => by
    obtain ⟨⟨a, o, xs, n, rfl, ho, hc, hd, hf⟩, t⟩ := t
    rcases List.mem_cons.mp hv with rfl | hv
    · exact hc ▸ (show Looks M h (typeOf (.ref a)) o.cls from (Looks.ld ho).andThen .now)
    · exact tup_looks t v hv
theorem tup_kind {vs : List Value} {fs : List (Option Value)} {Q : SortKind → Shared → Prop} (t : TupFs s.heap vs (none :: fs)) (h : Q oneType' s) : wpAny M A (keyKind' vs.toArray) Q E s := by
  obtain ⟨v₁, vr, rfl⟩ : ∃ v₁ vr, vs = v₁ :: vr := by
    cases vs with
    | nil => exact t.elim
    | cons v₁ vr => exact ⟨v₁, vr, rfl⟩
  have lk := fun v hv => tup_looks (M := M) t v hv
  rw [kat_kind_eq, List.mapM_toArray, map_eq_pure_bind]
  refine wpAny_bind (wpAny_bind (tup_firsts _ _ t (wpAny_pure ?_)))
  rw [if_neg (by simp), if_neg (by simp)]
  rw [oneTypeOnly'_eq, List.mapM_toArray, map_eq_pure_bind]
  refine wpAny_bind (wpAny_bind (wpAny_bind (kas_mapM (r := Value.type "tuple") _ (fun v hv Q' hq => (lk v hv).here hq) (wpAny_pure ?_))))
  have hall : ((List.map (fun _ => Value.type "tuple") (v₁ :: vr)).toArray.all fun x => x == Value.type "tuple") = true := by
    simp only [List.all_toArray, List.all_map, List.all_eq_true]
    intro _ _
    exact beq_self_eq_true _
  have h0 : (List.map (fun _ => Value.type "tuple") (v₁ :: vr)).toArray[0]? = some (Value.type "tuple") := by simp
  rw [h0]
  simp only [hall, if_true]
  exact wpAny_pure (wpAny_pure h)
end
section
variable {prog : Program} {w : World} {A : Around} {E : Value → Shared → Prop} {s : Shared}
theorem call_tuple_lt {Q : Value → Shared → Prop} {l b : Addr} {items items2 : Array Value} {e r : Nat → Bool} (hl : s.heap.IsTuple l items) (hb : s.heap.IsTuple b items2)
    (he : ∀ j (h1 : j < items.size) (h2 : j < items2.size), PySem.SeqAt.EqAt A.in1 s items[j] items2[j] (e j)) (hr : ∀ j (h1 : j < items.size) (h2 : j < items2.size), e j = false → PySem.SeqAt.RcLt A.in1 s items[j] items2[j] (r j))
    (h : Q (.bool (PySem.SeqAt.firstLt e r (decide (items.size < items2.size)) (List.range (min items.size items2.size)))) s) : wpAny (model prog w) A (call (.builtin "tuple.__lt__") [.ref l, .ref b]) Q E s := by
  obtain ⟨⟨cls, dd, data, sl⟩, ho, hc, n, hd⟩ := id hl
  obtain ⟨⟨cls2, dd2, data2, sl2⟩, ho2, hc2, n2, hd2⟩ := id hb
  simp only at hc hd hc2 hd2
  subst hc hd hc2 hd2
  exact call_meets PySem.F.slot_tuple_lt ⟨_, ho, rfl⟩ PySem.F.entry_tuple_lt (PySem.F.args_tuple_lt_2 _ _) (PySem.SeqAt.tuple_ltAt l b items items2 n n2 dd dd2 sl sl2 e r) ⟨ho, ho2, he, hr, h⟩
theorem oneLt_tup {xs ys : List PyData} {a b : Value} {as bs : List Addr} {Q : Bool → Shared → Prop} (ra : Reads s.heap a (.tuple xs) as) (rb : Reads s.heap b (.tuple ys) bs) (h : alike (.tuple xs) (.tuple ys) = true)
    (hu : A.units + min (PyData.tuple xs).depth (PyData.tuple ys).depth < cLine) (hq : Q (dataLt (.tuple xs) (.tuple ys)) s) : wpAny (model prog w) A (oneLt' true a b) Q E s := by
  have hal : alikeAll xs ys = true := by simpa [alike] using h
  cases ra with
  | @tuple l o vs n _ as₁ h1 h2 h3 h4 =>
    cases rb with
    | @tuple l' o' vs' n' _ bs₁ k1 k2 k3 k4 =>
      have n1 : vs.size = xs.length := by simpa using PySem.SeqAt.ReadsAll.length _ _ _ h4
      have n2 : vs'.size = ys.length := by simpa using PySem.SeqAt.ReadsAll.length _ _ _ k4
      rw [dataLt_tuple, ← firstLt_toks xs ys hal, ← n1, ← n2] at hq
      rw [oneLt'_eq]
      simp only [if_true]
      refine wpAny_bind (wpAny_cRoomFor (PySem.SeqAt.room_here hu) ?_)
      refine wpAny_bind (wpAny_callSpecialIfBound?_slot (T := "tuple") ⟨_, h1, h2⟩ PySem.F.slot_tuple_lt (call_tuple_lt (e := PySem.SeqAt.pairEq xs ys) (r := fun j => dataLt (xs.getD j .none) (ys.getD j .none)) ⟨_, h1, h2, _, h3⟩ ⟨_, k1, k2, _, k3⟩ (fun j j1 j2 => ?_) (fun j j1 j2 hj => ?_) ?_))
      · have := eqAt_alikeAll xs ys A.in1 s vs.toList vs'.toList _ _ h4 k4 hal (PySem.SeqAt.room_in hu) j (by simpa using j1) (by simpa using j2)
        simpa using this
      · have := rcLt_alikeAll xs ys A.in1 s vs.toList vs'.toList _ _ h4 k4 hal (PySem.SeqAt.room_in hu) j (by simpa using j1) (by simpa using j2) hj
        simpa using this
      · exact wpAny_truthy_bool hq
/-- tuples, the first one empty -/
def Tups0 (ds : List PyData) : Prop := ds[0]? = some (.tuple []) ∧ ∀ d ∈ ds, ∃ xs, d = .tuple xs
theorem tupFs_of {h : Heap} : ∀ {vs : List Value} {ds : List PyData}, EachIs (fun v d => ∃ as, Reads h v d as) vs ds → (∀ d ∈ ds, ∃ xs, d = .tuple xs) → ∃ fs, TupFs h vs fs ∧ (ds[0]? = some (.tuple []) → fs[0]? = some none)
  | _, _, .nil, _ => ⟨[], trivial, fun h => by simp at h⟩
  | _, _, .cons (b := d) ⟨as, r⟩ t, ht => by
    obtain ⟨fs, h1, _⟩ := tupFs_of t fun d hd => ht d (List.mem_cons_of_mem _ hd)
    obtain ⟨xs0, rfl⟩ := ht d (List.mem_cons_self ..)
    cases r with
    | @tuple a o xs n _ _ ho hc hd hr =>
      refine ⟨xs[0]? :: fs, ⟨⟨a, o, xs, n, rfl, ho, hc, hd, rfl⟩, h1⟩, fun e => ?_⟩
      simp only [List.getElem?_cons_zero, Option.some.injEq, PyData.tuple.injEq] at e
      subst e
      have l0 := PySem.SeqAt.ReadsAll.length _ _ _ hr
      have : xs.size = 0 := by simpa using l0
      simp [this]
theorem sortsAt_tup0 {vs : List Value} {ds : List PyData} (e : EachIs (fun v d => ∃ as, Reads s.heap v d as) vs ds) (hal : AllAlike ds) (hk : Tups0 ds) (hu : ∀ d, d ∈ ds → A.units + d.depth < cLine) : SortsAt prog w A s (dataKind s.heap ds) vs := by
  have room : ∀ {d d' : PyData}, d ∈ ds → A.units + min d.depth d'.depth < cLine := fun {d d'} hd => Nat.lt_of_le_of_lt (Nat.add_le_add_left (Nat.min_le_left _ _) _) (hu d hd)
  obtain ⟨h0, ht⟩ := hk
  refine ⟨fun v hv => ?_, oneType', ?_, fun h2 E Q hq => ?_⟩
  · obtain ⟨d, hd, as, r⟩ := e.left v hv
    exact ⟨_, dataKind_some hal hd r⟩
  · intro E x y a b Q ha hb hq
    obtain ⟨d, as, hd, ra, rfl⟩ := dataKind_inv ha
    obtain ⟨d', as', hd', rb, rfl⟩ := dataKind_inv hb
    obtain ⟨xs, rfl⟩ := ht d hd
    obtain ⟨ys, rfl⟩ := ht d' hd'
    rw [keyLt'_oneType]
    exact oneLt_tup ra rb (hal _ hd _ hd') (room hd) hq
  · obtain ⟨fs, t1, t2⟩ := tupFs_of e ht
    have t3 := t2 h0
    cases fs with
    | nil => simp at t3
    | cons f fr =>
      simp only [List.getElem?_cons_zero, Option.some.injEq] at t3
      subst t3
      exact tup_kind t1 hq
theorem sorted_data0 {β : Type} {vs : List Value} {bs : List β} {enc : β → PyData} {R : Value → β → Prop} {l : Addr} {Q : Value → Shared → Prop} (hl : s.heap.IsList l vs.toArray) (e : EachIs R vs bs) (er : EachIs (fun v b => ∃ as, Reads s.heap v (enc b) as) vs bs) (hal : AllAlike (bs.map enc)) (hk : Tups0 (bs.map enc)) (hL : bs.length ≤ sizeLine)
    (hu : ∀ b, b ∈ bs → A.units + 2 + (enc b).depth < cLine) (h : ∀ out, out.length = bs.length → EachIs R out (bs.mergeSort (dataLe false enc)) → Q (.ref (s.heap.objs.size + 1)) { s with heap := sortedAll s.heap vs (List.toArray out) }) :
    wpAny (model prog w) A (call (.builtin "sorted") [.ref l]) Q E s := by
  have er' : EachIs (fun v b => ∃ as, Reads (sortingHeap (copyHeap s.heap vs) (s.heap.objs.size + 1) vs) v (enc b) as) vs bs := er.mono fun _ _ ⟨as, r⟩ => ⟨as, PyProof.Rows.Reads.keeps (fun _ _ => sorting_copy_old) r⟩
  exact sorted_vals hl (sortsAt_tup0 (s := { s with heap := sortingHeap (copyHeap s.heap vs) (s.heap.objs.size + 1) vs }) (each_map (R := fun v d => ∃ as, Reads (sortingHeap (copyHeap s.heap vs) (s.heap.objs.size + 1) vs) v d as) enc er') hal hk (bound_map hu)) (by rw [e.length]; exact hL)
    (h _ (by rw [sortVals_length false rfl]; exact e.length) (sortVals_data false e er' hal))
end
def tup0 : List PyData → Bool
  | .tuple [] :: ds => ds.all fun d => match d with | .tuple _ => true | _ => false
  | _ => false
def sortOkE (ds : List PyData) : Bool := alikeB ds && tup0 ds && ds.all (fun d => decide (d.depth ≤ 60)) && decide (ds.length ≤ 16777216)
def gSortE (l : List PV) : O PV := fun h => match pdats (rdat h 4) l with
  | some ds => if sortOk ds = true ∨ sortOkE ds = true then some (.ref h.length, h ++ [.lst (sortP (l.zip ds))]) else none
  | none => none
theorem sortOkE_ok {ds : List PyData} (e : sortOkE ds = true) : AllAlike ds ∧ Tups0 ds ∧ (∀ d ∈ ds, d.depth ≤ 60) ∧ ds.length ≤ 16777216 := by
  simp only [sortOkE, Bool.and_eq_true, decide_eq_true_eq] at e
  obtain ⟨⟨⟨h1, h2⟩, h3⟩, h4⟩ := e
  refine ⟨fun d hd d' hd' => List.all_eq_true.mp (List.all_eq_true.mp h1 d hd) d' hd', ?_, fun d hd => by simpa using List.all_eq_true.mp h3 d hd, h4⟩
  unfold tup0 at h2
  split at h2
  · rename_i ds'
    refine ⟨rfl, fun d hd => ?_⟩
    rcases List.mem_cons.mp hd with rfl | hd
    · exact ⟨_, rfl⟩
    · have := List.all_eq_true.mp h2 d hd
      split at this
      · exact ⟨_, rfl⟩
      · cases this
  · cases h2
theorem c_sortedE {X : Cx} (hu : X.A.units + 65 < cLine) : CallR X (.builtin "sorted") (rBL X.K gSortE) := by
  intro pins s σ H xs us Q I rx ⟨m, h, l, z, h', a, ys, sr, e1, sq, rl, e, q⟩
  unfold gSortE at e
  split at e
  · rename_i ds eds
    split at e
    · rename_i c
      cases e
      rcases c with c | c
      · exact c_sorted hu pins s σ H xs us Q I rx ⟨m, h, l, _, _, a, ys, sr, e1, sq, rl, by unfold gSort; rw [eds]; simp only; rw [if_pos c], q⟩
      · obtain ⟨k1, k2, k3, k4⟩ := sortOkE_ok c
        have hl := pdats_len eds
        obtain ⟨its, rv, pl, hz⟩ := I.list sq
        have dp := pdats_dp (rdat_dp sr 4) l ds ys eds rl
        obtain ⟨as, rd⟩ := Dp.readsAll I _ _ _ dp rv
        have ez : (l.zip ds).map Prod.snd = ds := List.map_snd_zip (by omega)
        have el : (l.zip ds).map Prod.fst = l := List.map_fst_zip (by omega)
        subst e1
        rw [Vals.ref1 rx]
        refine sorted_data0 (β := PV × PyData) (enc := Prod.snd) (vs := its) pl.isList (each_zip hl rl rv) (readsAll_each (enc := Prod.snd) (by rw [ez]; exact rd)) (by rw [ez]; exact k1) (by rw [ez]; exact k2) ?_ ?_ ?_
        · rw [List.length_zip, sizeLine_eq]; omega
        · intro b hb
          have : b.2 ∈ ds := by rw [← ez]; exact List.mem_map.mpr ⟨b, hb, rfl⟩
          have := k3 _ this
          omega
        · intro out ho eo
          obtain ⟨xs', v1, r1⟩ := each_out eo
          obtain ⟨ep, he'⟩ := PyProof.Rows.sortedAll_at s.heap its (List.toArray out)
          have hlen : xs'.length ≤ sizeLine := by
            rw [v1.length, ho, List.length_zip, sizeLine_eq]
            omega
          have np := I.hok.fresh (Nat.le_succ s.heap.objs.size)
          refine ⟨.ref (s.heap.objs.size + 1), upd H (s.heap.objs.size + 1) (.lst xs'), I.laid (t' := s.toks) (fun _ _ => PyProof.Rows.sortedAll_old) (Nat.le_succ _) ⟨hlen, out, ep, v1, he'⟩, rfl, ?_⟩
          exact q (m ++ [s.heap.objs.size + 1]) _ _ (.upd_add np) (sr.addLst np r1) (rep_ref' (by rw [← sr.len, List.getElem?_append_right (Nat.le_refl _)]; simp))
    · cases e
  · cases e
end D
namespace D
open PySem PySem.Spec PySem.W PyProof.Rows L2
/-! ### rows of ints in their order -/
def srt (t : List (List Int)) : List (List Int) := t.mergeSort fun a b => decide (a ≤ b)
theorem srt_perm (t : List (List Int)) : (srt t).Perm t := List.mergeSort_perm t _
theorem le_dec_trans (a b c : List Int) (h1 : decide (a ≤ b) = true) (h2 : decide (b ≤ c) = true) : decide (a ≤ c) = true := decide_eq_true (List.le_trans (of_decide_eq_true h1) (of_decide_eq_true h2))
theorem le_dec_total (a b : List Int) : (decide (a ≤ b) || decide (b ≤ a)) = true := by
  rcases List.le_total a b with h | h
  · rw [decide_eq_true h]; rfl
  · rw [decide_eq_true h, Bool.or_true]
theorem srt_sorted (t : List (List Int)) : (srt t).Pairwise (· ≤ ·) := (List.pairwise_mergeSort le_dec_trans le_dec_total t).imp fun h => of_decide_eq_true h
theorem srt_eq {s t : List (List Int)} (p : s.Perm t) (q : s.Pairwise (· ≤ ·)) : s = srt t := List.Perm.eq_of_pairwise (fun _ _ _ _ h1 h2 => List.le_antisymm h1 h2) q (srt_sorted t) (p.trans (srt_perm t).symm)
theorem dataLe_tups {β : Type} (x : β → List Int) : dataLe false (fun b => .tuple ((x b).map .int)) = fun p q => decide (x p ≤ x q) := by
  funext p q
  show (!dataLt (.tuple ((x q).map .int)) (.tuple ((x p).map .int))) = _
  rw [dataLt_tuple]
  show (!rowLt ((x q).map .int) ((x p).map .int)) = _
  rw [dataLt_ints]
  by_cases h : x q < x p
  · have h' : ¬ x p ≤ x q := fun r => List.not_lt.mpr r h
    simp [h, h']
  · have h' : x p ≤ x q := List.not_lt.mp h
    simp [h, h']
def tupI (t : List (List Int)) : List PV := t.map fun r => .tup (intL r)
def tupD (t : List (List Int)) : List PyData := t.map fun r => .tuple (r.map .int)
theorem pdats_tupI (r : Nat → Option PyData) (t : List (List Int)) : pdats r (tupI t) = some (tupD t) := pdats_rows r t
theorem mergeSort_map {α β : Type} (f : α → β) (r : β → β → Bool) (t : List α) : (t.map f).mergeSort r = (t.mergeSort fun a b => r (f a) (f b)).map f := by
  rw [List.map_mergeSort]
  intro a _ b _
  rfl
theorem sortP_tups (t : List (List Int)) : sortP ((tupI t).zip (tupD t)) = tupI (srt t) := by
  have e : (tupI t).zip (tupD t) = t.map fun r => (PV.tup (intL r), PyData.tuple (r.map .int)) := by
    unfold tupI tupD
    rw [List.zip_map]
    induction t with
    | nil => rfl
    | cons x t ih => simp only [List.zip_cons_cons, List.map_cons, ih]; rfl
  unfold sortP
  rw [e, mergeSort_map]
  have e2 : (fun a b : List Int => dataLe false (Prod.snd : PV × PyData → PyData) (PV.tup (intL a), PyData.tuple (a.map .int)) (PV.tup (intL b), PyData.tuple (b.map .int))) = fun a b => decide (a ≤ b) := by
    have := dataLe_tups (β := List Int) id
    funext a b
    exact congrFun (congrFun this a) b
  rw [e2, List.map_map]
  rfl
theorem alikeB_tups (t : List (List Int)) : alikeB (tupD t) = true := by
  refine List.all_eq_true.mpr fun a ha => List.all_eq_true.mpr fun b hb => ?_
  obtain ⟨i, _, rfl⟩ := List.mem_map.mp ha
  obtain ⟨j, _, rfl⟩ := List.mem_map.mp hb
  rw [alike]
  exact PySem.W.alike_ints _ _
theorem sortOkE_tups {t : List (List Int)} (hl : t.length ≤ 10000) (hn : (∀ r ∈ t, r ≠ []) ∨ t[0]? = some []) : sortOk (tupD t) = true ∨ sortOkE (tupD t) = true := by
  have h1 := alikeB_tups t
  have h3 : (tupD t).all (fun d => decide (d.depth ≤ 60)) = true := List.all_eq_true.mpr fun a ha => by
    obtain ⟨r, _, rfl⟩ := List.mem_map.mp ha
    refine decide_eq_true ?_
    simp only [PyData.depth, dAll_ints]
    omega
  have h4 : decide ((tupD t).length ≤ 16777216) = true := decide_eq_true (by unfold tupD; rw [List.length_map]; omega)
  rcases hn with hn | hn
  · left
    have h2 : (tupD t).all tupNe = true := List.all_eq_true.mpr fun a ha => by
      obtain ⟨r, hr, rfl⟩ := List.mem_map.mp ha
      cases r with
      | nil => exact absurd rfl (hn _ hr)
      | cons x r => rfl
    simp only [sortOk, h1, h2, h3, h4, Bool.true_or, Bool.and_self]
  · right
    have h2 : tup0 (tupD t) = true := by
      cases t with
      | nil => simp at hn
      | cons x t =>
        simp only [List.getElem?_cons_zero, Option.some.injEq] at hn
        subst hn
        show ((tupD t).all fun d => match d with | .tuple _ => true | _ => false) = true
        refine List.all_eq_true.mpr fun a ha => ?_
        obtain ⟨r, hr, rfl⟩ := List.mem_map.mp ha
        rfl
    simp only [sortOkE, h1, h2, h3, h4, Bool.and_self]
section
variable {Q : PV → VH → Prop} {h : VH}
theorem oo_sortTI {t : List (List Int)} (hl : t.length ≤ 10000) (hn : (∀ r ∈ t, r ≠ []) ∨ t[0]? = some []) : OO (gSortE (tupI t) h) Q = Q (.ref h.length) (h ++ [.lst (tupI (srt t))]) := by
  have e : gSortE (tupI t) h = some (.ref h.length, h ++ [.lst (tupI (srt t))]) := by
    unfold gSortE
    rw [pdats_tupI]
    simp only
    rw [if_pos (sortOkE_tups hl hn), sortP_tups]
  rw [e, oo_some]
/-- the ints in their order -/
def srtI (ns : List Int) : List Int := ns.mergeSort fun a b => decide (a ≤ b)
theorem srtI_perm (ns : List Int) : (srtI ns).Perm ns := List.mergeSort_perm ns _
theorem int_dec_trans (a b c : Int) (h1 : decide (a ≤ b) = true) (h2 : decide (b ≤ c) = true) : decide (a ≤ c) = true := decide_eq_true (Int.le_trans (of_decide_eq_true h1) (of_decide_eq_true h2))
theorem int_dec_total (a b : Int) : (decide (a ≤ b) || decide (b ≤ a)) = true := by
  rcases Int.le_total a b with h | h
  · rw [decide_eq_true h]; rfl
  · rw [decide_eq_true h, Bool.or_true]
theorem srtI_sorted (ns : List Int) : (srtI ns).Pairwise (· ≤ ·) := (List.pairwise_mergeSort int_dec_trans int_dec_total ns).imp fun h => of_decide_eq_true h
theorem sortP_ints (ns : List Int) : sortP ((intL ns).zip (ns.map PyData.int)) = intL (srtI ns) := by
  have e : (intL ns).zip (ns.map PyData.int) = ns.map fun r => (PV.int r, PyData.int r) := by
    induction ns with
    | nil => rfl
    | cons x t ih => simp only [intL, List.map_cons, List.zip_cons_cons] at ih ⊢; rw [ih]
  unfold sortP
  rw [e, mergeSort_map]
  have e2 : (fun a b : Int => dataLe false (Prod.snd : PV × PyData → PyData) (PV.int a, PyData.int a) (PV.int b, PyData.int b)) = fun a b => decide (a ≤ b) := by
    have := dataLe_int (β := Int) id
    funext a b
    exact congrFun (congrFun this a) b
  rw [e2, List.map_map]
  rfl
theorem sortOk_intL {ns : List Int} (hl : ns.length ≤ 10000) : sortOk (ns.map PyData.int) = true := by
  have h1 : alikeB (ns.map PyData.int) = true := List.all_eq_true.mpr fun a ha => List.all_eq_true.mpr fun b hb => by
    obtain ⟨i, _, rfl⟩ := List.mem_map.mp ha
    obtain ⟨j, _, rfl⟩ := List.mem_map.mp hb
    rfl
  have h2 : (ns.map PyData.int).all plainE = true := List.all_eq_true.mpr fun a ha => by
    obtain ⟨i, _, rfl⟩ := List.mem_map.mp ha
    rfl
  have h3 : (ns.map PyData.int).all (fun d => decide (d.depth ≤ 60)) = true := List.all_eq_true.mpr fun a ha => by
    obtain ⟨i, _, rfl⟩ := List.mem_map.mp ha
    rfl
  have h4 : decide ((ns.map PyData.int).length ≤ 16777216) = true := decide_eq_true (by rw [List.length_map]; omega)
  simp only [sortOk, h1, h2, h3, h4, Bool.or_true, Bool.and_self]
theorem oo_sortI {ns : List Int} (hl : ns.length ≤ 10000) : OO (gSortE (intL ns) h) Q = Q (.ref h.length) (h ++ [.lst (intL (srtI ns))]) := by
  have e : gSortE (intL ns) h = some (.ref h.length, h ++ [.lst (intL (srtI ns))]) := by
    unfold gSortE
    rw [pdats_intL]
    simp only
    rw [if_pos (Or.inl (sortOk_intL hl)), sortP_ints]
  rw [e, oo_some]
end
end D
namespace D
open PySem PySem.Spec PySem.W PyProof.Rows L2
/-! ### sorted(set(..)) of tuples of ints -/
section
variable {P : Program} {w : World} {A : Around} {E : Value → Shared → Prop} {s : Shared}
theorem reads_ints {h : Heap} : ∀ {k : List Int} {vs : List Value}, IntsAre vs k → ReadsAll h vs (k.map PyData.int) []
  | _, _, .nil => .nil
  | _, _, .cons n t r => .cons (as := []) (bs := []) (.int n t) (reads_ints r)
theorem reads_isT {h : Heap} {k : List Int} {b : Addr} (x : IsT P w h k b) : Reads h (.ref b) (.tuple (k.map PyData.int)) [] := by
  obtain ⟨o, items, n, ho, hc, hd, hi⟩ := x
  exact .tuple ho hc hd (reads_ints (ints_of_items hi))
theorem eachOf {α : Type} {R : Value → α → Prop} {f : α → Value} : ∀ {l : List α}, (∀ a ∈ l, R (f a) a) → EachIs R (l.map f) l
  | [], _ => .nil
  | a :: l, h => .cons (h a List.mem_cons_self) (eachOf fun b hb => h b (List.mem_cons_of_mem _ hb))
theorem each_refs : ∀ {out : List Value} {bs : List (Addr × List Int)}, EachIs (fun v b => v = Value.ref b.1) out bs → out = bs.map fun q => Value.ref q.1
  | _, _, .nil => rfl
  | _, _, .cons h t => by rw [List.map_cons, ← each_refs t, h]
theorem sorted_setD {a : Addr} {L : List (Addr × List Int)} {es : Array (Int × Value)} {ep : Nat} {t : SetTable} {Q : Value → Shared → Prop} (R : SetTR P w s.heap a L es ep t) (hh : A.handled = none)
    (hne : ∀ p ∈ L, p.2 ≠ []) (hu : A.units + 65 < cLine)
    (hQ : ∀ s' p (out : Array Value) (c : Nat) (L' : List (Addr × List Int)), (∀ b o, s.heap.get? b = some o → s'.heap.get? b = some o) → s'.gens = s.gens → s'.os = s.os → s.heap.objs.size ≤ p →
      s'.heap.get? p = some (seqObj "list" out c) → out.toList = L'.map (fun q => Value.ref q.1) → L'.Perm L → L'.Pairwise (fun q r => q.2 ≤ r.2) → Q (.ref p) s') :
    wpAny (model P w) A (call (.builtin "sorted") [.ref a]) Q E s := by
  obtain ⟨o, ho, hex, hd⟩ := R.ob
  have hsz := R.size
  have hfew := R.few
  refine Calls.call_function_entry kind_sorted plain_sorted entry_sorted (args_sorted1 _) ?_
  unfold Builtin.«sorted»
  refine wpAny_bind (m := checkCount "sorted" 1 1 _) (wpAny_pure ?_)
  refine wpAny_bind (collect_set (A := A.in1) hh ⟨o, ho, hex.1, hd⟩ R.fits (by unfold scanBound; omega) R.tab.ris R.led fun s1 vs k1 hz g1 o1 pm => ?_)
  have hes : es.toList.map (·.2) = L.map fun q => Value.ref q.1 := by
    rw [R.rows]
    unfold L2.rowsOf
    rw [List.map_map] <;> rfl
  rw [hes] at pm
  have ord : ∀ vs : List Value, (∀ v ∈ vs, ∃ q ∈ L, v = Value.ref q.1) → ∃ L1 : List (Addr × List Int), vs = L1.map (fun q => Value.ref q.1) ∧ ∀ q ∈ L1, q ∈ L := by
    intro vs
    induction vs with
    | nil => intro _; exact ⟨[], rfl, fun q hq => (by cases hq)⟩
    | cons v vs ih =>
      intro hv
      obtain ⟨q, hq, e⟩ := hv v List.mem_cons_self
      obtain ⟨L1, e1, hs⟩ := ih fun u hu => hv u (List.mem_cons_of_mem _ hu)
      refine ⟨q :: L1, by rw [List.map_cons, e, e1], fun r hr => ?_⟩
      rcases List.mem_cons.mp hr with z | z
      · rw [z]; exact hq
      · exact hs r z
  have one : ∀ q ∈ L, ∀ r ∈ L, q.1 = r.1 → q = r := fun q hq r hr e => by
    have a1 := R.tup q hq
    have a2 := R.tup r hr
    rw [e] at a1
    have e2 : q.2 = r.2 := a1.inj a2
    exact Prod.ext e e2
  have perm_of : ∀ L1 : List (Addr × List Int), (∀ q ∈ L1, q ∈ L) → (L1.map (fun q => Value.ref q.1)).Perm (L.map fun q => Value.ref q.1) → L1.Perm L := by
    intro L1 hs pm1
    have nL : L.Nodup := nodup_of_map R.nd
    have nref : (L.map fun q => Value.ref q.1).Nodup := by
      refine List.pairwise_map.mpr (List.Pairwise.imp_of_mem (fun {q r} hq hr hne e => ?_) nL)
      injection e with e
      exact hne (one q hq r hr e)
    have n1 : L1.Nodup := nodup_of_map (pm1.nodup_iff.mpr nref)
    refine (List.perm_ext_iff_of_nodup n1 nL).mpr fun q => ⟨hs q, fun hq => ?_⟩
    have hm : Value.ref q.1 ∈ L1.map (fun q => Value.ref q.1) := pm1.mem_iff.mpr (List.mem_map.mpr ⟨q, hq, rfl⟩)
    obtain ⟨r, hr, e⟩ := List.mem_map.mp hm
    injection e with e
    rw [← one r (hs r hr) q hq e]
    exact hr
  have hvl : vs.length < 64 := by rw [pm.length_eq, List.length_map]; exact hfew
  refine wpAny_bind (wpAny_newList ?_ (by rw [sizeLine_eq]; omega))
  have hoL : (s1.heap.push (seqObj "list" vs.toArray 0)).get? s1.heap.objs.size = some (seqObj "list" vs.toArray 0) := Heap.get?_push_size _ rfl
  obtain ⟨L1, e1, hs1⟩ := ord vs fun v hv => by
    obtain ⟨q, hq, e⟩ := List.mem_map.mp (pm.mem_iff.mp hv)
    exact ⟨q, hq, e.symm⟩
  have pL1 : L1.Perm L := perm_of L1 hs1 (by rw [← e1]; exact pm)
  have tk : ∀ q ∈ L, Reads (s1.heap.push (seqObj "list" vs.toArray 0)) (.ref q.1) (.tuple (q.2.map PyData.int)) [] := fun q hq => reads_isT (P := P) (w := w) (isT_keep (R.tup q hq) fun b u e => Heap.get?_push_of_some _ (k1 b u e))
  have al : AllAlike (L1.map fun q => PyData.tuple (q.2.map PyData.int)) := AllAlike.of (enc := fun q : Addr × List Int => PyData.tuple (q.2.map PyData.int)) fun b b' => by
    show alike (.tuple _) (.tuple _) = true
    rw [alike]
    exact PySem.W.alike_ints _ _
  have so : PySem.W.Sortable (L1.map fun q => PyData.tuple (q.2.map PyData.int)) := .inl fun d hd => by
    obtain ⟨q, hq, rfl⟩ := List.mem_map.mp hd
    have := hne q (hs1 q hq)
    cases e : q.2 with
    | nil => exact absurd e this
    | cons x r => exact ⟨.int x, r.map PyData.int, rfl⟩
  refine wpAny_bind (wpAny_holding (list_sort_data (β := Addr × List Int) (enc := fun q => PyData.tuple (q.2.map PyData.int)) (R := fun v b => v = Value.ref b.1) (bs := L1) (s := { s1 with heap := s1.heap.push (seqObj "list" vs.toArray 0) }) hoL (by rw [e1]; exact eachOf fun _ _ => rfl) (by rw [e1]; exact eachOf fun q hq => ⟨[], by rw [← e1]; exact tk q (hs1 q hq), by simp⟩) al so ?_ ?_ fun out hlen eo => ?_))
  · have := congrArg List.length e1
    rw [List.length_map] at this
    rw [sizeLine_eq]; omega
  · intro b hb
    simp only [PyData.depth, dAll_ints, Around.in1_units]
    omega
  obtain ⟨c, hc⟩ := sortedHeap_at (vs := vs) (out := out.toArray) hoL
  have e' := each_refs eo
  have eS : (L1.mergeSort (dataLe false fun q => PyData.tuple (q.2.map PyData.int))) = L1.mergeSort fun p q => decide (p.2 ≤ q.2) := by rw [dataLe_tups]
  rw [eS] at e'
  have pL : (L1.mergeSort fun p q => decide (p.2 ≤ q.2)).Perm L := (List.mergeSort_perm _ _).trans pL1
  have pw : (L1.mergeSort fun p q => decide (p.2 ≤ q.2)).Pairwise (fun q r => q.2 ≤ r.2) := (List.pairwise_mergeSort (fun a b c h1 h2 => le_dec_trans a.2 b.2 c.2 h1 h2) (fun a b => le_dec_total a.2 b.2) L1).imp fun h => of_decide_eq_true h
  refine wpAny_pure ⟨_, rfl, hQ _ s1.heap.objs.size out.toArray c _ (fun b u e => ?_) g1 o1 hz hc (by simpa using e') pL pw⟩
  have q := k1 b u e
  have hlt := Heap.lt_size q
  show (sortedHeap (s1.heap.push (seqObj "list" vs.toArray 0)) s1.heap.objs.size vs out.toArray).get? b = some u
  rw [sortedHeap_old (Nat.ne_of_lt hlt) (by rw [size_push']; exact Nat.lt_succ_of_lt hlt)]
  exact Heap.get?_push_of_some _ q
end
def rSortedD (K : PySem.W.Frag) (P : Program) (w : World) : List V → Hp → VK → Prop := fun vs H Q => ∃ (a : Addr) (L : List (Addr × List Int)), vs = [V.ref a] ∧ H a = some (SetTO P w a L) ∧ (∀ p ∈ L, SqT K H p.1 (p.2.map V.int)) ∧ (∀ p ∈ L, p.2 ≠ []) ∧
  ∀ (L' : List (Addr × List Int)) (p : Addr), L'.Perm L → (L'.map (·.2)).Nodup → L'.Pairwise (fun q r => q.2 ≤ r.2) → H p = none → Q (.ref p) (upd H p (.lst (L'.map fun q => V.ref q.1)))
section
variable {X : Cx}
theorem cr_sortedD (hc : X.calm = true) (hu : X.A.units + 65 < cLine) : CallR X (.builtin "sorted") (rSortedD X.K X.prog X.w) := by
  intro pins s σ H vs us Q I r h
  obtain ⟨a, L, rfl, ha, hk, hne, q⟩ := h
  have R0 : SetT0 X.prog X.w s.heap a L := (I.hok a _ ha).1
  obtain ⟨es, ep, t, R⟩ := R0.full fun p hp => I.isT (hk p hp)
  rw [Vals.ref1 r]
  refine sorted_setD R (I.ok.hd hc) hne hu fun s' p out c L' k g o hp hg hout pm pw => ?_
  have hfew : L'.length < 64 := by rw [pm.length_eq]; exact R.few
  have hlen : (L'.map fun q => V.ref q.1).length ≤ sizeLine := by rw [List.length_map, sizeLine_eq]; omega
  have hn : H p = none := I.hok.fresh hp
  have hv : Vals (L'.map fun q => V.ref q.1) out.toList := by rw [hout]; exact vals_of_refs L'
  have J : Inv X pins σ (upd H p (.lst (L'.map fun q => V.ref q.1))) { s with heap := s'.heap, gens := s'.gens, drawn := s'.drawn, toks := s'.toks } :=
    I.call (ch := []) (Un.laid k hp hn) (I.hok.laid k hp ⟨hlen, out.toList, c, hv, hg⟩) (by rw [g]; exact I.bare) (fun _ z => nomatch z)
  have e : s' = { s with heap := s'.heap, gens := s'.gens, drawn := s'.drawn, toks := s'.toks } := by
    cases s'
    cases s
    cases o
    rfl
  rw [e]
  exact ⟨.ref p, _, J, rfl, q L' p pm ((pm.map (·.2)).nodup_iff.mpr R.nd) pw hn⟩
end
def tupsI : List PV → Option (List (List Int))
  | [] => some []
  | .tup l :: t => match intsP l, tupsI t with
    | some ns, some r => some (ns :: r)
    | _, _ => none
  | _ :: _ => none
def ddup : List (List Int) → List (List Int)
  | [] => []
  | x :: t => if x ∈ ddup t then ddup t else x :: ddup t
theorem mem_ddup {x : List Int} : ∀ {t : List (List Int)}, x ∈ ddup t ↔ x ∈ t
  | [] => Iff.rfl
  | y :: t => by
    have ih := mem_ddup (x := x) (t := t)
    unfold ddup
    by_cases c : y ∈ ddup t
    · rw [if_pos c, ih, List.mem_cons]
      refine ⟨Or.inr, ?_⟩
      rintro (rfl | h)
      · exact mem_ddup.mp c
      · exact h
    · rw [if_neg c, List.mem_cons, List.mem_cons, ih]
theorem nodup_ddup : ∀ t : List (List Int), (ddup t).Nodup
  | [] => List.nodup_nil
  | y :: t => by
    unfold ddup
    by_cases c : y ∈ ddup t
    · rw [if_pos c]; exact nodup_ddup t
    · rw [if_neg c]; exact List.nodup_cons.mpr ⟨c, nodup_ddup t⟩
theorem ddup_len : ∀ t : List (List Int), (ddup t).length ≤ t.length
  | [] => Nat.le_refl _
  | y :: t => by
    have := ddup_len t
    unfold ddup
    by_cases c : y ∈ ddup t
    · rw [if_pos c, List.length_cons]; omega
    · rw [if_neg c, List.length_cons, List.length_cons]; omega
theorem intsP_inv : ∀ {l : List PV} {ns : List Int}, intsP l = some ns → l = intL ns
  | [], ns, e => by simp only [intsP] at e; cases e; rfl
  | v :: l, ns, e => by
    cases v <;> try (simp only [intsP, reduceCtorEq] at e; done)
    rename_i i
    simp only [intsP] at e
    cases e1 : intsP l with
    | none => rw [e1] at e; simp at e
    | some r =>
      rw [e1] at e
      simp at e
      subst e
      rw [intsP_inv e1]
      rfl
theorem reps_intL {K : PySem.W.Frag} {m : List Addr} {H : Hp} : ∀ ns : List Int, Reps K m H (intL ns) (ns.map V.int)
  | [] => Reps.nil
  | n :: ns => Reps.cons rep_int' (reps_intL ns)
theorem reps_ints_inv {K : PySem.W.Frag} {m : List Addr} {H : Hp} {ns : List Int} {xs : List V} (r : Reps K m H (intL ns) xs) : xs = ns.map V.int := intsP_rep (intsP_ints ns) r
def setTs (t : List (List Int)) : List (List Int) := srt (ddup t)
def gSortSet (l : List PV) : O PV := fun h => match tupsI l with
  | some t => if t.length < 64 ∧ t.all (fun r => !r.isEmpty) = true then some (.ref h.length, h ++ [.lst (tupI (setTs t))]) else none
  | none => none
theorem tupsI_inv : ∀ {l : List PV} {t : List (List Int)}, tupsI l = some t → l = tupI t
  | [], t, e => by simp only [tupsI] at e; cases e; rfl
  | v :: l, t, e => by
    cases v <;> try (simp only [tupsI, reduceCtorEq] at e; done)
    rename_i k
    simp only [tupsI] at e
    split at e
    · rename_i ns r e1 e2
      cases e
      rw [intsP_inv e1, tupsI_inv e2]
      rfl
    · cases e
theorem tupsI_tupI : ∀ t : List (List Int), tupsI (tupI t) = some t
  | [] => rfl
  | r :: t => by
    have := tupsI_tupI t
    unfold tupI at this ⊢
    rw [List.map_cons, tupsI, intsP_ints, this]
theorem oo_sortSet {t : List (List Int)} {Q : PV → VH → Prop} {h : VH} (hl : t.length < 64) (hn : ∀ r ∈ t, r ≠ []) : OO (gSortSet (tupI t) h) Q = Q (.ref h.length) (h ++ [.lst (tupI (setTs t))]) := by
  have e : gSortSet (tupI t) h = some (.ref h.length, h ++ [.lst (tupI (setTs t))]) := by
    unfold gSortSet
    rw [tupsI_tupI]
    simp only
    rw [if_pos ⟨hl, List.all_eq_true.mpr fun r hr => by
      cases r with
      | nil => exact absurd rfl (hn _ hr)
      | cons x r => rfl⟩]
  rw [e, oo_some]
theorem setTs_mem {t : List (List Int)} {r : List Int} : r ∈ setTs t ↔ r ∈ t := by
  unfold setTs
  rw [(srt_perm _).mem_iff, mem_ddup]
theorem reps_tups {K : PySem.W.Frag} {m : List Addr} {H : Hp} : ∀ {t : List (List Int)} {xs : List V}, Reps K m H (tupI t) xs → ∃ ks : List (Addr × List Int), ks.map (·.2) = t ∧ xs = (ks.map fun p => V.ref p.1) ∧ ∀ p ∈ ks, TupAt K m H p.1 (p.2.map V.int)
  | [], xs, r => ⟨[], rfl, r.nil_inv, by simp⟩
  | ns :: t, xs, r => by
    obtain ⟨x, ys, rfl, r1, r2⟩ := r.cons_inv
    obtain ⟨ks, e1, e2, h⟩ := reps_tups r2
    obtain ⟨a, zs, rfl, ta, rz⟩ := rep_tup r1
    have ez := reps_ints_inv rz
    subst ez
    refine ⟨(a, ns) :: ks, by rw [List.map_cons, e1], by rw [e2]; rfl, fun p hp => ?_⟩
    rcases List.mem_cons.mp hp with rfl | hp
    · exact ta
    · exact h p hp
theorem reps_refs {K : PySem.W.Frag} {m : List Addr} {H : Hp} : ∀ {ks : List (Addr × List Int)}, (∀ p ∈ ks, TupAt K m H p.1 (p.2.map V.int)) → Reps K m H (tupI (ks.map (·.2))) (ks.map fun p => V.ref p.1)
  | [], _ => Reps.nil
  | p :: ks, h => Reps.cons ⟨p.1, _, rfl, h p List.mem_cons_self, reps_intL p.2⟩ (reps_refs fun q hq => h q (List.mem_cons_of_mem _ hq))
section
variable {X : Cx} {W : WX} {e : Expr} {d : Sl → M (List PV)} {pos pos2 : Pos} {p p2 : Pos}
theorem set_read {σ : L2.St} {H : Hp} {Q : VK} (q : TD X.K W (dTmpFn gSortSet d) σ H Q) : tCons (tCB (rSetOfT X.K X.prog X.w) (tCons (TDL X.K W d) tNil)) tNil σ H fun xs H1 => rSortedD X.K X.prog X.w xs H1 Q := by
  obtain ⟨m, v, h, sr, sl, p⟩ := q
  refine ⟨m, v, h, sr, sl, ?_⟩
  unfold dTmpFn bnd at p
  cases e1 : d v h with
  | ok l h1 =>
    rw [e1] at p
    intro m1 H1 x1 sr1 D xs n1 n2 eD r
    simp only at p
    unfold liftO at p
    cases e2 : gSortSet l h1 with
    | none => rw [e2] at p; exact p.elim
    | some z =>
      rw [e2] at p
      unfold gSortSet at e2
      split at e2
      · rename_i t et
        split at e2
        · rename_i c
          cases e2
          rw [tupsI_inv et] at r
          obtain ⟨ks, f1, f2, f3⟩ := reps_tups r
          have lk : ks.length = t.length := by rw [← f1, List.length_map]
          show rSetOfT X.K X.prog X.w [.ref D] H1 fun x H2 => rSortedD X.K X.prog X.w [x] H2 Q
          refine ⟨D, ks, rfl, .inl (.inl (by rw [eD, f2])), fun q hq => (f3 q hq).sq, by omega, fun a L na hL hK => ?_⟩
          have x2 : Ext m1 H1 m1 (upd H1 a (SetTO X.prog X.w a L)) := .upd_new na
          have sr2 := sr1.more (o := SetTO X.prog X.w a L) na
          refine ⟨a, L, rfl, upd_same, fun q hq => ((f3 q (hL q hq)).ext x2).sq, fun q hq => ?_, fun L' pa pm nd pw np => ?_⟩
          · have hm : q.2 ∈ t := by rw [← f1]; exact List.mem_map.mpr ⟨q, hL q hq, rfl⟩
            have := List.all_eq_true.mp c.2 _ hm
            intro e0
            rw [e0] at this
            cases this
          · have eT : L'.map (·.2) = setTs t := by
              refine srt_eq ?_ (List.pairwise_map.mpr pw)
              refine (List.perm_ext_iff_of_nodup nd (nodup_ddup t)).mpr fun r => ?_
              rw [mem_ddup, ← f1]
              refine ⟨fun hr => ?_, fun hr => ?_⟩
              · obtain ⟨q, hq, rfl⟩ := List.mem_map.mp hr
                exact List.mem_map.mpr ⟨q, hL q (pm.mem_iff.mp hq), rfl⟩
              · obtain ⟨q, hq, rfl⟩ := List.mem_map.mp hr
                exact (pm.map (·.2)).mem_iff.mpr (hK q hq)
            have r3 : Reps X.K m1 (upd H1 a (SetTO X.prog X.w a L)) (tupI (setTs t)) (L'.map fun q => V.ref q.1) := by
              rw [← eT]
              exact reps_refs fun q hq => (f3 q (hL q (pm.mem_iff.mp hq))).ext x2
            exact p (m1 ++ [pa]) _ ((x1.trans x2).trans (.upd_add np)) (sr2.addLst np r3) _ (rep_ref' (by rw [← sr2.len, List.getElem?_append_right (Nat.le_refl _)]; simp))
        · cases e2
      · cases e2
  | ex u h1 => rw [e1] at p; exact p
  | bad => rw [e1] at p; exact p
theorem de_sortSet (hc : X.calm = true) (hu : X.A.units + 65 < cLine) (hg : Gl X "sorted") (hm : X.mg "sorted" = none) (hg2 : Gl X "set") (hm2 : X.mg "set" = none) (h : DL X W e d)
    (hs : starEach [e] X.env = (false, eval e X.env) :: starEach [] X.env := by rfl)
    (hs2 : starEach [.Call (.Name "set" p) [e] [] pos] X.env = (false, eval (.Call (.Name "set" p) [e] [] pos) X.env) :: starEach [] X.env := by rfl) :
    DE X W (.Call (.Name "sorted" p2) [.Call (.Name "set" p) [e] [] pos] [] pos2) (dTmpFn gSortSet d) :=
  weakE (pe_callB (cr_sortedD hc hu) hg hm (by rfl) (pa_cons (pe_callTy (cr_setOfT hc (by omega)) hg2 hm2 (by rfl) (pa_cons h pa_nil hs) (by decide) (by decide) hs rfl) pa_nil hs2) (by decide) (by decide) hs2 rfl) fun σ H Q q => set_read q
end
end D

/-! layer D, part 19: tuple * int -/
namespace L2
open PySem PySem.Spec PyProof.Rows
set_option maxHeartbeats 4000000 in
theorem tuple_mulW1 (l : Addr) (items : Array Value) (n : Nat) (dd : Option Addr) (sl : Array (Option Value)) (u : Tok) :
    Meets (Builtin.«tuple.__mul__» ⟨[.ref l, .int 1 u], []⟩) (fun _ R s => s.heap.get? l = some { cls := .type "tuple", dict := dd, data := .seq items n, slots := sl } ∧
      R (.ok (.ret (Value.ref l))) s) :=
  .of_wp fun prog w A R s h => by
    obtain ⟨hp, g, d, tk, os⟩ := s
    obtain ⟨hl, h⟩ := h
    have f1 := AutoSeq1.idx_int
    wp_walk using wpAny_loadPart' hl
    exact ⟨_, rfl, h⟩
set_option maxHeartbeats 4000000 in
theorem tuple_mulW0 (l : Addr) (items : Array Value) (n : Nat) (dd : Option Addr) (sl : Array (Option Value)) (u : Tok) (c1 : (items.isEmpty || (0 : Int) == 1) = false) :
    Meets (Builtin.«tuple.__mul__» ⟨[.ref l, .int 0 u], []⟩) (fun _ R s => s.heap.get? l = some { cls := .type "tuple", dict := dd, data := .seq items n, slots := sl } ∧
      R (.ok (.ret (Value.ref s.heap.objs.size))) { s with heap := s.heap.push { cls := Value.type "tuple", data := Data.seq #[] }, toks := s.toks }) :=
  .of_wp fun prog w A R s h => by
    obtain ⟨hp, g, d, tk, os⟩ := s
    obtain ⟨hl, h⟩ := h
    have f1 := AutoSeq1.idx_int
    wp_walk using wpAny_loadPart' hl
    repeat (first
      | (refine wpAny_ite_false (decide_eq_false (by rw [c1]; exact Bool.false_ne_true)) ?_; wp_walk using wpAny_loadPart' hl))
    exact ⟨_, rfl, h⟩
def rRepT01 (K : PySem.W.Frag) : R2 := fun x y H Q => ∃ l xs, x = .ref l ∧ SqT K H l xs ∧ xs ≠ [] ∧ ((y = .int 1 ∧ Q (.ref l) H) ∨ (y = .int 0 ∧ ∀ p, H p = none → Q (.ref p) (upd H p (.tup []))))
theorem op_repT01 {X : Cx} : OpR X (binaryOp .Mult) (rRepT01 X.K) := by
  intro pins s σ H x y v u Q I rx ry h
  obtain ⟨l, xs, rfl, hT, hne, h⟩ := h
  cases rx
  obtain ⟨its, r, ⟨⟨cls, dd, data, sl⟩, ho, hc, n, hd⟩, hs⟩ := I.tuple hT
  simp only at hc hd
  subst hc hd
  have hle : its.length = xs.length := r.length.symm
  have hn : its ≠ [] := fun e => hne (by
    rw [e] at hle
    exact List.eq_nil_of_length_eq_zero hle.symm)
  have hi : its.toArray.isEmpty = false := by
    cases its with
    | nil => exact absurd rfl hn
    | cons a b => rfl
  rcases h with ⟨rfl, q⟩ | ⟨rfl, q⟩
  · obtain ⟨t, rfl⟩ := ry
    refine wpAny_binaryOp_repeat_ref (T := "tuple") (U := "int") (by decide) ⟨_, ho, rfl⟩ (fun s' => typeIs_int s' 1 t) noFill_tuple_mul F.fills_int_mul F.slot_int_rmul repeat_tuple F.slot_int_index.lookup
      (call_meets F.slot_int_rmul (typeIs_int s 1 t) F.entry_int_rmul (F.args_int_rmul_2 _ _) (int_rmul_tuple 1 t l its.toArray n dd sl)
        ⟨ho, rfl, ⟨_, ho, rfl⟩, call_meets F.slot_tuple_mul ⟨_, ho, rfl⟩ F.entry_tuple_mul (F.args_tuple_mul_2 _ _) (tuple_mulW1 l its.toArray n dd sl t) ⟨ho, ?_⟩⟩)
    exact ⟨.ref l, _, I, rfl, q⟩
  · obtain ⟨t, rfl⟩ := ry
    refine wpAny_binaryOp_repeat_ref (T := "tuple") (U := "int") (by decide) ⟨_, ho, rfl⟩ (fun s' => typeIs_int s' 0 t) noFill_tuple_mul F.fills_int_mul F.slot_int_rmul repeat_tuple F.slot_int_index.lookup
      (call_meets F.slot_int_rmul (typeIs_int s 0 t) F.entry_int_rmul (F.args_int_rmul_2 _ _) (int_rmul_tuple 0 t l its.toArray n dd sl)
        ⟨ho, rfl, ⟨_, ho, rfl⟩, call_meets F.slot_tuple_mul ⟨_, ho, rfl⟩ F.entry_tuple_mul (F.args_tuple_mul_2 _ _) (tuple_mulW0 l its.toArray n dd sl t (by rw [hi]; rfl)) ⟨ho, ?_⟩⟩)
    refine ⟨.ref s.heap.objs.size, _, I.laid (t' := s.toks) (o := .tup []) (fun b ob q => Heap.get?_push_of_some _ q) (Nat.le_refl _) ?_, rfl, q _ (I.hok.fresh (Nat.le_refl _))⟩
    exact ⟨by rw [sizeLine_eq]; simp, [], .nil, IsTup.new _ _⟩
end L2
namespace D
open PySem PySem.Spec PySem.W PyProof.Rows L2
def oMulT (a b : PV) : O PV := match a, b with
  | .tup l, .int k => fun h => if 0 < l.length ∧ 0 ≤ k ∧ k ≤ 1000 ∧ l.length ≤ 1000 then some (.tup (List.replicate k.toNat l).flatten, h) else none
  | a, b => oMul a b
theorem p_mulT {X : Cx} : OpR X (binaryOp .Mult) (rO2 X.K oMulT) := by
  intro pins s σ H x y v u Q I rx ry ⟨m, hh, a, b, z, h', sr, ra, rb, e, q⟩
  unfold oMulT at e
  split at e
  · rename_i l k
    split at e
    · rename_i c
      cases e
      obtain ⟨p, xs, rfl, t, rs⟩ := rep_tup ra
      rw [rep_int rb] at ry
      have hl := rs.len
      by_cases k2 : 2 ≤ k
      rotate_left
      · refine op_repT01 pins s σ H _ _ v u Q I rx ry ⟨p, xs, rfl, t.sq, ?_, ?_⟩
        · intro e
          rw [e] at hl
          simp at hl
          omega
        · have : k = 0 ∨ k = 1 := by omega
          rcases this with rfl | rfl
          · exact .inr ⟨rfl, fun pn np => q m _ _ (.upd_new np) (sr.more np) (sr.tup np (by simpa using Reps.nil))⟩
          · refine .inl ⟨rfl, q m _ _ .refl sr ?_⟩
            rw [show (List.replicate (1 : Int).toNat l).flatten = l by simp]
            exact ra
      refine op_repT pins s σ H _ _ v u Q I rx ry ⟨p, k, xs, rfl, rfl, t.sq, ?_, k2, c.2.2.1, by omega, fun pn np => ?_⟩
      · intro e
        rw [e] at hl
        simp at hl
        omega
      · exact q m _ _ (.upd_new np) (sr.more np) (sr.tup np (rs.rep k.toNat))
    · cases e
  · exact p_mul pins s σ H _ _ v u Q I rx ry ⟨m, hh, _, _, z, h', sr, ra, rb, e, q⟩
theorem oo_mulT {l : List PV} {k : Int} {h : VH} {Q : PV → VH → Prop} : OO (oMulT (.tup l) (.int k) h) Q = ((0 < l.length ∧ 0 ≤ k ∧ k ≤ 1000 ∧ l.length ≤ 1000) ∧ Q (.tup (List.replicate k.toNat l).flatten) h) := oo_if
end D
namespace D
open PySem PySem.Spec PySem.W PyProof.Rows L2
theorem plain_intsD : ∀ ns : List Int, PyData.plainAll (ns.map PyData.int) = true
  | [] => rfl
  | n :: ns => by simp only [List.map_cons, PyData.plainAll, PyData.plain, plain_intsD ns, Bool.and_self]
/-- any of truths or of numbers -/
def gAnyE (l : List PV) : O PV := fun h => match blsP l with
  | some bs => some (.bl (bs.any id), h)
  | none => match intsP l with
    | some ns => some (.bl (ns.any fun i => i != 0), h)
    | none => none
theorem c_anyE {X : Cx} (hc : X.calm = true) : CallR X (.builtin "any") (rBI X.K gAnyE) := by
  intro pins s σ H xs us Q I rx ⟨m, h, l, z, h', a, ys, sr, e1, sq, rl, e, q⟩
  unfold gAnyE at e
  split at e
  · rename_i bs eb
    exact c_any hc pins s σ H xs us Q I rx ⟨m, h, l, z, h', a, ys, sr, e1, sq, rl, by unfold gAny; rw [eb]; exact e, q⟩
  · split at e
    · rename_i ns el
      cases e
      obtain ⟨its, rv, at_⟩ := seq_at I (sq.imp id TupAt.sq)
      have hy := intsP_rep el rl
      subst hy
      obtain ⟨as, r⟩ := Dp.readsAll I _ _ _ (dpInts ns) rv
      subst e1
      rw [Vals.ref1 rx]
      have ft : ∀ x ∈ ns.map PyData.int, x.fits63 := fun x hx => by
        obtain ⟨b, _, rfl⟩ := List.mem_map.mp hx
        trivial
      have fin : ∀ h' tk, (∀ b o, s.heap.get? b = some o → h'.get? b = some o) → EP X pins σ Q (.bool ((ns.map PyData.int).any PyData.truthy)) { s with heap := h', toks := tk } := by
        intro h' tk k
        refine ⟨.bl (ns.any fun i => i != 0), H, I.kept k, ?_, q m _ _ .refl sr rep_bl'⟩
        have : (ns.map PyData.int).any PyData.truthy = ns.any fun i => i != 0 := by
          rw [List.any_map]; rfl
        rw [this]; rfl
      rcases at_ with at_ | at_
      · exact any_list_data (I.ok.hd hc) at_ (by simpa using r) (plain_intsD ns) ft fin
      · exact any_tuple_data (I.ok.hd hc) at_ (by simpa using r) (plain_intsD ns) ft fin
    · cases e
theorem oo_gAnyB {ns : List Bool} {h : VH} {Q : PV → VH → Prop} : OO (gAnyE (bls ns) h) Q = Q (.bl (ns.any id)) h := by
  unfold gAnyE; rw [blsP_bls]; with_unfolding_all rfl
theorem blsP_ints {i : Int} {ns : List Int} : blsP (intL (i :: ns)) = none := rfl
theorem oo_gAnyI {ns : List Int} {h : VH} {Q : PV → VH → Prop} : OO (gAnyE (intL ns) h) Q = Q (.bl (ns.any fun i => i != 0)) h := by
  unfold gAnyE
  cases ns with
  | nil => with_unfolding_all rfl
  | cons i ns => rw [blsP_ints, intsP_ints]; with_unfolding_all rfl
end D

/-! layer D, part 20: chains of three comparisons -/
namespace L2
open PySem PySem.Spec PySem.W PyProof.Rows
section
variable {X : Cx} {a b c d : Expr} {ta tb tc td : TE} {pos : Pos}
def tChain3 (r r' r'' : R2) (ta tb tc td : TE) : TE := fun σ H Q => ta σ H fun x H1 => tb σ H1 fun y H2 => r x y H2 fun z H3 => ∃ k, z = .bl k ∧
  (if k = true then tc σ H3 fun w H4 => r' y w H4 fun z' H5 => ∃ k', z' = .bl k' ∧ (if k' = true then td σ H5 fun u H6 => r'' w u H6 Q else Q (.bl false) H5) else Q (.bl false) H3)
theorem pt_chain3 {op op' op'' : CmpOp} {r r' r'' : R2} (ho : OpR X (compareOp op) r) (ho' : OpR X (compareOp op') r') (ho'' : OpR X (compareOp op'') r'') (ha : PE X a ta) (hb : PE X b tb) (hc : PE X c tc) (hd : PE X d td)
    (hm : lastMarks [op, op', op''] [b, c, d] = false := by with_unfolding_all rfl) : PT X (.Compare a [op, op', op''] [b, c, d] pos) (tTest (tChain3 r r' r'' ta tb tc td)) := by
  refine ⟨fun pins s σ H Q I h => ?_⟩
  refine isTrue_chain (thn (ha.run pins s σ H _ I h) fun v s1 ⟨x, H1, I1, r1, q1⟩ => test_link (thn (hb.run pins s1 σ H1 _ I1 q1) fun u s2 ⟨y, H2, I2, r2, q2⟩ =>
    thn (ho pins s2 σ H2 x y v u _ I2 r1 r2 q2) fun d s3 ⟨z, H3, I3, r3, k, e, q3⟩ => ?_)) hm
  subst e
  cases r3
  refine wpAny_truthy_bool ?_
  cases k with
  | false =>
    obtain ⟨k', e', q'⟩ := q3
    cases e'
    exact ite_ff ⟨H3, I3, q'⟩
  | true =>
    refine ite_tt (test_link (thn (hc.run pins s3 σ H3 _ I3 q3) fun w' s4 ⟨z', H4, I4, r4, q4⟩ => thn (ho' pins s4 σ H4 y z' u w' _ I4 r2 r4 q4) fun d' s5 ⟨z2, H5, I5, r5, k2, e2, q5⟩ => ?_))
    subst e2
    cases r5
    refine wpAny_truthy_bool ?_
    cases k2 with
    | false =>
      obtain ⟨k', e', q'⟩ := q5
      cases e'
      exact ite_ff ⟨H5, I5, q'⟩
    | true =>
      refine ite_tt (test_last (thn (hd.run pins s5 σ H5 _ I5 q5) fun w'' s6 ⟨z3, H6, I6, r6, q6⟩ => thn (ho'' pins s6 σ H6 z' z3 w' w'' _ I6 r4 r6 q6) fun d'' s7 ⟨z4, H7, I7, r7, k3, e3, q7⟩ => ?_))
      subst e3
      cases r7
      exact wpAny_truthy_bool ⟨H7, I7, q7⟩
end
end L2
namespace D
open PySem PySem.Spec PySem.W PyProof.Rows L2
def dChain3 (g g' g'' : PV → PV → O PV) (a b c d : Sl → M PV) : Sl → M PV := fun v => bnd (a v) fun x => bnd (b v) fun y => bnd (liftO (g x y)) fun z => bnd (asB z) fun k =>
  if k = true then bnd (c v) fun w => bnd (liftO (g' y w)) fun z' => bnd (asB z') fun k' => if k' = true then bnd (d v) fun u => liftO (g'' w u) else ret (.bl false) else ret (.bl false)
section
variable {X : Cx} {W : WX} {a b c d : Expr} {da db dc dd : Sl → M PV} {pos : Pos}
theorem dt_chain3 {op op' op'' : CmpOp} {g g' g'' : PV → PV → O PV} (ho : OpR X (compareOp op) (rO2 X.K g)) (ho' : OpR X (compareOp op') (rO2 X.K g')) (ho'' : OpR X (compareOp op'') (rO2 X.K g'')) (ha : DE X W a da) (hb : DE X W b db) (hc : DE X W c dc) (hd : DE X W d dd)
    (hm : lastMarks [op, op', op''] [b, c, d] = false := by with_unfolding_all rfl) : DT X W (.Compare a [op, op', op''] [b, c, d] pos) (tVal (dChain3 g g' g'' da db dc dd)) :=
  weakT (pt_chain3 ho ho' ho'' ha hb hc hd hm) fun σ H Q ⟨m, v, h, sr, sl, p⟩ => by
    have p' := Post.seq p
    have fin : ∀ {m3 : List Addr} {H3 : Hp} {h3 : VH} {z : PV} {w : V}, SR X.K m3 h3 H3 → Post X.K W σ m3 H3 (asB z h3) (fun m' H' _ u => Q u H') → Rep X.K m3 H3 z w → ∃ k, w = V.bl k ∧ Q k H3 := fun {m3 H3 h3 z w} sr3 p3 rw_ => by
      obtain ⟨k, rfl, p4⟩ := asB_inv (f := ret) (by
        have : bnd (asB z) ret = asB z := by funext h; cases z <;> rfl
        rw [this]; exact p3)
      exact ⟨k, rep_bl rw_, p4 m3 H3 .refl sr3⟩
    refine seq2 ⟨m, v, h, sr, sl, _, p', fun m2 H2 h2 a b x y x2 sr2 sl2 ra rb p2 => ?_⟩
    refine rO2_of sr2 ra rb ((Post.seq p2).mono fun m3 H3 h3 z x3 sr3 p3 w rw_ => ?_)
    obtain ⟨k, rfl, p4⟩ := asB_inv p3
    refine ⟨k, rep_bl rw_, ?_⟩
    cases k with
    | false =>
      have p5 := p4 m3 H3 .refl sr3
      exact fin sr3 p5 rep_bl'
    | true =>
      refine ⟨m3, v, h3, sr3, sl2.ext x3, (Post.seq p4).mono fun m4 H4 h4 u x4 sr4 p5 w' rw' => ?_⟩
      refine rO2_of sr4 (rb.ext (x3.trans x4)) rw' ((Post.seq p5).mono fun m5 H5 h5 z' x5 sr5 p6 w2 r2 => ?_)
      obtain ⟨k', rfl, p7⟩ := asB_inv p6
      refine ⟨k', rep_bl r2, ?_⟩
      cases k' with
      | false => exact fin sr5 (p7 m5 H5 .refl sr5) rep_bl'
      | true =>
        refine ⟨m5, v, h5, sr5, ((sl2.ext x3).ext x4).ext x5, (Post.seq p7).mono fun m6 H6 h6 u6 x6 sr6 p8 w6 rw6 => ?_⟩
        exact rO2_of sr6 (rw'.ext (x5.trans x6)) rw6 (p8.mono fun m7 H7 h7 q x7 sr7 p9 w7 r7 => fin sr7 p9 r7)
end
section
variable {P : PV → VH → Prop} {h : VH} {v : Sl}
theorem ok_chain3 {g g' g'' : PV → PV → O PV} {a b c d : Sl → M PV} : OK (dChain3 g g' g'' a b c d v h) P = OK (a v h) fun x h1 => OK (b v h1) fun y h2 => OO (g x y h2) fun z h3 => Tr z fun k => if k = true then (OK (c v h3) fun w h4 => OO (g' y w h4) fun z' h5 => Tr z' fun k' => if k' = true then (OK (d v h5) fun u h6 => OO (g'' w u h6) P) else P (.bl false) h5) else P (.bl false) h3 := by
  unfold dChain3; simp only [ok_bnd, ok_asB, ok_lift]; congr 1; funext x h1; congr 1; funext y h2; congr 1; funext z h3; congr 1; funext k
  cases k
  · simp [ok_ret]
  · simp only [if_true, ok_bnd, ok_asB, ok_lift]; congr 1; funext w h4; congr 1; funext z' h5; congr 1; funext k'; cases k' <;> simp [ok_bnd, ok_lift, ok_ret]
end
end D

/-! layer D, part 21: list.index; comprehensions of two fors -/
namespace D
open PySem PySem.Spec PySem.W PyProof.Rows L2
/-! ### list.index -/
def mIndex (a : PV) (as : List PV) : O PV := fun h => match a, as with
  | .ref n, [y] => match h[n]? with
    | some (.lst l) => match dat h y, pdats (rdat h 4) l with
      | some d, some ds => if SeqAt.shaped d = true ∧ SeqAt.shaped (.list ds) = true then (match ds.findIdx? (fun z => PyData.eqv z d) with
        | some j => some (.int j, h)
        | none => none) else none
      | _, _ => none
    | _ => none
  | _, _ => none
theorem p_index {X : Cx} (hu : X.A.units + 65 < cLine) : MtR X "list.index" (rOM X.K mIndex) := by
  intro pins s σ H x xs v us Q I rx rs ⟨m, h, a, as, z, h', sr, ra, rbs, e, q⟩
  unfold mIndex at e
  split at e
  · rename_i n y
    split at e
    · rename_i l el
      split at e
      · rename_i d ds e1 e2
        split at e
        · rename_i c
          split at e
          · rename_i j ej
            cases e
            obtain ⟨p, rfl, hp⟩ := rep_ref ra
            obtain ⟨y', t, rfl, r1, r2⟩ := rbs.cons_inv
            have ht := r2.nil_inv
            subst ht
            obtain ⟨ys, ey, rys⟩ := rep_get sr el hp
            have dl : Dp X.K H (V.ref p) (.list ds) := .lst (.of ey) (pdats_dp (rdat_dp sr 4) _ ds ys e2 rys)
            obtain ⟨hj, hz, hno⟩ := List.findIdx?_eq_some_iff_getElem.mp ej
            refine mt_indexD hu pins s σ H _ _ v us Q I rx rs ⟨p, y', d, ds, j, ds[j], rfl, rfl, dl, dat_dp sr e1 r1, c.2, c.1, List.getElem?_eq_getElem hj, hz, fun m z' hm ez => ?_, q m H _ .refl sr rep_int'⟩
            have hml : m < ds.length := by omega
            rw [List.getElem?_eq_getElem hml] at ez
            cases ez
            have := hno m hm
            simpa using this
          · cases e
        · cases e
      · cases e
    · cases e
  · cases e

/-! ### two fors -/
def oPush (n : Nat) (y : PV) : M Unit := fun h => match h[n]? with
  | some (.lst l) => if l.length < 16777216 then .ok () (h.set n (.lst (l ++ [y]))) else .bad
  | _ => .bad
def oGrow : M Nat := fun h => .ok h.length (h ++ [.lst []])
def lc2B (n : Nat) (g1 : PV → Sl → M Sl) (t1 : Sl → M Bool) (e : Sl → M PV) (v : Sl) (x : PV) : M (List PV) :=
  bnd (g1 x v) fun v' => bnd (t1 v') fun k => if k = true then bnd (e v') fun y => bnd (oPush n y) fun _ => ret [] else ret []
def lc2In (n : Nat) (g : PV → Sl → M Sl) (t : Sl → M Bool) (it1 : Sl → M Its') (g1 : PV → Sl → M Sl) (t1 : Sl → M Bool) (e : Sl → M PV) (own1 : List Nat) (v : Sl) (x : PV) : M (List PV) :=
  bnd (g x v) fun v' => bnd (t v') fun k => if k = true then bnd (it1 v') fun i => lcF i.src (lc2B n g1 t1 e (wipeD v' own1)) i.items else ret []
def dLc2 (it : Sl → M Its') (g : PV → Sl → M Sl) (t : Sl → M Bool) (it1 : Sl → M Its') (g1 : PV → Sl → M Sl) (t1 : Sl → M Bool) (e : Sl → M PV) (own own1 : List Nat) : Sl → M PV := fun v => bnd (it v) fun i =>
  bnd oGrow fun n => bnd (lcF i.src (lc2In n g t it1 g1 t1 e own1 (wipeD v own)) i.items) fun _ => ret (.ref n)
theorem bnd_assoc {α β γ : Type} {a : M α} {f : α → M β} {g : β → M γ} : bnd (bnd a f) g = bnd a fun x => bnd (f x) g := by
  funext h
  unfold bnd
  cases a h <;> rfl
theorem bnd_ret {α β : Type} {x : α} {f : α → M β} : bnd (ret x) f = f x := rfl
theorem bnd_ite {α β : Type} {c : Prop} [Decidable c] {a b : M α} {f : α → M β} : bnd (if c then a else b) f = if c then bnd a f else bnd b f := by split <;> rfl
theorem lcF_cons {src : List (Nat × List PV)} {f : PV → M (List PV)} {x : PV} {xs : List PV} {β : Type} {c : M β} :
    bnd (lcF src f (x :: xs)) (fun _ => c) = bnd (chk src) fun _ => bnd (f x) fun _ => bnd (lcF src f xs) fun _ => c := by
  show bnd (bnd (chk src) _) _ = _
  simp only [bnd_assoc, bnd_ret]
theorem lcF_nil {src : List (Nat × List PV)} {f : PV → M (List PV)} {β : Type} {c : M β} :
    bnd (lcF src f []) (fun _ => c) = bnd (chk src) fun _ => c := by
  show bnd (bnd (chk src) _) _ = _
  simp only [bnd_assoc, bnd_ret]
theorem Post.push {K : PySem.W.Frag} {W : WX} {σ : L2.St} {m : List Addr} {H : Hp} {β : Type} {n : Nat} {y : PV} {f : Unit → M β} {h : VH} {Q : List Addr → Hp → VH → β → Prop} (p : Post K W σ m H (bnd (oPush n y) f h) Q) :
    ∃ l, h[n]? = some (.lst l) ∧ l.length < 16777216 ∧ Post K W σ m H (f () (h.set n (.lst (l ++ [y])))) Q := by
  unfold bnd oPush at p
  cases e : h[n]? with
  | none => rw [e] at p; exact p.elim
  | some o =>
    rw [e] at p
    cases o with
    | lst l =>
      simp only at p
      by_cases c : l.length < 16777216
      · rw [if_pos c] at p; exact ⟨l, rfl, c, p⟩
      · rw [if_neg c] at p; exact p.elim
    | dT l => exact p.elim
    | ins C l => exact p.elim
    | xd D l => exact p.elim
    | dK l => exact p.elim
theorem lc2_read {K : PySem.W.Frag} {di di1 : Sl → M Its'} {dg dg1 : PV → Sl → M Sl} {dt dt1 : Sl → M Bool} {de : Sl → M PV} {own own1 is is1 : List Nat} {σ : L2.St} {H : Hp} {Q : VK} (his : ∀ i ∈ is, i ∈ own) (his1 : ∀ i ∈ is1, i ∈ own1)
    (h : TD K F0 (dLc2 di dg dt di1 dg1 dt1 de own own1) σ H Q) : tLc2 (TDI K F0 di) (TDG K F0 dg is) (TDT K F0 dt) (TDI K F0 di1) (TDG K F0 dg1 is1) (TDT K F0 dt1) (TD K F0 de) own own1 σ H Q := by
  obtain ⟨m, v, h, sr, sl, p⟩ := h
  refine ⟨m, v, h, sr, sl, (Post.via p .refl).mono fun m1 H1 h1 it x1 sr1 ⟨_, p1⟩ J hJ D hD => ?_⟩
  let n := h1.length
  let body := lc2In n dg dt di1 dg1 dt1 de own1 (wipeD v own)
  let Qf : List Addr → Hp → VH → PV → Prop := fun m' H' _ u => ∀ x, Rep K m' H' u x → Q x H'
  let rest (i : Nat) : M PV := bnd (lcF it.src body (it.items.drop i)) fun _ => ret (.ref n)
  have p1' : Post K F0 σ m H (rest 0 (h1 ++ [.lst []])) Qf := p1
  let Inv (i k : Nat) (H5 : Hp) : Prop := k = it.items.length - i ∧ i ≤ it.items.length ∧ ∃ m5 h5, Ext m H m5 H5 ∧ Ext m1 H1 m5 H5 ∧ SR K m5 h5 H5 ∧ m5[n]? = some D ∧ Post K F0 σ m H (rest i h5) Qf
  have a1 : Ext m1 H1 (m1 ++ [D]) (upd H1 D (.lst [])) := .upd_add hD
  have gD : (m1 ++ [D])[n]? = some D := by
    show (m1 ++ [D])[h1.length]? = some D
    rw [← sr1.len, List.getElem?_append_right (Nat.le_refl _)]; simp
  refine ⟨Inv, ⟨it.items.length, by simp, Nat.zero_le _, m1 ++ [D], h1 ++ [.lst []], x1.trans a1, a1, sr1.addLst hD Reps.nil, gD, p1'⟩, ?_⟩
  rintro i k H5 ⟨rfl, hi, m5, h5, x5, y5, sr5, nD5, p6⟩
  by_cases hlt : i < it.items.length
  · have hdrop : it.items.drop i = it.items[i] :: it.items.drop (i + 1) := List.drop_eq_getElem_cons hlt
    have reass : rest i = bnd (chk it.src) fun _ => bnd (dg it.items[i] (wipeD v own)) fun v' => bnd (dt v') fun k => if k = true then
        bnd (di1 v') fun i1 => bnd (lcF i1.src (lc2B n dg1 dt1 de (wipeD v' own1)) i1.items) fun _ => rest (i + 1) else rest (i + 1) := by
      show bnd (lcF it.src body (it.items.drop i)) (fun _ => ret (PV.ref n)) = _
      rw [hdrop, lcF_cons]
      congr 1; funext _
      show bnd (lc2In n dg dt di1 dg1 dt1 de own1 (wipeD v own) it.items[i]) _ = _
      unfold lc2In
      simp only [bnd_assoc, bnd_ite, bnd_ret]
      rfl
    rw [reass] at p6
    obtain ⟨hs, p7⟩ := Post.chk p6
    obtain ⟨hgo, _⟩ := hJ i m5 h5 _ y5 sr5 hs
    obtain ⟨go, yl⟩ := hgo hlt
    refine .inr ⟨go, fun H' => ∃ k', k' < it.items.length - i ∧ Inv (i + 1) k' H', fun H' h => h, fun x H7 hy => ?_⟩
    obtain ⟨u, eu, ru, x7, sr7⟩ := yl x H7 hy
    rw [List.getElem?_eq_getElem hlt] at eu
    cases eu
    have slw : SlD K m5 H7 (wipeD v own) (L2.wipe σ own) := ((sl.ext x5).wipe own).ext x7
    refine ⟨m5, wipeD v own, h5, it.items[i], sr7, slw, ru, (Post.via p7 (x5.trans x7)).mono fun m8 H8 h8 v8 x8 sr8 ⟨y8, p8⟩ σ8 sl8 w8 => ⟨(w8 own his).trans wipe_wipe, ?_⟩⟩
    refine ⟨m8, v8, h8, sr8, sl8, (Post.via p8 y8).mono fun m9 H9 h9 b x9 sr9 ⟨y9, p9⟩ => ?_⟩
    have nD9 : m9[n]? = some D := x9.get (x8.get nD5)
    have yy9 : Ext m1 H1 m9 H9 := ((y5.trans x7).trans x8).trans x9
    cases b with
    | false =>
      simp only [Bool.false_eq_true, if_false] at p9 ⊢
      exact ⟨it.items.length - (i + 1), by omega, rfl, hlt, m9, h9, y9, yy9, sr9, nD9, p9⟩
    | true =>
      simp only [if_true] at p9 ⊢
      refine ⟨m9, v8, h9, sr9, sl8.ext x9, (Post.via p9 y9).mono fun m10 H10 h10 it1 x10 sr10 ⟨y10, p10⟩ J1 hJ1 => ?_⟩
      have sl10 : SlD K m10 H10 v8 σ8 := (sl8.ext x9).ext x10
      let body1 := lc2B n dg1 dt1 de (wipeD v8 own1)
      let rest1 (j : Nat) : M PV := bnd (lcF it1.src body1 (it1.items.drop j)) fun _ => rest (i + 1)
      let Inv1 (j k : Nat) (H6 : Hp) : Prop := k = it1.items.length - j ∧ j ≤ it1.items.length ∧ ∃ m6 h6, Ext m H m6 H6 ∧ Ext m1 H1 m6 H6 ∧ Ext m10 H10 m6 H6 ∧ SR K m6 h6 H6 ∧ m6[n]? = some D ∧ Post K F0 σ m H (rest1 j h6) Qf
      refine ⟨Inv1, ⟨it1.items.length, by simp, Nat.zero_le _, m10, h10, y10, yy9.trans x10, .refl, sr10, x10.get nD9, p10⟩, ?_⟩
      rintro j k H11 ⟨rfl, hj, m11, h11, x11, y11, z11, sr11, nD11, p11⟩
      by_cases hjl : j < it1.items.length
      · have hdrop1 : it1.items.drop j = it1.items[j] :: it1.items.drop (j + 1) := List.drop_eq_getElem_cons hjl
        have reass1 : rest1 j = bnd (chk it1.src) fun _ => bnd (dg1 it1.items[j] (wipeD v8 own1)) fun v' => bnd (dt1 v') fun k => if k = true then bnd (de v') fun y => bnd (oPush n y) fun _ => rest1 (j + 1) else rest1 (j + 1) := by
          show bnd (lcF it1.src body1 (it1.items.drop j)) (fun _ => rest (i + 1)) = _
          rw [hdrop1, lcF_cons]
          congr 1; funext _
          show bnd (lc2B n dg1 dt1 de (wipeD v8 own1) it1.items[j]) _ = _
          unfold lc2B
          simp only [bnd_assoc, bnd_ite, bnd_ret]
          rfl
        rw [reass1] at p11
        obtain ⟨hs1, p12⟩ := Post.chk p11
        obtain ⟨hgo1, _⟩ := hJ1 j m11 h11 _ z11 sr11 hs1
        obtain ⟨go1, yl1⟩ := hgo1 hjl
        refine .inr ⟨go1, fun H' => ∃ k', k' < it1.items.length - j ∧ Inv1 (j + 1) k' H', fun H' h => h, fun x' H12 hy1 => ?_⟩
        obtain ⟨u1, eu1, ru1, x12, sr12⟩ := yl1 x' H12 hy1
        rw [List.getElem?_eq_getElem hjl] at eu1
        cases eu1
        have slw1 : SlD K m11 H12 (wipeD v8 own1) (L2.wipe σ8 own1) := ((sl10.ext z11).wipe own1).ext x12
        refine ⟨m11, wipeD v8 own1, h11, it1.items[j], sr12, slw1, ru1, (Post.via p12 (x11.trans x12)).mono fun m13 H13 h13 v13 x13 sr13 ⟨y13, p13⟩ σ13 sl13 w13 => ⟨(w13 own1 his1).trans wipe_wipe, ?_⟩⟩
        refine ⟨m13, v13, h13, sr13, sl13, (Post.via p13 y13).mono fun m14 H14 h14 b1 x14 sr14 ⟨y14, p14⟩ => ?_⟩
        have nD14 : m14[n]? = some D := x14.get (x13.get nD11)
        have yy14 : Ext m1 H1 m14 H14 := ((y11.trans x12).trans x13).trans x14
        have zz14 : Ext m10 H10 m14 H14 := ((z11.trans x12).trans x13).trans x14
        cases b1 with
        | false =>
          simp only [Bool.false_eq_true, if_false] at p14 ⊢
          exact ⟨it1.items.length - (j + 1), by omega, rfl, hjl, m14, h14, y14, yy14, zz14, sr14, nD14, p14⟩
        | true =>
          simp only [if_true] at p14 ⊢
          refine ⟨m14, v13, h14, sr14, sl13.ext x14, (Post.via p14 y14).mono fun m15 H15 h15 y x15 sr15 ⟨y15, p15⟩ z rz => ?_⟩
          have n15 := x15.get nD14
          obtain ⟨l, el, hl, p16⟩ := Post.push p15
          obtain ⟨ys, ey, rys⟩ := rep_get sr15 el n15
          have u15 : Ext m15 H15 m15 (upd H15 D (.lst (ys ++ [z]))) := .upd_set (List.mem_of_getElem? n15)
          have hz : ys.length < sizeLine := by
            have := rys.len
            rw [sizeLine_eq]
            omega
          exact ⟨ys, ey, hz, it1.items.length - (j + 1), by omega, rfl, hjl, m15, _, y15.trans u15, (yy14.trans x15).trans u15, (zz14.trans x15).trans u15, sr15.putLst n15 (rys.append (Reps.cons rz Reps.nil)), n15, p16⟩
      · have e : j = it1.items.length := by omega
        subst e
        have p11' : Post K F0 σ m H (bnd (chk it1.src) (fun _ => rest (i + 1)) h11) Qf := by
          have : rest1 it1.items.length = bnd (chk it1.src) (fun _ => rest (i + 1)) := by
            show bnd (lcF it1.src body1 (it1.items.drop it1.items.length)) _ = _
            rw [List.drop_length, lcF_nil]
          rw [← this]; exact p11
        obtain ⟨hs1, p12⟩ := Post.chk p11'
        obtain ⟨_, hst1⟩ := hJ1 it1.items.length m11 h11 _ z11 sr11 hs1
        exact .inl ⟨hst1 rfl, it.items.length - (i + 1), by omega, rfl, hlt, m11, h11, x11, y11, sr11, nD11, p12⟩
  · have e : i = it.items.length := by omega
    subst e
    have p6' : Post K F0 σ m H (bnd (chk it.src) (fun _ => ret (PV.ref n)) h5) Qf := by
      have : rest it.items.length = bnd (chk it.src) (fun _ => ret (PV.ref n)) := by
        show bnd (lcF it.src body (it.items.drop it.items.length)) _ = _
        rw [List.drop_length, lcF_nil]
      rw [← this]; exact p6
    obtain ⟨hs, p7⟩ := Post.chk p6'
    obtain ⟨_, hst⟩ := hJ it.items.length m5 h5 _ y5 sr5 hs
    exact .inl ⟨hst rfl, p7 m5 H5 x5 sr5 _ (rep_ref' nD5)⟩

def dLc2x (it : Sl → M Its') (g : PV → Sl → M Sl) (t : Sl → M Bool) (it1 : Sl → M Its') (g1 : PV → Sl → M Sl) (t1 : Sl → M Bool) (e : Sl → M PV) (own own1 : List Nat) : Sl → M PV := fun v => noex (dLc2 it g t it1 g1 t1 e own own1 v)
theorem noex_readE {K : PySem.W.Frag} {W : WX} {d : Sl → M PV} {σ : L2.St} {H : Hp} {Q : VK} (h : TD K W (fun v => noex (d v)) σ H Q) : TD K F0 d σ H Q := by
  obtain ⟨m, v, h, sr, sl, p⟩ := h
  refine ⟨m, v, h, sr, sl, ?_⟩
  change Post K W σ m H (noex (d v) h) _ at p
  unfold noex at p
  cases e : d v h with
  | ok u h1 => rw [e] at p; exact p
  | ex u h1 => rw [e] at p; exact p.elim
  | bad => rw [e] at p; exact p.elim
section
variable {X : Cx} {W : WX} {elt tg iter tg1 iter1 : Expr} {ifs ifs1 : List Expr} {scope : Scope} {pos : Pos} {di di1 : Sl → M Its'} {dg dg1 : PV → Sl → M Sl} {dt dt1 : Sl → M Bool} {dee : Sl → M PV} {is is1 : List Nat}
theorem de_lc2 (own : List (Str × Nat)) (own1 : List Nat) (hc : X.calm = true) (hN : X.N.Nodup) (hi : DI X F0 tg iter di)
    (hg : ∀ (s : Shared) (H : Hp) (C : Addr) (cl : List (Str × Addr)) (fp : List Addr), DG (X.blk s H scope (compEnvC scope cl C X.env) fp) F0 tg dg is)
    (ht : ∀ (s : Shared) (H : Hp) (C : Addr) (cl : List (Str × Addr)) (fp : List Addr), DTs (X.blk s H scope (compEnvC scope cl C X.env) fp) F0 ifs dt)
    (hi1 : ∀ (s : Shared) (H : Hp) (C : Addr) (cl : List (Str × Addr)) (fp : List Addr), DI (X.blk s H scope (compEnvC scope cl C X.env) fp) F0 tg1 iter1 di1)
    (hg1 : ∀ (s : Shared) (H : Hp) (C : Addr) (cl : List (Str × Addr)) (fp : List Addr), DG (X.blk s H scope (compEnvC scope cl C X.env) fp) F0 tg1 dg1 is1)
    (ht1 : ∀ (s : Shared) (H : Hp) (C : Addr) (cl : List (Str × Addr)) (fp : List Addr), DTs (X.blk s H scope (compEnvC scope cl C X.env) fp) F0 ifs1 dt1)
    (he : ∀ (s : Shared) (H : Hp) (C : Addr) (cl : List (Str × Addr)) (fp : List Addr), DE (X.blk s H scope (compEnvC scope cl C X.env) fp) F0 elt dee)
    (ok : blkC X.N X.env.scope scope own = true := by decide +kernel) (his : ∀ i ∈ is, i ∈ own.map (·.2) := by decide) (his1 : ∀ i ∈ is1, i ∈ own1 := by decide) (hv : ∀ i ∈ own1, i ∈ own.map (·.2) := by decide)
    (hs : ∀ x, foldedSetIterable iter X.env x = pure x := by intro _; rfl) (hs1 : ∀ env x, foldedSetIterable iter1 env x = pure x := by intro _ _; rfl) :
    DE X W (.ListComp elt [⟨tg, iter, ifs, 0⟩, ⟨tg1, iter1, ifs1, 0⟩] scope pos) (dLc2x di dg dt di1 dg1 dt1 dee (own.map (·.2)) own1) :=
  weakE (pe_lc2 hc hN hi (blkOk_by ok) hv hg ht hi1 hg1 ht1 he hs hs1) fun σ H Q q => lc2_read his his1 (noex_readE q)
/-- name = [.. for .. for ..] -/
theorem ds_setLc2 (i : Nat) (own : List (Str × Nat)) (own1 : List Nat) {y : Str} {py spos : Pos} (hc : X.calm = true) (hN : X.N.Nodup) (hi : DI X F0 tg iter di)
    (hg : ∀ (s : Shared) (H : Hp) (C : Addr) (cl : List (Str × Addr)) (fp : List Addr), DG (X.blk s H scope (compEnvC scope cl C X.env) fp) F0 tg dg is)
    (ht : ∀ (s : Shared) (H : Hp) (C : Addr) (cl : List (Str × Addr)) (fp : List Addr), DTs (X.blk s H scope (compEnvC scope cl C X.env) fp) F0 ifs dt)
    (hi1 : ∀ (s : Shared) (H : Hp) (C : Addr) (cl : List (Str × Addr)) (fp : List Addr), DI (X.blk s H scope (compEnvC scope cl C X.env) fp) F0 tg1 iter1 di1)
    (hg1 : ∀ (s : Shared) (H : Hp) (C : Addr) (cl : List (Str × Addr)) (fp : List Addr), DG (X.blk s H scope (compEnvC scope cl C X.env) fp) F0 tg1 dg1 is1)
    (ht1 : ∀ (s : Shared) (H : Hp) (C : Addr) (cl : List (Str × Addr)) (fp : List Addr), DTs (X.blk s H scope (compEnvC scope cl C X.env) fp) F0 ifs1 dt1)
    (he : ∀ (s : Shared) (H : Hp) (C : Addr) (cl : List (Str × Addr)) (fp : List Addr), DE (X.blk s H scope (compEnvC scope cl C X.env) fp) F0 elt dee)
    (hy : X.N[i]? = some y := by rfl) (hyl : X.env.scope.names.lookup y = some .local := by rfl) (hsw : swapsWith (.ListComp elt [⟨tg, iter, ifs, 0⟩, ⟨tg1, iter1, ifs1, 0⟩] scope pos) (some (.Name y py)) spos.line X.env = pure true := by exact sw_true rfl rfl rfl (by decide +kernel))
    (ok : blkC X.N X.env.scope scope own = true := by decide +kernel) (his : ∀ i ∈ is, i ∈ own.map (·.2) := by decide) (his1 : ∀ i ∈ is1, i ∈ own1 := by decide) (hv : ∀ i ∈ own1, i ∈ own.map (·.2) := by decide)
    (hs : ∀ x, foldedSetIterable iter X.env x = pure x := by intro _; rfl) (hs1 : ∀ env x, foldedSetIterable iter1 env x = pure x := by intro _ _; rfl) :
    DS X W (.Assign [.Name y py] (.ListComp elt [⟨tg, iter, ifs, 0⟩, ⟨tg1, iter1, ifs1, 0⟩] scope pos) spos) (sAsg (dLc2x di dg dt di1 dg1 dt1 dee (own.map (·.2)) own1) (dgName i)) :=
  weakS (ps_setLc2 hc hN hy hyl hsw hi (blkOk_by ok) hv hg ht hi1 hg1 ht1 he hs hs1) fun D σ H q => lc2_read his his1 (noex_readE (name_read q))
end
section
variable {P : PV → VH → Prop} {h : VH} {v : Sl}
theorem ok_lc2 {it it1 : Sl → M Its'} {g g1 : PV → Sl → M Sl} {t t1 : Sl → M Bool} {e : Sl → M PV} {own own1 : List Nat} :
    OK (dLc2x it g t it1 g1 t1 e own own1 v h) P = OK (it v h) fun i h1 => OK (lcF i.src (lc2In h1.length g t it1 g1 t1 e own1 (wipeD v own)) i.items (h1 ++ [.lst []])) fun _ h2 => P (.ref h1.length) h2 := by
  unfold dLc2x dLc2; simp only [ok_noex, ok_bnd]; congr 1; funext i h1
  simp only [ok_ret]
  with_unfolding_all rfl
theorem ok_push {n : Nat} {y : PV} {Q : Unit → VH → Prop} : OK (oPush n y h) Q = Lo h[n]? fun l => l.length < 16777216 ∧ Q () (h.set n (.lst (l ++ [y]))) := by
  unfold oPush
  generalize h[n]? = o
  cases o with
  | none => with_unfolding_all rfl
  | some o =>
    cases o with
    | lst l =>
      simp only
      by_cases c : l.length < 16777216
      · rw [if_pos c, lo_lst, ok_ok]; simp only [c, true_and]
      · rw [if_neg c, lo_lst, ok_bad]; simp only [c, false_and]
    | dT l => with_unfolding_all rfl
    | ins C l => with_unfolding_all rfl
    | xd D l => with_unfolding_all rfl
    | dK l => with_unfolding_all rfl
/-- each item pushes what F says -/
theorem ok_pushes {src : List (Nat × List PV)} {f : PV → M (List PV)} {F : PV → List PV} {h1 : VH} {B : Nat} (hs : ∀ acc, srcOk (h1 ++ [.lst acc]) src = true) : ∀ {items : List PV} {acc : List PV} {Q : List PV → VH → Prop},
    (∀ x ∈ items, ∀ acc, (acc ++ F x).length ≤ B → OK (f x (h1 ++ [.lst acc])) fun _ h' => h' = h1 ++ [.lst (acc ++ F x)]) → (acc ++ items.flatMap F).length ≤ B → (∀ l, Q l (h1 ++ [.lst (acc ++ items.flatMap F)])) → OK (lcF src f items (h1 ++ [.lst acc])) Q
  | [], acc, Q, _, _, q => by
    unfold lcF chk
    simp only [ok_bnd]
    rw [if_pos (hs acc), ok_ok, ok_ret]
    simpa using q []
  | x :: xs, acc, Q, st, hB, q => by
    unfold lcF chk
    simp only [ok_bnd]
    rw [if_pos (hs acc), ok_ok]
    refine OK.mono (st x List.mem_cons_self acc (by simp only [List.flatMap_cons, List.length_append] at hB ⊢; omega)) fun o h' e => ?_
    subst e
    refine ok_pushes hs (acc := acc ++ F x) (fun y hy => st y (List.mem_cons_of_mem _ hy)) (by simpa [List.flatMap_cons, List.append_assoc] using hB) fun l => ?_
    rw [ok_ret]
    have := q (o ++ l)
    simpa [List.flatMap_cons, List.append_assoc] using this
end
end D

/-! layer D, part 22: chains of three as values; list.count -/
namespace L2
open PySem PySem.Spec PySem.W PyProof.Rows
section
variable {X : Cx} {a b c d : Expr} {ta tb tc td : TE} {pos : Pos}
def tChain3v (r r' r'' : R2) (ta tb tc td : TE) : TE := fun σ H Q => ta σ H fun x H1 => tb σ H1 fun y H2 => r x y H2 fun z H3 => ∃ k, z = .bl k ∧
  (if k = true then tc σ H3 fun w H4 => r' y w H4 fun z' H5 => ∃ k', z' = .bl k' ∧ (if k' = true then td σ H5 fun u H6 => r'' w u H6 Q else Q (.bl false) H5) else Q (.bl false) H3)
theorem pe_chain3 {op op' op'' : CmpOp} {r r' r'' : R2} (ho : OpR X (compareOp op) r) (ho' : OpR X (compareOp op') r') (ho'' : OpR X (compareOp op'') r'') (ha : PE X a ta) (hb : PE X b tb) (hc : PE X c tc) (hd : PE X d td)
    (hm : lastMarks [op, op', op''] [b, c, d] = false := by with_unfolding_all rfl) : PE X (.Compare a [op, op', op''] [b, c, d] pos) (tChain3v r r' r'' ta tb tc td) := by
  refine ⟨fun pins s σ H Q I h => ?_⟩
  refine Compare_chain (thn (ha.run pins s σ H _ I h) fun v s1 ⟨x, H1, I1, r1, q1⟩ => chain_link (thn (hb.run pins s1 σ H1 _ I1 q1) fun u s2 ⟨y, H2, I2, r2, q2⟩ =>
    thn (ho pins s2 σ H2 x y v u _ I2 r1 r2 q2) fun d s3 ⟨z, H3, I3, r3, k, e, q3⟩ => ?_)) hm
  subst e
  cases r3
  refine wpAny_truthy_bool ?_
  cases k with
  | false => exact ite_ff ⟨.bl false, H3, I3, rfl, q3⟩
  | true =>
    refine ite_tt (chain_link (thn (hc.run pins s3 σ H3 _ I3 q3) fun w' s4 ⟨z', H4, I4, r4, q4⟩ => thn (ho' pins s4 σ H4 y z' u w' _ I4 r2 r4 q4) fun d' s5 ⟨z2, H5, I5, r5, k2, e2, q5⟩ => ?_))
    subst e2
    cases r5
    refine wpAny_truthy_bool ?_
    cases k2 with
    | false => exact ite_ff ⟨.bl false, H5, I5, rfl, q5⟩
    | true => exact ite_tt (chain_last (thn (hd.run pins s5 σ H5 _ I5 q5) fun w'' s6 ⟨z3, H6, I6, r6, q6⟩ => ho'' pins s6 σ H6 z' z3 w' w'' Q I6 r4 r6 q6))
end
end L2
namespace D
open PySem PySem.Spec PySem.W PyProof.Rows L2
section
variable {X : Cx} {W : WX} {a b c d : Expr} {da db dc dd : Sl → M PV} {pos : Pos}
theorem de_chain3 {op op' op'' : CmpOp} {g g' g'' : PV → PV → O PV} (ho : OpR X (compareOp op) (rO2 X.K g)) (ho' : OpR X (compareOp op') (rO2 X.K g')) (ho'' : OpR X (compareOp op'') (rO2 X.K g'')) (ha : DE X W a da) (hb : DE X W b db) (hc : DE X W c dc) (hd : DE X W d dd)
    (hm : lastMarks [op, op', op''] [b, c, d] = false := by with_unfolding_all rfl) : DE X W (.Compare a [op, op', op''] [b, c, d] pos) (dChain3 g g' g'' da db dc dd) :=
  weakE (pe_chain3 ho ho' ho'' ha hb hc hd hm) fun σ H Q ⟨m, v, h, sr, sl, p⟩ => seq2 ⟨m, v, h, sr, sl, _, p, fun m2 H2 h2 a b x y x2 sr2 sl2 ra rb p2 => by
    refine rO2_of sr2 ra rb ((Post.seq p2).mono fun m3 H3 h3 z x3 sr3 p3 w rw_ => ?_)
    obtain ⟨k, rfl, p4⟩ := asB_inv p3
    refine ⟨k, rep_bl rw_, ?_⟩
    cases k with
    | false => exact p4 m3 H3 .refl sr3 _ rep_bl'
    | true =>
      refine ⟨m3, v, h3, sr3, sl2.ext x3, (Post.seq p4).mono fun m4 H4 h4 u x4 sr4 p5 w' rw' => ?_⟩
      refine rO2_of sr4 (rb.ext (x3.trans x4)) rw' ((Post.seq p5).mono fun m5 H5 h5 z' x5 sr5 p6 w2 r2 => ?_)
      obtain ⟨k', rfl, p7⟩ := asB_inv p6
      refine ⟨k', rep_bl r2, ?_⟩
      cases k' with
      | false => exact p7 m5 H5 .refl sr5 _ rep_bl'
      | true =>
        refine ⟨m5, v, h5, sr5, ((sl2.ext x3).ext x4).ext x5, (Post.seq p7).mono fun m6 H6 h6 u6 x6 sr6 p8 w6 rw6 => ?_⟩
        exact rO2_of sr6 (rw'.ext (x5.trans x6)) rw6 p8⟩
end
/-! ### list.count -/
def mCount (a : PV) (as : List PV) : O PV := fun h => match a, as with
  | .ref n, [y] => match h[n]? with
    | some (.lst l) => match dat h y, pdats (rdat h 4) l with
      | some d, some ds => if PyData.plainAll ds = true ∧ d.plain = true ∧ d.depth ≤ 60 then some (.int (ds.countP fun z => PyData.eqv z d : Nat), h) else none
      | _, _ => none
    | _ => none
  | _, _ => none
theorem p_count {X : Cx} (hu : X.A.units + 65 < cLine) : MtR X "list.count" (rOM X.K mCount) := by
  intro pins s σ H x xs v us Q I rx rs ⟨m, h, a, as, z, h', sr, ra, rbs, e, q⟩
  unfold mCount at e
  split at e
  · rename_i n y
    split at e
    · rename_i l el
      split at e
      · rename_i d ds e1 e2
        split at e
        · rename_i c
          cases e
          obtain ⟨p, rfl, hp⟩ := rep_ref ra
          obtain ⟨y', t, rfl, r1, r2⟩ := rbs.cons_inv
          have ht := r2.nil_inv
          subst ht
          cases rx
          cases rs with
          | cons ry rt =>
            rename_i uy ut
            cases rt
            obtain ⟨ys, ey, rys⟩ := rep_get sr el hp
            obtain ⟨bs, r1'⟩ := Dp.reads I d y' uy (dat_dp sr e1 r1) ry
            have hsq : SqL X.K H p ys := .of ey
            obtain ⟨its, rv, ⟨o, n', ho, hc, hdn, hdt⟩, hlen⟩ := I.list hsq
            obtain ⟨as', h4⟩ := Dp.readsAll I ds _ its (pdats_dp (rdat_dp sr 4) _ ds ys e2 rys) rv
            exact PySem.SeqAt.count_list_data (vs := its.toArray) (A := X.A) ⟨o, ho, hc, n', hdt⟩ (show ReadsAll s.heap its.toArray.toList ds as' from h4) r1' c.1 c.2.1 (by have := Nat.min_le_right (PyData.depthAll ds) d.depth; omega)
              ⟨.int (ds.countP fun z => PyData.eqv z d : Nat), H, I.tok _, ⟨_, rfl⟩, q m H _ .refl sr rep_int'⟩
        · cases e
      · cases e
    · cases e
  · cases e
end D

/-! layer D, part 23: a statement that is never reached -/
namespace D
open PySem PySem.Spec PySem.W PyProof.Rows L2
def sBad : SD := fun _ _ => .bad
theorem ds_bad {X : Cx} {W : WX} {s : Stmt} : DS X W s sBad := ⟨fun _ _ _ _ _ _ ⟨_, _, _, _, _, p⟩ => p.elim⟩
theorem fo_sbad {v : Sl} {h : VH} {E : En} : FO (sBad v h) E = False := by unfold sBad; exact fo_bad
end D

/-! layer D, part 24: sorted of a tuple of whole numbers -/
namespace D
open PySem PySem.Spec PySem.W PyProof.Rows L2
def oSortS : List PV → O PV := fun as => match as with
  | [.tup l] => fun h => match intsP l with
    | some ns => if ns.length ≤ 10000 then some (.ref h.length, h ++ [.lst (intL (srtI ns))]) else none
    | none => none
  | as => oBL gSortE as
theorem each_ints {R : Value → Int → Prop} (hr : ∀ n t, R (.int n t) n) : ∀ {us : List Value} {ns : List Int}, IntsAre us ns → EachIs R us ns
  | _, _, .nil => .nil
  | _, _, .cons n t r => .cons (hr n t) (each_ints hr r)
theorem ints_each : ∀ {us : List Value} {ns : List Int}, EachIs (fun v n => ∃ t, v = Value.int n t) us ns → IntsAre us ns
  | _, _, .nil => .nil
  | _, _, .cons h r => by
    obtain ⟨t, rfl⟩ := h
    exact .cons _ t (ints_each r)
theorem c_sortedS {X : Cx} (hu : X.A.units + 65 < cLine) : CallR X (.builtin "sorted") (rOL X.K oSortS) := by
  intro pins s σ H xs us Q I rx ⟨m, hh, as, z, h', sr, rs, e, q⟩
  unfold oSortS at e
  split at e
  rotate_left
  · exact bl_of (c_sortedE hu) pins s σ H xs us Q I rx ⟨m, hh, _, z, h', sr, rs, e, q⟩
  rename_i l
  split at e
  rotate_left
  · cases e
  rename_i ns ens
  split at e
  rotate_left
  · cases e
  rename_i hlen
  cases e
  obtain ⟨x, tl, rfl, r1, r2⟩ := rs.cons_inv
  rw [r2.nil_inv] at rx
  obtain ⟨a, ys, rfl, ta, rl⟩ := rep_tup r1
  rw [intsP_inv ens] at rl
  have ey := reps_ints_inv rl
  subst ey
  obtain ⟨its, rv, ⟨o, ho, hcl, n, hd⟩, hz⟩ := I.tuple ta.sq
  have hi : IntsAre its ns := Vals.ints rv
  rw [Vals.ref1 rx]
  have ee := each_ints (R := fun v n => ∃ t, v = Value.int n t) (fun n t => ⟨t, rfl⟩) hi
  have lb : its.length = ns.length := ee.length
  have lz : its.length ≤ sizeLine := by rw [lb, sizeLine_eq]; omega
  -- the items come to a new list, which is sorted in its place
  refine Calls.call_function_entry kind_sorted plain_sorted entry_sorted (args_sorted1 _) ?_
  show wpAny _ _ (checkCount "sorted" 1 1 _ >>= _) _ _ _
  refine wpAny_bind (wpAny_pure (wpAny_bind (wpAny_collect_seq (A := X.A.in1) a (.inr rfl) ho hcl hd (fun h1 kp => ?_) (by simpa using lz))))
  have I1 : Inv X pins σ H { s with heap := h1 } := I.kept (t' := s.toks) kp
  refine wpAny_bind (wpAny_newList ?_ (by simpa using lz))
  have oL : (h1.push (seqObj "list" its.toArray 0)).get? h1.objs.size = some (seqObj "list" its.toArray 0) := Heap.get?_push_size _ rfl
  have rd : EachIs (fun v b => ∃ as, Reads (h1.push (seqObj "list" its.toArray 0)) v (PyData.int b) as ∧ h1.objs.size ∉ as) its ns := each_ints (fun n t => ⟨[], .int n t, by simp⟩) hi
  have al : AllAlike (ns.map PyData.int) := AllAlike.of (enc := PyData.int) fun b b' => by simp [alike]
  have so : PySem.W.Sortable (ns.map PyData.int) := by
    have := sortOk_intL (ns := ns) hlen
    exact (sortOk_ok this).2.1
  refine wpAny_bind (wpAny_holding (list_sort_data (β := Int) (enc := PyData.int) (R := fun v n => ∃ t, v = Value.int n t) (bs := ns) (s := { s with heap := h1.push (seqObj "list" its.toArray 0) }) oL ee rd al so (by rw [← lb]; exact lz) (fun b hb => by simp only [PyData.depth, Around.in1_units]; omega) fun out lo eo => ?_))
  have ho2 := ints_each eo
  rw [show (ns.mergeSort (dataLe false PyData.int)) = srtI ns by unfold srtI; rw [show dataLe false PyData.int = fun p q => decide (p ≤ q) from dataLe_int (β := Int) id]] at ho2
  obtain ⟨c, hcc⟩ := sortedHeap_at (vs := its) (out := out.toArray) oL
  have keep2 : ∀ b u, h1.get? b = some u → (sortedHeap (h1.push (seqObj "list" its.toArray 0)) h1.objs.size its out.toArray).get? b = some u := fun b u e => by
    have hlt := Heap.lt_size e
    rw [sortedHeap_old (Nat.ne_of_lt hlt) (by rw [size_push']; exact Nat.lt_succ_of_lt hlt)]
    exact Heap.get?_push_of_some _ e
  have hn : H h1.objs.size = none := I1.hok.fresh (Nat.le_refl _)
  have lx : ((srtI ns).map V.int).length ≤ sizeLine := by rw [List.length_map, (srtI_perm ns).length_eq, ← lb]; exact lz
  have J : Inv X pins σ (L2.upd H h1.objs.size (.lst ((srtI ns).map V.int))) { s with heap := sortedHeap (h1.push (seqObj "list" its.toArray 0)) h1.objs.size its out.toArray } :=
    I1.laid (t' := s.toks) keep2 (Nat.le_refl _) ⟨lx, out, c, vals_of_ints ho2, hcc⟩
  refine wpAny_pure ⟨_, rfl, ⟨.ref h1.objs.size, _, J, rfl, ?_⟩⟩
  exact q (m ++ [h1.objs.size]) _ _ (.upd_add hn) (sr.addLst hn (reps_intL _)) (rep_ref' (by rw [← sr.len, List.getElem?_append_right (Nat.le_refl _)]; simp))
theorem oo_sortS {ns : List Int} {h : VH} {Q : PV → VH → Prop} (hl : ns.length ≤ 10000) : OO (oSortS [.tup (intL ns)] h) Q = Q (.ref h.length) (h ++ [.lst (intL (srtI ns))]) := by
  have e : oSortS [.tup (intL ns)] h = some (.ref h.length, h ++ [.lst (intL (srtI ns))]) := by
    show (match intsP (intL ns) with
      | some ns => if ns.length ≤ 10000 then some (PV.ref h.length, h ++ [VO.lst (intL (srtI ns))]) else none
      | none => none) = _
    rw [intsP_ints]
    exact if_pos hl
  rw [e, oo_some]
theorem oo_sortSL {a : Nat} {h : VH} {Q : PV → VH → Prop} : OO (oSortS [.ref a] h) Q = OO (oBL gSortE [.ref a] h) Q := rfl
end D

/-! layer D, part 25: repr of a truth value and of None -/
namespace D
open PySem PySem.Spec PySem.W PyProof.Rows L2
def oReprB (as : List PV) : O PV := fun h => match as with
  | [.bl b] => some (.str (if b then "True" else "False"), h)
  | [.non] => some (.str "None", h)
  | as => oRepr as h
section
variable {X : Cx}
theorem c_reprB (hG : X.A.guards = some []) (hu : X.A.units + 128 < cLine) : CallR X (.builtin "repr") (rOL X.K oReprB) := by
  intro pins s σ H xs us Q I rx ⟨m, h, as, z, h', sr, rs, e, q⟩
  unfold oReprB at e
  split at e
  · cases e
    obtain ⟨x, t, rfl, r1, r2⟩ := rs.cons_inv
    rw [rep_bl r1, r2.nil_inv] at rx
    obtain ⟨u, rfl, ru⟩ := vals1 rx
    cases ru
    exact PySem.P.repr_of_bool ⟨.str _, H, I.tok _, ⟨_, rfl⟩, q m _ _ .refl sr rep_str'⟩
  · cases e
    obtain ⟨x, t, rfl, r1, r2⟩ := rs.cons_inv
    rw [rep_non r1, r2.nil_inv] at rx
    obtain ⟨u, rfl, ru⟩ := vals1 rx
    cases ru
    exact PySem.P.repr_of_none ⟨.str _, H, I.tok _, ⟨_, rfl⟩, q m _ _ .refl sr rep_str'⟩
  · exact c_repr hG hu pins s σ H xs us Q I rx ⟨m, h, as, z, h', sr, rs, e, q⟩
end
section
variable {h : VH} {Q : PV → VH → Prop}
theorem oo_reprBl {b : Bool} : OO (oReprB [.bl b] h) Q = Q (.str (if b then "True" else "False")) h := by with_unfolding_all rfl
theorem oo_reprNon : OO (oReprB [.non] h) Q = Q (.str "None") h := by with_unfolding_all rfl
theorem reprB_tup {l : List PV} : oReprB [.tup l] h = oRepr [.tup l] h := rfl
theorem reprB_ref {a : Nat} : oReprB [.ref a] h = oRepr [.ref a] h := rfl
theorem reprB_int {i : Int} : oReprB [.int i] h = oRepr [.int i] h := rfl
end
end D

/-! layer D, part 26: zip of lists and tuples, mixed, two or three -/
namespace D
open PySem PySem.Spec PyProof.Rows L2
/-- kinds: true a tuple, false a list -/
def IterK (t : Bool) (hp : Heap) (j l : Addr) (i : Nat) : Prop := if t = true then hp.IsTupleIter j l i else hp.IsListIter j l i
def SeqK (t : Bool) (hp : Heap) (l : Addr) (its : Array Value) : Prop := if t = true then hp.IsTuple l its else hp.IsList l its
def SqK (K : PySem.W.Frag) (t : Bool) (H : Hp) (a : Addr) (xs : List V) : Prop := if t = true then SqT K H a xs else SqL K H a xs
def iterO (t : Bool) (l : Addr) : Obj := if t = true then { cls := .type "tuple_iterator", data := .fields #[.ref l, .int 0 0] } else { cls := .type "list_iterator", data := .fields #[.ref l, .int 0 0] }
theorem IterK.over {t : Bool} {hp hq : Heap} {j l : Addr} {i : Nat} (q : IterK t hp j l i) (k : ∀ o, hp.get? j = some o → hq.get? j = some o) : IterK t hq j l i := by
  cases t with
  | true => exact Heap.IsTupleIter.at (show hp.IsTupleIter j l i from q) k
  | false => exact Heap.IsListIter.at (show hp.IsListIter j l i from q) k
theorem IterK.cell {t : Bool} {hp : Heap} {j l : Addr} {i : Nat} (q : IterK t hp j l i) : ∃ o, hp.get? j = some o ∧ ∀ v, o.data ≠ .cell v := by
  cases t with
  | true =>
    obtain ⟨o, eo, _, ed⟩ := (show hp.IsTupleIter j l i from q)
    exact ⟨o, eo, fun v z => by rw [ed] at z; cases z⟩
  | false =>
    obtain ⟨o, eo, _, ed⟩ := (show hp.IsListIter j l i from q)
    exact ⟨o, eo, fun v z => by rw [ed] at z; cases z⟩
theorem IterK.new {t : Bool} {hp : Heap} {j l : Addr} (e : hp.get? j = some (iterO t l)) : IterK t hp j l 0 := by
  cases t with
  | true => exact (show hp.IsTupleIter j l 0 from ⟨_, e, rfl, rfl⟩)
  | false => exact (show hp.IsListIter j l 0 from ⟨_, e, rfl, rfl⟩)
theorem SeqK.lt {t : Bool} {hp : Heap} {l : Addr} {its : Array Value} (q : SeqK t hp l its) : l < hp.objs.size := by
  cases t with
  | true => obtain ⟨o, eo, _⟩ := (show hp.IsTuple l its from q); exact Heap.lt_size eo
  | false => obtain ⟨o, eo, _⟩ := (show hp.IsList l its from q); exact Heap.lt_size eo
theorem draws_k {prog : Program} {w : World} {A : Around} (hh : A.handled = none) (t : Bool) (j l : Addr) (ne : l ≠ j) (its : Array Value) :
    Draws prog w A j [j, l] its.size (fun i v => its[i]? = some v) (fun i hp => IterK t hp j l i ∧ SeqK t hp l its) := by
  cases t with
  | true => exact Draws.tuple hh j l ne its
  | false => exact Draws.list hh j l ne its
theorem begins_k (t : Bool) (l : Addr) (its : Array Value) : Begins (.ref l) (iterO t l) fun hp => SeqK t hp l its := by
  cases t with
  | true => exact begins_tuple l its
  | false => exact begins_list l its
theorem seq_k {X : Cx} {pins : List (Addr × Obj)} {σ : L2.St} {H : Hp} {s : Shared} {t : Bool} {a : Addr} {xs : List V} (I : Inv X pins σ H s) (q : SqK X.K t H a xs) :
    ∃ its : List Value, Vals xs its ∧ SeqK t s.heap a its.toArray := by
  cases t with
  | true =>
    obtain ⟨us, ru, pu, _⟩ := I.tuple (show SqT X.K H a xs from q)
    exact ⟨us, ru, pu⟩
  | false =>
    obtain ⟨us, ru, pu, _⟩ := I.list (show SqL X.K H a xs from q)
    exact ⟨us, ru, pu.isList⟩
theorem inj_k {X : Cx} {pins : List (Addr × Obj)} {σ : L2.St} {H : Hp} {s : Shared} {t : Bool} {a : Addr} {xs ys : List V} (I : Inv X pins σ H s) (p : SqK X.K t H a xs) (q : SqK X.K t H a ys) : xs = ys := by
  cases t with
  | true => exact I.tuple_inj p q
  | false => exact I.list_inj p q
/-- the pairs of two sequences as they stand at each turn -/
def ItP (K : PySem.W.Frag) (t u : Bool) (a b : Addr) : It where
  go := fun i H => ∃ (xs ys : List V) (x y : V), SqK K t H a xs ∧ SqK K u H b ys ∧ xs[i]? = some x ∧ ys[i]? = some y
  yld := fun i H v H' => ∃ T x y, v = .ref T ∧ H T = none ∧ H' = upd H T (.tup [x, y]) ∧ (∀ xs, SqK K t H a xs → xs[i]? = some x) ∧ ∀ ys, SqK K u H b ys → ys[i]? = some y
  stop := fun i H => ∃ xs ys : List V, SqK K t H a xs ∧ SqK K u H b ys ∧ i ≤ xs.length ∧ i ≤ ys.length ∧ (i = xs.length ∨ i = ys.length)
/-- the triples of three -/
def ItQ (K : PySem.W.Frag) (t u r : Bool) (a b c : Addr) : It where
  go := fun i H => ∃ (xs ys zs : List V) (x y z : V), SqK K t H a xs ∧ SqK K u H b ys ∧ SqK K r H c zs ∧ xs[i]? = some x ∧ ys[i]? = some y ∧ zs[i]? = some z
  yld := fun i H v H' => ∃ T x y z, v = .ref T ∧ H T = none ∧ H' = upd H T (.tup [x, y, z]) ∧ (∀ xs, SqK K t H a xs → xs[i]? = some x) ∧ (∀ ys, SqK K u H b ys → ys[i]? = some y) ∧ ∀ zs, SqK K r H c zs → zs[i]? = some z
  stop := fun i H => ∃ xs ys zs : List V, SqK K t H a xs ∧ SqK K u H b ys ∧ SqK K r H c zs ∧ i ≤ xs.length ∧ i ≤ ys.length ∧ i ≤ zs.length ∧ (i = xs.length ∨ i = ys.length ∨ i = zs.length)
theorem none_of_lt {hp : Heap} {b : Addr} (q : hp.objs.size ≤ b) : hp.get? b = none := by
  cases e : hp.get? b with
  | none => rfl
  | some o => exact absurd (Heap.lt_size e) (Nat.not_lt.mpr q)
theorem turn_p {P : Program} {w : World} {K : PySem.W.Frag} {elts : List Expr} {kk : Nat} {tpos : Pos} {t u : Bool} {a b Z TI TO j1 j2 : Addr} (S : ZipSep2 Z TI TO j1 j2 [j1, a] [j2, b]) (n1 : a ≠ j1) (n2 : b ≠ j2) :
    Turn P w K (.Tuple elts kk tpos) (ItP K t u a b) [Z, TI, TO, j1, j2] Z (fun i hp => IsZip hp Z TI TO .none ∧ IsTupOf2 hp TI (.ref j1) (.ref j2) ∧ (∃ x y, IsTupOf2 hp TO x y) ∧ IterK t hp j1 a i ∧ IterK u hp j2 b i) where
  mem := List.mem_cons_self ..
  obj := fun i hp ⟨gz, gI, ⟨_, _, gO⟩, g1, g2⟩ => by
    simp only [List.forall_mem_cons]
    exact ⟨⟨_, gz, fun v q => nomatch q⟩, ⟨_, gI, fun v q => nomatch q⟩, ⟨_, gO, fun v q => nomatch q⟩, g1.cell, g2.cell, fun _ q => nomatch q⟩
  keep := fun i hp hq ⟨gz, gI, ⟨x, y, gO⟩, g1, g2⟩ k => by
    simp only [List.forall_mem_cons] at k
    obtain ⟨k1, k2, k3, m1, m2, _⟩ := k
    exact ⟨k1 _ gz, k2 _ gI, ⟨x, y, k3 _ gO⟩, g1.over m1, g2.over m2⟩
  item := fun X eP ew eK hcm i pins s σ H E I hf ⟨gz, gI, ⟨o1, o2, gO⟩, g1, g2⟩ ⟨l1, l2, x, y, q1, q2, h1, h2⟩ => by
    subst eP ew eK
    have hh : X.A.in1.handled = none := I.ok.hd hcm
    obtain ⟨u1, r1, p1⟩ := seq_k I q1
    obtain ⟨v1, e1, w1⟩ := r1.get h1
    have s1 : i < u1.toArray.size := by have := (List.getElem?_eq_some_iff.mp e1).1; simpa using this
    obtain ⟨u2, r2, p2⟩ := seq_k I q2
    obtain ⟨v2, e2, w2⟩ := r2.get h2
    have s2 : i < u2.toArray.size := by have := (List.getElem?_eq_some_iff.mp e2).1; simpa using this
    have zlt : Z < s.heap.objs.size := Heap.lt_size gz
    refine wpAny_pyNext_zipD2_item S (draws_k hh _ j1 a n1 u1.toArray) (draws_k hh _ j2 b n2 u2.toArray) gz gI gO ⟨g1, p1⟩ ⟨g2, p2⟩ s1 s2 ?_
    intro x1 x2 h5 tk y1 y2 z5 O5 d1 d2 T5 sz5 k5
    have z6 : x1 = v1 := by rw [List.getElem?_toArray, e1] at y1; exact (Option.some.inj y1).symm
    subst z6
    have z7 : x2 = v2 := by rw [List.getElem?_toArray, e2] at y2; exact (Option.some.inj y2).symm
    subst z7
    refine ⟨_, rfl, wpAny_letOwnedTupleGo_zip (s := { s with heap := h5, toks := tk }) z5 ?_⟩
    intro h6 z6 sb
    replace sb : Heap.SameBut Z h5 h6 := sb
    have T6 : IsTupOf2 h6 s.heap.objs.size x1 x2 := (sb.2 _ (Nat.ne_of_gt zlt)).trans T5
    have kk6 : ∀ b o, b ∉ ([Z, TI, TO, j1, j2] : List Addr) → s.heap.get? b = some o → h6.get? b = some o := fun b o nb q => by
      simp only [List.mem_cons, List.not_mem_nil, or_false, not_or] at nb
      obtain ⟨f1, f2, f3, f4, f5⟩ := nb
      exact (sb.2 b f1).trans (k5 b o f1 f3 f4 f5 q)
    have nw : ObjOk X.prog X.w (upd H s.heap.objs.size (.tup [x, y])) h6 s.heap.objs.size (.tup [x, y]) :=
      ⟨by show 2 ≤ sizeLine; decide, [x1, x2], .cons w1 (.cons w2 .nil), ⟨_, T6, rfl, _, rfl⟩⟩
    have I6 := I.turnedNew (t' := tk) (ch := [Z, TI, TO, j1, j2]) kk6 hf (Nat.le_refl _) nw
    refine ⟨.ref s.heap.objs.size, _, I6, rfl, ⟨_, x, y, rfl, I.hok.fresh (Nat.le_refl _), rfl, fun ls q => by rw [inj_k I q q1]; exact h1, fun ls q => by rw [inj_k I q q2]; exact h2⟩, ⟨z6, ?_, ⟨x1, x2, ?_⟩, ?_, ?_⟩, fun c hm => ?_⟩
    · exact (sb.2 _ S.TIz).trans (k5 _ _ S.TIz S.TITO S.TIi1 S.TIi2 gI)
    · exact (sb.2 _ S.TOz).trans O5
    · exact d1.1.over fun o q => (sb.2 _ fun e => S.zi1 e.symm).trans q
    · exact d2.1.over fun o q => (sb.2 _ fun e => S.zi2 e.symm).trans q
    · have hlt : c < s.heap.objs.size := by
        simp only [List.mem_cons, List.not_mem_nil, or_false] at hm
        rcases hm with e | e | e | e | e
        · rw [e]; exact zlt
        · rw [e]; exact Heap.lt_size gI
        · rw [e]; exact Heap.lt_size gO
        · rw [e]; obtain ⟨_, eo, _⟩ := g1.cell; exact Heap.lt_size eo
        · rw [e]; obtain ⟨_, eo, _⟩ := g2.cell; exact Heap.lt_size eo
      rw [upd_ne (Nat.ne_of_lt hlt)]
      exact (hf c hm).1
  done := fun X eP ew eK hcm i pins s σ H E I hf ⟨gz, gI, ⟨o1, o2, gO⟩, g1, g2⟩ ⟨l1, l2, q1, q2, t1, t2, hend⟩ => by
    subst eP ew eK
    have hh : X.A.in1.handled = none := I.ok.hd hcm
    obtain ⟨u1, r1, p1⟩ := seq_k I q1
    have s1 : u1.toArray.size = l1.length := by have := r1.length; simp; omega
    obtain ⟨u2, r2, p2⟩ := seq_k I q2
    have s2 : u2.toArray.size = l2.length := by have := r2.length; simp; omega
    refine wpAny_pyNext_zipD2_end S (draws_k hh _ j1 a n1 u1.toArray) (draws_k hh _ j2 b n2 u2.toArray) gz gI gO ⟨g1, p1⟩ ⟨g2, p2⟩ (by omega) (by omega) (by omega) ?_
    intro h5 tk k5
    refine ⟨rfl, I.turnedL (t' := tk) (ch := [Z, TI, TO, j1, j2]) (fun b o nb q => ?_) hf⟩
    simp only [List.mem_cons, List.not_mem_nil, or_false, not_or] at nb
    obtain ⟨f1, f2, f3, f4, f5⟩ := nb
    exact k5 b o f1 f3 f4 f5 q
  self := fun A i s Q E st h => wpAny_pyIter_zip st.1 h
theorem turn_q {P : Program} {w : World} {K : PySem.W.Frag} {elts : List Expr} {kk : Nat} {tpos : Pos} {t u r : Bool} {a b c Z TI TO j1 j2 j3 : Addr} (S : ZipSep3 Z TI TO j1 j2 j3 [j1, a] [j2, b] [j3, c]) (n1 : a ≠ j1) (n2 : b ≠ j2) (n3 : c ≠ j3) :
    Turn P w K (.Tuple elts kk tpos) (ItQ K t u r a b c) [Z, TI, TO, j1, j2, j3] Z (fun i hp => IsZip hp Z TI TO .none ∧ IsTupOf3 hp TI (.ref j1) (.ref j2) (.ref j3) ∧ (∃ x y z, IsTupOf3 hp TO x y z) ∧ IterK t hp j1 a i ∧ IterK u hp j2 b i ∧ IterK r hp j3 c i) where
  mem := List.mem_cons_self ..
  obj := fun i hp ⟨gz, gI, ⟨_, _, _, gO⟩, g1, g2, g3⟩ => by
    simp only [List.forall_mem_cons]
    exact ⟨⟨_, gz, fun v q => nomatch q⟩, ⟨_, gI, fun v q => nomatch q⟩, ⟨_, gO, fun v q => nomatch q⟩, g1.cell, g2.cell, g3.cell, fun _ q => nomatch q⟩
  keep := fun i hp hq ⟨gz, gI, ⟨x, y, z, gO⟩, g1, g2, g3⟩ k => by
    simp only [List.forall_mem_cons] at k
    obtain ⟨k1, k2, k3, m1, m2, m3, _⟩ := k
    exact ⟨k1 _ gz, k2 _ gI, ⟨x, y, z, k3 _ gO⟩, g1.over m1, g2.over m2, g3.over m3⟩
  item := fun X eP ew eK hcm i pins s σ H E I hf ⟨gz, gI, ⟨o1, o2, o3, gO⟩, g1, g2, g3⟩ ⟨l1, l2, l3, x, y, z, q1, q2, q3, h1, h2, h3⟩ => by
    subst eP ew eK
    have hh : X.A.in1.handled = none := I.ok.hd hcm
    obtain ⟨u1, r1, p1⟩ := seq_k I q1
    obtain ⟨v1, e1, w1⟩ := r1.get h1
    have s1 : i < u1.toArray.size := by have := (List.getElem?_eq_some_iff.mp e1).1; simpa using this
    obtain ⟨u2, r2, p2⟩ := seq_k I q2
    obtain ⟨v2, e2, w2⟩ := r2.get h2
    have s2 : i < u2.toArray.size := by have := (List.getElem?_eq_some_iff.mp e2).1; simpa using this
    obtain ⟨u3, r3, p3⟩ := seq_k I q3
    obtain ⟨v3, e3, w3⟩ := r3.get h3
    have s3 : i < u3.toArray.size := by have := (List.getElem?_eq_some_iff.mp e3).1; simpa using this
    have zlt : Z < s.heap.objs.size := Heap.lt_size gz
    refine wpAny_pyNext_zipD3_item S (draws_k hh _ j1 a n1 u1.toArray) (draws_k hh _ j2 b n2 u2.toArray) (draws_k hh _ j3 c n3 u3.toArray) gz gI gO ⟨g1, p1⟩ ⟨g2, p2⟩ ⟨g3, p3⟩ s1 s2 s3 ?_
    intro x1 x2 x3 h5 tk y1 y2 y3 z5 O5 d1 d2 d3 T5 sz5 k5
    have z6 : x1 = v1 := by rw [List.getElem?_toArray, e1] at y1; exact (Option.some.inj y1).symm
    subst z6
    have z7 : x2 = v2 := by rw [List.getElem?_toArray, e2] at y2; exact (Option.some.inj y2).symm
    subst z7
    have z8 : x3 = v3 := by rw [List.getElem?_toArray, e3] at y3; exact (Option.some.inj y3).symm
    subst z8
    refine ⟨_, rfl, wpAny_letOwnedTupleGo_zip (s := { s with heap := h5, toks := tk }) z5 ?_⟩
    intro h6 z6 sb
    replace sb : Heap.SameBut Z h5 h6 := sb
    have T6 : IsTupOf3 h6 s.heap.objs.size x1 x2 x3 := (sb.2 _ (Nat.ne_of_gt zlt)).trans T5
    have kk6 : ∀ b o, b ∉ ([Z, TI, TO, j1, j2, j3] : List Addr) → s.heap.get? b = some o → h6.get? b = some o := fun b o nb q => by
      simp only [List.mem_cons, List.not_mem_nil, or_false, not_or] at nb
      obtain ⟨f1, f2, f3, f4, f5, f6⟩ := nb
      exact (sb.2 b f1).trans (k5 b o f1 f3 f4 f5 f6 q)
    have nw : ObjOk X.prog X.w (upd H s.heap.objs.size (.tup [x, y, z])) h6 s.heap.objs.size (.tup [x, y, z]) :=
      ⟨by show 3 ≤ sizeLine; decide, [x1, x2, x3], .cons w1 (.cons w2 (.cons w3 .nil)), ⟨_, T6, rfl, _, rfl⟩⟩
    have I6 := I.turnedNew (t' := tk) (ch := [Z, TI, TO, j1, j2, j3]) kk6 hf (Nat.le_refl _) nw
    refine ⟨.ref s.heap.objs.size, _, I6, rfl, ⟨_, x, y, z, rfl, I.hok.fresh (Nat.le_refl _), rfl, fun ls q => by rw [inj_k I q q1]; exact h1, fun ls q => by rw [inj_k I q q2]; exact h2, fun ls q => by rw [inj_k I q q3]; exact h3⟩, ⟨z6, ?_, ⟨x1, x2, x3, ?_⟩, ?_, ?_, ?_⟩, fun c hm => ?_⟩
    · exact (sb.2 _ S.TIz).trans (k5 _ _ S.TIz S.TITO S.TIi1 S.TIi2 S.TIi3 gI)
    · exact (sb.2 _ S.TOz).trans O5
    · exact d1.1.over fun o q => (sb.2 _ fun e => S.zi1 e.symm).trans q
    · exact d2.1.over fun o q => (sb.2 _ fun e => S.zi2 e.symm).trans q
    · exact d3.1.over fun o q => (sb.2 _ fun e => S.zi3 e.symm).trans q
    · have hlt : c < s.heap.objs.size := by
        simp only [List.mem_cons, List.not_mem_nil, or_false] at hm
        rcases hm with e | e | e | e | e | e
        · rw [e]; exact zlt
        · rw [e]; exact Heap.lt_size gI
        · rw [e]; exact Heap.lt_size gO
        · rw [e]; obtain ⟨_, eo, _⟩ := g1.cell; exact Heap.lt_size eo
        · rw [e]; obtain ⟨_, eo, _⟩ := g2.cell; exact Heap.lt_size eo
        · rw [e]; obtain ⟨_, eo, _⟩ := g3.cell; exact Heap.lt_size eo
      rw [upd_ne (Nat.ne_of_lt hlt)]
      exact (hf c hm).1
  done := fun X eP ew eK hcm i pins s σ H E I hf ⟨gz, gI, ⟨o1, o2, o3, gO⟩, g1, g2, g3⟩ ⟨l1, l2, l3, q1, q2, q3, t1, t2, t3, hend⟩ => by
    subst eP ew eK
    have hh : X.A.in1.handled = none := I.ok.hd hcm
    obtain ⟨u1, r1, p1⟩ := seq_k I q1
    have s1 : u1.toArray.size = l1.length := by have := r1.length; simp; omega
    obtain ⟨u2, r2, p2⟩ := seq_k I q2
    have s2 : u2.toArray.size = l2.length := by have := r2.length; simp; omega
    obtain ⟨u3, r3, p3⟩ := seq_k I q3
    have s3 : u3.toArray.size = l3.length := by have := r3.length; simp; omega
    refine wpAny_pyNext_zipD3_end S (draws_k hh _ j1 a n1 u1.toArray) (draws_k hh _ j2 b n2 u2.toArray) (draws_k hh _ j3 c n3 u3.toArray) gz gI gO ⟨g1, p1⟩ ⟨g2, p2⟩ ⟨g3, p3⟩ (by omega) (by omega) (by omega) (by omega) ?_
    intro h5 tk k5
    refine ⟨rfl, I.turnedL (t' := tk) (ch := [Z, TI, TO, j1, j2, j3]) (fun b o nb q => ?_) hf⟩
    simp only [List.mem_cons, List.not_mem_nil, or_false, not_or] at nb
    obtain ⟨f1, f2, f3, f4, f5, f6⟩ := nb
    exact k5 b o f1 f3 f4 f5 f6 q
  self := fun A i s Q E st h => wpAny_pyIter_zip st.1 h
def iZipP (K : PySem.W.Frag) (ta : TA) : TI := fun σ H R => ta σ H fun vs H1 => ∃ (t u : Bool) (a b : Addr) (xs ys : List V), vs = [.ref a, .ref b] ∧ SqK K t H1 a xs ∧ SqK K u H1 b ys ∧ R (ItP K t u a b) H1
theorem pi_zipP {X : Cx} {e e2 : Expr} {ta : TA} {p pos tpos : Pos} {elts : List Expr} {kk : Nat} (gl : Gl X "zip") (mg : X.mg "zip" = none) (pa : PA X [e, e2] ta)
    (st1 : starEach [e, e2] X.env = (false, eval e X.env) :: starEach [e2] X.env := by rfl) (st2 : (backTo pos (starEach [e2] X.env)).any (·.1) = false := by rfl) :
    PI X (.Tuple elts kk tpos) (.Call (.Name "zip" p) [e, e2] [] pos) (iZipP X.K ta) := by
  constructor
  intro pins s σ H R I w0
  refine Call_ (ld_blt I gl mg PyProof.Rows.boot_zip (PyProof.Rows.callWith_type1 (thn (pa.run pos pins s σ H _ I w0) ?_) st1 st2))
  rintro as s1 ⟨vs, H1, I1, r1, t, u, a, b, xs, ys, rfl, q1, q2, cont⟩
  rcases r1 with _ | ⟨w1, r1⟩
  rcases r1 with _ | ⟨w2, r1⟩
  cases r1
  cases w1
  cases w2
  obtain ⟨u1, k1, p1⟩ := seq_k I1 q1
  obtain ⟨u2, k2, p2⟩ := seq_k I1 q2
  refine zip_begins2 (begins_k t a u1.toArray) (begins_k u b u2.toArray) p1 p2 ?_
  intro h5 gz gI gO g1 g2 sz5 k5
  refine wpAny_pyIter_zip gz ?_
  have I5 : Inv X pins σ H1 { s1 with heap := h5 } := I1.kept (t' := s1.toks) k5
  have m1 : (a : Nat) ≠ s1.heap.objs.size + 0 := Nat.ne_of_lt (Nat.lt_of_lt_of_le p1.lt (Nat.le_add_right _ _))
  have m2 : (b : Nat) ≠ s1.heap.objs.size + 1 := Nat.ne_of_lt (Nat.lt_of_lt_of_le p2.lt (Nat.le_add_right _ _))
  have S := zip_sep2 (N := s1.heap.objs.size) (fp1 := [a]) (fun b hb => by rw [List.mem_singleton.mp hb]; exact p1.lt) (fp2 := [b]) (fun b hb => by rw [List.mem_singleton.mp hb]; exact p2.lt)
  refine ⟨_, [s1.heap.objs.size + 4, s1.heap.objs.size + 2, s1.heap.objs.size + 3, s1.heap.objs.size, s1.heap.objs.size + 1], _, _, H1, rfl, I5, turn_p S m1 m2, ⟨gz, gI, ⟨_, _, gO⟩, .new g1, .new g2⟩, ?_, cont⟩
  intro c hm
  have le : s1.heap.objs.size ≤ c := by
    simp only [List.mem_cons, List.not_mem_nil, or_false] at hm
    rcases hm with e | e | e | e | e <;> (rw [e]; first | exact Nat.le_refl _ | exact Nat.le_add_right _ _)
  exact I1.fpOk le (I1.hok.fresh le)
def iZipQ (K : PySem.W.Frag) (ta : TA) : TI := fun σ H R => ta σ H fun vs H1 => ∃ (t u r : Bool) (a b c : Addr) (xs ys zs : List V), vs = [.ref a, .ref b, .ref c] ∧ SqK K t H1 a xs ∧ SqK K u H1 b ys ∧ SqK K r H1 c zs ∧ R (ItQ K t u r a b c) H1
theorem pi_zipQ {X : Cx} {e e2 e3 : Expr} {ta : TA} {p pos tpos : Pos} {elts : List Expr} {kk : Nat} (gl : Gl X "zip") (mg : X.mg "zip" = none) (pa : PA X [e, e2, e3] ta)
    (st1 : starEach [e, e2, e3] X.env = (false, eval e X.env) :: starEach [e2, e3] X.env := by rfl) (st2 : (backTo pos (starEach [e2, e3] X.env)).any (·.1) = false := by rfl) :
    PI X (.Tuple elts kk tpos) (.Call (.Name "zip" p) [e, e2, e3] [] pos) (iZipQ X.K ta) := by
  constructor
  intro pins s σ H R I w0
  refine Call_ (ld_blt I gl mg PyProof.Rows.boot_zip (PyProof.Rows.callWith_type1 (thn (pa.run pos pins s σ H _ I w0) ?_) st1 st2))
  rintro as s1 ⟨vs, H1, I1, r1, t, u, r, a, b, c, xs, ys, zs, rfl, q1, q2, q3, cont⟩
  rcases r1 with _ | ⟨w1, r1⟩
  rcases r1 with _ | ⟨w2, r1⟩
  rcases r1 with _ | ⟨w3, r1⟩
  cases r1
  cases w1
  cases w2
  cases w3
  obtain ⟨u1, k1, p1⟩ := seq_k I1 q1
  obtain ⟨u2, k2, p2⟩ := seq_k I1 q2
  obtain ⟨u3, k3, p3⟩ := seq_k I1 q3
  refine zip_begins3 (begins_k t a u1.toArray) (begins_k u b u2.toArray) (begins_k r c u3.toArray) p1 p2 p3 ?_
  intro h5 gz gI gO g1 g2 g3 sz5 k5
  refine wpAny_pyIter_zip gz ?_
  have I5 : Inv X pins σ H1 { s1 with heap := h5 } := I1.kept (t' := s1.toks) k5
  have m1 : (a : Nat) ≠ s1.heap.objs.size + 0 := Nat.ne_of_lt (Nat.lt_of_lt_of_le p1.lt (Nat.le_add_right _ _))
  have m2 : (b : Nat) ≠ s1.heap.objs.size + 1 := Nat.ne_of_lt (Nat.lt_of_lt_of_le p2.lt (Nat.le_add_right _ _))
  have m3 : (c : Nat) ≠ s1.heap.objs.size + 2 := Nat.ne_of_lt (Nat.lt_of_lt_of_le p3.lt (Nat.le_add_right _ _))
  have S := zip_sep3 (N := s1.heap.objs.size) (fp1 := [a]) (fun b hb => by rw [List.mem_singleton.mp hb]; exact p1.lt) (fp2 := [b]) (fun b hb => by rw [List.mem_singleton.mp hb]; exact p2.lt) (fp3 := [c]) (fun b hb => by rw [List.mem_singleton.mp hb]; exact p3.lt)
  refine ⟨_, [s1.heap.objs.size + 5, s1.heap.objs.size + 3, s1.heap.objs.size + 4, s1.heap.objs.size, s1.heap.objs.size + 1, s1.heap.objs.size + 2], _, _, H1, rfl, I5, turn_q S m1 m2 m3, ⟨gz, gI, ⟨_, _, _, gO⟩, .new g1, .new g2, .new g3⟩, ?_, cont⟩
  intro c hm
  have le : s1.heap.objs.size ≤ c := by
    simp only [List.mem_cons, List.not_mem_nil, or_false] at hm
    rcases hm with e | e | e | e | e | e <;> (rw [e]; first | exact Nat.le_refl _ | exact Nat.le_add_right _ _)
  exact I1.fpOk le (I1.hok.fresh le)
section
variable {K : PySem.W.Frag} {m : List Addr} {h : VH} {H : Hp}
def tripled (l r q : List PV) : List PV := (l.zip (r.zip q)).map fun x => .tup [x.1, x.2.1, x.2.2]
theorem tripled_len (l r q : List PV) : (tripled l r q).length = min l.length (min r.length q.length) := by simp [tripled]
theorem tripled_get {l r q : List PV} {i : Nat} {v : PV} (e : (tripled l r q)[i]? = some v) : ∃ x y z, l[i]? = some x ∧ r[i]? = some y ∧ q[i]? = some z ∧ v = .tup [x, y, z] := by
  unfold tripled at e
  rw [List.getElem?_map] at e
  obtain ⟨⟨x, y, z⟩, e1, rfl⟩ := Option.map_eq_some_iff.mp e
  rw [List.getElem?_zip_eq_some] at e1
  obtain ⟨e2, e3⟩ := e1
  rw [List.getElem?_zip_eq_some] at e3
  exact ⟨x, y, z, e2, e3.1, e3.2, rfl⟩
theorem tripled_at {l r q : List PV} {i : Nat} {x y z : PV} (ex : l[i]? = some x) (ey : r[i]? = some y) (ez : q[i]? = some z) : (tripled l r q)[i]? = some (.tup [x, y, z]) := by
  unfold tripled
  rw [List.getElem?_map]
  have e2 : (r.zip q)[i]? = some (y, z) := List.getElem?_zip_eq_some.mpr ⟨ey, ez⟩
  have e1 : (l.zip (r.zip q))[i]? = some (x, y, z) := List.getElem?_zip_eq_some.mpr ⟨ex, e2⟩
  rw [e1]; rfl
theorem itD_p {t u : Bool} {a b : Addr} {l r : List PV} {s1 s2 : List (Nat × List PV)} (w1 : Held K m H t a l s1) (w2 : Held K m H u b r s2) :
    ItD K (ItP K t u a b) m H { items := paired l r, src := s1 ++ s2 } := by
  intro i m' h' H' x s ok
  obtain ⟨ok1, ok2⟩ := srcOk_app ok
  obtain ⟨xs, q1, rs1⟩ := w1 m' h' H' x s ok1
  obtain ⟨ys, q2, rs2⟩ := w2 m' h' H' x s ok2
  have hl1 := rs1.len
  have hl2 := rs2.len
  refine ⟨fun hi => ?_, fun hi => ?_⟩
  · have hi0 : i < min l.length r.length := by simpa [paired_len] using hi
    obtain ⟨z1, e1, r1⟩ := rs1.get (List.getElem?_eq_getElem (show i < l.length by omega))
    obtain ⟨z2, e2, r2⟩ := rs2.get (List.getElem?_eq_getElem (show i < r.length by omega))
    refine ⟨⟨xs, ys, z1, z2, q1, q2, e1, e2⟩, ?_⟩
    rintro v H'' ⟨T, y1, y2, rfl, nT, rfl, f1, f2⟩
    have f1' := f1 xs q1
    have f2' := f2 ys q2
    rw [e1] at f1'; cases f1'
    rw [e2] at f2'; cases f2'
    exact ⟨.tup [l[i], r[i]], by show (paired l r)[i]? = _; rw [paired, List.getElem?_zipWith, List.getElem?_eq_getElem (show i < l.length by omega), List.getElem?_eq_getElem (show i < r.length by omega)], s.tup nT (Reps.cons r1 (Reps.cons r2 Reps.nil)), .upd_new nT, s.more nT⟩
  · have e : (paired l r).length = i := hi.symm
    rw [paired_len] at e
    exact ⟨xs, ys, q1, q2, by omega, by omega, by omega⟩
theorem itD_q {t u w : Bool} {a b c : Addr} {l r g : List PV} {s1 s2 s3 : List (Nat × List PV)} (w1 : Held K m H t a l s1) (w2 : Held K m H u b r s2) (w3 : Held K m H w c g s3) :
    ItD K (ItQ K t u w a b c) m H { items := tripled l r g, src := s1 ++ (s2 ++ s3) } := by
  intro i m' h' H' x s ok
  obtain ⟨ok1, ok23⟩ := srcOk_app ok
  obtain ⟨ok2, ok3⟩ := srcOk_app ok23
  obtain ⟨xs, q1, rs1⟩ := w1 m' h' H' x s ok1
  obtain ⟨ys, q2, rs2⟩ := w2 m' h' H' x s ok2
  obtain ⟨zs, q3, rs3⟩ := w3 m' h' H' x s ok3
  have hl1 := rs1.len
  have hl2 := rs2.len
  have hl3 := rs3.len
  refine ⟨fun hi => ?_, fun hi => ?_⟩
  · have hi0 : i < min l.length (min r.length g.length) := by rw [← tripled_len]; exact hi
    have g1 := List.getElem?_eq_getElem (show i < l.length by omega)
    have g2 := List.getElem?_eq_getElem (show i < r.length by omega)
    have g3 := List.getElem?_eq_getElem (show i < g.length by omega)
    obtain ⟨z1, e1, r1⟩ := rs1.get g1
    obtain ⟨z2, e2, r2⟩ := rs2.get g2
    obtain ⟨z3, e3, r3⟩ := rs3.get g3
    refine ⟨⟨xs, ys, zs, z1, z2, z3, q1, q2, q3, e1, e2, e3⟩, ?_⟩
    rintro v H'' ⟨T, y1, y2, y3, rfl, nT, rfl, f1, f2, f3⟩
    have f1' := f1 xs q1
    have f2' := f2 ys q2
    have f3' := f3 zs q3
    rw [e1] at f1'; cases f1'
    rw [e2] at f2'; cases f2'
    rw [e3] at f3'; cases f3'
    exact ⟨.tup [l[i], r[i], g[i]], tripled_at g1 g2 g3, s.tup nT (Reps.cons r1 (Reps.cons r2 (Reps.cons r3 Reps.nil))), .upd_new nT, s.more nT⟩
  · have e : (tripled l r g).length = i := hi.symm
    rw [tripled_len] at e
    exact ⟨xs, ys, zs, q1, q2, q3, by omega, by omega, by omega, by omega⟩
end
def dZipM (d : Sl → M (List PV)) : Sl → M Its' := fun v => bnd (d v) fun as h => match as with
  | [x, y] => match srcOf h x, srcOf h y with
    | some (_, l, s1), some (_, r, s2) => .ok { items := paired l r, src := s1 ++ s2 } h
    | _, _ => .bad
  | _ => .bad
def dZip3 (d : Sl → M (List PV)) : Sl → M Its' := fun v => bnd (d v) fun as h => match as with
  | [x, y, z] => match srcOf h x, srcOf h y, srcOf h z with
    | some (_, l, s1), some (_, r, s2), some (_, g, s3) => .ok { items := tripled l r g, src := s1 ++ (s2 ++ s3) } h
    | _, _, _ => .bad
  | _ => .bad
section
variable {X : Cx} {W : WX} {e e2 e3 : Expr} {p pos tpos : Pos} {elts : List Expr} {kk : Nat}
theorem di_zipM {d : Sl → M (List PV)} (hg : Gl X "zip") (hm : X.mg "zip" = none) (ha : DA X W [e, e2] d) (hs : starEach [e, e2] X.env = (false, eval e X.env) :: starEach [e2] X.env := by rfl) (hpl : (backTo pos (starEach [e2] X.env)).any (·.1) = false := by rfl) :
    DI X W (.Tuple elts kk tpos) (.Call (.Name "zip" p) [e, e2] [] pos) (dZipM d) :=
  weakI (pi_zipP hg hm ha hs hpl) fun σ H R ⟨m, v, h, sr, sl, p⟩ => ⟨m, v, h, sr, sl, (Post.seq p).mono fun m1 H1 h1 as x1 s1 p1 xs rs => by
    split at p1
    · rename_i x y
      split at p1
      · rename_i t l sa u r sb ea eb
        obtain ⟨a', t', rfl, r1, r2⟩ := rs.cons_inv
        obtain ⟨b', t2, rfl, r3, r4⟩ := r2.cons_inv
        obtain ⟨a, rfl, w1⟩ := held_of s1 ea r1
        obtain ⟨b, rfl, w2⟩ := held_of s1 eb r3
        obtain ⟨xs, q1, _⟩ := w1.now s1 (src_now ea)
        obtain ⟨ys, q2, _⟩ := w2.now s1 (src_now eb)
        rw [r4.nil_inv]
        exact ⟨t, u, a, b, xs, ys, rfl, q1, q2, p1 m1 H1 .refl s1 _ (itD_p w1 w2)⟩
      · exact p1.elim
    · exact p1.elim⟩
theorem di_zip3 {d : Sl → M (List PV)} (hg : Gl X "zip") (hm : X.mg "zip" = none) (ha : DA X W [e, e2, e3] d) (hs : starEach [e, e2, e3] X.env = (false, eval e X.env) :: starEach [e2, e3] X.env := by rfl) (hpl : (backTo pos (starEach [e2, e3] X.env)).any (·.1) = false := by rfl) :
    DI X W (.Tuple elts kk tpos) (.Call (.Name "zip" p) [e, e2, e3] [] pos) (dZip3 d) :=
  weakI (pi_zipQ hg hm ha hs hpl) fun σ H R ⟨m, v, h, sr, sl, p⟩ => ⟨m, v, h, sr, sl, (Post.seq p).mono fun m1 H1 h1 as x1 s1 p1 xs rs => by
    split at p1
    · rename_i x y z
      split at p1
      · rename_i t l sa u r sb w g sc ea eb ec
        obtain ⟨a', t', rfl, r1, r2⟩ := rs.cons_inv
        obtain ⟨b', t2, rfl, r3, r4⟩ := r2.cons_inv
        obtain ⟨c', t3, rfl, r5, r6⟩ := r4.cons_inv
        obtain ⟨a, rfl, w1⟩ := held_of s1 ea r1
        obtain ⟨b, rfl, w2⟩ := held_of s1 eb r3
        obtain ⟨c, rfl, w3⟩ := held_of s1 ec r5
        obtain ⟨xs, q1, _⟩ := w1.now s1 (src_now ea)
        obtain ⟨ys, q2, _⟩ := w2.now s1 (src_now eb)
        obtain ⟨zs, q3, _⟩ := w3.now s1 (src_now ec)
        rw [r6.nil_inv]
        exact ⟨t, u, w, a, b, c, xs, ys, zs, rfl, q1, q2, q3, p1 m1 H1 .refl s1 _ (itD_q w1 w2 w3)⟩
      · exact p1.elim
    · exact p1.elim⟩
end
section
variable {v : Sl} {h : VH}
def ZpM (h : VH) (as : List PV) (q : List PV → List (Nat × List PV) → Prop) : Prop := match as with
  | [x, y] => Sr (srcOf h x) fun _ l s1 => Sr (srcOf h y) fun _ r s2 => q (paired l r) (s1 ++ s2)
  | _ => False
def ZpN (h : VH) (as : List PV) (q : List PV → List (Nat × List PV) → Prop) : Prop := match as with
  | [x, y, z] => Sr (srcOf h x) fun _ l s1 => Sr (srcOf h y) fun _ r s2 => Sr (srcOf h z) fun _ g s3 => q (tripled l r g) (s1 ++ (s2 ++ s3))
  | _ => False
theorem zm_two {x y : PV} {q : List PV → List (Nat × List PV) → Prop} : ZpM h [x, y] q = Sr (srcOf h x) fun _ l s1 => Sr (srcOf h y) fun _ r s2 => q (paired l r) (s1 ++ s2) := by with_unfolding_all rfl
theorem zm_three {x y z : PV} {q : List PV → List (Nat × List PV) → Prop} : ZpN h [x, y, z] q = Sr (srcOf h x) fun _ l s1 => Sr (srcOf h y) fun _ r s2 => Sr (srcOf h z) fun _ g s3 => q (tripled l r g) (s1 ++ (s2 ++ s3)) := by with_unfolding_all rfl
theorem ok_zipM {d : Sl → M (List PV)} {Q : Its' → VH → Prop} : OK (dZipM d v h) Q = OK (d v h) fun as h1 => ZpM h1 as fun l s => Q { items := l, src := s } h1 := by
  unfold dZipM; simp only [ok_bnd]; congr 1; funext as h1
  rcases as with _ | ⟨a, _ | ⟨b, _ | ⟨c, t⟩⟩⟩ <;> try with_unfolding_all rfl
  rw [zm_two]
  simp only
  cases e1 : srcOf h1 a with
  | none => with_unfolding_all rfl
  | some x =>
    cases e2 : srcOf h1 b with
    | none => with_unfolding_all rfl
    | some y => with_unfolding_all rfl
theorem ok_zip3 {d : Sl → M (List PV)} {Q : Its' → VH → Prop} : OK (dZip3 d v h) Q = OK (d v h) fun as h1 => ZpN h1 as fun l s => Q { items := l, src := s } h1 := by
  unfold dZip3; simp only [ok_bnd]; congr 1; funext as h1
  rcases as with _ | ⟨a, _ | ⟨b, _ | ⟨c, _ | ⟨d, t⟩⟩⟩⟩ <;> try with_unfolding_all rfl
  rw [zm_three]
  simp only
  cases e1 : srcOf h1 a with
  | none => with_unfolding_all rfl
  | some x =>
    cases e2 : srcOf h1 b with
    | none => with_unfolding_all rfl
    | some y =>
      cases e3 : srcOf h1 c with
      | none => with_unfolding_all rfl
      | some z => with_unfolding_all rfl
end
end D

/-! layer D, part 27: sorted(set(x)) of a list of tuples that has a name -/
namespace D
open PySem PySem.Spec PyProof.Rows L2
def oSet1 (a : PV) : O PV := fun h => match a with
  | .ref n => match h[n]? with
    | some (.lst l) => gSortSet l h
    | _ => none
  | _ => none
def dSortSet (d : Sl → M PV) : Sl → M PV := fun v => bnd (d v) fun x => liftO (oSet1 x)
section
variable {X : Cx} {W : WX} {e : Expr} {d : Sl → M PV} {pos pos2 : Pos} {p p2 : Pos}
theorem set_readE {σ : L2.St} {H : Hp} {Q : VK} (q : TD X.K W (dSortSet d) σ H Q) : tCons (tCB (rSetOfT X.K X.prog X.w) (tCons (TD X.K W d) tNil)) tNil σ H fun xs H1 => rSortedD X.K X.prog X.w xs H1 Q := by
  obtain ⟨m, v, h, sr, sl, p⟩ := q
  refine ⟨m, v, h, sr, sl, (Post.seq p).mono fun m1 H1 h1 x x1 sr1 p1 u ru => ?_⟩
  obtain ⟨z, h', e2, q⟩ := Post.lift p1
  unfold oSet1 at e2
  split at e2
  · rename_i n
    split at e2
    · rename_i l el
      obtain ⟨D, rfl, hD⟩ := rep_ref ru
      obtain ⟨xs, eD, r⟩ := rep_get sr1 el hD
      unfold gSortSet at e2
      split at e2
      · rename_i t et
        split at e2
        · rename_i c
          cases e2
          rw [tupsI_inv et] at r
          obtain ⟨ks, f1, f2, f3⟩ := reps_tups r
          have lk : ks.length = t.length := by rw [← f1, List.length_map]
          show rSetOfT X.K X.prog X.w [.ref D] H1 fun x H2 => rSortedD X.K X.prog X.w [x] H2 Q
          refine ⟨D, ks, rfl, .inl (.inl (by rw [eD, f2])), fun q hq => (f3 q hq).sq, by omega, fun a L na hL hK => ?_⟩
          have x2 : Ext m1 H1 m1 (upd H1 a (SetTO X.prog X.w a L)) := .upd_new na
          have sr2 := sr1.more (o := SetTO X.prog X.w a L) na
          refine ⟨a, L, rfl, upd_same, fun q hq => ((f3 q (hL q hq)).ext x2).sq, fun q hq => ?_, fun L' pa pm nd pw np => ?_⟩
          · have hm : q.2 ∈ t := by rw [← f1]; exact List.mem_map.mpr ⟨q, hL q hq, rfl⟩
            have := List.all_eq_true.mp c.2 _ hm
            intro e0
            rw [e0] at this
            cases this
          · have eT : L'.map (·.2) = setTs t := by
              refine srt_eq ?_ (List.pairwise_map.mpr pw)
              refine (List.perm_ext_iff_of_nodup nd (nodup_ddup t)).mpr fun r => ?_
              rw [mem_ddup, ← f1]
              refine ⟨fun hr => ?_, fun hr => ?_⟩
              · obtain ⟨q, hq, rfl⟩ := List.mem_map.mp hr
                exact List.mem_map.mpr ⟨q, hL q (pm.mem_iff.mp hq), rfl⟩
              · obtain ⟨q, hq, rfl⟩ := List.mem_map.mp hr
                exact (pm.map (·.2)).mem_iff.mpr (hK q hq)
            have r3 : Reps X.K m1 (upd H1 a (SetTO X.prog X.w a L)) (tupI (setTs t)) (L'.map fun q => V.ref q.1) := by
              rw [← eT]
              exact reps_refs fun q hq => (f3 q (hL q (pm.mem_iff.mp hq))).ext x2
            exact q (m1 ++ [pa]) _ (x2.trans (.upd_add np)) (sr2.addLst np r3) _ (rep_ref' (by rw [← sr2.len, List.getElem?_append_right (Nat.le_refl _)]; simp))
        · cases e2
      · cases e2
    · cases e2
  · cases e2
theorem de_sortSetE (hc : X.calm = true) (hu : X.A.units + 65 < cLine) (hg : Gl X "sorted") (hm : X.mg "sorted" = none) (hg2 : Gl X "set") (hm2 : X.mg "set" = none) (h : DE X W e d)
    (hs : starEach [e] X.env = (false, eval e X.env) :: starEach [] X.env := by rfl)
    (hs2 : starEach [.Call (.Name "set" p) [e] [] pos] X.env = (false, eval (.Call (.Name "set" p) [e] [] pos) X.env) :: starEach [] X.env := by rfl) :
    DE X W (.Call (.Name "sorted" p2) [.Call (.Name "set" p) [e] [] pos] [] pos2) (dSortSet d) :=
  weakE (pe_callB (cr_sortedD hc hu) hg hm (by rfl) (pa_cons (pe_callTy (cr_setOfT hc (by omega)) hg2 hm2 (by rfl) (pa_cons h pa_nil hs) (by decide) (by decide) hs rfl) pa_nil hs2) (by decide) (by decide) hs2 rfl) fun σ H Q q => set_readE q
end
section
variable {v : Sl} {h : VH}
theorem ok_sortSet {d : Sl → M PV} {Q : PV → VH → Prop} : OK (dSortSet d v h) Q = OK (d v h) fun x h1 => OO (oSet1 x h1) Q := by
  unfold dSortSet; simp only [ok_bnd, ok_lift]
theorem oo_set1 {a : Nat} {t : List (List Int)} {Q : PV → VH → Prop} (e : h[a]? = some (.lst (tupI t))) (hl : t.length < 64) (hn : ∀ r ∈ t, r ≠ []) : OO (oSet1 (.ref a) h) Q = Q (.ref h.length) (h ++ [.lst (tupI (setTs t))]) := by
  have : oSet1 (.ref a) h = gSortSet (tupI t) h := by simp only [oSet1, e]
  rw [this, oo_sortSet hl hn]
end
end D

/-! layer D, part 28: three names at once -/
namespace D
open PySem PySem.Spec PyProof.Rows L2
def sPar3 (i j l : Nat) (d : Sl → M (List PV)) : SD := fun v => bx v (d v) fun xs h => match xs with
  | [a, b, c] => .nx (((v.set i (some a)).set j (some b)).set l (some c)) h
  | _ => .bad
section
variable {X : Cx} {W : WX} {pos : Pos}
theorem ds_par3 (i j l : Nat) {x y z : Str} {a b c : Expr} {px py pz pt : Pos} {kt k2 pt2} {dl : Sl → M (List PV)} (hc : X.calm = true) (hN : X.N.Nodup) (ha : DA X W [a, b, c] dl) (hi : X.N[i]? = some x := by rfl) (hj : X.N[j]? = some y := by rfl) (hl : X.N[l]? = some z := by rfl)
    (hij : i ≠ j := by decide) (hil : i ≠ l := by decide) (hjl : j ≠ l := by decide)
    (hx : X.env.scope.names.lookup x = some .local := by rfl) (hy : X.env.scope.names.lookup y = some .local := by rfl) (hz : X.env.scope.names.lookup z = some .local := by rfl)
    (hw : swappedStores [.Tuple [.Name x px, .Name y py, .Name z pz] kt pt] (.Tuple [a, b, c] k2 pt2) X.env = pure (some [x, y, z]) := by rfl)
    (hs : swapsWithSole [.Tuple [.Name x px, .Name y py, .Name z pz] kt pt] (.Tuple [a, b, c] k2 pt2) pos.line X.env = pure false := by rfl) :
    DS X W (.Assign [.Tuple [.Name x px, .Name y py, .Name z pz] kt pt] (.Tuple [a, b, c] k2 pt2) pos) (sPar3 i j l dl) :=
  weakS (ps_par3 hc hN hi hj hl hij hil hjl hx hy hz ha hw hs) fun D σ H ⟨m, v, h, sr, sl, p⟩ => ⟨m, v, h, sr, sl, (PostS.bx p sl).mono fun m1 H1 h1 xs x1 s1 ⟨y, p1⟩ us rs => by
    split at p1
    · obtain ⟨x, t, rfl, r1, t1⟩ := rs.cons_inv
      obtain ⟨z, t2, rfl, r2, t3⟩ := t1.cons_inv
      obtain ⟨w, t4, rfl, r3, t5⟩ := t3.cons_inv
      rw [t5.nil_inv]
      exact ⟨x, z, w, rfl, p1 m1 H1 _ .refl s1 ((((sl.ext x1).set i r1).set j r2).set l r3)⟩
    · exact p1.elim⟩
end
section
variable {v : Sl} {h : VH} {E : En}
def Pa3 (xs : List PV) (q : PV → PV → PV → Prop) : Prop := match xs with
  | [a, b, c] => q a b c
  | _ => False
theorem pa3 {a b c : PV} {q : PV → PV → PV → Prop} : Pa3 [a, b, c] q = q a b c := by with_unfolding_all rfl
theorem fo_par3 {i j l : Nat} {d : Sl → M (List PV)} : FO (sPar3 i j l d v h) E = OK (d v h) fun xs h1 => Pa3 xs fun a b c => E.nx (((v.set i (some a)).set j (some b)).set l (some c)) h1 := by
  unfold sPar3; simp only [fo_bx]; congr 1; funext xs h1
  rcases xs with _ | ⟨a, _ | ⟨b, _ | ⟨c, _ | ⟨d, t⟩⟩⟩⟩ <;> with_unfolding_all rfl
end
end D

/-! layer D, part 29: len(set(x)) of a list of whole numbers -/
namespace D
open PySem PySem.Spec PyProof.Rows L2
def ddI (ns : List Int) : List Int := ns.foldl PyProof.Rows.step_dedup []
theorem firstMet_all (ns : List Int) : PyProof.Rows.firstMet (fun i => ns.getD i 0) ns.length = ddI ns := by
  unfold PyProof.Rows.firstMet ddI
  congr 1
  refine List.ext_getElem? fun i => ?_
  by_cases hi : i < ns.length
  · rw [List.getElem?_map, List.getElem?_range hi, List.getElem?_eq_getElem hi]
    simp [hi]
  · rw [List.getElem?_eq_none (by simp; omega), List.getElem?_eq_none (by omega)]
def tLenSetJ (K : PySem.W.Frag) (ta : TE) : TE := fun σ H Q => ta σ H fun x H1 => ∃ (l : Addr) (ns : List Int), x = .ref l ∧ SqL K H1 l (ns.map V.int) ∧ ns.length ≤ 4000 ∧ Q (.int ((ddI ns).length : Nat)) H1
theorem pe_lenSetJ {X : Cx} {a : Expr} {ta : TE} {p p2 q pos : Pos} (hg : Gl X "len") (hm : X.mg "len" = none) (hg2 : Gl X "set") (hm2 : X.mg "set" = none) (ha : PE X a ta) (hc : X.calm = true)
    (na : starEach [a] X.env = (false, eval a X.env) :: starEach [] X.env := by rfl) : PE X (.Call (.Name "len" p) [.Call (.Name "set" p2) [a] [] q] [] pos) (tLenSetJ X.K ta) := by
  refine ⟨fun pins s σ H Q I h => ?_⟩
  refine Call_ (ld_blt I hg hm boot_len ?_)
  refine PyProof.Rows.callWith_builtin1 (PyProof.Rows.args_cons ?_ rfl) rfl rfl
  refine Call_ (ld_blt I hg2 hm2 boot_set ?_)
  refine PyProof.Rows.callWith_type1 (PyProof.Rows.args_cons (thn (ha.run pins s σ H _ I h) fun v s1 ⟨x, H1, I1, r1, q1⟩ => PyProof.Rows.args_nil ?_) na) na rfl
  obtain ⟨l, ns, rfl, hq, hl, q1⟩ := q1
  cases r1
  obtain ⟨its, r, pl, hz⟩ := I1.list hq
  have hlen : its.toArray.size = ns.length := by rw [List.size_toArray, ← r.length, List.length_map]
  refine call_set_list (I1.ok.hd hc) pl.isList (by simpa using RZ.intsAre_vals r) (by rw [hlen]; unfold scanBound; omega) fun h' tk hS hk => ?_
  refine PyProof.Rows.args_nil ?_
  have hle := PyProof.Rows.firstMet_length_le (fun i => ns.getD i 0) ns.length
  rw [hlen, firstMet_all] at hS
  rw [firstMet_all] at hle
  obtain ⟨o, es, ep, t, ho, hex, hd, _, _, _, hf, hn⟩ := hS
  have I2 : Inv X pins σ H1 { s1 with heap := h', toks := tk } := I1.kept fun b o e => hk b o (Heap.lt_size e) e
  exact call_len_set ho hex hd hf (by rw [hn] <;> omega) ⟨.int (ddI ns).length, H1, I2.tok _, ⟨_, by rw [hn]⟩, q1⟩
def oLenSet (a : PV) : O PV := fun h => match a with
  | .ref n => match h[n]? with
    | some (.lst l) => match intsP l with
      | some ns => if ns.length ≤ 4000 then some (.int ((ddI ns).length : Nat), h) else none
      | none => none
    | _ => none
  | _ => none
def dLenSet (d : Sl → M PV) : Sl → M PV := fun v => bnd (d v) fun x => liftO (oLenSet x)
section
variable {X : Cx} {W : WX} {e : Expr} {d : Sl → M PV} {pos pos2 : Pos} {p p2 : Pos}
theorem lenSet_readE {σ : L2.St} {H : Hp} {Q : VK} (q : TD X.K W (dLenSet d) σ H Q) : tLenSetJ X.K (TD X.K W d) σ H Q := by
  obtain ⟨m, v, h, sr, sl, p⟩ := q
  refine ⟨m, v, h, sr, sl, (Post.seq p).mono fun m1 H1 h1 x x1 sr1 p1 u ru => ?_⟩
  obtain ⟨z, h', e2, q⟩ := Post.lift p1
  unfold oLenSet at e2
  split at e2
  · rename_i n
    split at e2
    · rename_i l el
      obtain ⟨D, rfl, hD⟩ := rep_ref ru
      obtain ⟨xs, eD, r⟩ := rep_get sr1 el hD
      split at e2
      · rename_i ns en
        split at e2
        · rename_i c
          cases e2
          refine ⟨D, ns, rfl, .inl (.inl (by rw [eD, intsP_rep en r])), c, q m1 H1 .refl sr1 _ rep_int'⟩
        · cases e2
      · cases e2
    · cases e2
  · cases e2
theorem de_lenSetE (hc : X.calm = true) (hg : Gl X "len") (hm : X.mg "len" = none) (hg2 : Gl X "set") (hm2 : X.mg "set" = none) (h : DE X W e d)
    (hs : starEach [e] X.env = (false, eval e X.env) :: starEach [] X.env := by rfl) :
    DE X W (.Call (.Name "len" p) [.Call (.Name "set" p2) [e] [] pos] [] pos2) (dLenSet d) :=
  weakE (pe_lenSetJ hg hm hg2 hm2 h hc hs) fun σ H Q q => lenSet_readE q
end
section
variable {v : Sl} {h : VH}
theorem ok_lenSet {d : Sl → M PV} {Q : PV → VH → Prop} : OK (dLenSet d v h) Q = OK (d v h) fun x h1 => OO (oLenSet x h1) Q := by
  unfold dLenSet; simp only [ok_bnd, ok_lift]
theorem oo_lenSet {a : Nat} {ns : List Int} {Q : PV → VH → Prop} (e : h[a]? = some (.lst (intL ns))) (hl : ns.length ≤ 4000) : OO (oLenSet (.ref a) h) Q = Q (.int ((ddI ns).length : Nat)) h := by
  unfold oLenSet
  simp only [e, intsP_ints, if_pos hl]
  exact oo_some
end
end D

/-! layer D, part 30: dicts whose keys are tuples of whole numbers -/
namespace D
open PySem PySem.Spec PyProof.Rows L2
def dLook (kvs : List (List Int × PV)) (k : List Int) : Option PV := (kvs.find? fun p => decide (p.1 = k)).map (·.2)
def dPut (kvs : List (List Int × PV)) (k : List Int) (v : PV) : List (List Int × PV) :=
  if (kvs.any fun p => decide (p.1 = k)) = true then kvs.map (fun p => if p.1 = k then (p.1, v) else p) else kvs ++ [(k, v)]
abbrev kI (k : List Int) : List Key := k.map Sum.inl
theorem kI_inj : ∀ {a b : List Int}, kI a = kI b → a = b
  | [], [], _ => rfl
  | [], _ :: _, e => by simp at e
  | _ :: _, [], e => by simp at e
  | x :: a, y :: b, e => by
    simp only [kI, List.map_cons, List.cons.injEq] at e
    rw [Sum.inl.inj e.1, kI_inj (a := a) (b := b) e.2]
theorem kI_kV (k : List Int) : (kI k).map kV = k.map V.int := by
  rw [List.map_map]; rfl
section
variable {K : PySem.W.Frag} {m : List Addr} {H : Hp}
theorem look_rep {k : List Int} : ∀ {kvs : List (List Int × PV)} {ks : List (List Key × V)}, ks.map (·.1) = kvs.map (fun p => kI p.1) → Reps K m H (kvs.map (·.2)) (ks.map (·.2)) →
    (∀ v, dLook kvs k = some v → ∃ x, valV ks (kI k) = some x ∧ Rep K m H v x) ∧ (dLook kvs k = none → valV ks (kI k) = none)
  | [], [], _, _ => ⟨fun v e => (by cases e), fun _ => rfl⟩
  | [], _ :: _, e, _ => by simp at e
  | _ :: _, [], e, _ => by simp at e
  | p :: kvs, q :: ks, e, r => by
    simp only [List.map_cons, List.cons.injEq] at e
    obtain ⟨x, t, ex, r1, r2⟩ := r.cons_inv
    simp only [List.map_cons, List.cons.injEq] at ex
    obtain ⟨e1, e2⟩ := ex
    subst e2
    have ih := look_rep (k := k) e.2 r2
    by_cases c : p.1 = k
    · have h1 : dLook (p :: kvs) k = some p.2 := by simp [dLook, List.find?_cons, c]
      have h2 : valV (q :: ks) (kI k) = some q.2 := valV_pos (by rw [e.1, c])
      refine ⟨fun v ev => ?_, fun en => ?_⟩
      · rw [h1] at ev
        cases ev
        exact ⟨q.2, h2, by rw [e1]; exact r1⟩
      · rw [h1] at en
        cases en
    · have h1 : dLook (p :: kvs) k = dLook kvs k := by simp [dLook, List.find?_cons, c]
      have h2 : valV (q :: ks) (kI k) = valV ks (kI k) := valV_neg fun z => c (kI_inj (by rw [← e.1, z]))
      rw [h1, h2]
      exact ih
theorem any_rep {k : List Int} : ∀ {kvs : List (List Int × PV)} {ks : List (List Key × V)}, ks.map (·.1) = kvs.map (fun p => kI p.1) → (ks.any fun p => decide (p.1 = kI k)) = kvs.any fun p => decide (p.1 = k)
  | [], [], _ => rfl
  | [], _ :: _, e => by simp at e
  | _ :: _, [], e => by simp at e
  | p :: kvs, q :: ks, e => by
    simp only [List.map_cons, List.cons.injEq] at e
    have ih := any_rep (k := k) e.2
    rw [List.any_cons, List.any_cons, ih, e.1]
    congr 1
    rw [decide_eq_decide]
    exact ⟨kI_inj, fun z => by rw [z]⟩
theorem put_rep1 {k : List Int} {v : PV} {x : V} (rx : Rep K m H v x) : ∀ {kvs : List (List Int × PV)} {ks : List (List Key × V)}, ks.map (·.1) = kvs.map (fun p => kI p.1) → Reps K m H (kvs.map (·.2)) (ks.map (·.2)) →
    (ks.map fun p => if p.1 = kI k then (p.1, x) else p).map (·.1) = (kvs.map fun p => if p.1 = k then (p.1, v) else p).map (fun p => kI p.1) ∧
    Reps K m H ((kvs.map fun p => if p.1 = k then (p.1, v) else p).map (·.2)) ((ks.map fun p => if p.1 = kI k then (p.1, x) else p).map (·.2))
  | [], [], _, _ => ⟨rfl, Reps.nil⟩
  | [], _ :: _, e, _ => by simp at e
  | _ :: _, [], e, _ => by simp at e
  | p :: kvs, q :: ks, e, r => by
    simp only [List.map_cons, List.cons.injEq] at e
    obtain ⟨y, t, ex, r1, r2⟩ := r.cons_inv
    simp only [List.map_cons, List.cons.injEq] at ex
    obtain ⟨e1, e2⟩ := ex
    subst e2
    obtain ⟨i1, i2⟩ := put_rep1 (k := k) rx e.2 r2
    by_cases c : p.1 = k
    · have c2 : q.1 = kI k := by rw [e.1, c]
      simp only [List.map_cons, if_pos c, if_pos c2]
      exact ⟨by rw [e.1, i1], Reps.cons rx i2⟩
    · have c2 : ¬ q.1 = kI k := fun z => c (kI_inj (by rw [← e.1, z]))
      simp only [List.map_cons, if_neg c, if_neg c2]
      exact ⟨by rw [e.1, i1], Reps.cons (by rw [e1]; exact r1) i2⟩
theorem put_rep {k : List Int} {v : PV} {x : V} {kvs : List (List Int × PV)} {ks : List (List Key × V)} (rx : Rep K m H v x) (e : ks.map (·.1) = kvs.map (fun p => kI p.1)) (r : Reps K m H (kvs.map (·.2)) (ks.map (·.2))) :
    (putK ks (kI k) x).map (·.1) = (dPut kvs k v).map (fun p => kI p.1) ∧ Reps K m H ((dPut kvs k v).map (·.2)) ((putK ks (kI k) x).map (·.2)) := by
  unfold putK dPut
  rw [any_rep (k := k) e]
  by_cases c : (kvs.any fun p => decide (p.1 = k)) = true
  · rw [if_pos c, if_pos c]
    exact put_rep1 rx e r
  · rw [if_neg c, if_neg c]
    simp only [List.map_append, List.map_cons, List.map_nil, e]
    exact ⟨trivial, r.append (Reps.cons rx Reps.nil)⟩
theorem rep_getD {h : VH} {n : Nat} {a : Addr} {kvs : List (List Int × PV)} (s : SR K m h H) (e : h[n]? = some (.dT kvs)) (e2 : m[n]? = some a) :
    ∃ ks : List (List Key × V), H a = some (.dT ks) ∧ ks.map (·.1) = kvs.map (fun p => kI p.1) ∧ Reps K m H (kvs.map (·.2)) (ks.map (·.2)) := s.obj n _ a e e2
theorem rep_key {l : List PV} {k : List Int} {x : V} (e : intsP l = some k) (ne : kok k) (r : Rep K m H (.tup l) x) : ∃ b, x = .ref b ∧ H b = some (.tup ((kI k).map kV)) := by
  obtain ⟨b, xs, rfl, t, rs⟩ := rep_tup r
  have ex := intsP_rep e rs
  subst ex
  refine ⟨b, rfl, ?_⟩
  rw [kI_kV]
  exact t.key (keyish_of ne)
end
/-! {} -/
def dNewD : Sl → M PV := fun _ h => .ok (.ref h.length) (h ++ [.dT []])
section
variable {X : Cx} {W : WX} {a b c : Expr} {da db dc : Sl → M PV} {pos apos : Pos}
theorem de_newD : DE X W (.Dict [] [] pos) dNewD :=
  weakE pe_dnewT fun σ H Q ⟨m, v, h, sr, sl, p⟩ => fun q nq =>
    p (m ++ [q]) _ (.upd_add nq) (sr.add nq ⟨[], upd_same, rfl, Reps.nil⟩) _ (rep_ref' (by rw [← sr.len, List.getElem?_append_right (Nat.le_refl _)]; simp))
/-! d[k] -/
def oIxD (a k : PV) : O PV := fun h => match a, k with
  | .ref n, .tup l => match h[n]?, intsP l with
    | some (.dT kvs), some k => if kok k then (match dLook kvs k with
      | some v => some (v, h)
      | none => none) else none
    | _, _ => none
  | _, _ => none
theorem oIxD_inv {a k : PV} {h h' : VH} {z : PV} (e : oIxD a k h = some (z, h')) : ∃ n l kvs ks, a = .ref n ∧ k = .tup l ∧ h[n]? = some (.dT kvs) ∧ intsP l = some ks ∧ kok ks ∧ dLook kvs ks = some z ∧ h' = h := by
  unfold oIxD at e
  split at e
  · split at e
    · split at e
      · split at e
        · cases e
          exact ⟨_, _, _, _, rfl, rfl, by assumption, by assumption, by assumption, by assumption, rfl⟩
        · cases e
      · cases e
    · cases e
  · cases e
theorem de_ixD (hu : X.A.units + 64 < cLine) (ha : DE X W a da) (hb : DE X W b db) (hs : NoSl b) : DE X W (.Subscript a b pos) (dBin oIxD da db) :=
  weakE (pe_dget (by omega) ha hb hs) fun σ H Q ⟨m, v, h, sr, sl, p⟩ => seq2 ⟨m, v, h, sr, sl, _, p, fun m2 H2 h2 a b x y x2 sr2 _ ra rb p2 => by
    obtain ⟨z, h', e, q⟩ := Post.lift p2
    obtain ⟨n, l, kvs, ks, rfl, rfl, e1, e2, ne, e3, rfl⟩ := oIxD_inv e
    obtain ⟨D, rfl, hD⟩ := rep_ref ra
    obtain ⟨us, eD, f1, f2⟩ := rep_getD sr2 e1 hD
    obtain ⟨b, rfl, eb⟩ := rep_key e2 ne rb
    obtain ⟨w, ew, rw_⟩ := (look_rep (k := ks) f1 f2).1 z e3
    exact ⟨D, w, rfl, by have := DGet.t (k := kI ks) eD eb; rw [ew] at this; exact this, q m2 H2 .refl sr2 w rw_⟩⟩
/-! k in d -/
def oInD (k a : PV) : O PV := fun h => match a, k with
  | .ref n, .tup l => match h[n]?, intsP l with
    | some (.dT kvs), some k => if kok k then some (.bl (dLook kvs k).isSome, h) else none
    | _, _ => none
  | _, _ => none
/-! d[k] = v -/
def oSetD (a k v : PV) : O Unit := fun h => match a, k with
  | .ref n, .tup l => match h[n]?, intsP l with
    | some (.dT kvs), some k => if kok k ∧ kvs.length < 16777216 then some ((), h.set n (.dT (dPut kvs k v))) else none
    | _, _ => none
  | _, _ => none
theorem p_setD (hu : X.A.units + 64 < cLine) : PSet X (rOP X.K oSetD) := by
  intro pins s σ H o i v ov iv u Q I ro ri rv ⟨m, h, a, b, c, h', sr, ra, rb, rc, e, q⟩
  unfold oSetD at e
  split at e
  · rename_i n l
    split at e
    · rename_i kvs ks e1 e2
      split at e
      · rename_i c2
        cases e
        obtain ⟨D, rfl, hD⟩ := rep_ref ra
        obtain ⟨us, eD, f1, f2⟩ := rep_getD sr e1 hD
        obtain ⟨b, rfl, eb⟩ := rep_key e2 c2.1 rb
        cases ro
        have lus : us.length = kvs.length := by have := congrArg List.length f1; simpa using this
        obtain ⟨g1, g2⟩ := put_rep (k := ks) rc f1 f2
        refine d_setItem (by omega) I (DPut.t eD eb (by rw [lus]; have := sizeLine_eq; omega)) ri rv fun s' I' => ⟨_, I', ?_⟩
        exact q m _ (.upd_set (List.mem_of_getElem? hD)) (sr.put hD ⟨_, upd_same, g1, g2.ext (.upd_set (List.mem_of_getElem? hD))⟩)
      · cases e
    · cases e
  · cases e
/-! d.get(k, x) -/
def oGetD (a k z : PV) : O PV := fun h => match a, k with
  | .ref n, .tup l => match h[n]?, intsP l with
    | some (.dT kvs), some k => if kok k then some ((dLook kvs k).getD z, h) else none
    | _, _ => none
  | _, _ => none
def oDict (a : PV) : O Unit := fun h => match a with
  | .ref n => match h[n]? with
    | some (.dT _) => some ((), h)
    | _ => none
  | _ => none
def dGet2 (da db dc : Sl → M PV) : Sl → M PV := fun v => bnd (da v) fun x => bnd (liftO (oDict x)) fun _ => bnd (db v) fun y => bnd (dc v) fun z => liftO (oGetD x y z)
theorem de_get2 (hu : X.A.units + 64 < cLine) (ha : DE X W a da) (hb : DE X W b db) (hc : DE X W c dc) (hm : M2 X a "get" apos b c pos) : DE X W (.Call (.Attribute a "get" apos) [b, c] [] pos) (dGet2 da db dc) :=
  weakE (pe_dget2 (by omega) ha hb hc hm) fun σ H Q ⟨m, v, h, sr, sl, p⟩ => by
    refine ⟨m, v, h, sr, sl, (Post.seq p).mono fun m1 H1 h1 x x1 sr1 p1 w rw_ => ?_⟩
    obtain ⟨_, h1', e1, p1'⟩ := Post.lift (Post.seq p1)
    unfold oDict at e1
    split at e1
    · rename_i n
      split at e1
      · rename_i kvs en
        cases e1
        obtain ⟨D, rfl, hD⟩ := rep_ref rw_
        obtain ⟨us, eD, _, _⟩ := rep_getD sr1 en hD
        refine ⟨D, rfl, .inr ⟨us, .inl eD⟩, ?_⟩
        refine seq2 ⟨m1, v, h1, sr1, sl.ext x1, _, p1' m1 H1 .refl sr1, fun m2 H2 h2 y z y' z' x2 sr2 _ ry rz p2 => ?_⟩
        obtain ⟨r, h', e, q⟩ := Post.lift p2
        unfold oGetD at e
        split at e
        · rename_i n' l e0
          cases e0
          split at e
          · rename_i kvs' ks e3 e4
            split at e
            · rename_i ne
              cases e
              have hD2 := x2.get hD
              obtain ⟨us2, eD2, f1, f2⟩ := rep_getD sr2 e3 hD2
              obtain ⟨b, rfl, eb⟩ := rep_key e4 ne ry
              have g := DGet.t (k := kI ks) eD2 eb
              refine ⟨valV us2 (kI ks), g, q m2 H2 .refl sr2 _ ?_⟩
              obtain ⟨k1, k2⟩ := look_rep (k := ks) f1 f2
              cases el : dLook kvs' ks with
              | none => rw [k2 el]; exact rz
              | some r =>
                obtain ⟨w, ew, rw2⟩ := k1 r el
                rw [ew]
                exact rw2
            · cases e
          · cases e
        · cases e
      · cases e1
    · cases e1
end
section
variable {v : Sl} {h : VH}
theorem ok_newD {Q : PV → VH → Prop} : OK (dNewD v h) Q = Q (.ref h.length) (h ++ [.dT []]) := by with_unfolding_all rfl
theorem oo_ixD {n : Nat} {kvs : List (List Int × PV)} {k : List Int} {r : PV} {Q : PV → VH → Prop} (e : h[n]? = some (.dT kvs)) (ne : kok k) (el : dLook kvs k = some r) : OO (oIxD (.ref n) (.tup (intL k)) h) Q = Q r h := by
  have : oIxD (.ref n) (.tup (intL k)) h = some (r, h) := by simp only [oIxD, e, intsP_ints, if_pos ne, el]
  rw [this]; exact oo_some
theorem oo_setD {n : Nat} {kvs : List (List Int × PV)} {k : List Int} {r : PV} {Q : Unit → VH → Prop} (e : h[n]? = some (.dT kvs)) (ne : kok k) (hl : kvs.length < 16777216) : OO (oSetD (.ref n) (.tup (intL k)) r h) Q = Q () (h.set n (.dT (dPut kvs k r))) := by
  have : oSetD (.ref n) (.tup (intL k)) r h = some ((), h.set n (.dT (dPut kvs k r))) := by simp only [oSetD, e, intsP_ints, if_pos (And.intro ne hl)]
  rw [this]; exact oo_some
theorem ok_get2 {da db dc : Sl → M PV} {Q : PV → VH → Prop} : OK (dGet2 da db dc v h) Q = OK (da v h) fun x h1 => OO (oDict x h1) fun _ h1 => OK (db v h1) fun y h2 => OK (dc v h2) fun z h3 => OO (oGetD x y z h3) Q := by
  unfold dGet2; simp only [ok_bnd, ok_lift]
theorem oo_dict {n : Nat} {kvs : List (List Int × PV)} {Q : Unit → VH → Prop} (e : h[n]? = some (.dT kvs)) : OO (oDict (.ref n) h) Q = Q () h := by
  have : oDict (.ref n) h = some ((), h) := by simp only [oDict, e]
  rw [this]; exact oo_some
theorem oo_getD {n : Nat} {kvs : List (List Int × PV)} {k : List Int} {z : PV} {Q : PV → VH → Prop} (e : h[n]? = some (.dT kvs)) (ne : kok k) : OO (oGetD (.ref n) (.tup (intL k)) z h) Q = Q ((dLook kvs k).getD z) h := by
  have : oGetD (.ref n) (.tup (intL k)) z h = some ((dLook kvs k).getD z, h) := by simp only [oGetD, e, intsP_ints, if_pos ne]
  rw [this]; exact oo_some
end
end D

/-! layer D, part 31: sorted(d), dict(pairs), tuples whose object is known -/
namespace D
open PySem PySem.Spec PySem.W PyProof.Rows L2
/-! sorted(d) -/
def oSortD (as : List PV) : O PV := fun h => match as with
  | [.ref n] => match h[n]? with
    | some (.dT kvs) => if sortOk (tupD (kvs.map Prod.fst)) = true then some (.ref h.length, h ++ [.lst (tupI (srt (kvs.map Prod.fst)))]) else none
    | _ => none
  | _ => none
abbrev keyD (p : Addr × List Int) : PyData := .tuple (p.2.map PyData.int)
theorem readsAll_ints {h : Heap} : ∀ {ks : List Int} {us : List Value}, Vals (ks.map V.int) us → ReadsAll h us (ks.map PyData.int) []
  | [], _, r => by cases r; exact .nil
  | k :: ks, _, r => by
    cases r with
    | cons a t =>
      obtain ⟨tk, rfl⟩ := a
      exact .cons (as := []) (bs := []) (.int k tk) (readsAll_ints t)
theorem reads_key {P : Program} {w : World} {H : Hp} {h : Heap} {b : Addr} {k : List Int} (ok : HOk P w H h) (e : H b = some (.tup (k.map V.int))) : Reads h (.ref b) (.tuple (k.map PyData.int)) [] := by
  obtain ⟨_, its, r, o, h1, h2, n, h3⟩ := (show ObjOk P w H h b (.tup (k.map V.int)) from ok b _ e)
  exact .tuple h1 h2 h3 (by rw [List.toList_toArray]; exact readsAll_ints r)
theorem sort_keys (ks : List (Addr × List Int)) : (ks.mergeSort (dataLe false keyD)).map Prod.snd = srt (ks.map Prod.snd) := by
  unfold srt
  rw [mergeSort_map, show dataLe false keyD = fun p q : Addr × List Int => decide (p.2 ≤ q.2) from dataLe_tups Prod.snd]
theorem keys_list {H : Hp} : ∀ {kvs : List (List Int × PV)} {ks : List (List Key × V)} {xs : List (List Key × Addr × Value)}, ks.map (·.1) = kvs.map (fun p => kI p.1) → KT H ks xs →
    ∃ KS : List (Addr × List Int), KS.map Prod.snd = kvs.map Prod.fst ∧ KS.map Prod.fst = xs.map (fun x => x.2.1) ∧ ∀ p ∈ KS, H p.1 = some (.tup (p.2.map V.int))
  | [], [], _, _, r => by cases r; exact ⟨[], rfl, rfl, by simp⟩
  | [], _ :: _, _, e, _ => by simp at e
  | _ :: _, [], _, e, _ => by simp at e
  | p :: kvs, q :: ks, _, e, r => by
    simp only [List.map_cons, List.cons.injEq] at e
    cases r with
    | cons a t =>
      rename_i y ys
      obtain ⟨KS, g1, g2, g3⟩ := keys_list e.2 t
      refine ⟨(y.2.1, p.1) :: KS, by simp [g1], by simp [g2], fun z hz => ?_⟩
      rcases List.mem_cons.mp hz with rfl | hz
      · have := a.2.1
        rw [e.1, kI_kV] at this
        exact this
      · exact g3 z hz
theorem each_krefs {h : Heap} {KS : List (Addr × List Int)} : ∀ {L : List (Addr × List Int)}, (∀ p ∈ L, p ∈ KS) → EachIs (fun v (p : Addr × List Int) => v = Value.ref p.1 ∧ p ∈ KS) (L.map fun p => Value.ref p.1) L
  | [], _ => .nil
  | p :: L, h' => .cons ⟨rfl, h' p List.mem_cons_self⟩ (each_krefs (h := h) fun q hq => h' q (List.mem_cons_of_mem _ hq))
theorem each_vals {KS : List (Addr × List Int)} : ∀ {out : List Value} {L : List (Addr × List Int)}, EachIs (fun v (p : Addr × List Int) => v = Value.ref p.1 ∧ p ∈ KS) out L → Vals (L.map fun p => V.ref p.1) out ∧ ∀ p ∈ L, p ∈ KS
  | _, _, .nil => ⟨.nil, by simp⟩
  | _, _, .cons a t => by
    obtain ⟨h1, h2⟩ := each_vals t
    refine ⟨.cons a.1 h1, fun q hq => ?_⟩
    rcases List.mem_cons.mp hq with rfl | hq
    · exact a.2
    · exact h2 q hq
theorem each_reads {h : Heap} {a : Addr} : ∀ {L : List (Addr × List Int)}, (∀ p ∈ L, Reads h (.ref p.1) (keyD p) []) → EachIs (fun v (p : Addr × List Int) => ∃ as, Reads h v (keyD p) as ∧ a ∉ as) (L.map fun p => Value.ref p.1) L
  | [], _ => .nil
  | p :: L, h' => .cons ⟨[], h' p List.mem_cons_self, by simp⟩ (each_reads fun q hq => h' q (List.mem_cons_of_mem _ hq))
theorem notin_of {K : PySem.W.Frag} {m : List Addr} {h : VH} {H : Hp} {a : Addr} {xs : List V} (s : SR K m h H) (e : H a = some (.tup xs)) : a ∉ m := fun hm => by
  obtain ⟨u, e', mu⟩ := s.mem hm
  rw [e] at e'
  cases e'
  rcases mu with z | ⟨_, z⟩
  · exact z
  · cases z
section
variable {X : Cx}
theorem c_sortD (hc : X.calm = true) (hu : X.A.units + 64 < cLine) : CallR X (.builtin "sorted") (rOL X.K oSortD) := by
  intro pins s σ H xs us Q I rx ⟨m, h, as, z, h', sr, rs, e, q⟩
  unfold oSortD at e
  split at e
  · rename_i n
    split at e
    · rename_i kvs en
      split at e
      · rename_i c
        cases e
        obtain ⟨x, t, rfl, r1, r2⟩ := rs.cons_inv
        have ht := r2.nil_inv
        subst ht
        obtain ⟨D, rfl, hD⟩ := rep_ref r1
        obtain ⟨ks, eD, f1, f2⟩ := rep_getD sr en hD
        obtain ⟨u, rfl, ru⟩ := rx.one
        cases ru
        obtain ⟨zl, hs, ys, pr, o, es, ep, ho, hx, hdt, he, hn⟩ := (show ObjOk X.prog X.w H s.heap D (.dT ks) from I.hok D _ eD)
        obtain ⟨KS, g1, g2, g3⟩ := keys_list f1 pr
        have l1 : es.size = ys.length := PySem.size_of_entries he
        have l2 : ks.length = ys.length := Paired.length pr
        have l3 : KS.length = ys.length := by have := congrArg List.length g2; simpa using this
        have tD : (tupD (kvs.map Prod.fst)) = KS.map keyD := by
          rw [← g1]
          unfold tupD
          rw [List.map_map]
          rfl
        obtain ⟨k1, k2, k3, k4⟩ := sortOk_ok c
        rw [tD] at k1 k2 k3 k4
        refine Calls.call_function_entry PyProof.Rows.kind_sorted PyProof.Rows.plain_sorted PyProof.Rows.entry_sorted (PyProof.Rows.args_sorted1 _) ?_
        unfold Builtin.«sorted»
        refine wpAny_bind (m := checkCount "sorted" 1 1 _) (wpAny_pure ?_)
        refine wpAny_bind (PySem.W.kdu_collect (A := X.A.in1) (L2.kdl_raw hs hx hdt) (I.ok.hd hc) ho (by omega) fun h1 tk acc hk it => ?_)
        have ea : acc.toList = KS.map fun p => Value.ref p.1 := by
          have e0 : (KS.map fun p => Value.ref p.1) = ys.map fun x => Value.ref x.2.1 := by
            rw [show (KS.map fun p => Value.ref p.1) = (KS.map Prod.fst).map Value.ref by rw [List.map_map]; rfl, g2, List.map_map]
            rfl
          rw [e0]
          have hl : acc.toList.length = ys.length := by rw [Array.length_toList, it.1]; exact l1
          refine List.ext_getElem? fun j => ?_
          rw [List.getElem?_map]
          cases hj : acc.toList[j]? with
          | none =>
            have h1 := List.getElem?_eq_none_iff.mp hj
            rw [List.getElem?_eq_none (by omega)]
            rfl
          | some v =>
            obtain ⟨en2, hen, hv⟩ := it.2 j v (by rw [← Array.getElem?_toList]; exact hj)
            have qe := PySem.entry_at he j
            rw [hen] at qe
            cases hb : ys[j]? with
            | none => rw [hb] at qe; exact nomatch (show some en2 = none from qe)
            | some b =>
              rw [hb] at qe
              have e2 : en2 = entryOfKey (tupleKind (mixKind X.prog X.w)) b := Option.some.inj qe
              rw [hv, e2]
              rfl
        have I1 : Inv X pins σ H { s with heap := h1, toks := tk } := I.kept hk
        have lacc : acc.toList.length = KS.length := by rw [ea, List.length_map]
        have lz : acc.toList.length ≤ sizeLine := by rw [lacc, l3, ← l2]; exact zl
        refine wpAny_bind (wpAny_newList ?_ lz)
        have hoL : (h1.push (seqObj "list" acc.toList.toArray 0)).get? h1.objs.size = some (seqObj "list" acc.toList.toArray 0) := Heap.get?_push_size _ rfl
        show wpAny _ _ _ _ _ { s with heap := h1.push (seqObj "list" acc.toList.toArray 0), toks := tk }
        have er : EachIs (fun v (p : Addr × List Int) => ∃ as, Reads (h1.push (seqObj "list" acc.toList.toArray 0)) v (keyD p) as ∧ h1.objs.size ∉ as) acc.toList KS := by
          rw [ea]
          exact each_reads fun p hp => PyProof.Rows.Reads.keeps (fun _ _ e => Heap.get?_push_of_some _ e) (reads_key I1.hok (g3 p hp))
        have e1 : EachIs (fun v (p : Addr × List Int) => v = Value.ref p.1 ∧ p ∈ KS) acc.toList KS := by
          rw [ea]
          exact each_krefs (h := h1) fun p hp => hp
        refine wpAny_bind (wpAny_holding (list_sort_data (s := { s with heap := h1.push (seqObj "list" acc.toList.toArray 0), toks := tk }) (enc := keyD) hoL e1 er k1 k2 (by rw [l3, ← l2]; exact zl) (fun b hb => ?_) fun out hout eo => ?_))
        · have := k3 (keyD b) (List.mem_map.mpr ⟨b, hb, rfl⟩)
          show X.A.units + 1 + 1 + (keyD b).depth < cLine
          omega
        · obtain ⟨v1, v2⟩ := each_vals eo
          obtain ⟨e', he'⟩ := PyProof.Rows.sortedHeap_at (vs := acc.toList) (out := out.toArray) hoL
          have np := I1.hok.fresh (Nat.le_refl h1.objs.size)
          have rr : Reps X.K m H (tupI (srt (kvs.map Prod.fst))) ((KS.mergeSort (dataLe false keyD)).map fun p => V.ref p.1) := by
            rw [← g1, ← sort_keys]
            exact reps_refs fun p hp => ⟨notin_of sr (g3 p (v2 p hp)), .inl (g3 p (v2 p hp))⟩
          have lo : ((KS.mergeSort (dataLe false keyD)).map fun p => V.ref p.1).length ≤ sizeLine := by
            rw [v1.length, hout, l3, ← l2]
            exact zl
          refine wpAny_pure ⟨_, rfl, .ref h1.objs.size, upd H h1.objs.size (.lst ((KS.mergeSort (dataLe false keyD)).map fun p => V.ref p.1)), I1.laid (t' := tk) (fun b u e => ?_) (Nat.le_refl _)
            (show ObjOk X.prog X.w _ _ _ (.lst ((KS.mergeSort (dataLe false keyD)).map fun p => V.ref p.1)) from ⟨lo, out, e', v1, he'⟩), rfl, ?_⟩
          · have hb : b < h1.objs.size := Heap.lt_size e
            rw [PyProof.Rows.sortedHeap_old (Nat.ne_of_lt hb) (by rw [size_push']; exact Nat.lt_succ_of_lt hb)]
            exact Heap.get?_push_of_some _ e
          · exact q (m ++ [h1.objs.size]) _ _ (.upd_add np) (sr.addLst np rr) (rep_ref' (by rw [← sr.len, List.getElem?_append_right (Nat.le_refl _)]; simp))
      · cases e
    · cases e
  · cases e
end
section
variable {h : VH}
theorem oo_sortD {n : Nat} {kvs : List (List Int × PV)} {Q : PV → VH → Prop} (e : h[n]? = some (.dT kvs)) (hl : kvs.length ≤ 10000) (hn : ∀ p ∈ kvs, p.1 ≠ []) : OO (oSortD [.ref n] h) Q = Q (.ref h.length) (h ++ [.lst (tupI (srt (kvs.map Prod.fst)))]) := by
  have sk : sortOk (tupD (kvs.map Prod.fst)) = true := by
    have h1 := alikeB_tups (kvs.map Prod.fst)
    have h3 : (tupD (kvs.map Prod.fst)).all (fun d => decide (d.depth ≤ 60)) = true := List.all_eq_true.mpr fun a ha => by
      obtain ⟨r, _, rfl⟩ := List.mem_map.mp ha
      refine decide_eq_true ?_
      simp only [PyData.depth, dAll_ints]
      omega
    have h4 : decide ((tupD (kvs.map Prod.fst)).length ≤ 16777216) = true := decide_eq_true (by unfold tupD; rw [List.length_map, List.length_map]; omega)
    have h2 : (tupD (kvs.map Prod.fst)).all tupNe = true := List.all_eq_true.mpr fun a ha => by
      obtain ⟨r, hr, rfl⟩ := List.mem_map.mp ha
      obtain ⟨p, hp, rfl⟩ := List.mem_map.mp hr
      have := hn p hp
      cases e : p.1 with
      | nil => exact absurd e this
      | cons x r => rfl
    simp only [sortOk, h1, h2, h3, h4, Bool.true_or, Bool.and_self]
  have : oSortD [.ref n] h = some (.ref h.length, h ++ [.lst (tupI (srt (kvs.map Prod.fst)))]) := by simp only [oSortD, e, if_pos sk]
  rw [this]; exact oo_some
end
end D

/-! layer D, part 32: dict comprehensions, keys tuples of whole numbers -/
namespace D
open PySem PySem.Spec PyProof.Rows L2
theorem d_setT {X : Cx} {pins : List (Addr × Obj)} {σ : L2.St} {H : Hp} {s : Shared} {E : Value → Shared → Prop} {D b : Addr} {kvs : List (List Key × V)} {k : List Key} {v : V} {r : Value} {Q : Unit → Shared → Prop} (hu : X.A.units + 1 < cLine) (I : L2.Inv X pins σ H s) (hD : H D = some (.dT kvs)) (hz : kvs.length < sizeLine)
    (eb : H b = some (.tup (k.map kV))) (rv : RelV v r) (h : ∀ s', L2.Inv X pins σ (upd H D (.dT (putK kvs k v))) s' → Q () s') : wpAny (model X.prog X.w) X.A (dictSet D (.ref b) r) Q E s := by
  obtain ⟨z, hd, xs, rel, dd⟩ := dt_of I.hok hD
  have hzl : xs.length ≤ sizeLine := by rw [← Paired.length rel]; exact z
  have hl : (putK kvs k v).length ≤ sizeLine := by have := length_putK kvs k v; omega
  have room : (tupleKind (mixKind X.prog X.w)).room X.A := show X.A.units < cLine by omega
  refine wpAny_dictSet_heap (hsz := hzl) room (key_of I.hok eb) dd fun h' dd' hs => h _ ?_
  obtain ⟨q, es, ep, hq, h2, h3, h4, _, h5⟩ := dd'
  refine d_write I (by rw [hD]; exact True.intro) hs ⟨q, hq⟩ ⟨hl, hd, _, (rel.put k eb rv).keeps fun c ys ec => ?_, q, es, ep, hq, h2, h3, h4, h5⟩
  rw [upd_ne (ne_of ec hD (fun z => nomatch z))]
  exact ec
section
variable {X : Cx}
/-- {k: v for tg in iter if ..}: the dict at D, of no one else, as far as it is filled -/
def tDcT (wi : TI) (g : TG) (tt : TT) (tk tv : TE) (vs : List Nat) : TE := fun σ H Q => wi σ H fun J H1 => ∀ D, H1 D = none → ∃ V : Nat → Nat → Hp → Prop, (∃ m, V 0 m (upd H1 D (.dT []))) ∧ ∀ i m H, V i m H →
  (J.stop i H ∧ Q (.ref D) H) ∨ (J.go i H ∧ ∃ Nx : Hp → Prop, (∀ H', Nx H' → ∃ m', m' < m ∧ V (i + 1) m' H') ∧ ∀ x H', J.yld i H x H' → g x (L2.wipe σ vs) H' fun σ2 H2 => L2.wipe σ2 vs = L2.wipe σ vs ∧ tt σ2 H2 fun b H3 =>
    if b = true then tk σ2 H3 fun y H4 => tv σ2 H4 fun z H5 => ∃ kvs k q, y = .ref q ∧ H5 q = some (.tup (k.map kV)) ∧ H5 D = some (.dT kvs) ∧ kvs.length < sizeLine ∧ Nx (upd H5 D (.dT (putK kvs k z))) else Nx H3)
theorem pe_dcT {kx vx tg iter : Expr} {ifs : List Expr} {scope : Scope} {own : List (Str × Nat)} {pos : Pos} {wi : TI} {g : TG} {tt : TT} {tk tv : TE} (hc : X.calm = true) (hu : X.A.units + 1 < cLine) (hN : X.N.Nodup) (hi : PI X tg iter wi) (ok : BlkOk X.N X.env.scope scope own)
    (hg : ∀ (s : Shared) (H : Hp) (C : Addr) (cl : List (Str × Addr)) (fp : List Addr), PG (X.blk s H scope (compEnvC scope cl C X.env) fp) tg g)
    (ht : ∀ (s : Shared) (H : Hp) (C : Addr) (cl : List (Str × Addr)) (fp : List Addr), PTs (X.blk s H scope (compEnvC scope cl C X.env) fp) ifs tt)
    (hk : ∀ (s : Shared) (H : Hp) (C : Addr) (cl : List (Str × Addr)) (fp : List Addr), PE (X.blk s H scope (compEnvC scope cl C X.env) fp) kx tk)
    (he : ∀ (s : Shared) (H : Hp) (C : Addr) (cl : List (Str × Addr)) (fp : List Addr), PE (X.blk s H scope (compEnvC scope cl C X.env) fp) vx tv)
    (hs : ∀ x, foldedSetIterable iter X.env x = pure x := by intro _; rfl) :
    PE X (.DictComp kx vx [⟨tg, iter, ifs, 0⟩] scope pos) (tDcT wi g tt tk tv (own.map (·.2))) := by
  refine ⟨fun pins s σ H Q I h => ?_⟩
  have free : ∀ y ∈ scope.names, y.2 = .free → ∃ c, X.env.cells.lookup y.1 = some c := fun y hy e => I.ok.has _ (by
    rcases ok.free y hy e with k | k
    · exact .inl k
    · exact .inr k)
  rw [arm_eval_DictComp]
  refine wpAny_comprehension_free (use := none) rfl hs (closure_ok free) ok.kind (fun y hy e => by rw [ok.uniq y hy, e]) (thn (hi.run pins s σ H _ I h) fun xv s1 k1 => thn k1 fun itv s2 k2 => ?_)
  obtain ⟨it, fp, tn, J, H2, rfl, I2, T, st2, f2, q⟩ := k2
  -- a new dict, a new block of names
  refine wpAny_newObj_type (newEnv_comp ?_)
  generalize eD : s2.heap.objs.size = D
  generalize e3 : ({ s2 with heap := s2.heap.push { cls := .type "dict", data := .dict #[] } } : Shared) = s3
  have D2 : H2 D = none := I2.hok.fresh (Nat.le_of_eq eD)
  obtain ⟨V, ⟨m0, v0⟩, turn⟩ := q D D2
  have grow3 : ∀ b o, s2.heap.get? b = some o → s3.heap.get? b = some o := fun b o e => by rw [← e3]; exact Heap.get?_push_of_some _ e
  have I3 : L2.Inv X pins σ (upd H2 D (.dT [])) s3 := by
    have new : ObjOk X.prog X.w (upd H2 D (.dT [])) (s2.heap.push { cls := .type "dict", data := .dict #[] }) D (.dT []) := by rw [← eD]; exact dt_empty s2.heap I2.big
    have := I2.laid (t' := s2.toks) (fun b o e => Heap.get?_push_of_some _ e) (Nat.le_of_eq eD) new
    rw [← e3]
    exact this
  have low : ∀ b ∈ fp, b < s2.heap.objs.size := fun b hb => by
    obtain ⟨o, e, _⟩ := T.obj _ _ st2 b hb
    exact Heap.lt_size e
  have f3 : ∀ b ∈ fp, FpOk X pins (upd H2 D (.dT [])) b ∧ b < s3.heap.objs.size := fun b hb => by
    have lt := low b hb
    refine ⟨⟨by rw [upd_ne (by rw [← eD]; exact Nat.ne_of_lt lt)]; exact (f2 b hb).1, (f2 b hb).2⟩, ?_⟩
    rw [← e3]
    show b < (s2.heap.push _).objs.size
    rw [Heap.size_push]
    exact Nat.lt_succ_of_lt lt
  have I4 := block_start I3 ok hN f3
  have pg := hg s3 (upd H2 D (.dT [])) s3.heap.objs.size (cellsFrom (s3.heap.objs.size + 1) scope.names (cloFrom X.env.cells scope.names [])) fp
  have pt := ht s3 (upd H2 D (.dT [])) s3.heap.objs.size (cellsFrom (s3.heap.objs.size + 1) scope.names (cloFrom X.env.cells scope.names [])) fp
  have pk := hk s3 (upd H2 D (.dT [])) s3.heap.objs.size (cellsFrom (s3.heap.objs.size + 1) scope.names (cloFrom X.env.cells scope.names [])) fp
  have pv := he s3 (upd H2 D (.dT [])) s3.heap.objs.size (cellsFrom (s3.heap.objs.size + 1) scope.names (cloFrom X.env.cells scope.names [])) fp
  have h3 : s3.heap = s2.heap.push { cls := .type "dict", data := .dict #[] } := by rw [← e3]
  show codeAny _ _ (.compStart (.DictComp kx vx [⟨tg, iter, ifs, 0⟩] scope pos) 0 (.ref it) (.ref D) (compEnvC scope (cellsFrom (s3.heap.objs.size + 1) scope.names (cloFrom X.env.cells scope.names [])) s3.heap.objs.size X.env)) (compPost (model X.prog X.w) X.A X.xe none (EP X pins σ Q) (.ref D) s3.heap.objs.size) { s3 with heap := pushCells (s3.heap.push { cls := .type "dict", data := .dict #[] }) scope.names }
  generalize ece : compEnvC scope (cellsFrom (s3.heap.objs.size + 1) scope.names (cloFrom X.env.cells scope.names [])) s3.heap.objs.size X.env = ce at I4 pg pt pk pv ⊢
  have cL : ce.locals = s3.heap.objs.size := by rw [← ece]; rfl
  have none3 : ∀ b ∈ fp, (upd H2 D (.dT [])) b = none := fun b hb => (f3 b hb).1.1
  generalize eH3 : upd H2 D (.dT []) = H3 at I3 I4 pg pt pk pv v0 none3 f3
  have st3 : tn 0 s3.heap := T.keep _ _ _ st2 fun b _ o e => grow3 b o e
  have st4 : tn 0 (pushCells (s3.heap.push { cls := .type "dict", data := .dict #[] }) scope.names) := T.keep _ _ _ st3 fun b _ o e => pushCells_keeps _ _ _ _ (Heap.get?_push_of_some _ e)
  generalize e4 : ({ s3 with heap := pushCells (s3.heap.push { cls := .type "dict", data := .dict #[] }) scope.names } : Shared) = s4 at I4 ⊢
  replace st4 : tn 0 s4.heap := by rw [← e4]; exact st4
  have stat : ∀ {σ' : L2.St} {H' : Hp} {s' : Shared}, L2.Inv (X.blk s3 H3 scope ce fp) [] σ' H' s' → (∀ b ∈ fp, H' b = none) → ∀ b ∈ fp, FpOk (X.blk s3 H3 scope ce fp) [] H' b := fun {σ' H' s'} I' hn b hb =>
    ⟨hn b hb, (I'.ok.exf b hb).1, I'.ok.exfs b hb, .inl hb, fun x c e => (I'.ok.exf b hb).2 x c e, fun p hp => by simp at hp⟩
  have go : codeAny (model X.prog X.w) X.A (.compLoop (.DictComp kx vx [⟨tg, iter, ifs, 0⟩] scope pos) 0 (.ref it) (.ref D) ce) (compPost (model X.prog X.w) X.A X.xe none (EP X pins σ Q) (.ref D) s3.heap.objs.size) s4 := by
    refine compLoop_anyD (fun n s' => ∃ i H', L2.Inv (X.blk s3 H3 scope ce fp) [] (L2.wipe σ (own.map (·.2))) H' s' ∧ tn i s'.heap ∧ (∀ b ∈ fp, H' b = none) ∧ V i n H') ?_ m0 ⟨0, H3, I4, st4, none3, v0⟩
    rintro n s5 ⟨i, H5, I5, st5, n5, w5⟩
    rcases turn i n H5 w5 with ⟨stop, fin⟩ | ⟨more, Nx, next, step⟩
    · refine thnF (T.done (X.blk s3 H3 scope ce fp) rfl rfl rfl hc i [] s5 _ H5 (fun _ _ => False) I5 (stat I5 n5) st5 stop) fun r s6 ⟨er, I6⟩ => ?_
      subst er
      have I7 : L2.Inv X pins σ H5 s6 := I3.call' (ch := fp) I6.os I6.base I6.hok I6.bare fun b hb => by
        obtain ⟨⟨_, a2, a3, a4, a5, a6⟩, _⟩ := f3 b hb
        exact ⟨a4, a2, a5, a6⟩
      have nC : H5 s3.heap.objs.size = none := by
        have := I6.free
        rw [← cL]
        exact this
      obtain ⟨m, hm, _⟩ := I6.loc
      replace hm : s6.heap.Ns ce.locals m := hm
      rw [cL] at hm
      refine ⟨m, hm, fun h'' sb => ?_⟩
      obtain ⟨b0, b1, b2, b3, b4, b5⟩ := I3.fpOk (Nat.le_refl _) nC
      exact ⟨.ref D, H5, I7.turned (t' := s6.toks) (fun b o hb e => (sb.2 b hb).trans e) b0 b1 b3 b4 b5, rfl, fin⟩
    · refine thnF (T.item (X.blk s3 H3 scope ce fp) rfl rfl rfl hc i [] s5 _ H5 (fun _ _ => False) I5 (stat I5 n5) st5 more) fun r s6 ⟨u, er, k6⟩ => ?_
      subst er
      refine thnF k6 fun _ s7 ⟨x, H7, I7, r7, y7, st7, n7⟩ => ?_
      refine thnF (pg.run _ s7 _ H7 x u _ (I7.pinned (stat I7 n7) (T.obj _ _ st7)) r7 (step x H7 y7)) fun _ s8 ⟨σ8, H8, I8, w8, q8⟩ => ?_
      refine thnF (pt.run _ s8 σ8 H8 _ I8 q8) fun b s9 ⟨H9, I9, q9⟩ => ?_
      have close : ∀ {s' : Shared} {H' : Hp}, L2.Inv (X.blk s3 H3 scope ce fp) ([] ++ pinsAt fp s7.heap) σ8 H' s' → Nx H' → ∃ m, m < n ∧ ∃ i H', L2.Inv (X.blk s3 H3 scope ce fp) [] (L2.wipe σ (own.map (·.2))) H' s' ∧ tn i s'.heap ∧ (∀ b ∈ fp, H' b = none) ∧ V i m H' := fun {s' H'} I' nx => by
        obtain ⟨m', lt, v'⟩ := next H' nx
        have held : ∀ b ∈ fp, ∀ o, s7.heap.get? b = some o → s'.heap.get? b = some o ∧ H' b = none := fun b hb o e => by
          have z := I'.pin (b, o) (List.mem_append_right _ (List.mem_append_right _ (mem_pinsAt hb e)))
          exact ⟨z.1, z.2.1⟩
        refine ⟨m', lt, i + 1, H', (I'.unpinned (pins := [])).weak (by rw [← w8, L2.wipe_length]) (fun j v e => ?_), T.keep _ _ _ st7 fun b hb o e => (held b hb o e).1, fun b hb => ?_, v'⟩
        · rw [← w8] at e
          exact (wipe_some e).1
        · obtain ⟨o, e, _⟩ := T.obj _ _ st7 b hb
          exact (held b hb o e).2
      cases b with
      | false =>
        simp only [Bool.false_eq_true, if_false] at q9 ⊢
        exact close I9 q9
      | true =>
        simp only [if_true] at q9 ⊢
        refine thnF (pk.run _ s9 σ8 H9 _ I9 q9) fun z s10 ⟨yk, H10, I10, r10, q10⟩ => ?_
        refine thnF (pv.run _ s10 σ8 H10 _ I10 q10) fun z2 s11 ⟨yv, H11, I11, r11, kvs, k, p, eyk, ep, eD11, lz, nx⟩ => ?_
        subst eyk
        obtain rfl : z = Value.ref p := r10
        exact d_setT (X := X.blk s3 H3 scope ce fp) hu I11 eD11 lz ep r11 fun s12 I12 => close I12 nx
  exact codeAny_compStart_dict go (T.self X.A 0 _ _ _ st4 go)
end
/-! the dict at D is written, no one else knows it -/
theorem key_updT {K : PySem.W.Frag} {m : List Addr} {H : Hp} {D : Addr} {xs ys : List (List Key × V)} (e : H D = some (.dT xs)) :
    (∀ a zs, TupAt K m H a zs → TupAt K m (upd H D (.dT ys)) a zs) ∧ (∀ a zs, LstAt K m H a zs → LstAt K m (upd H D (.dT ys)) a zs) ∧ (∀ a zs, XtAt K m H a zs → XtAt K m (upd H D (.dT ys)) a zs) := by
  refine ⟨fun a zs t => ?_, fun a zs t => ?_, fun a zs t => ?_⟩
  · obtain ⟨n1, q⟩ := t
    refine ⟨n1, ?_⟩
    have hb : a ≠ D := fun z => by
      rw [z, e] at q
      rcases q with q | ⟨_, o, q⟩ <;> cases q
    rw [upd_ne hb]; exact q
  · rcases t with ⟨n1, o, q⟩ | t
    · have hb : a ≠ D := fun z => by rw [z, e] at q; cases q
      exact .inl ⟨n1, o, by rw [upd_ne hb]; exact q⟩
    · exact .inr t
  · obtain ⟨n1, o, q, k⟩ := t
    have hb : a ≠ D := fun z => by rw [z, e] at q; cases q
    exact ⟨n1, o, by rw [upd_ne hb]; exact q, k⟩
theorem Reps.updT {K : PySem.W.Frag} {m : List Addr} {H : Hp} {D : Addr} {xs ys : List (List Key × V)} {zs : List V} {l : List PV} (e : H D = some (.dT xs)) (r : Reps K m H l zs) : Reps K m (upd H D (.dT ys)) l zs :=
  Reps.re (fun _ _ q => q) (key_updT e).1 (key_updT e).2.1 (key_updT e).2.2 l zs r
theorem SR.updT {K : PySem.W.Frag} {m : List Addr} {h : VH} {H : Hp} {D : Addr} {xs ys : List (List Key × V)} (s : SR K m h H) (n : D ∉ m) (e : H D = some (.dT xs)) : SR K m h (upd H D (.dT ys)) := by
  refine ⟨s.len, s.nd, fun k u a e1 e2 => ?_⟩
  have hb : a ≠ D := fun z => n (by rw [← z]; exact List.mem_of_getElem? e2)
  have o := s.obj k u a e1 e2
  cases u with
  | lst l => obtain ⟨zs, q, t⟩ := o; exact ⟨zs, by rw [upd_ne hb]; exact q, t.updT e⟩
  | dT l => obtain ⟨zs, q, z, t⟩ := o; exact ⟨zs, by rw [upd_ne hb]; exact q, z, t.updT e⟩
  | ins C l => obtain ⟨c, dx, zs, qc, q, z, t⟩ := o; exact ⟨c, dx, zs, qc, by rw [upd_ne hb]; exact q, z, t.updT e⟩
  | xd D' l => obtain ⟨zs, q, y, z, t⟩ := o; exact ⟨zs, by rw [upd_ne hb]; exact q, y, z, t.updT e⟩
  | dK l => obtain ⟨zs, q, z, t⟩ := o; exact ⟨zs, by rw [upd_ne hb]; exact q, z, t.updT e⟩
theorem SR.adoptT {K : PySem.W.Frag} {m : List Addr} {h : VH} {H : Hp} {D : Addr} {kvs : List (List Int × PV)} {ks : List (List Key × V)} (s : SR K m h H) (n : D ∉ m) (e : H D = some (.dT ks)) (f : ks.map (·.1) = kvs.map (fun p => kI p.1)) (r : Reps K m H (kvs.map (·.2)) (ks.map (·.2))) : SR K (m ++ [D]) (h ++ [.dT kvs]) H := by
  have rx : ∀ {l : List PV} {xs : List V}, Reps K m H l xs → Reps K (m ++ [D]) H l xs := by
    have key : ∀ a : Addr, ∀ ys, TupAt K m H a ys → TupAt K (m ++ [D]) H a ys := fun a ys t => by
      obtain ⟨n1, q⟩ := t
      refine ⟨fun hm => ?_, q⟩
      rcases List.mem_append.mp hm with z | z
      · exact n1 z
      · rw [List.mem_singleton.mp z] at q
        rcases q with q | ⟨_, o, q⟩
        · rw [e] at q; cases q
        · rw [e] at q; cases q
    have key2 : ∀ a : Addr, ∀ ys, LstAt K m H a ys → LstAt K (m ++ [D]) H a ys := fun a ys t => by
      rcases t with ⟨n1, o, q⟩ | t
      · refine .inl ⟨fun hm => ?_, o, q⟩
        rcases List.mem_append.mp hm with z | z
        · exact n1 z
        · rw [List.mem_singleton.mp z] at q
          rw [e] at q; cases q
      · exact .inr t
    have key3 : ∀ a : Addr, ∀ ys, XtAt K m H a ys → XtAt K (m ++ [D]) H a ys := fun a ys t => by
      obtain ⟨n1, o, q, k⟩ := t
      refine ⟨fun hm => ?_, o, q, k⟩
      rcases List.mem_append.mp hm with z | z
      · exact n1 z
      · rw [List.mem_singleton.mp z] at q
        rw [e] at q; cases q
    intro l xs r
    exact Reps.re (fun k b q => by rw [List.getElem?_append_left (List.getElem?_eq_some_iff.mp q).1]; exact q) key key2 key3 l xs r
  refine ⟨by simp [s.len], ?_, fun k u a e1 e2 => ?_⟩
  · rw [List.nodup_append]
    refine ⟨s.nd, by simp, fun a ha b hb => ?_⟩
    rw [List.mem_singleton.mp hb]
    rintro rfl
    exact n ha
  · by_cases hk : k < h.length
    · rw [List.getElem?_append_left hk] at e1
      rw [List.getElem?_append_left (by rw [s.len]; exact hk)] at e2
      have o := s.obj k u a e1 e2
      cases u with
      | lst l => obtain ⟨zs, q, t⟩ := o; exact ⟨zs, q, rx t⟩
      | dT l => obtain ⟨zs, q, z, t⟩ := o; exact ⟨zs, q, z, rx t⟩
      | ins C l => obtain ⟨c, dx, zs, qc, q, z, t⟩ := o; exact ⟨c, dx, zs, qc, q, z, rx t⟩
      | xd D' l => obtain ⟨zs, q, y, z, t⟩ := o; exact ⟨zs, q, y, z, rx t⟩
      | dK l => obtain ⟨zs, q, z, t⟩ := o; exact ⟨zs, q, z, rx t⟩
    · have k1 := (List.getElem?_eq_some_iff.mp e1).1
      have k2 : k = h.length := by simp at k1; omega
      subst k2
      rw [List.getElem?_append_right (Nat.le_refl _)] at e1
      rw [← s.len, List.getElem?_append_right (Nat.le_refl _)] at e2
      simp at e1 e2
      subst e1 e2
      exact ⟨ks, e, f, rx r⟩
/-! the reading of a dict comprehension -/
def dKey (y : PV) : M (List Int) := match y with
  | .tup l => match intsP l with
    | some ks => if kok ks then ret ks else bad
    | none => bad
  | _ => bad
def dcBody (g : PV → Sl → M Sl) (t : Sl → M Bool) (k e : Sl → M PV) (v : Sl) (acc : List (List Int × PV)) (x : PV) : M (List (List Int × PV)) := bnd (g x v) fun v' => bnd (t v') fun c => if c = true then bnd (k v') fun y => bnd (e v') fun z => bnd (dKey y) fun ks => ret (dPut acc ks z) else ret acc
def dcF (src : List (Nat × List PV)) (f : List (List Int × PV) → PV → M (List (List Int × PV))) : List PV → List (List Int × PV) → M (List (List Int × PV))
  | [], acc => bnd (chk src) fun _ => ret acc
  | x :: xs, acc => bnd (chk src) fun _ => bnd (f acc x) fun a => dcF src f xs a
def oNewT (kvs : List (List Int × PV)) : O PV := fun h => some (.ref h.length, h ++ [.dT kvs])
def dDcT (it : Sl → M Its') (g : PV → Sl → M Sl) (t : Sl → M Bool) (k e : Sl → M PV) (own : List Nat) : Sl → M PV := fun v => bnd (it v) fun i =>
  if i.items.length ≤ 16777216 then bnd (dcF i.src (dcBody g t k e (wipeD v own)) i.items []) fun kvs => liftO (oNewT kvs) else bad
theorem dPut_len (kvs : List (List Int × PV)) (k : List Int) (v : PV) : (dPut kvs k v).length ≤ kvs.length + 1 := by
  unfold dPut
  split
  · rw [List.length_map]; omega
  · simp
theorem dKey_inv {K : PySem.W.Frag} {σ : L2.St} {m : List Addr} {H : Hp} {β : Type} {y : PV} {f : List Int → M β} {h : VH} {Q : List Addr → Hp → VH → β → Prop} (p : Post K F0 σ m H (bnd (dKey y) f h) Q) : ∃ l ks, y = .tup l ∧ intsP l = some ks ∧ kok ks ∧ Post K F0 σ m H (f ks h) Q := by
  unfold dKey at p
  split at p
  · split at p
    · split at p
      · exact ⟨_, _, rfl, by assumption, by assumption, p⟩
      · exact p.elim
    · exact p.elim
  · exact p.elim
theorem dc_read {K : PySem.W.Frag} {di : Sl → M Its'} {dg : PV → Sl → M Sl} {dt : Sl → M Bool} {dk de : Sl → M PV} {own is : List Nat} {σ : L2.St} {H : Hp} {Q : VK} (his : ∀ i ∈ is, i ∈ own)
    (h : TD K F0 (dDcT di dg dt dk de own) σ H Q) : tDcT (TDI K F0 di) (TDG K F0 dg is) (TDT K F0 dt) (TD K F0 dk) (TD K F0 de) own σ H Q := by
  obtain ⟨m, v, h, sr, sl, p⟩ := h
  refine ⟨m, v, h, sr, sl, (Post.via p .refl).mono fun m1 H1 h1 it x1 sr1 ⟨_, p1⟩ J hJ D hD => ?_⟩
  split at p1
  case isFalse => exact p1.elim
  rename_i hlen
  have nD0 : H D = none := by
    cases e : H D with
    | none => rfl
    | some o =>
      obtain ⟨o', e'⟩ := x1.live D o e
      rw [hD] at e'; cases e'
  have nD : D ∉ m1 := sr1.fresh hD
  let Qf : List Addr → Hp → VH → PV → Prop := fun m' H' _ z => ∀ x, Rep K m' H' z x → Q x H'
  let f := dcBody dg dt dk de (wipeD v own)
  let Inv (i k : Nat) (H5 : Hp) : Prop := k = it.items.length - i ∧ i ≤ it.items.length ∧ ∃ m5 h5 acc accx, Ext m H m5 H5 ∧ Ext m1 H1 m5 H5 ∧ SR K m5 h5 H5 ∧ D ∉ m5 ∧ H5 D = some (.dT accx) ∧ accx.map (·.1) = acc.map (fun p => kI p.1) ∧ Reps K m5 H5 (acc.map (·.2)) (accx.map (·.2)) ∧ acc.length ≤ i ∧
    Post K F0 σ m H (bnd (dcF it.src f (it.items.drop i) acc) (fun kvs => liftO (oNewT kvs)) h5) Qf
  refine ⟨Inv, ⟨it.items.length, by simp, Nat.zero_le _, m1, h1, [], [], x1.updD nD0, Ext.refl.updD hD, sr1.more hD, nD, upd_same, rfl, Reps.nil, Nat.zero_le _, by simpa using p1⟩, ?_⟩
  rintro i k H5 ⟨rfl, hi, m5, h5, acc, accx, x5, y5, sr5, nD5, eD5, fa, ra, hacc, p6⟩
  by_cases hlt : i < it.items.length
  · have hdrop : it.items.drop i = it.items[i] :: it.items.drop (i + 1) := List.drop_eq_getElem_cons hlt
    rw [hdrop] at p6
    have reass : bnd (dcF it.src f (it.items[i] :: it.items.drop (i + 1)) acc) (fun kvs => liftO (oNewT kvs)) =
        bnd (chk it.src) fun _ => bnd (dg it.items[i] (wipeD v own)) fun v' => bnd (dt v') fun c => bnd (if c = true then bnd (dk v') fun y => bnd (de v') fun z => bnd (dKey y) fun ks => ret (dPut acc ks z) else ret acc) fun a =>
          bnd (dcF it.src f (it.items.drop (i + 1)) a) fun kvs => liftO (oNewT kvs) := by
      show bnd (bnd (chk it.src) fun _ => bnd (dcBody dg dt dk de (wipeD v own) acc it.items[i]) fun a => dcF it.src f (it.items.drop (i + 1)) a) _ = _
      unfold dcBody
      simp only [bnd_assoc]
    rw [reass] at p6
    obtain ⟨hs, p7⟩ := Post.chk p6
    obtain ⟨hgo, _⟩ := hJ i m5 h5 _ y5 sr5 hs
    obtain ⟨go, yl⟩ := hgo hlt
    refine .inr ⟨go, fun H' => ∃ k', k' < it.items.length - i ∧ Inv (i + 1) k' H', fun H' h => h, fun x H7 hy => ?_⟩
    obtain ⟨u, eu, ru, x7, sr7⟩ := yl x H7 hy
    rw [List.getElem?_eq_getElem hlt] at eu
    cases eu
    have slw : SlD K m5 H7 (wipeD v own) (L2.wipe σ own) := ((sl.ext x5).wipe own).ext x7
    refine ⟨m5, wipeD v own, h5, it.items[i], sr7, slw, ru, (Post.via p7 (x5.trans x7)).mono fun m8 H8 h8 v8 x8 sr8 ⟨y8, p8⟩ σ8 sl8 w8 => ⟨(w8 own his).trans wipe_wipe, ?_⟩⟩
    refine ⟨m8, v8, h8, sr8, sl8, (Post.via p8 y8).mono fun m9 H9 h9 b x9 sr9 ⟨y9, p9⟩ => ?_⟩
    have e9 : H9 D = some (.dT accx) ∧ D ∉ m9 := by
      have n7 := x7.notin eD5 nD5
      have e7 := x7.keep D _ eD5 nD5
      have n8 := x8.notin e7 n7
      have e8 := x8.keep D _ e7 n7
      exact ⟨x9.keep D _ e8 n8, x9.notin e8 n8⟩
    have ra9 := ((ra.ext x7).ext x8).ext x9
    have yy9 : Ext m1 H1 m9 H9 := ((y5.trans x7).trans x8).trans x9
    cases b with
    | false =>
      simp only [Bool.false_eq_true, if_false] at p9 ⊢
      exact ⟨it.items.length - (i + 1), by omega, rfl, hlt, m9, h9, acc, accx, y9, yy9, sr9, e9.2, e9.1, fa, ra9, by omega, p9⟩
    | true =>
      simp only [if_true, bnd_assoc] at p9 ⊢
      refine ⟨m9, v8, h9, sr9, sl8.ext x9, (Post.via p9 y9).mono fun m10 H10 h10 y x10 sr10 ⟨y10, p10⟩ z rz => ?_⟩
      refine ⟨m10, v8, h10, sr10, (sl8.ext x9).ext x10, (Post.via p10 y10).mono fun m11 H11 h11 w x11 sr11 ⟨y11, p11⟩ z2 rz2 => ?_⟩
      obtain ⟨l, ks, rfl, el, ne, p12⟩ := dKey_inv p11
      obtain ⟨q, rfl, eq⟩ := rep_key el ne (rz.ext x11)
      have x911 := x10.trans x11
      have e11 := x911.keep D _ e9.1 e9.2
      have n11 := x911.notin e9.1 e9.2
      have la : accx.length = acc.length := by have := congrArg List.length fa; simpa using this
      have hz : accx.length < sizeLine := by
        rw [sizeLine_eq, la]
        omega
      obtain ⟨g1, g2⟩ := put_rep (k := ks) rz2 fa (ra9.ext x911)
      exact ⟨accx, kI ks, q, rfl, eq, e11, hz, it.items.length - (i + 1), by omega, rfl, hlt, m11, h11, dPut acc ks w, _, y11.updD nD0, (yy9.trans x911).updD hD, sr11.updT n11 e11, n11, upd_same, g1, g2.updT e11, by have := dPut_len acc ks w; omega, p12⟩
  · have e : i = it.items.length := by omega
    subst e
    rw [List.drop_length] at p6
    have p6' : Post K F0 σ m H (bnd (chk it.src) (fun _ => liftO (oNewT acc)) h5) Qf := by
      have : bnd (dcF it.src f [] acc) (fun kvs => liftO (oNewT kvs)) = bnd (chk it.src) (fun _ => liftO (oNewT acc)) := by
        show bnd (bnd (chk it.src) fun _ => ret acc) _ = _
        rw [bnd_assoc]
        rfl
      rw [this] at p6; exact p6
    obtain ⟨hs, p7⟩ := Post.chk p6'
    obtain ⟨_, hst⟩ := hJ it.items.length m5 h5 _ y5 sr5 hs
    refine .inl ⟨hst rfl, ?_⟩
    exact p7 (m5 ++ [D]) H5 (by
      obtain ⟨⟨k, e, hk⟩, kp, lv⟩ := x5
      refine ⟨⟨k ++ [D], by rw [e]; simp, fun a ha => ?_⟩, kp, lv⟩
      rcases List.mem_append.mp ha with z | z
      · exact hk a z
      · rw [List.mem_singleton.mp z]; exact .inl nD0) (sr5.adoptT nD5 eD5 fa ra) (.ref D) (rep_ref' (by rw [← sr5.len, List.getElem?_append_right (Nat.le_refl _)]; simp))
def dDcTx (it : Sl → M Its') (g : PV → Sl → M Sl) (t : Sl → M Bool) (k e : Sl → M PV) (own : List Nat) : Sl → M PV := fun v => noex (dDcT it g t k e own v)
section
variable {X : Cx} {W : WX} {tg iter kx vx : Expr} {ifs : List Expr} {scope : Scope} {pos : Pos} {di : Sl → M Its'} {dg : PV → Sl → M Sl} {dt : Sl → M Bool} {dkx dvx : Sl → M PV} {is : List Nat}
theorem de_dcT (own : List (Str × Nat)) (hc : X.calm = true) (hu : X.A.units + 64 < cLine) (hN : X.N.Nodup) (hi : DI X F0 tg iter di)
    (hg : ∀ (s : Shared) (H : Hp) (C : Addr) (cl : List (Str × Addr)) (fp : List Addr), DG (X.blk s H scope (compEnvC scope cl C X.env) fp) F0 tg dg is)
    (ht : ∀ (s : Shared) (H : Hp) (C : Addr) (cl : List (Str × Addr)) (fp : List Addr), DTs (X.blk s H scope (compEnvC scope cl C X.env) fp) F0 ifs dt)
    (hk : ∀ (s : Shared) (H : Hp) (C : Addr) (cl : List (Str × Addr)) (fp : List Addr), DE (X.blk s H scope (compEnvC scope cl C X.env) fp) F0 kx dkx)
    (he : ∀ (s : Shared) (H : Hp) (C : Addr) (cl : List (Str × Addr)) (fp : List Addr), DE (X.blk s H scope (compEnvC scope cl C X.env) fp) F0 vx dvx)
    (ok : blkC X.N X.env.scope scope own = true := by decide +kernel) (his : ∀ i ∈ is, i ∈ own.map (·.2) := by decide) (hs : ∀ x, foldedSetIterable iter X.env x = pure x := by intro _; rfl) :
    DE X W (.DictComp kx vx [⟨tg, iter, ifs, 0⟩] scope pos) (dDcTx di dg dt dkx dvx (own.map (·.2))) :=
  weakE (pe_dcT hc (by omega) hN hi (blkOk_by ok) hg ht hk he hs) fun σ H Q q => dc_read his (noex_readE q)
end
section
variable {v : Sl} {h : VH}
theorem ok_dcT {it : Sl → M Its'} {g : PV → Sl → M Sl} {t : Sl → M Bool} {k e : Sl → M PV} {own : List Nat} {Q : PV → VH → Prop} :
    OK (dDcTx it g t k e own v h) Q = OK (it v h) fun i h1 => i.items.length ≤ 16777216 ∧ OK (dcF i.src (dcBody g t k e (wipeD v own)) i.items [] h1) fun kvs h2 => Q (.ref h2.length) (h2 ++ [.dT kvs]) := by
  unfold dDcTx dDcT; simp only [ok_noex, ok_bnd]; congr 1; funext i h1
  by_cases hc : i.items.length ≤ 16777216
  · rw [if_pos hc]
    simp only [hc, true_and, ok_bnd, ok_lift]
    congr 1
    funext a h'
    have : oNewT a h' = some (.ref h'.length, h' ++ [.dT a]) := rfl
    rw [this, oo_some]
  · rw [if_neg hc]; simp only [hc, false_and]; with_unfolding_all rfl
theorem ok_dcbody {g : PV → Sl → M Sl} {t : Sl → M Bool} {k e : Sl → M PV} {acc : List (List Int × PV)} {x : PV} {Q : List (List Int × PV) → VH → Prop} :
    OK (dcBody g t k e v acc x h) Q = OK (g x v h) fun v' h1 => OK (t v' h1) fun c h2 => if c = true then OK (k v' h2) fun y h3 => OK (e v' h3) fun z h4 => OK (dKey y h4) fun ks h5 => Q (dPut acc ks z) h5 else Q acc h2 := by
  unfold dcBody; simp only [ok_bnd]; congr 1; funext v' h1; congr 1; funext c h2; cases c <;> simp [ok_bnd, ok_ret]
theorem ok_dkey {ks : List Int} {Q : List Int → VH → Prop} (ne : kok ks) : OK (dKey (.tup (intL ks)) h) Q = Q ks h := by
  have : dKey (.tup (intL ks)) = ret ks := by simp only [dKey, intsP_ints, if_pos ne]
  rw [this, ok_ret]
theorem ok_dcF {src : List (Nat × List PV)} {f : List (List Int × PV) → PV → M (List (List Int × PV))} (I : Nat → List (List Int × PV) → VH → Prop) : ∀ {items : List PV} {acc : List (List Int × PV)} {k : Nat} {h : VH}, I k acc h →
    (∀ i acc h, i ≤ items.length → I (k + i) acc h → srcOk h src = true) → (∀ (i : Nat) x acc h, items[i]? = some x → I (k + i) acc h → OK (f acc x h) fun a h' => I (k + i + 1) a h') →
    OK (dcF src f items acc h) fun a h' => I (k + items.length) a h'
  | [], acc, k, h, q, so, st => by
    unfold dcF chk
    rw [ok_bnd, if_pos (so 0 acc h (Nat.le_refl _) q), ok_ok, ok_ret]
    exact q
  | x :: xs, acc, k, h, q, so, st => by
    unfold dcF chk
    simp only [ok_bnd]
    rw [if_pos (so 0 acc h (Nat.zero_le _) q), ok_ok]
    refine OK.mono (st 0 x acc h rfl q) fun a h' q' => ?_
    have := ok_dcF I (items := xs) (k := k + 1) (acc := a) (h := h') q' (fun i a h hi q => so (i + 1) a h (by simpa using hi) (by rw [show k + (i + 1) = k + 1 + i by omega]; exact q))
      (fun i y a h e q => by
        have := st (i + 1) y a h (by simpa using e) (by rw [show k + (i + 1) = k + 1 + i by omega]; exact q)
        rw [show k + (i + 1) + 1 = k + 1 + i + 1 by omega] at this
        exact this)
    rw [List.length_cons, show k + (xs.length + 1) = k + 1 + xs.length by omega]
    exact this
theorem ok_dcF0 {src : List (Nat × List PV)} {f : List (List Int × PV) → PV → M (List (List Int × PV))} {items : List PV} {Q : List (List Int × PV) → VH → Prop} (I : Nat → List (List Int × PV) → VH → Prop) (h0 : I 0 [] h)
    (so : ∀ i acc h, i ≤ items.length → I i acc h → srcOk h src = true) (st : ∀ (i : Nat) x acc h, items[i]? = some x → I i acc h → OK (f acc x h) fun a h' => I (i + 1) a h') (dn : ∀ acc h, I items.length acc h → Q acc h) :
    OK (dcF src f items [] h) Q := by
  have := ok_dcF I (k := 0) (acc := []) (items := items) h0 (fun i a h hi q => so i a h hi (by simpa using q)) (fun i x a h e q => by simpa using st i x a h e (by simpa using q))
  refine OK.mono this fun a h' q => dn a h' (by simpa using q)
end
end D

/-! layer D, part 33: sorted(set(x)) of a tuple of whole numbers -/
namespace D
open PySem PySem.Spec PyProof.Rows L2
/-- the numbers of a list, rising, each once -/
def setI (ns : List Int) : List Int := srtI (ddI ns)
theorem ddI_all : ∀ {ns acc : List Int}, (∀ x, x ∈ ns.foldl PyProof.Rows.step_dedup acc ↔ x ∈ ns ∨ x ∈ acc) ∧ (acc.Nodup → (ns.foldl PyProof.Rows.step_dedup acc).Nodup)
  | [], acc => ⟨fun x => by simp, fun h => h⟩
  | y :: ns, acc => by
    obtain ⟨h1, h2⟩ := ddI_all (ns := ns) (acc := PyProof.Rows.step_dedup acc y)
    have hs : (∀ x, x ∈ PyProof.Rows.step_dedup acc y ↔ x = y ∨ x ∈ acc) ∧ (acc.Nodup → (PyProof.Rows.step_dedup acc y).Nodup) := by
      unfold PyProof.Rows.step_dedup
      split
      · rename_i c
        obtain ⟨z, hz, e⟩ := List.any_eq_true.mp c
        have ez : z = y := eq_of_beq e
        refine ⟨fun x => ⟨.inr, fun h => ?_⟩, fun h => h⟩
        rcases h with rfl | h
        · rw [← ez]; exact hz
        · exact h
      · rename_i c
        refine ⟨fun x => by rw [List.mem_append, List.mem_singleton]; exact or_comm, fun h => ?_⟩
        refine List.nodup_append.mpr ⟨h, by simp, fun a ha b hb => ?_⟩
        rw [List.mem_singleton.mp hb]
        rintro rfl
        exact c (List.any_eq_true.mpr ⟨a, ha, by simp⟩)
    refine ⟨fun x => ?_, fun h => h2 (hs.2 h)⟩
    show x ∈ ns.foldl PyProof.Rows.step_dedup (PyProof.Rows.step_dedup acc y) ↔ _
    rw [h1 x, hs.1 x, List.mem_cons]
    constructor
    · rintro (h | h | h)
      · exact .inl (.inr h)
      · exact .inl (.inl h)
      · exact .inr h
    · rintro ((h | h) | h)
      · exact .inr (.inl h)
      · exact .inl h
      · exact .inr (.inr h)
theorem setI_mem {ns : List Int} {x : Int} : x ∈ setI ns ↔ x ∈ ns := by
  unfold setI ddI
  rw [(srtI_perm _).mem_iff, ddI_all.1 x]
  simp
theorem setI_up {ns : List Int} : (setI ns).Pairwise (· < ·) := by
  have nd : (setI ns).Nodup := (srtI_perm _).nodup_iff.mpr (ddI_all.2 (by simp))
  exact lt_of_le_nodup _ (srtI_sorted _) nd
theorem setI_eq {ns ms : List Int} (u : ms.Pairwise (· < ·)) (h : ∀ k, k ∈ ms ↔ k ∈ ns) : ms = setI ns := by
  refine List.Perm.eq_of_pairwise (le := fun x y : Int => x < y) (fun x y _ _ h1 h2 => by omega) u setI_up ?_
  refine (List.perm_ext_iff_of_nodup (u.imp fun h => by omega) (setI_up.imp fun h => by omega)).mpr fun x => ?_
  rw [h x, setI_mem]
section
variable {X : Cx}
def rSetTI (K : PySem.W.Frag) (w : World) : List V → Hp → VK → Prop := fun xs H Q => ∃ (l : Addr) (ns : List Int), xs = [.ref l] ∧ SqT K H l (ns.map V.int) ∧ ns.length < 63 ∧ ∀ p c, H p = none → c ≤ ns.length → Q (.ref p) (upd H p (SetO w p (fun j => decide (j ∈ ns)) c))
theorem cr_setTI (hc : X.calm = true) : CallR X (.type "set") (rSetTI X.K X.w) := by
  intro pins s σ H xs us Q I rx ⟨l, ns, ex, sq, hl, q⟩
  subst ex
  rw [Vals.ref1 rx]
  obtain ⟨its, rv, pl, hz⟩ := I.tuple sq
  refine call_set_tupI ns (I.ok.hd hc) pl (by simpa using RZ.intsAre_vals rv) (by unfold scanBound; omega) fun h' tk c R lc k => ?_
  have I1 : L2.Inv X pins σ (upd H s.heap.objs.size (SetO X.w s.heap.objs.size (fun j => decide (j ∈ ns)) c)) { s with heap := h', toks := tk } := I.laid (t' := tk) k (Nat.le_refl _) (setO_new R)
  exact ⟨.ref s.heap.objs.size, _, I1, rfl, q _ c (I.hok.fresh (Nat.le_refl _)) lc⟩
end
def oSetTI (a : PV) : O PV := fun h => match a with
  | .tup l => match intsP l with
    | some ns => if ns.length < 63 then some (.ref h.length, h ++ [.lst (intL (setI ns))]) else none
    | none => none
  | _ => none
def dSortSetI (d : Sl → M PV) : Sl → M PV := fun v => bnd (d v) fun x => liftO (oSetTI x)
section
variable {X : Cx} {W : WX} {e : Expr} {d : Sl → M PV} {pos pos2 : Pos} {p p2 : Pos}
theorem setI_readE {σ : L2.St} {H : Hp} {Q : VK} (q : TD X.K W (dSortSetI d) σ H Q) : tCons (tCB (rSetTI X.K X.w) (tCons (TD X.K W d) tNil)) tNil σ H fun xs H1 => rSortedSet X.w xs H1 Q := by
  obtain ⟨m, v, h, sr, sl, p⟩ := q
  refine ⟨m, v, h, sr, sl, (Post.seq p).mono fun m1 H1 h1 x x1 sr1 p1 u ru => ?_⟩
  obtain ⟨z, h', e2, q⟩ := Post.lift p1
  unfold oSetTI at e2
  split at e2
  · split at e2
    · rename_i ns en
      split at e2
      · rename_i c
        cases e2
        obtain ⟨a, xs, rfl, t, rs⟩ := rep_tup ru
        have ex := intsP_rep en rs
        subst ex
        show rSetTI X.K X.w [.ref a] H1 fun x H2 => rSortedSet X.w [x] H2 Q
        refine ⟨a, ns, rfl, t.sq, c, fun b k nb lk => ?_⟩
        have x2 : Ext m1 H1 m1 (upd H1 b (SetO X.w b (fun j => decide (j ∈ ns)) k)) := .upd_new nb
        have sr2 := sr1.more (o := SetO X.w b (fun j => decide (j ∈ ns)) k) nb
        refine ⟨b, _, k, rfl, upd_same, by omega, fun ms pa up mem _ np => ?_⟩
        have em : ms = setI ns := setI_eq up fun k => by rw [mem k]; simp
        subst em
        exact q (m1 ++ [pa]) _ (x2.trans (.upd_add np)) (sr2.addLst np (reps_intL _)) _ (rep_ref' (by rw [← sr2.len, List.getElem?_append_right (Nat.le_refl _)]; simp))
      · cases e2
    · cases e2
  · cases e2
theorem de_sortSetI (hc : X.calm = true) (hg : Gl X "sorted") (hm : X.mg "sorted" = none) (hg2 : Gl X "set") (hm2 : X.mg "set" = none) (h : DE X W e d)
    (hs : starEach [e] X.env = (false, eval e X.env) :: starEach [] X.env := by rfl)
    (hs2 : starEach [.Call (.Name "set" p) [e] [] pos] X.env = (false, eval (.Call (.Name "set" p) [e] [] pos) X.env) :: starEach [] X.env := by rfl) :
    DE X W (.Call (.Name "sorted" p2) [.Call (.Name "set" p) [e] [] pos] [] pos2) (dSortSetI d) :=
  weakE (pe_callB (cr_sortedSet hc) hg hm (by rfl) (pa_cons (pe_callTy (cr_setTI hc) hg2 hm2 (by rfl) (pa_cons h pa_nil hs) (by decide) (by decide) hs rfl) pa_nil hs2) (by decide) (by decide) hs2 rfl) fun σ H Q q => setI_readE q
end
section
variable {v : Sl} {h : VH}
theorem ok_sortSetI {d : Sl → M PV} {Q : PV → VH → Prop} : OK (dSortSetI d v h) Q = OK (d v h) fun x h1 => OO (oSetTI x h1) Q := by
  unfold dSortSetI; simp only [ok_bnd, ok_lift]
theorem oo_setTI {ns : List Int} {Q : PV → VH → Prop} (hl : ns.length < 63) : OO (oSetTI (.tup (intL ns)) h) Q = Q (.ref h.length) (h ++ [.lst (intL (setI ns))]) := by
  have : oSetTI (.tup (intL ns)) h = some (.ref h.length, h ++ [.lst (intL (setI ns))]) := by simp only [oSetTI, intsP_ints, if_pos hl]
  rw [this]; exact oo_some
end
end D

/-! layer D, part 34: classes of the program: fields, new instances, methods -/
namespace D
open PySem PySem.Spec PyProof.Rows L2

/-- the fields' places -/
def putP (f : Str) (v : PV) : List (Str × PV) → List (Str × PV)
  | [] => [(f, v)]
  | (g, x) :: r => if g = f then (g, v) :: r else (g, x) :: putP f v r
/-- a field that no class of it has -/
def NoA (K : PySem.W.Frag) (C f : Str) : Prop := ∃ c, clsAt K C = some c ∧ Cls K c ∧ NoAttr K c f
section
variable {K : PySem.W.Frag} {m : List Addr} {H : Hp}
theorem fld_rep {f : Str} : ∀ {fs : List (Str × PV)} {gs : List (Str × V)}, fs.map (·.1) = gs.map (·.1) → Reps K m H (fs.map (·.2)) (gs.map (·.2)) →
    (∀ v, fs.lookup f = some v → ∃ x, gs.lookup f = some x ∧ Rep K m H v x) ∧ (fs.lookup f = none → gs.lookup f = none)
  | [], gs, e, r => by
    cases gs with
    | nil => exact ⟨fun v z => (nomatch z), fun _ => rfl⟩
    | cons g gs => cases e
  | (k, v) :: fs, gs, e, r => by
    cases gs with
    | nil => cases e
    | cons g gs =>
      obtain ⟨k', x⟩ := g
      simp only [List.map_cons, List.cons.injEq] at e
      obtain ⟨rfl, e⟩ := e
      obtain ⟨y, t, ey, r1, r2⟩ := Reps.cons_inv r
      simp only [List.map_cons, List.cons.injEq] at ey
      obtain ⟨rfl, rfl⟩ := ey
      simp only [List.lookup]
      cases h : f == k with
      | true => exact ⟨fun w z => ⟨x, rfl, by cases z; exact r1⟩, fun z => by cases z⟩
      | false => exact fld_rep e r2
theorem putF_rep {f : Str} {v : PV} {x : V} (rx : Rep K m H v x) : ∀ {fs : List (Str × PV)} {gs : List (Str × V)}, fs.map (·.1) = gs.map (·.1) → Reps K m H (fs.map (·.2)) (gs.map (·.2)) →
    (putP f v fs).map (·.1) = (putF f x gs).map (·.1) ∧ Reps K m H ((putP f v fs).map (·.2)) ((putF f x gs).map (·.2))
  | [], gs, e, r => by
    cases gs with
    | nil => exact ⟨rfl, Reps.cons rx Reps.nil⟩
    | cons g gs => cases e
  | (k, w) :: fs, gs, e, r => by
    cases gs with
    | nil => cases e
    | cons g gs =>
      obtain ⟨k', y⟩ := g
      simp only [List.map_cons, List.cons.injEq] at e
      obtain ⟨rfl, e⟩ := e
      obtain ⟨z, t, ez, r1, r2⟩ := Reps.cons_inv r
      simp only [List.map_cons, List.cons.injEq] at ez
      obtain ⟨rfl, rfl⟩ := ez
      unfold putP putF
      by_cases h : k = f
      · rw [if_pos h, if_pos h]
        exact ⟨by simp [e], Reps.cons rx r2⟩
      · rw [if_neg h, if_neg h]
        obtain ⟨a, b⟩ := putF_rep rx e r2
        exact ⟨by simp [a], Reps.cons r1 b⟩
theorem rep_ins {h : VH} {n : Nat} {C : Str} {fs : List (Str × PV)} {x : V} (s : SR K m h H) (r : Rep K m H (.ref n) x) (e : h[n]? = some (.ins C fs)) :
    ∃ a c dx gs, x = .ref a ∧ m[n]? = some a ∧ clsAt K C = some c ∧ H a = some (.ins c dx gs) ∧ fs.map (·.1) = gs.map (·.1) ∧ Reps K m H (fs.map (·.2)) (gs.map (·.2)) := by
  obtain ⟨a, rfl, ea⟩ := rep_ref r
  obtain ⟨c, dx, gs, ec, eh, k, rs⟩ := s.obj n _ a e ea
  exact ⟨a, c, dx, gs, rfl, ea, ec, eh, k, rs⟩
end
def oFld (C f : Str) (x : PV) : O PV := fun h => match x with
  | .ref n => match h[n]? with
    | some (.ins C' fs) => if C' = C then (match fs.lookup f with
      | some v => some (v, h)
      | none => none) else none
    | _ => none
  | _ => none
theorem oFld_inv {C f : Str} {x z : PV} {h h' : VH} (e : oFld C f x h = some (z, h')) : ∃ n fs, x = .ref n ∧ h[n]? = some (.ins C fs) ∧ fs.lookup f = some z ∧ h' = h := by
  unfold oFld at e
  split at e
  · rename_i n
    split at e
    · rename_i C' fs e1
      split at e
      · rename_i hc
        subst hc
        split at e
        · rename_i v e2
          cases e
          exact ⟨n, fs, rfl, e1, e2, rfl⟩
        · cases e
      · cases e
    · cases e
  · cases e
def dFld (C f : Str) (o : Sl → M PV) : Sl → M PV := fun v => bnd (o v) fun x => liftO (oFld C f x)
def oSetF (C f : Str) (x y : PV) : O Unit := fun h => match x with
  | .ref n => match h[n]? with
    | some (.ins C' fs) => if C' = C ∧ fs.length < 1000 then some ((), h.set n (.ins C (putP f y fs))) else none
    | _ => none
  | _ => none
def sFldS (C f : Str) (o e : Sl → M PV) : SD := fun v => bx v (e v) fun y => bx v (o v) fun x => bx v (liftO (oSetF C f x y)) fun _ h => .nx v h
def oIns (C m : Str) (x : PV) : O Unit := fun h => match x with
  | .ref n => match h[n]? with
    | some (.ins C' fs) => if C' = C then (match fs.lookup m with
      | none => some ((), h)
      | some _ => none) else none
    | _ => none
  | _ => none
theorem oIns_inv {C f : Str} {x : PV} {z : Unit} {h h' : VH} (e : oIns C f x h = some (z, h')) : ∃ n fs, x = .ref n ∧ h[n]? = some (.ins C fs) ∧ fs.lookup f = none ∧ h' = h := by
  unfold oIns at e
  split at e
  · rename_i n
    split at e
    · rename_i C' fs e1
      split at e
      · rename_i hc
        subst hc
        split at e
        · rename_i e2
          cases e
          exact ⟨n, fs, rfl, e1, e2, rfl⟩
        · cases e
      · cases e
    · cases e
  · cases e
def dMeth1 (C m : Str) (f : List PV → M PV) (o : Sl → M PV) (a : Sl → M (List PV)) : Sl → M PV := fun v => bnd (o v) fun x => bnd (liftO (oIns C m x)) fun _ => bnd (a v) fun as => f (x :: as)
def isNon : PV → M Unit
  | .non => ret ()
  | _ => bad
def dMake (C : Str) (f : List PV → M PV) (a : Sl → M (List PV)) : Sl → M PV := fun v => bnd (a v) fun as => fun h =>
  noex (bnd (f (.ref h.length :: as)) fun u => bnd (isNon u) fun _ => ret (.ref h.length)) (h ++ [.ins C []])

section
variable {X : Cx} {W : WX} {o e : Expr} {es : List Expr} {do_ de : Sl → M PV} {dl : Sl → M (List PV)} {pos pos' apos p : Pos} {f : Str}
theorem de_fld {C : Str} (n : NoA X.K C f) (ho : DE X W o do_) (hb : attributeBase o f X.env (eval o X.env) = eval o X.env := by rfl) : DE X W (.Attribute o f pos) (dFld C f do_) :=
  weakE (pe_fld ho hb) fun σ H Q ⟨m, v, h, sr, sl, q⟩ => ⟨m, v, h, sr, sl, (Post.seq q).mono fun m1 H1 h1 x x1 sr1 p1 y ry => by
    obtain ⟨z, h', e, q1⟩ := Post.lift p1
    obtain ⟨n', fs, rfl, e1, e2, rfl⟩ := oFld_inv e
    obtain ⟨a, c, dx, gs, rfl, ea, ec, eh, ks, rs⟩ := rep_ins sr1 ry e1
    obtain ⟨c', ec', cl, na⟩ := n
    rw [ec] at ec'
    cases ec'
    obtain ⟨w, ew, rw_⟩ := (fld_rep ks rs).1 _ e2
    exact ⟨a, c, dx, gs, w, rfl, eh, cl, na, ew, q1 m1 H1 .refl sr1 w rw_⟩⟩
theorem ds_fld {C : Str} (n : NoA X.K C f) (ho : DE X W o do_) (he : DE X W e de) (hs : swapsWith e (some (.Attribute o f pos')) pos.line X.env = pure false := by rfl) : DS X W (.Assign [.Attribute o f pos'] e pos) (sFldS C f do_ de) :=
  weakS (ps_fld ho he hs) fun D σ H ⟨m, v, h, sr, sl, q⟩ => ⟨m, v, h, sr, sl, (PostS.bx q sl).mono fun m1 H1 h1 y x1 s1 ⟨_, p1⟩ yx ry => ⟨m1, v, h1, s1, sl.ext x1, (PostS.bx p1 (sl.ext x1)).mono fun m2 H2 h2 x x2 s2 ⟨_, p2⟩ xx rx => by
    have sl2 := (sl.ext x1).ext x2
    obtain ⟨_, h3, e3, q3⟩ := Post.lift (PostS.bx p2 sl2)
    unfold oSetF at e3
    split at e3
    · rename_i n'
      split at e3
      · rename_i C' fs e1
        split at e3
        · rename_i hc
          obtain ⟨rfl, hl⟩ := hc
          cases e3
          obtain ⟨a, c, dx, gs, rfl, ea, ec, eh, ks, rs⟩ := rep_ins s2 rx e1
          obtain ⟨c', ec', cl, na⟩ := n
          rw [ec] at ec'
          cases ec'
          have gl : gs.length < 1000 := by
            have := congrArg List.length ks
            rw [List.length_map, List.length_map] at this
            omega
          obtain ⟨k2, r2⟩ := putF_rep (f := f) (ry.ext x2) ks rs
          have xx := Ext.upd_set (H := H2) (o := .ins c dx (putF f yx gs)) (List.mem_of_getElem? ea)
          have s3 := s2.put (w := .ins C' (putP f y fs)) ea ⟨c, dx, _, ec, upd_same, k2, r2.ext xx⟩
          refine ⟨a, c, dx, gs, rfl, eh, cl, na, gl, ?_⟩
          obtain ⟨_, p3⟩ := q3 m2 _ xx s3
          exact p3 m2 _ σ .refl s3 (sl2.ext xx)
        · cases e3
      · cases e3
    · cases e3⟩⟩
/-- a class's method is there, and does g -/
def HasM (P : Program) (w : World) (K : PySem.W.Frag) (mg : Str → Option Value) (base : Heap) (CX : CXT) (C m : Str) (n k : Nat) (g : List PV → M PV) : Prop :=
  ∃ (c fa : Addr) (fd : FuncData) (ps : List Str), clsAt K C = some c ∧ Cls K c ∧ L2.Meth K c m fa ∧ Binds K fd ps [] ∧ FnOk P w K mg base CX k fa fd ps (spD K n g)
theorem HasM.mono {P : Program} {w : World} {K : PySem.W.Frag} {mg : Str → Option Value} {base : Heap} {CX : CXT} {C m : Str} {n j k : Nat} {g : List PV → M PV} (h : HasM P w K mg base CX C m n j g) (l : j ≤ k) : HasM P w K mg base CX C m n k g := by
  obtain ⟨c, fa, fd, ps, a, b, q, d, F⟩ := h
  exact ⟨c, fa, fd, ps, a, b, q, d, F.mono l⟩
/-- a class can be made, its __init__ does g -/
def HasI (P : Program) (w : World) (K : PySem.W.Frag) (mg : Str → Option Value) (base : Heap) (C : Str) (n k : Nat) (g : List PV → M PV) : Prop :=
  ∃ (c fa : Addr) (fd : FuncData) (ps : List Str), clsAt K C = some c ∧ mg C = some (.ref c) ∧ Mk K c fa ∧ Binds K fd ps [] ∧ FnOk P w K mg base CX0 k fa fd ps (spD K n g)
theorem HasI.mono {P : Program} {w : World} {K : PySem.W.Frag} {mg : Str → Option Value} {base : Heap} {C : Str} {n j k : Nat} {g : List PV → M PV} (h : HasI P w K mg base C n j g) (l : j ≤ k) : HasI P w K mg base C n k g := by
  obtain ⟨c, fa, fd, ps, a, b, q, d, F⟩ := h
  exact ⟨c, fa, fd, ps, a, b, q, d, F.mono l⟩
/-- where a method of the text stands -/
structure StandsM (K : PySem.W.Frag) (C m qual : Str) (st : Stmt) (ps : List Str) (f : Addr) (fd : FuncData) : Prop where
  cl : ∃ c, clsAt K C = some c ∧ Cls K c ∧ L2.Meth K c m f
  fn : Fun K m qual st f fd
  bd : Binds K fd ps []
/-- where an __init__ of the text stands -/
structure StandsI (K : PySem.W.Frag) (mg : Str → Option Value) (C qual : Str) (st : Stmt) (ps : List Str) (f : Addr) (fd : FuncData) : Prop where
  cl : ∃ c, clsAt K C = some c ∧ mg C = some (.ref c) ∧ Mk K c f
  fn : Fun K "__init__" qual st f fd
  bd : Binds K fd ps []
theorem post_noex {K : PySem.W.Frag} {W W' : WX} {σ σ' : L2.St} {m : List Addr} {H : Hp} {α : Type} {a : M α} {h : VH} {Q : List Addr → Hp → VH → α → Prop} (q : Post K W σ m H (noex a h) Q) : Post K W' σ' m H (a h) Q := by
  unfold noex at q
  cases e : a h with
  | ok v h1 => rw [e] at q; exact q
  | ex u h1 => rw [e] at q; exact q.elim
  | bad => rw [e] at q; exact q
theorem de_meth1 {C m : Str} {n k : Nat} {CX : CXT} {g : List PV → M PV} {pl : Sem Bool} (F : HasM X.prog X.w X.K X.mg X.base CX C m n k g) (hr : Room k X.A) (hx : ∀ σ, PassesAt CX X σ (WE W σ)) (ho : DE X W o do_) (ha : DA X W (e :: es) dl) (hl : ArgN (n - 1) dl) (hn : 0 < n)
    (hst : starEach (e :: es) X.env = (false, eval e X.env) :: starEach es X.env := by rfl) (hpl : (backTo pos (starEach es X.env)).any (·.1) = false := by rfl)
    (ht : eval (.Call (.Attribute o m apos) (e :: es) [] pos) X.env = (do
      let ov ← eval o X.env
      standAt apos.atName
      let (f, first) ← holding [ov] (getMethod ov m pl)
      callWith pos f first (backTo pos (starEach (e :: es) X.env)) (backToKw pos (keywordEach [] X.env))) := by rfl) :
    DE X W (.Call (.Attribute o m apos) (e :: es) [] pos) (dMeth1 C m g do_ dl) := by
  obtain ⟨c, fa, fd, ps, ec, cl, mt, bd, fn⟩ := F
  refine ⟨fun pins s σ H Q I ⟨m0, v, h, sr, sl, q⟩ => ?_⟩
  have q' : TD X.K W do_ σ H fun x H1 => ∃ a dx fs, x = .ref a ∧ H1 a = some (.ins c dx fs) ∧ fs.lookup m = none ∧ TDA X.K W dl σ H1 fun vs H2 => spD X.K n g (x :: vs) H2 Q (WE W σ) := by
    refine ⟨m0, v, h, sr, sl, (Post.seq q).mono fun m1 H1 h1 u x1 sr1 p1 x rx => ?_⟩
    obtain ⟨_, h2, e, q2⟩ := Post.lift (Post.seq p1)
    obtain ⟨n', fs, rfl, e1, e2, rfl⟩ := oIns_inv e
    obtain ⟨a, c', dx, gs, rfl, ea, ec', eh, ks, rs⟩ := rep_ins sr1 rx e1
    rw [ec] at ec'
    cases ec'
    refine ⟨a, dx, gs, rfl, eh, (fld_rep ks rs).2 e2, m1, v, h2, sr1, sl.ext x1, ?_⟩
    have p3 := q2 m1 H1 .refl sr1
    cases e4 : dl v h2 with
    | ok as h3 =>
      have hlen := hl v h2 as h3 e4
      unfold bnd at p3
      rw [e4] at p3
      intro m2 H2 x2 s2 xs rs2
      refine ⟨m2, h3, .ref n' :: as, s2, Reps.cons (rx.ext x2) rs2, by rw [List.length_cons, hlen]; omega, ?_⟩
      simp only at p3
      cases e5 : g (.ref n' :: as) h3 with
      | ok u h4 => rw [e5] at p3; exact fun m3 H3 x3 s3 => p3 m3 H3 (x2.trans x3) s3
      | ex u h4 => rw [e5] at p3; exact fun m3 H3 d x3 s3 xr => p3 m3 H3 d (x2.trans x3) s3 xr
      | bad => rw [e5] at p3; exact p3
    | ex u h3 => unfold bnd at p3; rw [e4] at p3; exact p3
    | bad => unfold bnd at p3; rw [e4] at p3; exact p3
  refine PySem.W.methodCall_KW (pl := pl) (thn (ho.run pins s σ H _ I q') fun u s1 ⟨x, H1, I1, rx, a, dx, fs, ex, ea, l, q⟩ => ?_) ht
  subst ex
  obtain rfl : u = Value.ref a := rx
  refine getmeth_ok I1 ea cl mt l ?_
  refine PySem.W.callWith_K (first := [.ref a]) (h₀ := X.base) I.ok.mod.kin mt.kp (thn (ha.run pos pins s1 σ H1 _ I1 q) fun us s2 ⟨vs, H2, I2, r, q2⟩ => ⟨I2.kIn, ?_⟩) hst hpl
  exact run_fnS (us := .ref a :: us) (vs := .ref a :: vs) fn hr bd (hx σ) I2 (.cons rfl r) q2
theorem de_meth0 {C m : Str} {n k : Nat} {CX : CXT} {g : List PV → M PV} {pl : Sem Bool} (F : HasM X.prog X.w X.K X.mg X.base CX C m n k g) (hr : Room k X.A) (hx : ∀ σ, PassesAt CX X σ (WE W σ)) (ho : DE X W o do_) (hn : n = 1)
    (ht : eval (.Call (.Attribute o m apos) [] [] pos) X.env = (do
      let ov ← eval o X.env
      standAt apos.atName
      let (f, first) ← holding [ov] (getMethod ov m pl)
      callWith pos f first (backTo pos (starEach [] X.env)) (backToKw pos (keywordEach [] X.env))) := by rfl) :
    DE X W (.Call (.Attribute o m apos) [] [] pos) (dMeth1 C m g do_ dNil) := by
  obtain ⟨c, fa, fd, ps, ec, cl, mt, bd, fn⟩ := F
  refine ⟨fun pins s σ H Q I ⟨m0, v, h, sr, sl, q⟩ => ?_⟩
  have q' : TD X.K W do_ σ H fun x H1 => ∃ a dx fs, x = .ref a ∧ H1 a = some (.ins c dx fs) ∧ fs.lookup m = none ∧ spD X.K n g [x] H1 Q (WE W σ) := by
    refine ⟨m0, v, h, sr, sl, (Post.seq q).mono fun m1 H1 h1 u x1 sr1 p1 x rx => ?_⟩
    obtain ⟨_, h2, e, q2⟩ := Post.lift (Post.seq p1)
    obtain ⟨n', fs, rfl, e1, e2, rfl⟩ := oIns_inv e
    obtain ⟨a, c', dx, gs, rfl, ea, ec', eh, ks, rs⟩ := rep_ins sr1 rx e1
    rw [ec] at ec'
    cases ec'
    refine ⟨a, dx, gs, rfl, eh, (fld_rep ks rs).2 e2, m1, h2, [.ref n'], sr1, Reps.cons rx Reps.nil, by rw [hn]; rfl, ?_⟩
    have p3 := q2 m1 H1 .refl sr1
    unfold bnd dNil ret at p3
    simp only at p3
    cases e5 : g [.ref n'] h2 with
    | ok u h4 => rw [e5] at p3; exact fun m3 H3 x3 s3 => p3 m3 H3 x3 s3
    | ex u h4 => rw [e5] at p3; exact fun m3 H3 d x3 s3 xr => p3 m3 H3 d x3 s3 xr
    | bad => rw [e5] at p3; exact p3
  refine PySem.W.methodCall_KW (pl := pl) (thn (ho.run pins s σ H _ I q') fun u s1 ⟨x, H1, I1, rx, a, dx, fs, ex, ea, l, q⟩ => ?_) ht
  subst ex
  obtain rfl : u = Value.ref a := rx
  refine getmeth_ok I1 ea cl mt l ?_
  refine PySem.W.callWith_K0 I1.kIn mt.kp ?_
  exact run_fnS (us := [.ref a]) (vs := [.ref a]) fn hr bd (hx σ) I1 (.cons rfl .nil) q
theorem Post.ext {α : Type} {K : PySem.W.Frag} {σ : L2.St} {m m1 : List Addr} {H H1 : Hp} {r : R α} {Q : List Addr → Hp → VH → α → Prop} (p : Post K W σ m H r Q) (x : Ext m H m1 H1) : Post K W σ m1 H1 r Q := by
  cases r with
  | ok v h => exact fun m' H' y s => p m' H' (x.trans y) s
  | ex e h => exact fun m' H' d y s xr => p m' H' d (x.trans y) s xr
  | bad => exact p
theorem isNon_inv {K : PySem.W.Frag} {W : WX} {σ : L2.St} {m : List Addr} {H : Hp} {β : Type} {x : PV} {f : Unit → M β} {h : VH} {Q : List Addr → Hp → VH → β → Prop} (p : Post K W σ m H (bnd (isNon x) f h) Q) : x = .non ∧ Post K W σ m H (f () h) Q := by
  cases x <;> first | exact ⟨rfl, p⟩ | exact p.elim
theorem make_read {C : Str} {c : Addr} {n : Nat} {g : List PV → M PV} {σ : L2.St} {H : Hp} {Q : VK} {E : XK} (ec : clsAt X.K C = some c) (hl : ArgN n dl) (q : TD X.K W (dMake C g dl) σ H Q) :
    tMake c (spD X.K (n + 1) g) [] E (TDA X.K W dl) σ H Q := by
  obtain ⟨m, v, h, sr, sl, p⟩ := q
  refine ⟨m, v, h, sr, sl, ?_⟩
  unfold dMake at p
  cases e1 : dl v h with
  | ok as h1 =>
    have hlen := hl v h as h1 e1
    unfold bnd at p
    rw [e1] at p
    intro m1 H1 x1 s1 xs rs x dx nx ndx nex
    have e2 : (upd H1 dx (.own x)) x = none := by rw [upd_ne (Ne.symm nex)]; exact nx
    have s2 : SR X.K (m1 ++ [x]) (h1 ++ [.ins C []]) (upd (upd H1 dx (.own x)) x (.ins c dx [])) :=
      (s1.more ndx).add (w := .ins C []) e2 ⟨c, dx, [], ec, upd_same, rfl, Reps.nil⟩
    have x2 : Ext m1 H1 (m1 ++ [x]) (upd (upd H1 dx (.own x)) x (.ins c dx [])) := (Ext.upd_new ndx).trans (Ext.upd_add e2)
    have em : (m1 ++ [x])[h1.length]? = some x := by
      rw [← s1.len, List.getElem?_append_right (Nat.le_refl _)]
      simp
    rw [List.append_nil]
    refine ⟨m1 ++ [x], h1 ++ [.ins C []], .ref h1.length :: as, s2, Reps.cons (rep_ref' em) (rs.ext x2), by rw [List.length_cons, hlen], ?_⟩
    simp only at p
    have p1 := (post_noex (W' := fun c d _ H' => E c d H') (σ' := []) p).ext (x1.trans x2)
    refine (Post.seq p1).mono fun m3 H3 h3 u x3 s3 p3 y ry => ?_
    obtain ⟨rfl, p4⟩ := isNon_inv p3
    exact ⟨rep_non ry, p4 m3 H3 .refl s3 _ (rep_ref' (x3.get em))⟩
  | ex u h1 => unfold bnd at p; rw [e1] at p; exact p
  | bad => unfold bnd at p; rw [e1] at p; exact p
theorem de_make {C : Str} {n k : Nat} {g : List PV → M PV} (F : HasI X.prog X.w X.K X.mg X.base C (n + 1) k g) (hr : Room (k + 1) X.A) (ha : DA X W (e :: es) dl) (hl : ArgN n dl) (hg : Gl X C := by rfl)
    (hdb : (C == ("__debug__" : Str)) = false := by decide) (he : starEach (e :: es) X.env = (false, eval e X.env) :: starEach es X.env := by rfl) (hpl : (backTo pos (starEach es X.env)).any (·.1) = false := by rfl) :
    DE X W (.Call (.Name C p) (e :: es) [] pos) (dMake C g dl) := by
  obtain ⟨c, fa, fd, ps, ec, em, mk, bd, fn⟩ := F
  exact weakE (pe_make (E := fun _ _ _ => False) mk fn hr hg em bd .nil pass0 ha hdb he hpl) fun σ H Q q => make_read ec hl q
end
section
variable {P : Program} {w : World} {K : PySem.W.Frag} {mg : Str → Option Value} {base : Heap} {C m qual : Str} {st : Stmt} {ps N : List Str} {b : SD} {f : Addr} {fd : FuncData}
theorem hasM0n (n NN k : Nat) (T : StandsM K C m qual st ps f fd) (S : FnScope N ps (defScope st)) (hn : ps.length = n) (hN : N.length = NN)
    (hb : ∀ (cdv : Value) (A : Around) (outer : List Env) (s : Shared) (H : Hp) (E : XK), Room k (A.deeper (envOfC qual (defScope st) s.heap.objs.size f cdv)) → DSs (cx0 P w K mg base N qual st f cdv A outer s H E) F0 (defBody st) b) :
    HasM P w K mg base CX0 C m n (k + 1) (fn0 NN b) := by
  subst hn hN
  obtain ⟨c, ec, cl, mt⟩ := T.cl
  exact ⟨c, f, fd, ps, ec, cl, mt, T.bd, T.fn.ok S (fun vs H Q E h => spD_len h) fun cdv A outer s H vs Q E hr h => ⟨_, hb cdv A outer s H E hr, body0 h⟩⟩
theorem hasI0n (n NN k : Nat) (T : StandsI K mg C qual st ps f fd) (S : FnScope N ps (defScope st)) (hn : ps.length = n) (hN : N.length = NN)
    (hb : ∀ (cdv : Value) (A : Around) (outer : List Env) (s : Shared) (H : Hp) (E : XK), Room k (A.deeper (envOfC qual (defScope st) s.heap.objs.size f cdv)) → DSs (cx0 P w K mg base N qual st f cdv A outer s H E) F0 (defBody st) b) :
    HasI P w K mg base C n (k + 1) (fn0 NN b) := by
  subst hn hN
  obtain ⟨c, ec, em, mk⟩ := T.cl
  exact ⟨c, f, fd, ps, ec, em, mk, T.bd, T.fn.ok S (fun vs H Q E h => spD_len h) fun cdv A outer s H vs Q E hr h => ⟨_, hb cdv A outer s H E hr, body0 h⟩⟩
end
/-! the rules that compute -/
section
variable {v : Sl} {h : VH} {Q : PV → VH → Prop}
theorem ok_fld {C f : Str} {o : Sl → M PV} : OK (dFld C f o v h) Q = OK (o v h) fun x h1 => OO (oFld C f x h1) Q := by
  unfold dFld; simp only [ok_bnd, ok_lift]
theorem oo_fld {C f : Str} {n : Nat} {fs : List (Str × PV)} {r : PV} (e : h[n]? = some (.ins C fs)) (l : fs.lookup f = some r) : OO (oFld C f (.ref n) h) Q = Q r h := by
  have : oFld C f (.ref n) h = some (r, h) := by simp [oFld, e, l]
  rw [this]; with_unfolding_all rfl
theorem fo_fldS {C f : Str} {o e : Sl → M PV} {E : En} : FO (sFldS C f o e v h) E = OK (e v h) fun y h1 => OK (o v h1) fun x h2 => OO (oSetF C f x y h2) fun _ h3 => E.nx v h3 := by
  unfold sFldS; simp only [fo_bx, ok_lift]; with_unfolding_all rfl
theorem oo_setF {C f : Str} {n : Nat} {fs : List (Str × PV)} {y : PV} {Q : Unit → VH → Prop} (e : h[n]? = some (.ins C fs)) (l : fs.length < 1000) : OO (oSetF C f (.ref n) y h) Q = Q () (h.set n (.ins C (putP f y fs))) := by
  have : oSetF C f (.ref n) y h = some ((), h.set n (.ins C (putP f y fs))) := by simp [oSetF, e, l]
  rw [this]; with_unfolding_all rfl
theorem ok_meth1 {C m : Str} {g : List PV → M PV} {o : Sl → M PV} {a : Sl → M (List PV)} : OK (dMeth1 C m g o a v h) Q = OK (o v h) fun x h1 => OO (oIns C m x h1) fun _ h2 => OK (a v h2) fun as h3 => OK (g (x :: as) h3) Q := by
  unfold dMeth1; simp only [ok_bnd, ok_lift]
theorem oo_ins {C f : Str} {n : Nat} {fs : List (Str × PV)} {Q : Unit → VH → Prop} (e : h[n]? = some (.ins C fs)) (l : fs.lookup f = none) : OO (oIns C f (.ref n) h) Q = Q () h := by
  have : oIns C f (.ref n) h = some ((), h) := by simp [oIns, e, l]
  rw [this]; with_unfolding_all rfl
theorem ok_isNon {x : PV} {Q : Unit → VH → Prop} : OK (isNon x h) Q = (x = .non ∧ Q () h) := by
  have no : ∀ y : PV, y ≠ .non → isNon y h = .bad := fun y hy => by
    cases y <;> first | exact absurd rfl hy | rfl
  by_cases e : x = .non
  · subst e
    rw [show isNon PV.non = ret () from rfl, ok_ret]
    simp
  · rw [no x e, ok_bad]
    simp [e]
theorem ok_make {C : Str} {g : List PV → M PV} {a : Sl → M (List PV)} : OK (dMake C g a v h) Q = OK (a v h) fun as h1 => OK (g (.ref h1.length :: as) (h1 ++ [.ins C []])) fun u h2 => u = .non ∧ Q (.ref h1.length) h2 := by
  unfold dMake; simp only [ok_bnd]; congr 1; funext as h1
  rw [ok_noex]
  simp only [ok_bnd, ok_isNon, ok_ret]
end
end D

/-! layer D, part 35: targets within targets -/
namespace D
open PySem PySem.Spec PyProof.Rows L2
theorem post_F0 {α : Type} {K : PySem.W.Frag} {σ σ' : L2.St} {m m1 : List Addr} {H H1 : Hp} {r : R α} {Q : List Addr → Hp → VH → α → Prop} (p : Post K F0 σ m H r Q) (x : Ext m H m1 H1) : Post K F0 σ' m1 H1 r Q := by
  cases r with
  | ok v h => exact fun m' H' y s => p m' H' (x.trans y) s
  | ex e h => exact fun m' H' d y s xr => (p m' H' d (x.trans y) s xr).elim fun _ z => z.2.elim
  | bad => exact p
section
variable {X : Cx}
theorem dgs_consT {e : Expr} {es : List Expr} {d0 : PV → Sl → M Sl} {d : List PV → Sl → M Sl} {is0 is : List Nat} (h1 : DG X (fun _ _ _ _ => False) e d0 is0) (h2 : DGs X (fun _ _ _ _ => False) es d is)
    (hs : (assignEach (e :: es) X.env).map (·.2) = assign e X.env :: (assignEach es X.env).map (·.2) := by rfl) : DGs X (fun _ _ _ _ => False) (e :: es) (dgsCons d0 d) (is0 ++ is) :=
  weakGs (pgs_cons h1 h2 hs) fun xs σ H Q ⟨m, v, h, us, sr, sl, r, p⟩ => by
    cases us with
    | nil => exact p.elim
    | cons u us =>
      obtain ⟨x, t, rfl, r1, r2⟩ := r.cons_inv
      refine ⟨x, t, rfl, m, v, h, u, sr, sl, r1, (Post.via (K := X.K) (σ' := σ) p .refl).mono fun m1 H1 h1 v1 x1 sr1 ⟨y, p1⟩ σ1 sl1 w1 => ?_⟩
      refine ⟨m1, v1, h1, us, sr1, sl1, r2.ext x1, (post_F0 p1 x1).mono fun m2 H2 h2 v2 x2 sr2 p2 σ2 sl2 w2 => ?_⟩
      exact p2 σ2 sl2 fun vs hv => (w2 vs fun j hj => hv j (List.mem_append_right _ hj)).trans (w1 vs fun j hj => hv j (List.mem_append_left _ hj))
end
end D

/-! layer D, part 36: dict(pairs), keys tuples of whole numbers -/
namespace D
open PySem PySem.Spec PyProof.Rows L2
def pairK : PV → Option (List Int × PV)
  | .tup [.tup l, v] => match intsP l with
    | some k => if kok k then some (k, v) else none
    | none => none
  | _ => none
def pairsK : List PV → Option (List (List Int × PV))
  | [] => some []
  | x :: l => match pairK x, pairsK l with
    | some p, some r => some (p :: r)
    | _, _ => none
def dictP (kvs : List (List Int × PV)) : List (List Int × PV) := kvs.foldl (fun a p => dPut a p.1 p.2) []
def gDictP (l : List PV) : O PV := fun h => match pairsK l with
  | some kvs => if l.length ≤ 16777216 then some (.ref h.length, h ++ [.dT (dictP kvs)]) else none
  | none => none
theorem pairK_inv {x : PV} {k : List Int} {v : PV} (e : pairK x = some (k, v)) : ∃ l, x = .tup [.tup l, v] ∧ intsP l = some k ∧ kok k := by
  unfold pairK at e
  split at e
  · rename_i l v'
    split at e
    · rename_i k' ek
      split at e
      · rename_i ne
        cases e
        exact ⟨l, rfl, ek, ne⟩
      · cases e
    · cases e
  · cases e
section
variable {X : Cx}
theorem pairs_build {pins : List (Addr × Obj)} {σ : L2.St} {H : Hp} {s : Shared} {m : List Addr} (I : Inv X pins σ H s) : ∀ {l : List PV} {ys : List V} {its : List Value} {kvs : List (List Int × PV)}, Reps X.K m H l ys → pairsK l = some kvs → Vals ys its →
    ∃ (kv : List (List Key × V)) (ps : List (List Key × Addr × Value)) (Ts : List Addr), kv.map (·.1) = kvs.map (fun p => kI p.1) ∧ Reps X.K m H (kvs.map (·.2)) (kv.map (·.2)) ∧ KT H kv ps ∧ ps.length = its.length ∧ Ts.length = its.length ∧
      ∀ (j : Nat) (q : List Key × Addr × Value), ps[j]? = some q → its[j]? = some (.ref (Ts.getD j 0)) ∧ s.heap.IsTuple (Ts.getD j 0) #[.ref q.2.1, q.2.2]
  | [], ys, its, kvs, r, e, rv => by
    rw [r.nil_inv] at rv
    cases rv
    cases e
    exact ⟨[], [], [], rfl, Reps.nil, .nil, rfl, rfl, fun j q z => by simp at z⟩
  | x :: l, ys, its, kvs, r, e, rv => by
    obtain ⟨y, t, rfl, r1, r2⟩ := r.cons_inv
    rw [pairsK] at e
    split at e
    · rename_i p rest ep er
      cases e
      obtain ⟨k, v⟩ := p
      obtain ⟨l2, rfl, ek, ne⟩ := pairK_inv ep
      cases rv with
      | @cons _ u _ us hu hus =>
        obtain ⟨T, xs, rfl, tT, rT⟩ := rep_tup r1
        obtain ⟨y1, t1, rfl, q1, q2⟩ := rT.cons_inv
        obtain ⟨y2, t2, rfl, q3, q4⟩ := q2.cons_inv
        rw [q4.nil_inv] at tT
        obtain ⟨b, rfl, eb⟩ := rep_key ek ne q1
        obtain ⟨its2, rv2, ht, _⟩ := I.tuple tT.sq
        obtain ⟨u1, u2, rfl, ru1, ru2⟩ := vals2 rv2
        obtain rfl : u1 = Value.ref b := ru1
        obtain rfl : u = Value.ref T := hu
        obtain ⟨kv, ps, Ts, f1, f2, f3, f4, f5, f6⟩ := pairs_build I r2 er hus
        refine ⟨(kI k, y2) :: kv, (kI k, b, u2) :: ps, T :: Ts, by simp [f1], Reps.cons q3 f2, .cons ⟨rfl, eb, ru2⟩ f3, by simp [f4], by simp [f5], fun j q z => ?_⟩
        cases j with
        | zero =>
          have z' : (kI k, b, u2) = q := Option.some.inj z
          subst z'
          exact ⟨rfl, ht⟩
        | succ j =>
          obtain ⟨h1, h2⟩ := f6 j q (by simpa using z)
          exact ⟨by simpa using h1, by simpa using h2⟩
    · cases e
theorem KT.fold {H : Hp} : ∀ {kv : List (List Key × V)} {ps : List (List Key × Addr × Value)} {acc : List (List Key × V)} {xs : List (List Key × Addr × Value)}, KT H acc xs → KT H kv ps → KT H (kv.foldl (fun a p => putK a p.1 p.2) acc) (storedAllH xs ps)
  | _, _, _, _, r, .nil => r
  | _, _, acc, xs, r, .cons (a := p) (b := q) h t => by
    obtain ⟨h1, h2, h3⟩ := h
    rw [List.foldl_cons]
    show KT H _ (storedAllH (storedH xs q.1 q.2.1 q.2.2) _)
    refine KT.fold ?_ t
    rw [← h1]
    exact r.put p.1 h2 h3
theorem dict_fold {K : PySem.W.Frag} {m : List Addr} {H : Hp} : ∀ {kvs : List (List Int × PV)} {kv : List (List Key × V)} {a : List (List Int × PV)} {b : List (List Key × V)}, kv.map (·.1) = kvs.map (fun p => kI p.1) → Reps K m H (kvs.map (·.2)) (kv.map (·.2)) →
    b.map (·.1) = a.map (fun p => kI p.1) → Reps K m H (a.map (·.2)) (b.map (·.2)) →
    (kv.foldl (fun a p => putK a p.1 p.2) b).map (·.1) = (kvs.foldl (fun a p => dPut a p.1 p.2) a).map (fun p => kI p.1) ∧ Reps K m H ((kvs.foldl (fun a p => dPut a p.1 p.2) a).map (·.2)) ((kv.foldl (fun a p => putK a p.1 p.2) b).map (·.2))
  | [], [], _, _, _, _, e, r => ⟨e, r⟩
  | [], _ :: _, _, _, e, _, _, _ => by simp at e
  | _ :: _, [], _, _, e, _, _, _ => by simp at e
  | p :: kvs, q :: kv, a, b, e1, r1, e, r => by
    simp only [List.map_cons, List.cons.injEq] at e1
    obtain ⟨x, t, ex, q1, q2⟩ := r1.cons_inv
    simp only [List.map_cons, List.cons.injEq] at ex
    obtain ⟨rfl, rfl⟩ := ex
    rw [List.foldl_cons, List.foldl_cons, e1.1]
    obtain ⟨g1, g2⟩ := put_rep (k := p.1) q1 e r
    exact dict_fold e1.2 q2 g1 g2
theorem dictP_len (kvs : List (List Int × PV)) : ∀ a : List (List Int × PV), (kvs.foldl (fun a p => dPut a p.1 p.2) a).length ≤ a.length + kvs.length := by
  induction kvs with
  | nil => intro a; simp
  | cons p kvs ih =>
    intro a
    rw [List.foldl_cons, List.length_cons]
    have h1 := ih (dPut a p.1 p.2)
    have h2 := dPut_len a p.1 p.2
    omega
theorem pairsK_len : ∀ {l : List PV} {kvs : List (List Int × PV)}, pairsK l = some kvs → kvs.length = l.length
  | [], _, e => by cases e; rfl
  | x :: l, kvs, e => by
    rw [pairsK] at e
    split at e
    · rename_i p r ep er
      cases e
      rw [List.length_cons, List.length_cons, pairsK_len er]
    · cases e
/-- a list alone -/
def rBIL (K : PySem.W.Frag) (g : List PV → O PV) : List V → Hp → VK → Prop := fun xs H Q => ∃ m h l z h' a ys, SR K m h H ∧ xs = [.ref a] ∧ SqL K H a ys ∧ Reps K m H l ys ∧ g l h = some (z, h') ∧
  ∀ m' H' w, Ext m H m' H' → SR K m' h' H' → Rep K m' H' z w → Q w H'
/-- a tuple whose object is known -/
def rBIX (K : PySem.W.Frag) (g : List PV → O PV) : List V → Hp → VK → Prop := fun xs H Q => ∃ m h l z h' a ys, SR K m h H ∧ xs = [.ref a] ∧ XtAt K m H a ys ∧ Reps K m H l ys ∧ g l h = some (z, h') ∧
  ∀ m' H' w, Ext m H m' H' → SR K m' h' H' → Rep K m' H' z w → Q w H'
theorem c_dictP0 (hc : X.calm = true) (hu : X.A.units + 64 < cLine) : CallR X (.type "dict") (fun xs H Q => rBIL X.K gDictP xs H Q ∨ rBIX X.K gDictP xs H Q) := by
  intro pins s σ H xs us Q I rx hor
  have both : ∃ m h l z h' a ys, SR X.K m h H ∧ xs = [.ref a] ∧ (SqL X.K H a ys ∨ XtAt X.K m H a ys) ∧ Reps X.K m H l ys ∧ gDictP l h = some (z, h') ∧ ∀ m' H' w, Ext m H m' H' → SR X.K m' h' H' → Rep X.K m' H' z w → Q w H' := by
    rcases hor with ⟨m, h, l, z, h', a, ys, h1, h2, h3, h4, h5, h6⟩ | ⟨m, h, l, z, h', a, ys, h1, h2, h3, h4, h5, h6⟩
    · exact ⟨m, h, l, z, h', a, ys, h1, h2, .inl h3, h4, h5, h6⟩
    · exact ⟨m, h, l, z, h', a, ys, h1, h2, .inr h3, h4, h5, h6⟩
  obtain ⟨m, h, l, z, h', a, ys, sr, e1, sq, rl, e, q⟩ := both
  subst e1
  unfold gDictP at e
  split at e
  · rename_i kvs ek
    split at e
    · rename_i hl
      cases e
      obtain ⟨u, rfl, ru⟩ := vals1 rx
      obtain rfl : u = Value.ref a := ru
      have ly := rl.len
      have lk := pairsK_len ek
      -- the new dict
      have fin : ∀ {its : List Value} {kv : List (List Key × V)} {ps : List (List Key × Addr × Value)}, Vals ys its → kv.map (·.1) = kvs.map (fun p => kI p.1) → Reps X.K m H (kvs.map (·.2)) (kv.map (·.2)) → KT H kv ps → ps.length = its.length →
          ∀ h' tk, h'.DictOfH (tupleKind (mixKind X.prog X.w)) s.heap.objs.size (storedAllH [] ps) → (∀ b o, b ∉ ([] : List Addr) → s.heap.get? b = some o → h'.get? b = some o) → EP X pins σ Q (.ref s.heap.objs.size) { s with heap := h', toks := tk } := fun {its kv ps} rv f1 f2 f3 f4 h' tk hd' k => by
        have hm : (s.heap.objs.size == sysModules) = false := beq_eq_false_iff_ne.mpr (Nat.ne_of_gt I.big)
        have Hn : H s.heap.objs.size = none := I.hok.fresh (Nat.le_refl _)
        obtain ⟨g1, g2⟩ := dict_fold (a := []) (b := []) f1 f2 rfl Reps.nil
        have hlen : (kv.foldl (fun a p => putK a p.1 p.2) []).length ≤ sizeLine := by
          have h1 := congrArg List.length g1
          rw [List.length_map, List.length_map] at h1
          have h2 := dictP_len kvs []
          rw [List.length_nil] at h2
          rw [h1, sizeLine_eq]
          omega
        have kt := KT.fold (H := H) (acc := []) (xs := []) .nil f3
        have kt' : KT (upd H s.heap.objs.size (.dT (kv.foldl (fun a p => putK a p.1 p.2) []))) (kv.foldl (fun a p => putK a p.1 p.2) []) (storedAllH [] ps) := kt.keeps fun c zs ec => by
          rw [upd_ne (ne_of_none ec Hn)]
          exact ec
        obtain ⟨o, es, ep, h1, h2, h3, h4, _, h5⟩ := hd'
        refine ⟨.ref s.heap.objs.size, upd H s.heap.objs.size (.dT (kv.foldl (fun a p => putK a p.1 p.2) [])), I.laid (t' := tk) (fun b o e => k b o (by simp) e) (Nat.le_refl _) (show ObjOk X.prog X.w _ _ _ (.dT _) from ⟨hlen, hm, _, kt', o, es, ep, h1, h2, h3, h4, h5⟩), rfl, ?_⟩
        exact q (m ++ [s.heap.objs.size]) _ _ (.upd_add Hn) (sr.add Hn ⟨_, upd_same, g1, g2.ext (.upd_add Hn)⟩) (rep_ref' (by rw [← sr.len, List.getElem?_append_right (Nat.le_refl _)]; simp))
      have room : (tupleKind (mixKind X.prog X.w)).room X.A.in1.in1 := show X.A.units + 1 + 1 < cLine by omega
      have stay : ∀ {kv : List (List Key × V)} {ps : List (List Key × Addr × Value)}, KT H kv ps → KeysStay (tupleKind (mixKind X.prog X.w)) s.heap s.heap.objs.size [] ps := fun {kv ps} f3 h' hk x hx => by
        have all : ∀ {l : List (List Key × V)} {m : List (List Key × Addr × Value)}, KT H l m → ∀ x ∈ m, H x.2.1 = some (.tup (x.1.map kV)) := by
          intro l m r
          induction r with
          | nil => intro x hx; cases hx
          | cons h t ih =>
            intro x hx
            rcases List.mem_cons.mp hx with e | e
            · subst e
              rw [← h.1]
              exact h.2.1
            · exact ih x e
        obtain ⟨o, its, n, z1, z2, z3, z4⟩ := key_of I.hok (all f3 x hx)
        refine ⟨o, its, n, hk _ _ ?_ (by simp) z1, z2, z3, ?_⟩
        · exact Nat.ne_of_lt (Heap.lt_size z1)
        · exact z4
      rcases sq with sq | ⟨_, ob, eo, xo1, xo2, its0, n0, xo3⟩
      · obtain ⟨its, rv, pl, hz⟩ := I.list sq
        obtain ⟨kv, ps, Ts, f1, f2, f3, f4, f5, f6⟩ := pairs_build I rl ek rv
        obtain ⟨o, n, ho, ho1, ho2, ho3⟩ := pl
        refine call_dict_pairsH (knd := tupleKind (mixKind X.prog X.w)) (ps := ps) (PairArg.list a its.toArray (fun j => Ts.getD j 0) (ps.map fun p => (Value.ref p.2.1, p.2.2))) (I.ok.hd hc) room ⟨⟨o, n, ho, ho1, ho2, ho3⟩, by simp [f4], fun j k v hj => ?_⟩ ⟨by simp, fun i key v hr => ?_⟩ (stay f3) (by simp only [List.length_map]; rw [f4, ← rv.length, ly, sizeLine_eq]; exact hl) (fin rv f1 f2 f3 f4)
        · rw [List.getElem?_map] at hj
          obtain ⟨p, ep, e⟩ := Option.map_eq_some_iff.mp hj
          cases e
          obtain ⟨g1, g2⟩ := f6 j p ep
          exact ⟨by simpa using g1, .inl g2⟩
        · unfold PairRel at hr
          rw [List.getElem?_map] at hr
          obtain ⟨p, ep, e⟩ := Option.map_eq_some_iff.mp hr
          cases e
          exact ⟨p.1, p.2.1, ep, rfl⟩
      · obtain ⟨ho, hz, its, rv, ot, eot, ot1, nt, ot2⟩ := (show ObjOk X.prog X.w H s.heap a (.frz ob (.tup ys)) from I.hok a _ eo)
        obtain rfl : ob = ot := Option.some.inj (ho.symm.trans eot)
        obtain ⟨kv, ps, Ts, f1, f2, f3, f4, f5, f6⟩ := pairs_build I rl ek rv
        refine call_dict_pairsH (knd := tupleKind (mixKind X.prog X.w)) (ps := ps) (PairArg.tuple a its.toArray (fun j => Ts.getD j 0) (ps.map fun p => (Value.ref p.2.1, p.2.2))) (I.ok.hd hc) room ⟨⟨ob, nt, ho, ot1, xo2, ot2⟩, by simp [f4], fun j k v hj => ?_⟩ ⟨by simp, fun i key v hr => ?_⟩ (stay f3) (by simp only [List.length_map]; rw [f4, ← rv.length, ly, sizeLine_eq]; exact hl) (fin rv f1 f2 f3 f4)
        · rw [List.getElem?_map] at hj
          obtain ⟨p, ep, e⟩ := Option.map_eq_some_iff.mp hj
          cases e
          obtain ⟨g1, g2⟩ := f6 j p ep
          exact ⟨by simpa using g1, .inl g2⟩
        · unfold PairRel at hr
          rw [List.getElem?_map] at hr
          obtain ⟨p, ep, e⟩ := Option.map_eq_some_iff.mp hr
          cases e
          exact ⟨p.1, p.2.1, ep, rfl⟩
    · cases e
  · cases e
def oDictP : List PV → O PV := fun as h => match as with
  | [.xt l] => gDictP l h
  | [v] => match lstOf h v with
    | some l => gDictP l h
    | none => none
  | _ => none
theorem c_dictP (hc : X.calm = true) (hu : X.A.units + 64 < cLine) : CallR X (.type "dict") (rOL X.K oDictP) := by
  intro pins s σ H xs us Q I rx ⟨m, hh, as, z, h', sr, rs, e, q⟩
  unfold oDictP at e
  split at e
  · rename_i l
    obtain ⟨x, t, rfl, r1, r2⟩ := rs.cons_inv
    have ht := r2.nil_inv
    subst ht
    simp only [Rep] at r1
    obtain ⟨a, ys, rfl, xt, rl⟩ := r1
    exact c_dictP0 hc hu pins s σ H _ us Q I rx (.inr ⟨m, hh, l, z, h', a, ys, sr, rfl, xt, rl, e, q⟩)
  · rename_i v _
    split at e
    · rename_i l el
      obtain ⟨x, t, rfl, r1, r2⟩ := rs.cons_inv
      have ht := r2.nil_inv
      subst ht
      obtain ⟨a, ys, rfl, sq, rl⟩ := lst_sq sr el r1
      exact c_dictP0 hc hu pins s σ H _ us Q I rx (.inl ⟨m, hh, l, z, h', a, ys, sr, rfl, sq, rl, e, q⟩)
    · cases e
  · cases e
/-! ### tuples whose object is known -/
def gTupleX (l : List PV) : O PV := fun h => some (.xt l, h)
def unkeyB : List PV → Bool
  | [] => true
  | .tup _ :: _ => true
  | .str _ :: _ => true
  | _ => false
def unX : PV → PV
  | .xt l => if unkeyB l then .tup l else .xt l
  | v => v
def dUnX (d : Sl → M PV) : Sl → M PV := fun v => bnd (d v) fun x h => .ok (unX x) h
theorem unkey_not {K : PySem.W.Frag} {m : List Addr} {H : Hp} {l : List PV} {xs : List V} (r : Reps K m H l xs) (e : unkeyB l = true) : ¬ keyish xs := by
  intro hk
  have n0 := hk.1
  have k := hk.2
  cases l with
  | nil => exact n0 r.nil_inv
  | cons v l =>
    obtain ⟨x, t, rfl, r1, r2⟩ := r.cons_inv
    obtain ⟨i, rfl⟩ := k x List.mem_cons_self
    cases v <;> simp only [unkeyB, Bool.false_eq_true] at e <;> simp [Rep] at r1
end
section
variable {X : Cx} {W : WX} {e o : Expr} {es : List Expr} {d do_ : Sl → M PV} {pos : Pos}
theorem unx_rep {K : PySem.W.Frag} {m : List Addr} {H : Hp} : ∀ {v : PV} {x : V}, Rep K m H v x → Rep K m H (unX v) x
  | .xt l, x, r => by
    show Rep K m H (if unkeyB l = true then .tup l else .xt l) x
    by_cases hk : unkeyB l = true
    · rw [if_pos hk]
      simp only [Rep] at r
      obtain ⟨a, xs, e, q, t⟩ := r
      simp only [Rep]
      exact ⟨a, xs, e, q.tup (unkey_not t hk), t⟩
    · rw [if_neg hk]
      exact r
  | .non, _, r => r
  | .bl _, _, r => r
  | .int _, _, r => r
  | .str _, _, r => r
  | .con _, _, r => r
  | .ref _, _, r => r
  | .tup _, _, r => r
  | .rol _, _, r => r
theorem c_tupleX : CallR X (.type "tuple") (rBL X.K gTupleX) := by
  intro pins s σ H xs us Q I rx ⟨m, h, l, z, h', a, ys, sr, e1, sq, rl, e, q⟩
  cases e
  subst e1
  obtain ⟨u, rfl, ru⟩ := vals1 rx
  cases ru
  obtain ⟨its, r', pl, hz⟩ := I.list sq
  have hlen := r'.length
  refine call_tuple_list pl.isList (fun h' kp => ?_) (by simp only [List.size_toArray] <;> omega)
  have I1 : Inv X pins σ H { s with heap := h' } := I.kept (t' := s.toks) kp
  have Hn : H h'.objs.size = none := I1.hok.fresh (Nat.le_refl _)
  have I2 : Inv X pins σ (upd H h'.objs.size (.frz { cls := .type "tuple", data := .seq its.toArray } (.tup ys))) { s with heap := h'.push { cls := .type "tuple", data := .seq its.toArray } } :=
    I1.laid (t' := s.toks) (fun b o e => Heap.get?_push_of_some _ e) (Nat.le_refl _) (show ObjOk X.prog X.w _ _ _ (.frz _ (.tup ys)) from ⟨by simp [Heap.get?, Heap.push], hz, its, r', IsTup.new _ _⟩)
  refine ⟨.ref h'.objs.size, _, I2, rfl, q m _ _ (.upd_new Hn) (sr.more Hn) ?_⟩
  simp only [Rep]
  exact ⟨_, ys, rfl, ⟨sr.fresh Hn, _, upd_same, rfl, rfl, _, _, rfl⟩, rl.ext (.upd_new Hn)⟩
theorem de_callTyLl {g : List PV → O PV} {x : Str} {T : String} {p : Pos} {dl : Sl → M (List PV)} (hc : CallR X (.type T) (rBL X.K g)) (hg : Gl X x) (hm : X.mg x = none) (hv : bootBuiltins x = some (.type T)) (h : DL X W e dl) (hn : x ≠ "__name__" := by decide) (hdb : (x == ("__debug__" : Str)) = false := by decide)
    (hs : starEach [e] X.env = (false, eval e X.env) :: starEach [] X.env := by rfl) : DE X W (.Call (.Name x p) [e] [] pos) (dTmpFn g dl) :=
  weakE (pe_callTy hc hg hm hv (pa_cons h pa_nil hs) hn hdb hs rfl) fun σ H Q q => bl_read q
theorem de_unX (h : DE X W e d) : DE X W e (dUnX d) :=
  weakE h fun σ H Q ⟨m, v, h1, sr, sl, p⟩ => ⟨m, v, h1, sr, sl, (Post.seq p).mono fun m1 H1 h2 u x1 sr1 p1 x rx => p1 m1 H1 .refl sr1 x (unx_rep rx)⟩
end
/-! ### x[::-1] of a list -/
def dRevL (d : Sl → M PV) : Sl → M PV := fun v => bnd (d v) fun x h => match lstOf h x with
  | some l => .ok (.ref h.length) (h ++ [.lst l.reverse])
  | none => .bad
theorem Reps.rev {K : PySem.W.Frag} {m : List Addr} {H : Hp} : ∀ {l : List PV} {xs : List V}, Reps K m H l xs → Reps K m H l.reverse xs.reverse
  | [], xs, r => by rw [r.nil_inv]; exact Reps.nil
  | v :: l, xs, r => by
    obtain ⟨x, t, rfl, r1, r2⟩ := r.cons_inv
    rw [List.reverse_cons, List.reverse_cons]
    exact (Reps.rev r2).append (Reps.cons r1 Reps.nil)
theorem de_revL {X : Cx} {W : WX} {e : Expr} {d : Sl → M PV} {k : Nat} {p1 p2 p3 pos : Pos} (h : DE X W e d) : DE X W (.Subscript e (.Slice none none (some (.UnaryOp .USub (.Constant (.int 1) k p1) p2)) p3) pos) (dRevL d) :=
  weakE (pe_revL h) fun σ H Q ⟨m, v, h1, sr, sl, p⟩ => ⟨m, v, h1, sr, sl, (Post.seq p).mono fun m1 H1 h2 u x1 sr1 p1 x rx => by
    cases el : lstOf h2 u with
    | none => rw [el] at p1; exact p1.elim
    | some l =>
      rw [el] at p1
      obtain ⟨a, ys, rfl, sq, rl⟩ := lst_sq sr1 el rx
      exact ⟨a, ys, rfl, sq, fun q nq => p1 (m1 ++ [q]) _ (.upd_add nq) (sr1.addLst nq rl.rev) _ (rep_ref' (by rw [← sr1.len, List.getElem?_append_right (Nat.le_refl _)]; simp))⟩⟩
def Ls (o : Option (List PV)) (q : List PV → Prop) : Prop := match o with
  | some l => q l
  | none => False
section
variable {v : Sl} {h : VH} {P : PV → VH → Prop}
theorem ok_revL {d : Sl → M PV} : OK (dRevL d v h) P = OK (d v h) fun x h1 => Ls (lstOf h1 x) fun l => P (.ref h1.length) (h1 ++ [.lst l.reverse]) := by
  unfold dRevL; simp only [ok_bnd]; congr 1; funext x h1
  cases lstOf h1 x <;> with_unfolding_all rfl
theorem ls_lst {a : Nat} {l : List PV} {q : List PV → Prop} (e : h[a]? = some (.lst l)) : Ls (lstOf h (.ref a)) q = q l := by
  simp only [lstOf, e, Ls]
theorem ok_unX {d : Sl → M PV} : OK (dUnX d v h) P = OK (d v h) fun x h1 => P (unX x) h1 := by
  unfold dUnX; simp only [ok_bnd]; with_unfolding_all rfl
theorem unX_xt {l : List PV} (e : unkeyB l = true) : unX (.xt l) = .tup l := by
  show (if unkeyB l = true then PV.tup l else .xt l) = _
  rw [if_pos e]
theorem unX_tup {l : List PV} : unX (.tup l) = .tup l := rfl
theorem oo_gTupleX {l : List PV} : OO (gTupleX l h) P = P (.xt l) h := by with_unfolding_all rfl
theorem oo_dictX {l : List PV} {kvs : List (List Int × PV)} (e : pairsK l = some kvs) (hl : l.length ≤ 16777216) : OO (oDictP [.xt l] h) P = P (.ref h.length) (h ++ [.dT (dictP kvs)]) := by
  have : oDictP [.xt l] h = some (.ref h.length, h ++ [.dT (dictP kvs)]) := by
    simp only [oDictP, gDictP, e, hl, if_true]
  rw [this]; with_unfolding_all rfl
theorem oo_dictL {a : Nat} {l : List PV} {kvs : List (List Int × PV)} (ea : h[a]? = some (.lst l)) (e : pairsK l = some kvs) (hl : l.length ≤ 16777216) : OO (oDictP [.ref a] h) P = P (.ref h.length) (h ++ [.dT (dictP kvs)]) := by
  have : oDictP [.ref a] h = some (.ref h.length, h ++ [.dT (dictP kvs)]) := by
    simp only [oDictP, lstOf, ea, gDictP, e, hl, if_true]
  rw [this]; with_unfolding_all rfl
end
end D

/-! layer D, part 41: odd things: dicts that are looked at alone, tuples turned about -/
namespace D
open PySem PySem.Spec PySem.W PyProof.Rows L2
/-! ### t[::-1], t a tuple -/
theorem fm_congr {α β : Type} {f g : α → Option β} : ∀ {l : List α}, (∀ x ∈ l, f x = g x) → l.filterMap f = l.filterMap g
  | [], _ => rfl
  | x :: l, h => by
    rw [List.filterMap_cons, List.filterMap_cons, h x List.mem_cons_self, fm_congr fun y hy => h y (List.mem_cons_of_mem _ hy)]
theorem places_rev (n : Nat) : Builtin.Slice.slicePlaces ((n : Int) - 1) (-1) (-1) = n := by
  unfold Builtin.Slice.slicePlaces
  have h1 : ¬ ((-1 : Int) > 0) := by decide
  simp only [h1, if_false]
  by_cases h : (n : Int) - 1 > -1
  · simp only [h, if_true]
    rw [show (-(-1) : Int) = 1 by decide, Int.ediv_one]
    omega
  · simp only [h, if_false]
    omega
section
variable {prog : Program} {w : World} {A : Around} {E : Value → Shared → Prop} {s : Shared}
theorem sliceApplied_rev {sl : Addr} {vl vu vs : Value} {n : Nat} {Q : Int × Int × Nat → Shared → Prop} (hs : s.heap.IsSliceOf sl vl vu vs) (pl : IsPart vl none) (pu : IsPart vu none) (ps : IsPart vs (some (-1)))
    (h : Q ((n : Int) - 1, -1, n) s) : wpAny (model prog w) A (Builtin.Slice.sliceApplied (.ref sl) (pure (n : Int))) Q E s := by
  obtain ⟨os, hos, hcs, hds⟩ := id hs
  unfold Builtin.Slice.sliceApplied Builtin.Slice.sliceFields
  refine wpAny_bind (wpAny_bind (wpAny_field hos hds (x := vl) rfl (wpAny_bind (wpAny_field hos hds (x := vu) rfl (wpAny_bind (wpAny_field hos hds (x := vs) rfl (wpAny_pure ?_)))))))
  refine wpAny_bind (HT.slicePart_ ps ?_)
  show wpAny _ _ (if ((-1 : Int) == 0) = true then _ else _) _ _ s
  rw [if_neg (by decide)]
  refine wpAny_bind (HT.slicePart_ pl (wpAny_bind (HT.slicePart_ pu (wpAny_bind (wpAny_pure ?_)))))
  show wpAny _ _ (pure ((n : Int) - 1, (-1 : Int), Builtin.Slice.slicePlaces ((n : Int) - 1) (-1) (-1))) _ _ s
  rw [places_rev]
  exact wpAny_pure h
theorem pick_rev (xs : Array Value) : ((List.range xs.size).filterMap fun (m : Nat) => xs[((xs.size : Int) - 1 + (m : Int) * (-1)).toNat]?).toArray = xs.toList.reverse.toArray := by
  have e : (List.range xs.size).filterMap (fun (m : Nat) => xs[((xs.size : Int) - 1 + (m : Int) * (-1)).toNat]?) = ((List.range xs.size).map fun k => xs.size - 1 - k).filterMap (xs[·]?) := by
    rw [List.filterMap_map]
    refine fm_congr fun m hm => ?_
    have := List.mem_range.mp hm
    show xs[((xs.size : Int) - 1 + (m : Int) * (-1)).toNat]? = xs[xs.size - 1 - m]?
    congr 1
    omega
  rw [e, krv_range, List.filterMap_reverse, krv_all]
theorem getItem_tuple_rev {t sl : Addr} {items : Array Value} {vl vu vs : Value} {Q : Value → Shared → Prop} (ht : IsTup s.heap t items) (hs : s.heap.IsSliceOf sl vl vu vs) (pl : IsPart vl none) (pu : IsPart vu none) (ps : IsPart vs (some (-1)))
    (h : Q (.ref s.heap.objs.size) { s with heap := s.heap.push { cls := .type "tuple", data := .seq items.toList.reverse.toArray } })
    (hsz : items.size ≤ sizeLine) : wpAny (model prog w) A (getItem (.ref t) (.ref sl)) Q E s := by
  have htake : sizeOk (.seq items.toList.reverse.toArray) := by
    show items.toList.reverse.toArray.size ≤ sizeLine
    rw [List.size_toArray, List.length_reverse, Array.length_toList]
    exact hsz
  obtain ⟨os, hos, hcs, hds⟩ := id hs
  have hTs : s.TypeIs (.ref sl) "slice" := ⟨os, hos, hcs⟩
  unfold getItem
  try with_reducible refine wpAny_holding ?_
  first | refine wpAny_bind (wpAny_pure ?_) | skip
  refine wpAny_bind (wpAny_sequenceKey ht.typeIs (by decide) ?_)
  refine wpAny_bind (wpAny_callSpecial?_slot (name := Str.ofString "__getitem__") ht.typeIs PyProof.Rows.slot_tuple_getitem
    (wpAny_call_entry PyProof.Rows.slot_tuple_getitem ht.typeIs entry_tuple_getitem ?_ (args_tuple_getitem _ _)))
  show wpAny _ _ (Builtin.Tuple.tupleItemsOf (.ref t) >>= _) _ _ s
  refine wpAny_bind (tupleItemsOf_ ht ?_)
  refine wpAny_bind (wpAny_typeOf hTs ?_)
  rw [if_pos (by decide)]
  refine wpAny_bind (sliceApplied_rev hs pl pu ps ?_)
  show wpAny _ _ (if (((items.size : Int) - 1 == 0) && ((-1 : Int) == 1) && (items.size == items.size)) = true then _ else _) _ _ s
  rw [if_neg (by simp), pick_rev]
  first
    | exact wpAny_bind (m := Builtin.Tuple.tupleExact _) (wpAny_newObj_type (wpAny_pure ⟨_, rfl, wpAny_pure h⟩) htake)
    | exact wpAny_bind (m := Builtin.Tuple.tupleExact _) (wpAny_newObj_type (wpAny_bind (wpAny_pure (wpAny_pure ⟨_, rfl, wpAny_pure h⟩))) htake)
    | exact wpAny_bind (wpAny_bind (m := Builtin.Tuple.tupleExact _) (wpAny_newObj_type (wpAny_pure (wpAny_pure ⟨_, rfl, wpAny_pure h⟩)) htake))
    | exact wpAny_bind (wpAny_bind (m := Builtin.Tuple.tupleExact _) (wpAny_newObj_type (wpAny_pure ⟨_, rfl, wpAny_pure h⟩) htake))
end
def tRevT (K : PySem.W.Frag) (te : TE) : TE := fun σ H Q => te σ H fun x H1 => ∃ a xs, x = .ref a ∧ SqT K H1 a xs ∧ ∀ p, H1 p = none → Q (.ref p) (upd H1 p (.tup xs.reverse))
theorem pe_revT {X : Cx} {e : Expr} {te : TE} {k : Nat} {p1 p2 p3 pos : Pos} (he : PE X e te) : PE X (.Subscript e (.Slice none none (some (.UnaryOp .USub (.Constant (.int 1) k p1) p2)) p3) pos) (tRevT X.K te) := by
  refine ⟨fun pins s σ H Q I h => ?_⟩
  refine Subscript_ (thn (he.run pins s σ H _ I h) fun v s1 ⟨x, H1, I1, r1, q1⟩ => ?_)
  obtain ⟨a, xs, ex, hx, q⟩ := q1
  subst ex
  cases r1
  have hst : PO X (some (.UnaryOp .USub (.Constant (.int 1) k p1) p2)) (tPart (tUn (rU fun i => .int (-i)) (tC (.int 1)))) := po_some (pe_un un_neg pe_int)
  refine wpAny_Slice (thn (po_none.run pins s1 σ H1 (fun o H2 => o = none ∧ H2 = H1) I1 ⟨rfl, rfl⟩) fun vl s2 ⟨l, H2, I2, pl, el, e2⟩ => ?_)
  subst el e2
  refine thn (po_none.run pins s2 σ H2 (fun o H3 => o = none ∧ H3 = H2) I2 ⟨rfl, rfl⟩) fun vu s3 ⟨u, H3, I3, pu, eu, e3⟩ => ?_
  subst eu e3
  refine thn (hst.run pins s3 σ H3 (fun o H4 => o = some (-1) ∧ H4 = H3) I3 ⟨1, rfl, -1, rfl, rfl, rfl⟩) fun vs s4 ⟨o, H4, I4, ps, eo, e4⟩ => ?_
  subst eo e4
  have I5 : Inv X pins σ H4 { s4 with heap := s4.heap.push { cls := .type "slice", data := .fields #[vl, vu, vs] } } := I4.kept (t' := s4.toks) fun b ob q => Heap.get?_push_of_some _ q
  obtain ⟨its, r, ht, hz⟩ := I5.tuple hx
  have hlen := r.length
  show wpAny (model X.prog X.w) X.A (subscriptTail e (.Slice none none (some (.UnaryOp .USub (.Constant (.int 1) k p1) p2)) p3) (.ref a) (.ref s4.heap.objs.size)) (EP X pins σ Q) X.xe { s4 with heap := s4.heap.push { cls := .type "slice", data := .fields #[vl, vu, vs] } }
  refine tail_any (ops := [.ref a, .ref s4.heap.objs.size]) ht.typeIs (slot_tuple_getitem.lookup) ?_ (by with_unfolding_all rfl)
  refine getItem_tuple_rev ht (Heap.IsSliceOf.new _ vl vu vs) pl pu ps ?_ (by rw [List.size_toArray]; omega)
  refine ⟨.ref _, _, I5.laid (t' := s4.toks) (o := .tup xs.reverse) (fun b ob q => Heap.get?_push_of_some _ q) (Nat.le_refl _) ?_, rfl, q _ (I5.hok.fresh (Nat.le_refl _))⟩
  exact ⟨by rw [List.length_reverse]; exact hz, _, r.reverse, _, Heap.get?_push_size _ rfl, rfl, 0, rfl⟩
def dRevT (d : Sl → M PV) : Sl → M PV := fun v => bnd (d v) fun x h => match x with
  | .tup l => .ok (.tup l.reverse) h
  | _ => .bad
theorem de_revT {X : Cx} {W : WX} {e : Expr} {d : Sl → M PV} {k : Nat} {p1 p2 p3 pos : Pos} (h : DE X W e d) : DE X W (.Subscript e (.Slice none none (some (.UnaryOp .USub (.Constant (.int 1) k p1) p2)) p3) pos) (dRevT d) :=
  weakE (pe_revT h) fun σ H Q ⟨m, v, h1, sr, sl, p⟩ => ⟨m, v, h1, sr, sl, (Post.seq p).mono fun m1 H1 h2 u x1 sr1 p1 x rx => by
    cases u with
    | tup l =>
      simp only [Rep] at rx
      obtain ⟨a, ys, rfl, ta, rl⟩ := rx
      exact ⟨a, ys, rfl, ta.sq, fun q nq => p1 m1 _ (.upd_new nq) (sr1.more nq) _ (sr1.tup nq rl.rev)⟩
    | _ => exact p1.elim⟩
/-! ### {"a": 1} -/
def dDispS (k : Str) (i : Int) : Sl → M PV := fun _ h => .ok (.ref h.length) (h ++ [.dK [(k, .int i)]])
theorem de_dispS {X : Cx} {W : WX} {k : Str} {i : Int} {j1 j2} {p1 p2 pos : Pos} : DE X W (.Dict [some (.Constant (.str k) j1 p1)] [.Constant (.int i) j2 p2] pos) (dDispS k i) :=
  weakE (pe_disp (pps_cons pe_str pe_int pps_nil) rfl rfl (by simp) (by simp)) fun σ H Q ⟨m, v, h, sr, sl, p⟩ => by
    intro q nq
    refine ⟨upd_same, [(Sum.inr k, .int i)], rfl, by simp, ?_⟩
    rw [upd_upd]
    exact p (m ++ [q]) _ (.upd_add nq) (sr.add nq ⟨_, upd_same, rfl, Reps.cons rep_int' Reps.nil⟩) _ (rep_ref' (by rw [← sr.len, List.getElem?_append_right (Nat.le_refl _)]; simp))
/-! ### a dict as data -/
def dictD (h : VH) : PV → Option PyData
  | .ref n => match h[n]? with
    | some (.dT []) => some (.dict [])
    | some (.dK [(k, .int i)]) => some (.dict [(.str k, .int i)])
    | _ => none
  | _ => none
def datQ (h : VH) (v : PV) : Option PyData := match dictD h v with
  | some d => some d
  | none => dat h v
section
variable {X : Cx} {pins : List (Addr × Obj)} {σ : L2.St} {H : Hp} {s : Shared} {m : List Addr} {h : VH}
theorem dictD_reads (I : Inv X pins σ H s) (sr : SR X.K m h H) {v : PV} {x : V} {d : PyData} (e : dictD h v = some d) (r : Rep X.K m H v x) : ∃ a, x = .ref a ∧ Reads s.heap (.ref a) d [a] ∧ (a == sysModules) = false := by
  unfold dictD at e
  split at e
  · rename_i n
    obtain ⟨a, rfl, ha⟩ := rep_ref r
    split at e
    · rename_i eh
      cases e
      obtain ⟨a', ea, o⟩ := sr.at eh
      rw [ha] at ea
      cases ea
      obtain ⟨ks, e1, e2, _⟩ := o
      have : ks = [] := by simpa using e2
      subst this
      obtain ⟨_, sm, xs, pr, o, es, ep, ho, hx, hd, he, _⟩ := (show ObjOk X.prog X.w H s.heap a (.dT []) from I.hok a _ e1)
      cases pr
      have ees : es.toList = [] := by rw [he]; rfl
      exact ⟨a, rfl, Reads.dict (as := []) (bs := []) ho hx.1 hd (by rw [ees]; exact .nil) (by rw [ees]; exact .nil), sm⟩
    · rename_i k i eh
      cases e
      obtain ⟨a', ea, o⟩ := sr.at eh
      rw [ha] at ea
      cases ea
      obtain ⟨ks, e1, e2, rs⟩ := o
      obtain ⟨kk, y, rfl⟩ : ∃ kk y, ks = [(kk, y)] := by
        match ks, e2 with
        | [(kk, y)], _ => exact ⟨kk, y, rfl⟩
      have ek : kk = Sum.inr k := by simpa using e2
      subst ek
      obtain ⟨y', t, ey, ry, _⟩ := Reps.cons_inv rs
      cases ey
      have yi := rep_int ry
      subst yi
      obtain ⟨_, sm, vs, kv, o, es, ep, ho, hx, hd, _, pr, _⟩ := (show ObjOk X.prog X.w H s.heap a (.dK [(Sum.inr k, .int i)]) from I.hok a _ e1)
      obtain ⟨⟨kq, uq⟩, rfl⟩ : ∃ q, vs = [q] := by
        cases kv with
        | cons _ tl => cases tl; exact ⟨_, rfl⟩
      cases kv with
      | cons hkv tl =>
        obtain ⟨e3, ru⟩ := hkv
        simp only at e3 ru
        subst e3
        obtain ⟨tu, rfl⟩ := ru
        generalize ees : es.toList = el at pr
        cases pr with
        | cons ki ev pt =>
          rename_i en _
          cases pt
          obtain ⟨hh, kv2, vv⟩ := en
          simp only at ki ev
          subst ev
          rcases keyIs_shape (show keyIs (Sum.inr k) kv2 = true from ki) with ⟨_, _, z, _⟩ | ⟨z, t', z1, z2⟩
          · cases z
          · cases z1
            subst z2
            exact ⟨a, rfl, Reads.dict (as := []) (bs := []) ho hx.1 hd (by rw [ees]; exact ReadsAll.cons (Reads.str _ _) .nil) (by rw [ees]; exact ReadsAll.cons (Reads.int _ _) .nil), sm⟩
    · cases e
  · cases e
end
/-! ### isinstance, repr -/
def oIsaQ (as : List PV) : O PV := fun h => match as with
  | [a, .con (.ty T)] => match datQ h a, isaD T with
    | some d, some f => some (.bl (f d), h)
    | _, _ => none
  | _ => none
def oReprQ (as : List PV) : O PV := fun h => match as with
  | [.bl b] => some (.str (if b then "True" else "False"), h)
  | [.non] => some (.str "None", h)
  | [.str z] => if (reprText z).length ≤ 16777216 then some (.str (reprText z), h) else none
  | [.ref n] => match dictD h (.ref n) with
    | some d => if d.showable = true ∧ d.depth < 64 ∧ d.shown.length ≤ 16777216 then some (.str d.shown, h) else none
    | none => oRepr [.ref n] h
  | as => oRepr as h
section
variable {X : Cx}
theorem c_isaQ : CallR X (.builtin "isinstance") (rOL X.K oIsaQ) := by
  intro pins s σ H xs us Q I rx ⟨m, h, as, z, h', sr, rs, e, q⟩
  unfold oIsaQ at e
  split at e
  · rename_i a T
    split at e
    · rename_i d f ed ef
      unfold datQ at ed
      cases e9 : dictD h a with
      | none =>
        rw [e9] at ed
        simp only at ed
        refine c_isa pins s σ H xs us Q I rx ⟨m, h, [a, .con (.ty T)], z, h', sr, rs, ?_, q⟩
        unfold oIsa
        simp only [ed, ef]
        exact e
      | some d' =>
        rw [e9] at ed
        cases ed
        cases e
        obtain ⟨x, t, rfl, r1, r2⟩ := rs.cons_inv
        obtain ⟨y, t2, rfl, r3, r4⟩ := r2.cons_inv
        rw [rep_con r3, r4.nil_inv] at rx
        obtain ⟨u, w', rfl, ru, rw_⟩ := vals2 rx
        have hw : w' = Value.type T := rw_
        subst hw
        obtain ⟨p, rfl, rd, sm⟩ := dictD_reads I sr e9 r1
        obtain rfl : u = Value.ref p := ru
        have fin : ∀ tk, s.toks ≤ tk → EP X pins σ Q (.bool (f d)) { s with toks := tk } := fun tk _ => ⟨.bl (f d), H, I.tok _, rfl, q m _ _ .refl sr rep_bl'⟩
        unfold isaD at ef
        split at ef <;> cases ef
        · exact isinstance_int_data rd fin
        · exact isinstance_bool_data rd fin
        · exact isinstance_str_data rd fin
        · exact isinstance_tuple_data rd fin
        · exact isinstance_list_data rd fin
        · exact isinstance_dict_data rd fin
    · cases e
  · cases e
theorem c_reprQ (hG : X.A.guards = some []) (hu : X.A.units + 128 < cLine) : CallR X (.builtin "repr") (rOL X.K oReprQ) := by
  intro pins s σ H xs us Q I rx ⟨m, h, as, z, h', sr, rs, e, q⟩
  unfold oReprQ at e
  split at e
  · exact c_reprB hG hu pins s σ H xs us Q I rx ⟨m, h, _, z, h', sr, rs, e, q⟩
  · exact c_reprB hG hu pins s σ H xs us Q I rx ⟨m, h, _, z, h', sr, rs, e, q⟩
  · split at e
    · rename_i c
      cases e
      obtain ⟨x, t, rfl, r1, r2⟩ := rs.cons_inv
      rw [rep_str r1, r2.nil_inv] at rx
      obtain ⟨u, rfl, ru⟩ := vals1 rx
      obtain ⟨tk, rfl⟩ := ru
      exact PySem.P.repr_of_str ⟨.str _, H, I.tok _, ⟨_, rfl⟩, q m _ _ .refl sr rep_str'⟩ (by rw [sizeLine_eq]; exact c)
    · cases e
  · split at e
    · rename_i n d ed
      split at e
      · rename_i c
        cases e
        obtain ⟨x, t, rfl, r1, r2⟩ := rs.cons_inv
        have ht := r2.nil_inv
        subst ht
        obtain ⟨p, rfl, rd, sm⟩ := dictD_reads I sr ed r1
        rw [Vals.ref1 rx]
        refine repr_of_reads' rd c.1 (fun _ hm => ?_) hG (by have := c.2.1; omega) (fun _ _ e => e) (fun h' u tk k => ⟨.str d.shown, H, I.kept k, ⟨u, rfl⟩, q m _ _ .refl sr rep_str'⟩) (by rw [sizeLine_eq]; exact c.2.2)
        rw [List.mem_singleton] at hm
        rw [← hm] at sm
        simp at sm
      · cases e
    · exact c_repr hG hu pins s σ H xs us Q I rx ⟨m, h, _, z, h', sr, rs, e, q⟩
  · exact c_repr hG hu pins s σ H xs us Q I rx ⟨m, h, as, z, h', sr, rs, e, q⟩
end
/-! what they compute -/
def isTupP : PV → Bool
  | .tup _ => true
  | _ => false
def isIntP : PV → Bool
  | .int _ => true
  | .bl _ => true
  | _ => false
def isBolP : PV → Bool
  | .bl _ => true
  | _ => false
def isStrP : PV → Bool
  | .str _ => true
  | _ => false
theorem datQ_kind {h : VH} {v : PV} {d : PyData} (e : datQ h v = some d) : d.isTuple = isTupP v ∧ d.isInt = isIntP v ∧ d.isBool = isBolP v ∧ d.isStr = isStrP v := by
  unfold datQ at e
  cases e9 : dictD h v with
  | some d' =>
    rw [e9] at e
    cases e
    unfold dictD at e9
    split at e9
    · split at e9 <;> cases e9 <;> exact ⟨rfl, rfl, rfl, rfl⟩
    · cases e9
  | none =>
    rw [e9] at e
    simp only [dat] at e
    cases v with
    | non => simp only [pdat] at e; cases e; exact ⟨rfl, rfl, rfl, rfl⟩
    | bl b => simp only [pdat] at e; cases e; exact ⟨rfl, rfl, rfl, rfl⟩
    | int i => simp only [pdat] at e; cases e; exact ⟨rfl, rfl, rfl, rfl⟩
    | str z => simp only [pdat] at e; cases e; exact ⟨rfl, rfl, rfl, rfl⟩
    | tup l =>
      simp only [pdat] at e
      split at e <;> cases e
      exact ⟨rfl, rfl, rfl, rfl⟩
    | rol l =>
      simp only [pdat] at e
      split at e <;> cases e
      exact ⟨rfl, rfl, rfl, rfl⟩
    | ref n =>
      simp only [pdat] at e
      unfold rdat at e
      split at e
      · split at e <;> cases e
        exact ⟨rfl, rfl, rfl, rfl⟩
      · cases e
    | con _ => simp only [pdat] at e; cases e
    | xt _ => simp only [pdat] at e; cases e
/-- something that isinstance may be asked of -/
def Kn (h : VH) (v : PV) : Prop := ∃ d, datQ h v = some d
section
variable {h : VH} {Q : PV → VH → Prop} {a : PV}
theorem isq_tup (k : Kn h a) : OO (oIsaQ [a, .con (.ty "tuple")] h) Q = Q (.bl (isTupP a)) h := by
  obtain ⟨d, e⟩ := k
  have : oIsaQ [a, .con (.ty "tuple")] h = some (.bl (isTupP a), h) := by
    unfold oIsaQ
    simp only [e, show isaD "tuple" = some PyData.isTuple from rfl, (datQ_kind e).1]
  rw [this]; with_unfolding_all rfl
theorem isq_int (k : Kn h a) : OO (oIsaQ [a, .con (.ty "int")] h) Q = Q (.bl (isIntP a)) h := by
  obtain ⟨d, e⟩ := k
  have : oIsaQ [a, .con (.ty "int")] h = some (.bl (isIntP a), h) := by
    unfold oIsaQ
    simp only [e, show isaD "int" = some PyData.isInt from rfl, (datQ_kind e).2.1]
  rw [this]; with_unfolding_all rfl
theorem isq_bol (k : Kn h a) : OO (oIsaQ [a, .con (.ty "bool")] h) Q = Q (.bl (isBolP a)) h := by
  obtain ⟨d, e⟩ := k
  have : oIsaQ [a, .con (.ty "bool")] h = some (.bl (isBolP a), h) := by
    unfold oIsaQ
    simp only [e, show isaD "bool" = some PyData.isBool from rfl, (datQ_kind e).2.2.1]
  rw [this]; with_unfolding_all rfl
theorem isq_str (k : Kn h a) : OO (oIsaQ [a, .con (.ty "str")] h) Q = Q (.bl (isStrP a)) h := by
  obtain ⟨d, e⟩ := k
  have : oIsaQ [a, .con (.ty "str")] h = some (.bl (isStrP a), h) := by
    unfold oIsaQ
    simp only [e, show isaD "str" = some PyData.isStr from rfl, (datQ_kind e).2.2.2]
  rw [this]; with_unfolding_all rfl
theorem kn_tup {l : List PV} (k : Kn h (.tup l)) : ∀ v ∈ l, Kn h v := by
  obtain ⟨d, e⟩ := k
  have e1 : ∃ ds, pdats (rdat h 4) l = some ds := by
    unfold datQ dictD at e
    simp only [dat, pdat] at e
    split at e
    · exact ⟨_, by assumption⟩
    · cases e
  clear e
  induction l with
  | nil => intro v hv; cases hv
  | cons x l ih =>
    obtain ⟨ds, e1⟩ := e1
    simp only [pdats] at e1
    split at e1
    · rename_i dx ex
      split at e1
      · rename_i ds' es'
        intro v hv
        rcases List.mem_cons.mp hv with rfl | hv
        · unfold Kn datQ
          cases dictD h v with
          | some d' => exact ⟨d', rfl⟩
          | none => exact ⟨dx, ex⟩
        · exact ih ⟨ds', es'⟩ v hv
      · cases e1
    · cases e1
theorem ok_revT {v : Sl} {d : Sl → M PV} {l : List PV} {P : PV → VH → Prop} (p : OK (d v h) fun x h1 => x = .tup l ∧ P (.tup l.reverse) h1) : OK (dRevT d v h) P := by
  obtain ⟨x, h1, e, rfl, q⟩ := p.get
  unfold dRevT bnd
  rw [e]
  simp only
  rw [show OK (R.ok (PV.tup l.reverse) h1) P = P (.tup l.reverse) h1 by with_unfolding_all rfl]
  exact q
theorem ok_dispS {v : Sl} {k : Str} {i : Int} {P : PV → VH → Prop} : OK (dDispS k i v h) P = P (.ref h.length) (h ++ [.dK [(k, .int i)]]) := by with_unfolding_all rfl
end
end D

/-! layer D, part 42: range with the step -1 -/
namespace D
open PySem PySem.Spec PySem.W PyProof.Rows L2
def rngD (i : Int) (n : Nat) : List PV := (List.range n).map fun k : Nat => PV.int (i + (k : Nat) * (-1))
def dRng3 (d : Sl → M (List PV)) : Sl → M Its' := fun v => bnd (d v) fun as h => match as with
  | [.int i, .int j, .int c] => if c = -1 ∧ -1000000000 < i ∧ i < 1000000000 ∧ -1000000000 < j ∧ j < 1000000000 then .ok { items := rngD i (i - j).toNat } h else .bad
  | _ => .bad
section
variable {K : PySem.W.Frag} {m : List Addr} {H : Hp}
theorem itD_Rc {lo : Int} {n : Nat} : ItD K (Itc lo (-1) n) m H { items := rngD lo n } := by
  intro i m' h' H' x s _
  refine ⟨fun hi => ⟨show i < n by simpa [rngD] using hi, fun y H'' hy => ?_⟩, fun hi => ?_⟩
  · obtain ⟨e, ey⟩ := hy
    subst e ey
    have hi' : i < n := by simpa [rngD] using hi
    exact ⟨.int (lo + (i : Nat) * (-1)), by simp [rngD, hi'], rep_int', .refl, s⟩
  · show n ≤ i
    have : i = n := by simpa [rngD] using hi
    omega
end
section
variable {X : Cx} {W : WX} {tg : Expr} {p pos : Pos}
theorem di_range3 {a b c : Expr} {d : Sl → M (List PV)} {p : Pos} (hg : Gl X "range") (hm : X.mg "range" = none) (ha : DA X W [a, b, c] d) (hs : starEach [a, b, c] X.env = (false, eval a X.env) :: starEach [b, c] X.env := by rfl) (hpl : (backTo pos (starEach [b, c] X.env)).any (·.1) = false := by rfl) :
    DI X W tg (.Call (.Name "range" p) [a, b, c] [] pos) (dRng3 d) :=
  weakI (pi_range3 hg hm ha hs hpl) fun σ H R ⟨m, v, h, sr, sl, p⟩ => ⟨m, v, h, sr, sl, (Post.seq p).mono fun m1 H1 h1 as x1 s1 p1 xs rs => by
    split at p1
    · rename_i i j c
      split at p1
      case isFalse => exact p1.elim
      rename_i hj
      obtain ⟨rfl, hj⟩ := hj
      obtain ⟨x, t, rfl, r1, r2⟩ := rs.cons_inv
      obtain ⟨y, t2, rfl, r3, r4⟩ := r2.cons_inv
      obtain ⟨z, t3, rfl, r5, r6⟩ := r4.cons_inv
      rw [rep_int r1, rep_int r3, rep_int r5, r6.nil_inv]
      exact ⟨i, j, -1, (i - j).toNat, rfl, RgC.neg (by omega) (by omega) (by omega) (by omega), p1 m1 H1 .refl s1 _ itD_Rc⟩
    · exact p1.elim⟩
end
end D

set_option maxHeartbeats 4000000
namespace G
open PySem PySem.Spec PySem.W PyProof.Rows L2 D
def topS (i : Nat) : Stmt := PySem.Challenge.pw_thickwalls_k07_sides_judged_and_told.main.body.getD i (.Pass ⟨0, 0, 0, 0⟩)
structure NB (K : PySem.W.Frag) (mg : Str → Option Value) : Prop where
  n_abs : mg "abs" = none
  n_all : mg "all" = none
  n_bool : mg "bool" = none
  n_int : mg "int" = none
  n_isinstance : mg "isinstance" = none
  n_len : mg "len" = none
  n_list : mg "list" = none
  n_range : mg "range" = none
  n_repr : mg "repr" = none
  n_sorted : mg "sorted" = none
  n_str : mg "str" = none
  n_tuple : mg "tuple" = none
  n_zip : mg "zip" = none
theorem bo_abs : bootBuiltins "abs" = some (.builtin "abs") := by decide +kernel
theorem bo_all : bootBuiltins "all" = some (.builtin "all") := by decide +kernel
theorem bo_bool : bootBuiltins "bool" = some (.type "bool") := by decide +kernel
theorem bo_int : bootBuiltins "int" = some (.type "int") := by decide +kernel
theorem bo_isinstance : bootBuiltins "isinstance" = some (.builtin "isinstance") := by decide +kernel
theorem bo_len : bootBuiltins "len" = some (.builtin "len") := by decide +kernel
theorem bo_list : bootBuiltins "list" = some (.type "list") := by decide +kernel
theorem bo_range : bootBuiltins "range" = some (.type "range") := by decide +kernel
theorem bo_repr : bootBuiltins "repr" = some (.builtin "repr") := by decide +kernel
theorem bo_sorted : bootBuiltins "sorted" = some (.builtin "sorted") := by decide +kernel
theorem bo_str : bootBuiltins "str" = some (.type "str") := by decide +kernel
theorem bo_tuple : bootBuiltins "tuple" = some (.type "tuple") := by decide +kernel
theorem bo_zip : bootBuiltins "zip" = some (.type "zip") := by decide +kernel
abbrev st_law_deck : Stmt := topS 5
theorem sc_law_deck : FnScope ["_law_script", "_law_cell"] ["_law_script"] (defScope st_law_deck) := ⟨rfl, rfl, rfl, by decide +kernel, rfl, by decide +kernel, by decide +kernel⟩
def b_law_deck : SD :=
  (sRet (dLst (dCons (dFresh (dLcx (dVal (dSlice oSl (dVar 0) dPNone (dPSome (dC (.int 63))))) (dgName 1) tTrue (dFn oAbs (dCons (dVar 1) dNil)) ([1]))) (dCons (dC (.int 0)) dNil))))
def f_law_deck : List PV → M PV := fn0 2 b_law_deck
theorem h_law_deck {P : Program} {w : World} {K : PySem.W.Frag} {mg : Str → Option Value} {base : Heap} {f : Addr} {fd : FuncData} (nb : NB K mg) (T : Stands K mg "_law_deck" st_law_deck ["_law_script"] f fd)  : Has P w K mg base CX0 "_law_deck" 1 1 f_law_deck := by
  refine has0n (b := b_law_deck) 1 2 0 T sc_law_deck rfl rfl fun cdv A outer s H E hr => ?_
  have sc := sc_law_deck
  have u64 := hr.units
  have u65 : (A.deeper (envOfC "_law_deck" (defScope st_law_deck) s.heap.objs.size f cdv)).units + 65 < cLine := by have := hr.un; omega
  have u128 : (A.deeper (envOfC "_law_deck" (defScope st_law_deck) s.heap.objs.size f cdv)).units + 128 < cLine := by have := hr.un; omega
  exact
    (dss_one (ds_ret (de_lst (da_cons (de_fresh (dl_lc ([("_law_cell", 1)]) rfl sc.nd (di_val (de_slice p_sl (de_var 0) do_none (do_some de_int))) (fun _ _ _ _ _ => dg_name 1 sc.nd) (fun _ _ _ _ _ =>
    dts_nil) (fun _ _ _ _ _ => (de_callB c_abs (by rfl) nb.n_abs bo_abs (da_cons (de_var 1) da_nil)))
    (ok := by dsimp only [cx0, cxX, Cx.tr, Cx.nox, Cx.wish, cxOf, Cx.blk, envOfC, compEnvC, relabel_eq]; decide +kernel))) (da_cons de_int da_nil)))))
abbrev st_law_draw : Stmt := topS 6
theorem sc_law_draw : FnScope ["_law_deck_here", "_law_many", "_law_cell", "_law_place"] ["_law_deck_here", "_law_many"] (defScope st_law_draw) := ⟨rfl, rfl, rfl, by decide +kernel, rfl, by decide +kernel, by decide +kernel⟩
def b_law_draw : SD :=
  (sSeq (sAsg (dBin oAdd (dBin oIx (dVar 0) (dC (.int 1))) (dC (.int 1))) (dgSub oSetIx (dVar 0) (dC (.int 1)))) (sSeq (sAsg (dC (.int 0)) (dgName 2)) (sSeq (sAsg (dUn uNeg (dC (.int 1))) (dgName 3))
  (sSeq (sIf (tVal (dBin oGt (dFn oLenS (dCons (dBin oIx (dVar 0) (dC (.int 0))) dNil)) (dC (.int 0)))) (sSeq (sAsg (dBin oMod (dBin oIx (dVar 0) (dC (.int 1))) (dFn oLenS (dCons (dBin oIx (dVar 0)
  (dC (.int 0))) dNil))) (dgName 3)) (sAsg (dBin oIx (dBin oIx (dVar 0) (dC (.int 0))) (dVar 3)) (dgName 2))) sNext) (sSeq (sIf (tVal (dBin oGe (dVar 2) (dBin oPow (dC (.int 10)) (dC (.int 18)))))
  (sSeq (sAsg (dBin oFdiv (dVar 2) (dVar 1)) (dgSub oSetIx (dBin oIx (dVar 0) (dC (.int 0))) (dVar 3))) (sRet (dBin oMod (dVar 2) (dVar 1)))) sNext) (sRet (dBin oMod (dBin oFdiv (dBin oMod (dBin oPow
  (dBin oAdd (dBin oAdd (dBin oMod (dVar 2) (dC (.int 2147483587))) (dBin oMul (dC (.int 7919)) (dBin oIx (dVar 0) (dC (.int 1))))) (dC (.int 1))) (dC (.int 5))) (dC (.int 2147483647))) (dC (.int
  7))) (dVar 1))))))))
def f_law_draw : List PV → M PV := fn0 4 b_law_draw
theorem h_law_draw {P : Program} {w : World} {K : PySem.W.Frag} {mg : Str → Option Value} {base : Heap} {f : Addr} {fd : FuncData} (nb : NB K mg) (T : Stands K mg "_law_draw" st_law_draw ["_law_deck_here", "_law_many"] f fd)  : Has P w K mg base CX0 "_law_draw" 2 1 f_law_draw := by
  refine has0n (b := b_law_draw) 2 4 0 T sc_law_draw rfl rfl fun cdv A outer s H E hr => ?_
  have sc := sc_law_draw
  have u64 := hr.units
  have u65 : (A.deeper (envOfC "_law_draw" (defScope st_law_draw) s.heap.objs.size f cdv)).units + 65 < cLine := by have := hr.un; omega
  have u128 : (A.deeper (envOfC "_law_draw" (defScope st_law_draw) s.heap.objs.size f cdv)).units + 128 < cLine := by have := hr.un; omega
  exact
    (dss_cons (ds_asg (de_bin p_add (de_ix p_ix (de_var 0) de_int) de_int) (dg_sub (de_var 0) de_int p_setIx)) (dss_cons (ds_set 2 sc.nd de_int) (dss_cons (ds_set 3 sc.nd (de_un p_neg de_int))
    (dss_cons (ds_if (dt_cmp p_gt (de_callB c_lenS (by rfl) nb.n_len bo_len (da_cons (de_ix p_ix (de_var 0) de_int) da_nil)) de_int) (dss_cons (ds_set 3 sc.nd (de_bin p_mod (de_ix p_ix (de_var 0)
    de_int) (de_callB c_lenS (by rfl) nb.n_len bo_len (da_cons (de_ix p_ix (de_var 0) de_int) da_nil)))) (dss_one (ds_set 2 sc.nd (de_ix p_ix (de_ix p_ix (de_var 0) de_int) (de_var 3))))) dss_nil)
    (dss_cons (ds_if (dt_cmp p_ge (de_var 2) (de_bin p_pow de_int de_int)) (dss_cons (ds_asg (de_bin p_fdiv (de_var 2) (de_var 1)) (dg_sub (de_ix p_ix (de_var 0) de_int) (de_var 3) p_setIx)) (dss_one
    (ds_ret (de_bin p_mod (de_var 2) (de_var 1))))) dss_nil) (dss_one (ds_ret (de_bin p_mod (de_bin p_fdiv (de_bin p_mod (de_bin p_pow (de_bin p_add (de_bin p_add (de_bin p_mod (de_var 2) de_int)
    (de_bin p_mul de_int (de_ix p_ix (de_var 0) de_int))) de_int) de_int) de_int) de_int) (de_var 1)))))))))
abbrev st_law_whole : Stmt := topS 7
theorem sc_law_whole : FnScope ["_law_thing"] ["_law_thing"] (defScope st_law_whole) := ⟨rfl, rfl, rfl, by decide +kernel, rfl, by decide +kernel, by decide +kernel⟩
def b_law_whole : SD :=
  (sRet (dAnd (dFn oIsaQ (dCons (dVar 0) (dCons (dC (.con (.ty "int"))) dNil))) (dNot (dFn oIsaQ (dCons (dVar 0) (dCons (dC (.con (.ty "bool"))) dNil))))))
def f_law_whole : List PV → M PV := fn0 1 b_law_whole
theorem h_law_whole {P : Program} {w : World} {K : PySem.W.Frag} {mg : Str → Option Value} {base : Heap} {f : Addr} {fd : FuncData} (nb : NB K mg) (T : Stands K mg "_law_whole" st_law_whole ["_law_thing"] f fd)  : Has P w K mg base CX0 "_law_whole" 1 1 f_law_whole := by
  refine has0n (b := b_law_whole) 1 1 0 T sc_law_whole rfl rfl fun cdv A outer s H E hr => ?_
  have sc := sc_law_whole
  have u64 := hr.units
  have u65 : (A.deeper (envOfC "_law_whole" (defScope st_law_whole) s.heap.objs.size f cdv)).units + 65 < cLine := by have := hr.un; omega
  have u128 : (A.deeper (envOfC "_law_whole" (defScope st_law_whole) s.heap.objs.size f cdv)).units + 128 < cLine := by have := hr.un; omega
  exact
    (dss_one (ds_ret (de_and (de_callB c_isaQ (by rfl) nb.n_isinstance bo_isinstance (da_cons (de_var 0) (da_cons (de_ty (by rfl) nb.n_int bo_int) da_nil))) (de_one (de_not (de_callB c_isaQ (by rfl)
    nb.n_isinstance bo_isinstance (da_cons (de_var 0) (da_cons (de_ty (by rfl) nb.n_bool bo_bool) da_nil))))))))
abbrev st_law_due : Stmt := topS 11
theorem sc_law_due : FnScope ["_law_n", "_law_thing", "_law_one", "_law_k"] ["_law_n", "_law_thing"] (defScope st_law_due) := ⟨rfl, rfl, rfl, by decide +kernel, rfl, by decide +kernel, by decide +kernel⟩
def b_law_due : SD :=
  (sSeq (sIf (tOrD (tNotD (tVal (dFn oIsaQ (dCons (dVar 1) (dCons (dC (.con (.ty "tuple"))) dNil))))) (tVal (dBin oEq (dVar 1) (dTup dNil)))) (sRet (dC (.bl false))) sNext) (sSeq (sIf (tVal (dBin oNe
  (dFresh (dLcx (dVal (dVar 1)) (dgName 2) (tOrD (tNotD (tVal (dCall f_law_whole (dCons (dVar 2) dNil)))) (tNotD (tVal (dChain oLt oLt (dC (.int 0)) (dVar 2) (dVar 0))))) (dVar 2) ([2]))) (dLst
  dNil))) (sRet (dC (.bl false))) sNext) (sRet (dBin oEq (dFresh (dLcx (dRng1 (dCons (dBin oSub (dFn oLenS (dCons (dVar 1) dNil)) (dC (.int 1))) dNil)) (dgName 3) (tVal (dBin oGe (dBin oIx (dVar 1)
  (dVar 3)) (dBin oIx (dVar 1) (dBin oAdd (dVar 3) (dC (.int 1)))))) (dVar 3) ([3]))) (dLst dNil)))))
def f_law_due : List PV → M PV := fn0 4 b_law_due
theorem h_law_due {P : Program} {w : World} {K : PySem.W.Frag} {mg : Str → Option Value} {base : Heap} {f : Addr} {fd : FuncData} (nb : NB K mg) (T : Stands K mg "_law_due" st_law_due ["_law_n", "_law_thing"] f fd) (h_law_whole : Has P w K mg base CX0 "_law_whole" 1 1 (f_law_whole)) : Has P w K mg base CX0 "_law_due" 2 2 f_law_due := by
  refine has0n (b := b_law_due) 2 4 1 T sc_law_due rfl rfl fun cdv A outer s H E hr => ?_
  have sc := sc_law_due
  have u64 := hr.units
  have u65 : (A.deeper (envOfC "_law_due" (defScope st_law_due) s.heap.objs.size f cdv)).units + 65 < cLine := by have := hr.un; omega
  have u128 : (A.deeper (envOfC "_law_due" (defScope st_law_due) s.heap.objs.size f cdv)).units + 128 < cLine := by have := hr.un; omega
  exact
    (dss_cons (ds_if (dt_w (dw_or (dt_not (dt_val (de_callB c_isaQ (by rfl) nb.n_isinstance bo_isinstance (da_cons (de_var 1) (da_cons (de_ty (by rfl) nb.n_tuple bo_tuple) da_nil))))) (dw_or1 (dt_cmp
    (p_eq u64) (de_var 1) (de_tup da_nil))))) (dss_one (ds_ret de_bl)) dss_nil) (dss_cons (ds_if (dt_cmp (p_ne u64) (de_fresh (dl_lc ([("_law_one", 2)]) rfl sc.nd (di_val (de_var 1)) (fun _ _ _ _ _
    => dg_name 2 sc.nd) (fun _ _ _ _ _ => (dts_one (dt_w (dw_or (dt_not (dt_val (de_call (h_law_whole.mono (by omega)) hr (fun _ => pass0At) (da_cons (de_var 2) da_nil) (argN_cons argN_nil))))
    (dw_or1 (dt_not (dt_chain (p_lt u65) (p_lt u65) de_int (de_var 2) (de_var 0)))))))) (fun _ _ _ _ _ => de_var 2)
    (ok := by dsimp only [cx0, cxX, Cx.tr, Cx.nox, Cx.wish, cxOf, Cx.blk, envOfC, compEnvC, relabel_eq]; decide +kernel))) (de_lst da_nil)) (dss_one (ds_ret de_bl)) dss_nil) (dss_one (ds_ret (de_cmp
    (p_eq u64) (de_fresh (dl_lc ([("_law_k", 3)]) rfl sc.nd (di_range1 (by rfl) nb.n_range (da_cons (de_bin p_sub (de_callB c_lenS (by rfl) nb.n_len bo_len (da_cons (de_var 1) da_nil)) de_int)
    da_nil)) (fun _ _ _ _ _ => dg_name 3 sc.nd) (fun _ _ _ _ _ => (dts_one (dt_cmp p_ge (de_ix p_ix (de_var 1) (de_var 3)) (de_ix p_ix (de_var 1) (de_bin p_add (de_var 3) de_int))))) (fun _ _ _ _ _
    => de_var 3) (ok := by dsimp only [cx0, cxX, Cx.tr, Cx.nox, Cx.wish, cxOf, Cx.blk, envOfC, compEnvC, relabel_eq]; decide +kernel))) (de_lst da_nil))))))
abbrev st_law_odd : Stmt := topS 9
theorem sc_law_odd : FnScope ["_law_deck_here", "_law_some"] ["_law_deck_here"] (defScope st_law_odd) := ⟨rfl, rfl, rfl, by decide +kernel, rfl, by decide +kernel, by decide +kernel⟩
def b_law_odd : SD :=
  (sSeq (sAsg (dLst (dCons (dC .non) (dCons (dC (.bl true)) (dCons (dC (.bl false)) (dCons (dUn uNeg (dC (.int 1))) (dCons (dC (.int 0)) (dCons (dC (.int 1)) (dCons (dBin oAdd (dBin oPow (dC (.int
  10)) (dC (.int 15))) (dC (.int 1))) (dCons (dBin oPow (dC (.int 10)) (dC (.int 29))) (dCons (dC (.str "")) (dCons (dC (.str "1")) (dCons (dTup dNil) (dCons (dTup (dCons (dC (.int 0)) dNil)) (dCons
  (dLst dNil) (dCons (dLst (dCons (dC (.int 0)) dNil)) (dCons dNewD (dCons (dDispS "a" 1) (dCons (dTup (dCons (dTup (dCons (dC (.int 0)) dNil)) dNil)) dNil)))))))))))))))))) (dgName 1)) (sRet (dBin
  oIx (dVar 1) (dCall f_law_draw (dCons (dVar 0) (dCons (dC (.int 17)) dNil))))))
def f_law_odd : List PV → M PV := fn0 2 b_law_odd
theorem h_law_odd {P : Program} {w : World} {K : PySem.W.Frag} {mg : Str → Option Value} {base : Heap} {f : Addr} {fd : FuncData} (nb : NB K mg) (T : Stands K mg "_law_odd" st_law_odd ["_law_deck_here"] f fd) (h_law_draw : Has P w K mg base CX0 "_law_draw" 2 1 (f_law_draw)) : Has P w K mg base CX0 "_law_odd" 1 2 f_law_odd := by
  refine has0n (b := b_law_odd) 1 2 1 T sc_law_odd rfl rfl fun cdv A outer s H E hr => ?_
  have sc := sc_law_odd
  have u64 := hr.units
  have u65 : (A.deeper (envOfC "_law_odd" (defScope st_law_odd) s.heap.objs.size f cdv)).units + 65 < cLine := by have := hr.un; omega
  have u128 : (A.deeper (envOfC "_law_odd" (defScope st_law_odd) s.heap.objs.size f cdv)).units + 128 < cLine := by have := hr.un; omega
  exact
    (dss_cons (ds_set 1 sc.nd (de_lst (da_cons de_non (da_cons de_bl (da_cons de_bl (da_cons (de_un p_neg de_int) (da_cons de_int (da_cons de_int (da_cons (de_bin p_add (de_bin p_pow de_int de_int)
    de_int) (da_cons (de_bin p_pow de_int de_int) (da_cons de_str (da_cons de_str (da_cons (de_tup da_nil) (da_cons (de_tup (da_cons de_int da_nil)) (da_cons (de_lst da_nil) (da_cons (de_lst (da_cons
    de_int da_nil)) (da_cons de_newD (da_cons de_dispS (da_cons (de_tup (da_cons (de_tup (da_cons de_int da_nil)) da_nil)) da_nil))))))))))))))))))) (dss_one (ds_ret (de_ix p_ix (de_var 1) (de_call
    (h_law_draw.mono (by omega)) hr (fun _ => pass0At) (da_cons (de_var 0) (da_cons de_int da_nil)) (argN_cons (argN_cons argN_nil)))))))
abbrev st_law_same : Stmt := topS 8
theorem sc_law_same : FnScope ["_law_got", "_law_due_here", "_law_one", "_law_other"] ["_law_got", "_law_due_here"] (defScope st_law_same) := ⟨rfl, rfl, rfl, by decide +kernel, rfl, by decide +kernel, by decide +kernel⟩
def b_law_same (self : List PV → M PV) : SD :=
  (sSeq (sIf (tVal (dFn oIsaQ (dCons (dVar 1) (dCons (dC (.con (.ty "tuple"))) dNil)))) (sSeq (sIf (tOrD (tNotD (tVal (dFn oIsaQ (dCons (dVar 0) (dCons (dC (.con (.ty "tuple"))) dNil))))) (tVal (dBin
  oNe (dFn oLenS (dCons (dVar 0) dNil)) (dFn oLenS (dCons (dVar 1) dNil))))) (sRet (dC (.bl false))) sNext) (sRet (dTmpFn gAll (dLcx (dZip (dCons (dVar 0) (dCons (dVar 1) dNil))) (dgTup 2 (dgsCons
  (dgName 2) (dgsCons (dgName 3) dgsNil))) tTrue (dCall self (dCons (dVar 2) (dCons (dVar 3) dNil))) ([2, 3]))))) sNext) (sSeq (sIf (tVal (dBin oIs (dVar 1) (dC .non))) (sRet (dBin oIs (dVar 0) (dC
  .non))) sNext) (sSeq (sIf (tVal (dFn oIsaQ (dCons (dVar 1) (dCons (dC (.con (.ty "bool"))) dNil)))) (sRet (dAnd (dFn oIsaQ (dCons (dVar 0) (dCons (dC (.con (.ty "bool"))) dNil))) (dBin oEq (dVar 0)
  (dVar 1)))) sNext) (sSeq (sIf (tVal (dFn oIsaQ (dCons (dVar 1) (dCons (dC (.con (.ty "str"))) dNil)))) (sRet (dAnd (dFn oIsaQ (dCons (dVar 0) (dCons (dC (.con (.ty "str"))) dNil))) (dBin oEq (dVar
  0) (dVar 1)))) sNext) (sRet (dAnd (dCall f_law_whole (dCons (dVar 0) dNil)) (dBin oEq (dVar 0) (dVar 1))))))))
def f_law_same : Nat → List PV → M PV
  | 0 => fun _ => bad
  | n + 1 => fn0 4 (b_law_same (f_law_same n))
theorem h_law_same {P : Program} {w : World} {K : PySem.W.Frag} {mg : Str → Option Value} {base : Heap} {f : Addr} {fd : FuncData} (nb : NB K mg) (T : Stands K mg "_law_same" st_law_same ["_law_got", "_law_due_here"] f fd) (h_law_whole : Has P w K mg base CX0 "_law_whole" 1 1 (f_law_whole)) : ∀ j, Has P w K mg base CX0 "_law_same" 2 (2 + j) (f_law_same j)
  | 0 => has_bad T
  | j + 1 => by
    have ih := h_law_same nb T h_law_whole j
    refine has0n (b := b_law_same (f_law_same j)) 2 4 (2 + j) T sc_law_same rfl rfl fun cdv A outer s H E hr => ?_
    have sc := sc_law_same
    have u64 := hr.units
    have u65 : (A.deeper (envOfC "_law_same" (defScope st_law_same) s.heap.objs.size f cdv)).units + 65 < cLine := by have := hr.un; omega
    have u128 : (A.deeper (envOfC "_law_same" (defScope st_law_same) s.heap.objs.size f cdv)).units + 128 < cLine := by have := hr.un; omega
    exact
      (dss_cons (ds_if (dt_val (de_callB c_isaQ (by rfl) nb.n_isinstance bo_isinstance (da_cons (de_var 1) (da_cons (de_ty (by rfl) nb.n_tuple bo_tuple) da_nil)))) (dss_cons (ds_if (dt_w (dw_or (dt_not
      (dt_val (de_callB c_isaQ (by rfl) nb.n_isinstance bo_isinstance (da_cons (de_var 0) (da_cons (de_ty (by rfl) nb.n_tuple bo_tuple) da_nil))))) (dw_or1 (dt_cmp (p_ne u64) (de_callB c_lenS (by rfl)
      nb.n_len bo_len (da_cons (de_var 0) da_nil)) (de_callB c_lenS (by rfl) nb.n_len bo_len (da_cons (de_var 1) da_nil)))))) (dss_one (ds_ret de_bl)) dss_nil) (dss_one (ds_ret (de_callBL (c_all rfl)
      (by rfl) nb.n_all bo_all (dl_lc ([("_law_one", 2), ("_law_other", 3)]) rfl sc.nd (di_zip (by rfl) nb.n_zip (da_cons (de_var 0) (da_cons (de_var 1) da_nil))) (fun _ _ _ _ _ => (dg_tup rfl
      (dgs_cons (dg_name 2 sc.nd) (dgs_cons (dg_name 3 sc.nd) dgs_nil)))) (fun _ _ _ _ _ => dts_nil) (fun _ _ _ _ _ => (de_call (ih.mono (by omega)) hr (fun _ => pass0At) (da_cons (de_var 2) (da_cons
      (de_var 3) da_nil)) (argN_cons (argN_cons argN_nil)))) (ok := by dsimp only [cx0, cxX, Cx.tr, Cx.nox, Cx.wish, cxOf, Cx.blk, envOfC, compEnvC, relabel_eq]; decide +kernel)))))) dss_nil) (dss_cons
      (ds_if (dt_cmp p_is (de_var 1) de_non) (dss_one (ds_ret (de_cmp p_is (de_var 0) de_non))) dss_nil) (dss_cons (ds_if (dt_val (de_callB c_isaQ (by rfl) nb.n_isinstance bo_isinstance (da_cons
      (de_var 1) (da_cons (de_ty (by rfl) nb.n_bool bo_bool) da_nil)))) (dss_one (ds_ret (de_and (de_callB c_isaQ (by rfl) nb.n_isinstance bo_isinstance (da_cons (de_var 0) (da_cons (de_ty (by rfl)
      nb.n_bool bo_bool) da_nil))) (de_one (de_cmp (p_eq u64) (de_var 0) (de_var 1)))))) dss_nil) (dss_cons (ds_if (dt_val (de_callB c_isaQ (by rfl) nb.n_isinstance bo_isinstance (da_cons (de_var 1)
      (da_cons (de_ty (by rfl) nb.n_str bo_str) da_nil)))) (dss_one (ds_ret (de_and (de_callB c_isaQ (by rfl) nb.n_isinstance bo_isinstance (da_cons (de_var 0) (da_cons (de_ty (by rfl) nb.n_str bo_str)
      da_nil))) (de_one (de_cmp (p_eq u64) (de_var 0) (de_var 1)))))) dss_nil) (dss_one (ds_ret (de_and (de_call (h_law_whole.mono (by omega)) hr (fun _ => pass0At) (da_cons (de_var 0) da_nil)
      (argN_cons argN_nil)) (de_one (de_cmp (p_eq u64) (de_var 0) (de_var 1))))))))))
abbrev st_law_sides : Stmt := topS 10
theorem sc_law_sides : FnScope ["_law_n", "_law_made", "_law_waiting", "_law_side", "_law_k"] ["_law_n"] (defScope st_law_sides) := ⟨rfl, rfl, rfl, by decide +kernel, rfl, by decide +kernel, by decide +kernel⟩
def b_law_sides : SD :=
  (sSeq (sAsg (dLst dNil) (dgName 1)) (sSeq (sAsg (dFresh (dLcx (dRng3 (dCons (dBin oSub (dVar 0) (dC (.int 1))) (dCons (dC (.int 0)) (dCons (dUn uNeg (dC (.int 1))) dNil)))) (dgName 4) tTrue (dTup
  (dCons (dVar 4) dNil)) ([4]))) (dgName 2)) (sSeq (sWhile 100000 (tVal (dBin oNe (dVar 2) (dLst dNil))) (sSeq (sAsg (dMeth isLst mPop (dVar 2) dNil) (dgName 3)) (sSeq (sExpr (dMeth isLst mAppend
  (dVar 1) (dCons (dVar 3) dNil))) (sAsg (dBin oAdd (dVar 2) (dFresh (dLcx (dRng3 (dCons (dBin oSub (dVar 0) (dC (.int 1))) (dCons (dBin oIx (dVar 3) (dUn uNeg (dC (.int 1)))) (dCons (dUn uNeg (dC
  (.int 1))) dNil)))) (dgName 4) tTrue (dBin oAdd (dVar 3) (dTup (dCons (dVar 4) dNil))) ([4])))) (dgName 2))))) (sRet (dFn (oBI gTuple) (dCons (dVar 1) dNil))))))
def f_law_sides : List PV → M PV := fn0 5 b_law_sides
theorem h_law_sides {P : Program} {w : World} {K : PySem.W.Frag} {mg : Str → Option Value} {base : Heap} {f : Addr} {fd : FuncData} (nb : NB K mg) (T : Stands K mg "_law_sides" st_law_sides ["_law_n"] f fd)  : Has P w K mg base CX0 "_law_sides" 1 1 f_law_sides := by
  refine has0n (b := b_law_sides) 1 5 0 T sc_law_sides rfl rfl fun cdv A outer s H E hr => ?_
  have sc := sc_law_sides
  have u64 := hr.units
  have u65 : (A.deeper (envOfC "_law_sides" (defScope st_law_sides) s.heap.objs.size f cdv)).units + 65 < cLine := by have := hr.un; omega
  have u128 : (A.deeper (envOfC "_law_sides" (defScope st_law_sides) s.heap.objs.size f cdv)).units + 128 < cLine := by have := hr.un; omega
  exact
    (dss_cons (ds_set 1 sc.nd (de_lst da_nil)) (dss_cons (ds_setLc 2 ([("_law_k", 4)]) rfl sc.nd (di_range3 (by rfl) nb.n_range (da_cons (de_bin p_sub (de_var 0) de_int) (da_cons de_int (da_cons
    (de_un p_neg de_int) da_nil)))) (fun _ _ _ _ _ => dg_name 4 sc.nd) (fun _ _ _ _ _ => dts_nil) (fun _ _ _ _ _ => (de_tup (da_cons (de_var 4) da_nil)))
    (ok := by dsimp only [cx0, cxX, Cx.tr, Cx.nox, Cx.wish, cxOf, Cx.blk, envOfC, compEnvC, relabel_eq]; decide +kernel)) (dss_cons (ds_while 100000 PassesOwn.never (dt_cmp (p_ne u64) (de_var 2)
    (de_lst da_nil)) (dss_cons (ds_set 3 sc.nd (de_bm0 kd_list PySem.F.plainAttrs_list PySem.F.slot_list_pop PySem.F.type_list_pop p_pop (de_var 2))) (dss_cons (ds_expr (de_bm1 kd_list
    PySem.F.plainAttrs_list PySem.F.slot_list_append PySem.F.type_list_append p_append (de_var 1) (da_cons (de_var 3) da_nil))) (dss_one (ds_set 2 sc.nd (de_bin p_add (de_var 2) (de_fresh (dl_lc
    ([("_law_k", 4)]) rfl sc.nd (di_range3 (by rfl) nb.n_range (da_cons (de_bin p_sub (de_var 0) de_int) (da_cons (de_ix p_ix (de_var 3) (de_un p_neg de_int)) (da_cons (de_un p_neg de_int) da_nil))))
    (fun _ _ _ _ _ => dg_name 4 sc.nd) (fun _ _ _ _ _ => dts_nil) (fun _ _ _ _ _ => (de_bin p_add (de_var 3) (de_tup (da_cons (de_var 4) da_nil))))
    (ok := by dsimp only [cx0, cxX, Cx.tr, Cx.nox, Cx.wish, cxOf, Cx.blk, envOfC, compEnvC, relabel_eq]; decide +kernel))))))))) (dss_one (ds_ret (de_callTy (bi_of c_tuple) (by rfl) nb.n_tuple
    bo_tuple (da_cons (de_var 1) da_nil)))))))
abbrev st_law_spoilt : Stmt := topS 12
theorem sc_law_spoilt : FnScope ["_law_deck_here", "_law_n", "_law_side", "_law_at", "_law_some", "_law_one"] ["_law_deck_here", "_law_n", "_law_side"] (defScope st_law_spoilt) := ⟨rfl, rfl, rfl, by decide +kernel, rfl, by decide +kernel, by decide +kernel⟩
def b_law_spoilt : SD :=
  (sSeq (sAsg (dCall f_law_draw (dCons (dVar 0) (dCons (dFn oLenS (dCons (dVar 2) dNil)) dNil))) (dgName 3)) (sSeq (sAsg (dLst (dCons (dBin oAdd (dVar 2) (dTup (dCons (dVar 1) dNil))) (dCons (dBin
  oAdd (dVar 2) (dSlice oSl (dVar 2) (dPSome (dUn uNeg (dC (.int 1)))) dPNone)) (dCons (dSlice oSl (dVar 2) (dPSome (dC (.int 1))) dPNone) (dCons (dBin oAdd (dTup (dCons (dC (.int 0)) dNil)) (dVar
  2)) (dCons (dRevT (dVar 2)) (dCons (dFn (oBI gList) (dCons (dVar 2) dNil)) (dCons (dBin oAdd (dVar 2) (dTup (dCons (dC (.bl true)) dNil))) (dCons (dTup (dCons (dVar 2) dNil)) dNil))))))))) (dgName
  4)) (sSeq (sAsg (dBin oAdd (dVar 4) (dFresh (dLcx (dVal (dLst (dCons (dC (.bl true)) (dCons (dC .non) (dCons (dUn uNeg (dC (.int 1))) (dCons (dC (.int 0)) (dCons (dVar 1) (dCons (dBin oSub (dVar 1)
  (dC (.int 1))) (dCons (dC (.str "1")) dNil))))))))) (dgName 5) tTrue (dBin oAdd (dBin oAdd (dSlice oSl (dVar 2) dPNone (dPSome (dVar 3))) (dTup (dCons (dVar 5) dNil))) (dSlice oSl (dVar 2) (dPSome
  (dBin oAdd (dVar 3) (dC (.int 1)))) dPNone)) ([5])))) (dgName 4)) (sRet (dBin oIx (dBin oAdd (dVar 4) (dLst (dCons (dCall f_law_odd (dCons (dVar 0) dNil)) dNil))) (dCall f_law_draw (dCons (dVar 0)
  (dCons (dC (.int 16)) dNil))))))))
def f_law_spoilt : List PV → M PV := fn0 6 b_law_spoilt
theorem h_law_spoilt {P : Program} {w : World} {K : PySem.W.Frag} {mg : Str → Option Value} {base : Heap} {f : Addr} {fd : FuncData} (nb : NB K mg) (T : Stands K mg "_law_spoilt" st_law_spoilt ["_law_deck_here", "_law_n", "_law_side"] f fd) (h_law_draw : Has P w K mg base CX0 "_law_draw" 2 1 (f_law_draw)) (h_law_odd : Has P w K mg base CX0 "_law_odd" 1 2 (f_law_odd)) : Has P w K mg base CX0 "_law_spoilt" 3 3 f_law_spoilt := by
  refine has0n (b := b_law_spoilt) 3 6 2 T sc_law_spoilt rfl rfl fun cdv A outer s H E hr => ?_
  have sc := sc_law_spoilt
  have u64 := hr.units
  have u65 : (A.deeper (envOfC "_law_spoilt" (defScope st_law_spoilt) s.heap.objs.size f cdv)).units + 65 < cLine := by have := hr.un; omega
  have u128 : (A.deeper (envOfC "_law_spoilt" (defScope st_law_spoilt) s.heap.objs.size f cdv)).units + 128 < cLine := by have := hr.un; omega
  exact
    (dss_cons (ds_set 3 sc.nd (de_call (h_law_draw.mono (by omega)) hr (fun _ => pass0At) (da_cons (de_var 0) (da_cons (de_callB c_lenS (by rfl) nb.n_len bo_len (da_cons (de_var 2) da_nil)) da_nil))
    (argN_cons (argN_cons argN_nil)))) (dss_cons (ds_set 4 sc.nd (de_lst (da_cons (de_bin p_add (de_var 2) (de_tup (da_cons (de_var 1) da_nil))) (da_cons (de_bin p_add (de_var 2) (de_slice p_sl
    (de_var 2) (do_some (de_un p_neg de_int)) do_none)) (da_cons (de_slice p_sl (de_var 2) (do_some de_int) do_none) (da_cons (de_bin p_add (de_tup (da_cons de_int da_nil)) (de_var 2)) (da_cons
    (de_revT (de_var 2)) (da_cons (de_callTy (bi_of c_list) (by rfl) nb.n_list bo_list (da_cons (de_var 2) da_nil)) (da_cons (de_bin p_add (de_var 2) (de_tup (da_cons de_bl da_nil))) (da_cons (de_tup
    (da_cons (de_var 2) da_nil)) da_nil)))))))))) (dss_cons (ds_set 4 sc.nd (de_bin p_add (de_var 4) (de_fresh (dl_lc ([("_law_one", 5)]) rfl sc.nd (di_val (de_lst (da_cons de_bl (da_cons de_non
    (da_cons (de_un p_neg de_int) (da_cons de_int (da_cons (de_var 1) (da_cons (de_bin p_sub (de_var 1) de_int) (da_cons de_str da_nil))))))))) (fun _ _ _ _ _ => dg_name 5 sc.nd) (fun _ _ _ _ _ =>
    dts_nil) (fun _ _ _ _ _ => (de_bin p_add (de_bin p_add (de_slice p_sl (de_var 2) do_none (do_some (de_var 3))) (de_tup (da_cons (de_var 5) da_nil))) (de_slice p_sl (de_var 2) (do_some (de_bin
    p_add (de_var 3) de_int)) do_none))) (ok := by dsimp only [cx0, cxX, Cx.tr, Cx.nox, Cx.wish, cxOf, Cx.blk, envOfC, compEnvC, relabel_eq]; decide +kernel))))) (dss_one (ds_ret (de_ix p_ix (de_bin
    p_add (de_var 4) (de_lst (da_cons (de_call (h_law_odd.mono (by omega)) hr (fun _ => pass0At) (da_cons (de_var 0) da_nil) (argN_cons argN_nil)) da_nil))) (de_call (h_law_draw.mono (by omega)) hr
    (fun _ => pass0At) (da_cons (de_var 0) (da_cons de_int da_nil)) (argN_cons (argN_cons argN_nil)))))))))
abbrev stall_sides : Stmt := topS 3
theorem scall_sides : FnScope ["n", "found", "house", "side"] ["n"] (defScope stall_sides) := ⟨rfl, rfl, rfl, by decide +kernel, rfl, by decide +kernel, by decide +kernel⟩
def ball_sides : SD :=
  (sSeq (sAsg (dLst (dCons (dTup dNil) dNil)) (dgName 1)) (sSeq (sFor (dRng2 (dCons (dC (.int 1)) (dCons (dVar 0) dNil))) (dgName 2) (sAsg (dBin oAdd (dVar 1) (dFresh (dLcx (dVal (dVar 1)) (dgName 3)
  tTrue (dBin oAdd (dVar 3) (dTup (dCons (dVar 2) dNil))) ([3])))) (dgName 1))) (sRet (dFn (oBI gTuple) (dCons (dTmpFn gSortE (dLcx (dVal (dVar 1)) (dgName 3) (tVal (dBin oNe (dVar 3) (dTup dNil)))
  (dVar 3) ([3]))) dNil)))))
def fall_sides : List PV → M PV := fn0 4 ball_sides
theorem hall_sides {P : Program} {w : World} {K : PySem.W.Frag} {mg : Str → Option Value} {base : Heap} {f : Addr} {fd : FuncData} (nb : NB K mg) (T : Stands K mg "all_sides" stall_sides ["n"] f fd)  : Has P w K mg base CX0 "all_sides" 1 1 fall_sides := by
  refine has0n (b := ball_sides) 1 4 0 T scall_sides rfl rfl fun cdv A outer s H E hr => ?_
  have sc := scall_sides
  have u64 := hr.units
  have u65 : (A.deeper (envOfC "all_sides" (defScope stall_sides) s.heap.objs.size f cdv)).units + 65 < cLine := by have := hr.un; omega
  have u128 : (A.deeper (envOfC "all_sides" (defScope stall_sides) s.heap.objs.size f cdv)).units + 128 < cLine := by have := hr.un; omega
  exact
    (dss_cons (ds_set 1 sc.nd (de_lst (da_cons (de_tup da_nil) da_nil))) (dss_cons (ds_for PassesOwn.never rfl (di_range2 (by rfl) nb.n_range (da_cons de_int (da_cons (de_var 0) da_nil))) (dg_name 2
    sc.nd) (dss_one (ds_set 1 sc.nd (de_bin p_add (de_var 1) (de_fresh (dl_lc ([("side", 3)]) rfl sc.nd (di_val (de_var 1)) (fun _ _ _ _ _ => dg_name 3 sc.nd) (fun _ _ _ _ _ => dts_nil) (fun _ _ _ _
    _ => (de_bin p_add (de_var 3) (de_tup (da_cons (de_var 2) da_nil)))) (ok := by dsimp only [cx0, cxX, Cx.tr, Cx.nox, Cx.wish, cxOf, Cx.blk, envOfC, compEnvC, relabel_eq]; decide +kernel)))))))
    (dss_one (ds_ret (de_callTy (bi_of c_tuple) (by rfl) nb.n_tuple bo_tuple (da_cons (de_callBLl (c_sortedE u65) (by rfl) nb.n_sorted bo_sorted (dl_lc ([("side", 3)]) rfl sc.nd (di_val (de_var 1))
    (fun _ _ _ _ _ => dg_name 3 sc.nd) (fun _ _ _ _ _ => (dts_one (dt_cmp (p_ne u64) (de_var 3) (de_tup da_nil)))) (fun _ _ _ _ _ => de_var 3)
    (ok := by dsimp only [cx0, cxX, Cx.tr, Cx.nox, Cx.wish, cxOf, Cx.blk, envOfC, compEnvC, relabel_eq]; decide +kernel))) da_nil))))))
abbrev stis_house : Stmt := topS 1
theorem scis_house : FnScope ["n", "thing", "least"] ["n", "thing", "least"] (defScope stis_house) := ⟨rfl, rfl, rfl, by decide +kernel, rfl, by decide +kernel, by decide +kernel⟩
def bis_house : SD :=
  (sRet (dAnd (dFn oIsaQ (dCons (dVar 1) (dCons (dC (.con (.ty "int"))) dNil))) (dAnd (dNot (dFn oIsaQ (dCons (dVar 1) (dCons (dC (.con (.ty "bool"))) dNil)))) (dChain oLe oLt (dVar 2) (dVar 1) (dVar
  0)))))
def fis_house : List PV → M PV := fn0 3 bis_house
theorem his_house {P : Program} {w : World} {K : PySem.W.Frag} {mg : Str → Option Value} {base : Heap} {f : Addr} {fd : FuncData} (nb : NB K mg) (T : Stands K mg "is_house" stis_house ["n", "thing", "least"] f fd)  : Has P w K mg base CX0 "is_house" 3 1 fis_house := by
  refine has0n (b := bis_house) 3 3 0 T scis_house rfl rfl fun cdv A outer s H E hr => ?_
  have sc := scis_house
  have u64 := hr.units
  have u65 : (A.deeper (envOfC "is_house" (defScope stis_house) s.heap.objs.size f cdv)).units + 65 < cLine := by have := hr.un; omega
  have u128 : (A.deeper (envOfC "is_house" (defScope stis_house) s.heap.objs.size f cdv)).units + 128 < cLine := by have := hr.un; omega
  exact
    (dss_one (ds_ret (de_and (de_callB c_isaQ (by rfl) nb.n_isinstance bo_isinstance (da_cons (de_var 1) (da_cons (de_ty (by rfl) nb.n_int bo_int) da_nil))) (de_and (de_not (de_callB c_isaQ (by rfl)
    nb.n_isinstance bo_isinstance (da_cons (de_var 1) (da_cons (de_ty (by rfl) nb.n_bool bo_bool) da_nil)))) (de_one (de_chain p_le (p_lt u65) (de_var 2) (de_var 1) (de_var 0)))))))
abbrev stis_side : Stmt := topS 2
theorem scis_side : FnScope ["n", "thing", "one", "other", "house"] ["n", "thing"] (defScope stis_side) := ⟨rfl, rfl, rfl, by decide +kernel, rfl, by decide +kernel, by decide +kernel⟩
def bis_side : SD :=
  (sSeq (sIf (tOrD (tNotD (tVal (dFn oIsaQ (dCons (dVar 1) (dCons (dC (.con (.ty "tuple"))) dNil))))) (tOrD (tVal (dBin oEq (dFn oLenS (dCons (dVar 1) dNil)) (dC (.int 0)))) (tNotD (tVal (dTmpFn gAll
  (dLcx (dVal (dVar 1)) (dgName 4) tTrue (dCall fis_house (dCons (dVar 0) (dCons (dVar 4) (dCons (dC (.int 1)) dNil)))) ([4]))))))) (sRet (dC (.bl false))) sNext) (sRet (dTmpFn gAll (dLcx (dZip
  (dCons (dVar 1) (dCons (dSlice oSl (dVar 1) (dPSome (dC (.int 1))) dPNone) dNil))) (dgTup 2 (dgsCons (dgName 2) (dgsCons (dgName 3) dgsNil))) tTrue (dBin oLt (dVar 2) (dVar 3)) ([2, 3])))))
def fis_side : List PV → M PV := fn0 5 bis_side
theorem his_side {P : Program} {w : World} {K : PySem.W.Frag} {mg : Str → Option Value} {base : Heap} {f : Addr} {fd : FuncData} (nb : NB K mg) (T : Stands K mg "is_side" stis_side ["n", "thing"] f fd) (his_house : Has P w K mg base CX0 "is_house" 3 1 (fis_house)) : Has P w K mg base CX0 "is_side" 2 2 fis_side := by
  refine has0n (b := bis_side) 2 5 1 T scis_side rfl rfl fun cdv A outer s H E hr => ?_
  have sc := scis_side
  have u64 := hr.units
  have u65 : (A.deeper (envOfC "is_side" (defScope stis_side) s.heap.objs.size f cdv)).units + 65 < cLine := by have := hr.un; omega
  have u128 : (A.deeper (envOfC "is_side" (defScope stis_side) s.heap.objs.size f cdv)).units + 128 < cLine := by have := hr.un; omega
  exact
    (dss_cons (ds_if (dt_w (dw_or (dt_not (dt_val (de_callB c_isaQ (by rfl) nb.n_isinstance bo_isinstance (da_cons (de_var 1) (da_cons (de_ty (by rfl) nb.n_tuple bo_tuple) da_nil))))) (dw_or (dt_cmp
    (p_eq u64) (de_callB c_lenS (by rfl) nb.n_len bo_len (da_cons (de_var 1) da_nil)) de_int) (dw_or1 (dt_not (dt_val (de_callBL (c_all rfl) (by rfl) nb.n_all bo_all (dl_lc ([("house", 4)]) rfl sc.nd
    (di_val (de_var 1)) (fun _ _ _ _ _ => dg_name 4 sc.nd) (fun _ _ _ _ _ => dts_nil) (fun _ _ _ _ _ => (de_call (his_house.mono (by omega)) hr (fun _ => pass0At) (da_cons (de_var 0) (da_cons (de_var
    4) (da_cons de_int da_nil))) (argN_cons (argN_cons (argN_cons argN_nil)))))
    (ok := by dsimp only [cx0, cxX, Cx.tr, Cx.nox, Cx.wish, cxOf, Cx.blk, envOfC, compEnvC, relabel_eq]; decide +kernel))))))))) (dss_one (ds_ret de_bl)) dss_nil) (dss_one (ds_ret (de_callBL (c_all
    rfl) (by rfl) nb.n_all bo_all (dl_lc ([("one", 2), ("other", 3)]) rfl sc.nd (di_zip (by rfl) nb.n_zip (da_cons (de_var 1) (da_cons (de_slice p_sl (de_var 1) (do_some de_int) do_none) da_nil)))
    (fun _ _ _ _ _ => (dg_tup rfl (dgs_cons (dg_name 2 sc.nd) (dgs_cons (dg_name 3 sc.nd) dgs_nil)))) (fun _ _ _ _ _ => dts_nil) (fun _ _ _ _ _ => (de_cmp (p_lt u65) (de_var 2) (de_var 3)))
    (ok := by dsimp only [cx0, cxX, Cx.tr, Cx.nox, Cx.wish, cxOf, Cx.blk, envOfC, compEnvC, relabel_eq]; decide +kernel))))))
abbrev stlaw : Stmt := topS 13
theorem sclaw : FnScope ["_law_script", "_law_deck_here", "_law_many", "_law_n", "_law_sides_here", "_law_things", "_law_side", "_law_thing", "_law_was", "_law_got", "_law_k"] ["_law_script"] (defScope stlaw) := ⟨rfl, rfl, rfl, by decide +kernel, rfl, by decide +kernel, by decide +kernel⟩
def blaw : SD :=
  (sSeq (sAsg (dCall f_law_deck (dCons (dVar 0) dNil)) (dgName 1)) (sSeq (sAsg (dC (.int 1)) (dgName 2)) (sSeq (sFor (dRng2 (dCons (dC (.int 1)) (dCons (dC (.int 9)) dNil))) (dgName 3) (sSeq (sAsg
  (dCall f_law_sides (dCons (dVar 3) dNil)) (dgName 4)) (sSeq (sIf (tOrD (tNotD (tVal (dCall (f_law_same 6) (dCons (dCall fall_sides (dCons (dVar 3) dNil)) (dCons (dVar 4) dNil))))) (tVal (dBin oNe
  (dFn oLenS (dCons (dVar 4) dNil)) (dBin oSub (dVar 2) (dC (.int 1)))))) (sRet (dC (.bl false))) sNext) (sSeq (sAsg (dBin oMul (dC (.int 2)) (dVar 2)) (dgName 2)) (sSeq (sAsg (dLst (dCons (dCall
  f_law_odd (dCons (dVar 1) dNil)) (dCons (dTmpFn gTuple (dLcx (dRng1 (dCons (dCall f_law_draw (dCons (dVar 1) (dCons (dC (.int 4)) dNil))) dNil)) (dgName 10) tTrue (dCall f_law_draw (dCons (dVar 1)
  (dCons (dBin oAdd (dVar 3) (dC (.int 1))) dNil))) ([10]))) dNil))) (dgName 5)) (sSeq (sFor (dVal (dBin oAdd (dSlice oSl (dVar 4) dPNone (dPSome (dC (.int 20)))) (dSlice oSl (dVar 4) (dPSome (dUn
  uNeg (dC (.int 3)))) dPNone))) (dgName 6) (sAsg (dBin oAdd (dVar 5) (dLst (dCons (dVar 6) (dCons (dCall f_law_spoilt (dCons (dVar 1) (dCons (dVar 3) (dCons (dVar 6) dNil)))) dNil)))) (dgName 5)))
  (sFor (dVal (dVar 5)) (dgName 7) (sSeq (sAsg (dFn oReprQ (dCons (dVar 7) dNil)) (dgName 8)) (sSeq (sAsg (dCall fis_side (dCons (dVar 3) (dCons (dVar 7) dNil))) (dgName 9)) (sIf (tOrD (tNotD (tVal
  (dFn oIsaQ (dCons (dVar 9) (dCons (dC (.con (.ty "bool"))) dNil))))) (tOrD (tVal (dBin oNe (dVar 9) (dCall f_law_due (dCons (dVar 3) (dCons (dVar 7) dNil))))) (tVal (dBin oNe (dFn oReprQ (dCons
  (dVar 7) dNil)) (dVar 8))))) (sRet (dC (.bl false))) sNext)))))))))) (sRet (dC (.bl true))))))
def flaw : List PV → M PV := fn0 11 blaw
theorem hlaw {P : Program} {w : World} {K : PySem.W.Frag} {mg : Str → Option Value} {base : Heap} {f : Addr} {fd : FuncData} (nb : NB K mg) (T : Stands K mg "law" stlaw ["_law_script"] f fd) (h_law_deck : Has P w K mg base CX0 "_law_deck" 1 1 (f_law_deck)) (h_law_draw : Has P w K mg base CX0 "_law_draw" 2 1 (f_law_draw)) (h_law_due : Has P w K mg base CX0 "_law_due" 2 2 (f_law_due)) (h_law_odd : Has P w K mg base CX0 "_law_odd" 1 2 (f_law_odd)) (h_law_same : ∀ j, Has P w K mg base CX0 "_law_same" 2 (2 + j) (f_law_same j)) (h_law_sides : Has P w K mg base CX0 "_law_sides" 1 1 (f_law_sides)) (h_law_spoilt : Has P w K mg base CX0 "_law_spoilt" 3 3 (f_law_spoilt)) (hall_sides : Has P w K mg base CX0 "all_sides" 1 1 (fall_sides)) (his_side : Has P w K mg base CX0 "is_side" 2 2 (fis_side)) : FnG P w K mg base CX0 9 f fd ["_law_script"] (spD K 1 flaw) := by
  refine fnG0n (b := blaw) 1 11 8 T sclaw rfl rfl fun cdv A outer s H E hG hr => ?_
  have sc := sclaw
  have u64 := hr.units
  have u65 : (A.deeper (envOfC "law" (defScope stlaw) s.heap.objs.size f cdv)).units + 65 < cLine := by have := hr.un; omega
  have u128 : (A.deeper (envOfC "law" (defScope stlaw) s.heap.objs.size f cdv)).units + 128 < cLine := by have := hr.un; omega
  exact
    (dss_cons (ds_set 1 sc.nd (de_call (h_law_deck.mono (by omega)) hr (fun _ => pass0At) (da_cons (de_var 0) da_nil) (argN_cons argN_nil))) (dss_cons (ds_set 2 sc.nd de_int) (dss_cons (ds_for
    PassesOwn.never rfl (di_range2 (by rfl) nb.n_range (da_cons de_int (da_cons de_int da_nil))) (dg_name 3 sc.nd) (dss_cons (ds_set 4 sc.nd (de_call (h_law_sides.mono (by omega)) hr (fun _ =>
    pass0At) (da_cons (de_var 3) da_nil) (argN_cons argN_nil))) (dss_cons (ds_if (dt_w (dw_or (dt_not (dt_val (de_call ((h_law_same 6).mono (by omega)) hr (fun _ => pass0At) (da_cons (de_call
    (hall_sides.mono (by omega)) hr (fun _ => pass0At) (da_cons (de_var 3) da_nil) (argN_cons argN_nil)) (da_cons (de_var 4) da_nil)) (argN_cons (argN_cons argN_nil))))) (dw_or1 (dt_cmp (p_ne u64)
    (de_callB c_lenS (by rfl) nb.n_len bo_len (da_cons (de_var 4) da_nil)) (de_bin p_sub (de_var 2) de_int))))) (dss_one (ds_ret de_bl)) dss_nil) (dss_cons (ds_set 2 sc.nd (de_bin p_mul de_int
    (de_var 2))) (dss_cons (ds_set 5 sc.nd (de_lst (da_cons (de_call (h_law_odd.mono (by omega)) hr (fun _ => pass0At) (da_cons (de_var 1) da_nil) (argN_cons argN_nil)) (da_cons (de_callTyL c_tuple
    (by rfl) nb.n_tuple bo_tuple (dl_lc ([("_law_k", 10)]) rfl sc.nd (di_range1 (by rfl) nb.n_range (da_cons (de_call (h_law_draw.mono (by omega)) hr (fun _ => pass0At) (da_cons (de_var 1) (da_cons
    de_int da_nil)) (argN_cons (argN_cons argN_nil))) da_nil)) (fun _ _ _ _ _ => dg_name 10 sc.nd) (fun _ _ _ _ _ => dts_nil) (fun _ _ _ _ _ => (de_call (h_law_draw.mono (by omega)) hr (fun _ =>
    pass0At) (da_cons (de_var 1) (da_cons (de_bin p_add (de_var 3) de_int) da_nil)) (argN_cons (argN_cons argN_nil))))
    (ok := by dsimp only [cx0, cxX, Cx.tr, Cx.nox, Cx.wish, cxOf, Cx.blk, envOfC, compEnvC, relabel_eq]; decide +kernel))) da_nil)))) (dss_cons (ds_for PassesOwn.never rfl (di_val (de_bin p_add
    (de_slice p_sl (de_var 4) do_none (do_some de_int)) (de_slice p_sl (de_var 4) (do_some (de_un p_neg de_int)) do_none))) (dg_name 6 sc.nd) (dss_one (ds_set 5 sc.nd (de_bin p_add (de_var 5) (de_lst
    (da_cons (de_var 6) (da_cons (de_call (h_law_spoilt.mono (by omega)) hr (fun _ => pass0At) (da_cons (de_var 1) (da_cons (de_var 3) (da_cons (de_var 6) da_nil))) (argN_cons (argN_cons (argN_cons
    argN_nil)))) da_nil))))))) (dss_one (ds_for PassesOwn.never rfl (di_val (de_var 5)) (dg_name 7 sc.nd) (dss_cons (ds_set 8 sc.nd (de_callB (c_reprQ hG u128) (by rfl) nb.n_repr bo_repr (da_cons
    (de_var 7) da_nil))) (dss_cons (ds_set 9 sc.nd (de_call (his_side.mono (by omega)) hr (fun _ => pass0At) (da_cons (de_var 3) (da_cons (de_var 7) da_nil)) (argN_cons (argN_cons argN_nil))))
    (dss_one (ds_if (dt_w (dw_or (dt_not (dt_val (de_callB c_isaQ (by rfl) nb.n_isinstance bo_isinstance (da_cons (de_var 9) (da_cons (de_ty (by rfl) nb.n_bool bo_bool) da_nil))))) (dw_or (dt_cmp
    (p_ne u64) (de_var 9) (de_call (h_law_due.mono (by omega)) hr (fun _ => pass0At) (da_cons (de_var 3) (da_cons (de_var 7) da_nil)) (argN_cons (argN_cons argN_nil)))) (dw_or1 (dt_cmp (p_ne u64)
    (de_callB (c_reprQ hG u128) (by rfl) nb.n_repr bo_repr (da_cons (de_var 7) da_nil)) (de_var 8)))))) (dss_one (ds_ret de_bl)) dss_nil)))))))))))) (dss_one (ds_ret de_bl)))))
theorem all_mk {l : PySem.W.OpenLaw} {w : World} {K : PySem.W.Frag} {h : Heap} {mg : Str → Option Value} {fa : Addr} (X : K.In h) (G : h.Ns mainGlobals mg) (hfa : mg "law" = some (.ref fa))
    {f0 : Addr} {od0 an0 : Option Addr} {sl0 : Array (Option Value)} {oc0 kV0 dc0 pm0 cd0 ct0 : Value}
    {f1 : Addr} {od1 an1 : Option Addr} {sl1 : Array (Option Value)} {oc1 kV1 dc1 pm1 cd1 ct1 : Value}
    {f2 : Addr} {od2 an2 : Option Addr} {sl2 : Array (Option Value)} {oc2 kV2 dc2 pm2 cd2 ct2 : Value}
    {f3 : Addr} {od3 an3 : Option Addr} {sl3 : Array (Option Value)} {oc3 kV3 dc3 pm3 cd3 ct3 : Value}
    {f4 : Addr} {od4 an4 : Option Addr} {sl4 : Array (Option Value)} {oc4 kV4 dc4 pm4 cd4 ct4 : Value}
    {f5 : Addr} {od5 an5 : Option Addr} {sl5 : Array (Option Value)} {oc5 kV5 dc5 pm5 cd5 ct5 : Value}
    {f6 : Addr} {od6 an6 : Option Addr} {sl6 : Array (Option Value)} {oc6 kV6 dc6 pm6 cd6 ct6 : Value}
    {f7 : Addr} {od7 an7 : Option Addr} {sl7 : Array (Option Value)} {oc7 kV7 dc7 pm7 cd7 ct7 : Value}
    {f8 : Addr} {od8 an8 : Option Addr} {sl8 : Array (Option Value)} {oc8 kV8 dc8 pm8 cd8 ct8 : Value}
    {f9 : Addr} {od9 an9 : Option Addr} {sl9 : Array (Option Value)} {oc9 kV9 dc9 pm9 cd9 ct9 : Value}
    {f10 : Addr} {od10 an10 : Option Addr} {sl10 : Array (Option Value)} {oc10 kV10 dc10 pm10 cd10 ct10 : Value}
    {f11 : Addr} {od11 an11 : Option Addr} {sl11 : Array (Option Value)} {oc11 kV11 dc11 pm11 cd11 ct11 : Value}
    (a0 : PySem.W.nsIn K mainGlobals "_law_deck" = some (some (.ref f0)))
    (l0 : K.lookup f0 = some ⟨oc0, od0, .func (PySem.W.fnOf "_law_deck" "_law_deck" (defArgs st_law_deck) (defBody st_law_deck) (defScope st_law_deck) .none kV0 dc0 pm0 an0 cd0 ct0), sl0⟩)
    (c0 : PySem.W.codeIn K cd0 "_law_deck" = true)
    (k0 : PySem.W.keepIn K (.ref f0) = true)
    (a1 : PySem.W.nsIn K mainGlobals "_law_draw" = some (some (.ref f1)))
    (l1 : K.lookup f1 = some ⟨oc1, od1, .func (PySem.W.fnOf "_law_draw" "_law_draw" (defArgs st_law_draw) (defBody st_law_draw) (defScope st_law_draw) .none kV1 dc1 pm1 an1 cd1 ct1), sl1⟩)
    (c1 : PySem.W.codeIn K cd1 "_law_draw" = true)
    (k1 : PySem.W.keepIn K (.ref f1) = true)
    (a2 : PySem.W.nsIn K mainGlobals "_law_whole" = some (some (.ref f2)))
    (l2 : K.lookup f2 = some ⟨oc2, od2, .func (PySem.W.fnOf "_law_whole" "_law_whole" (defArgs st_law_whole) (defBody st_law_whole) (defScope st_law_whole) .none kV2 dc2 pm2 an2 cd2 ct2), sl2⟩)
    (c2 : PySem.W.codeIn K cd2 "_law_whole" = true)
    (k2 : PySem.W.keepIn K (.ref f2) = true)
    (a3 : PySem.W.nsIn K mainGlobals "_law_due" = some (some (.ref f3)))
    (l3 : K.lookup f3 = some ⟨oc3, od3, .func (PySem.W.fnOf "_law_due" "_law_due" (defArgs st_law_due) (defBody st_law_due) (defScope st_law_due) .none kV3 dc3 pm3 an3 cd3 ct3), sl3⟩)
    (c3 : PySem.W.codeIn K cd3 "_law_due" = true)
    (k3 : PySem.W.keepIn K (.ref f3) = true)
    (a4 : PySem.W.nsIn K mainGlobals "_law_odd" = some (some (.ref f4)))
    (l4 : K.lookup f4 = some ⟨oc4, od4, .func (PySem.W.fnOf "_law_odd" "_law_odd" (defArgs st_law_odd) (defBody st_law_odd) (defScope st_law_odd) .none kV4 dc4 pm4 an4 cd4 ct4), sl4⟩)
    (c4 : PySem.W.codeIn K cd4 "_law_odd" = true)
    (k4 : PySem.W.keepIn K (.ref f4) = true)
    (a5 : PySem.W.nsIn K mainGlobals "_law_same" = some (some (.ref f5)))
    (l5 : K.lookup f5 = some ⟨oc5, od5, .func (PySem.W.fnOf "_law_same" "_law_same" (defArgs st_law_same) (defBody st_law_same) (defScope st_law_same) .none kV5 dc5 pm5 an5 cd5 ct5), sl5⟩)
    (c5 : PySem.W.codeIn K cd5 "_law_same" = true)
    (k5 : PySem.W.keepIn K (.ref f5) = true)
    (a6 : PySem.W.nsIn K mainGlobals "_law_sides" = some (some (.ref f6)))
    (l6 : K.lookup f6 = some ⟨oc6, od6, .func (PySem.W.fnOf "_law_sides" "_law_sides" (defArgs st_law_sides) (defBody st_law_sides) (defScope st_law_sides) .none kV6 dc6 pm6 an6 cd6 ct6), sl6⟩)
    (c6 : PySem.W.codeIn K cd6 "_law_sides" = true)
    (k6 : PySem.W.keepIn K (.ref f6) = true)
    (a7 : PySem.W.nsIn K mainGlobals "_law_spoilt" = some (some (.ref f7)))
    (l7 : K.lookup f7 = some ⟨oc7, od7, .func (PySem.W.fnOf "_law_spoilt" "_law_spoilt" (defArgs st_law_spoilt) (defBody st_law_spoilt) (defScope st_law_spoilt) .none kV7 dc7 pm7 an7 cd7 ct7), sl7⟩)
    (c7 : PySem.W.codeIn K cd7 "_law_spoilt" = true)
    (k7 : PySem.W.keepIn K (.ref f7) = true)
    (a8 : PySem.W.nsIn K mainGlobals "all_sides" = some (some (.ref f8)))
    (l8 : K.lookup f8 = some ⟨oc8, od8, .func (PySem.W.fnOf "all_sides" "all_sides" (defArgs stall_sides) (defBody stall_sides) (defScope stall_sides) .none kV8 dc8 pm8 an8 cd8 ct8), sl8⟩)
    (c8 : PySem.W.codeIn K cd8 "all_sides" = true)
    (k8 : PySem.W.keepIn K (.ref f8) = true)
    (a9 : PySem.W.nsIn K mainGlobals "is_house" = some (some (.ref f9)))
    (l9 : K.lookup f9 = some ⟨oc9, od9, .func (PySem.W.fnOf "is_house" "is_house" (defArgs stis_house) (defBody stis_house) (defScope stis_house) .none kV9 dc9 pm9 an9 cd9 ct9), sl9⟩)
    (c9 : PySem.W.codeIn K cd9 "is_house" = true)
    (k9 : PySem.W.keepIn K (.ref f9) = true)
    (a10 : PySem.W.nsIn K mainGlobals "is_side" = some (some (.ref f10)))
    (l10 : K.lookup f10 = some ⟨oc10, od10, .func (PySem.W.fnOf "is_side" "is_side" (defArgs stis_side) (defBody stis_side) (defScope stis_side) .none kV10 dc10 pm10 an10 cd10 ct10), sl10⟩)
    (c10 : PySem.W.codeIn K cd10 "is_side" = true)
    (k10 : PySem.W.keepIn K (.ref f10) = true)
    (a11 : PySem.W.nsIn K mainGlobals "law" = some (some (.ref f11)))
    (l11 : K.lookup f11 = some ⟨oc11, od11, .func (PySem.W.fnOf "law" "law" (defArgs stlaw) (defBody stlaw) (defScope stlaw) .none kV11 dc11 pm11 an11 cd11 ct11), sl11⟩)
    (c11 : PySem.W.codeIn K cd11 "law" = true)
    (k11 : PySem.W.keepIn K (.ref f11) = true)
    (z0 : PySem.W.nsIn K mainGlobals "abs" = some none)
    (z1 : PySem.W.nsIn K mainGlobals "all" = some none)
    (z2 : PySem.W.nsIn K mainGlobals "bool" = some none)
    (z3 : PySem.W.nsIn K mainGlobals "int" = some none)
    (z4 : PySem.W.nsIn K mainGlobals "isinstance" = some none)
    (z5 : PySem.W.nsIn K mainGlobals "len" = some none)
    (z6 : PySem.W.nsIn K mainGlobals "list" = some none)
    (z7 : PySem.W.nsIn K mainGlobals "range" = some none)
    (z8 : PySem.W.nsIn K mainGlobals "repr" = some none)
    (z9 : PySem.W.nsIn K mainGlobals "sorted" = some none)
    (z10 : PySem.W.nsIn K mainGlobals "str" = some none)
    (z11 : PySem.W.nsIn K mainGlobals "tuple" = some none)
    (z12 : PySem.W.nsIn K mainGlobals "zip" = some none) :
    ∃ fd : FuncData, (∀ (s : Shared) (v : Value), BindsTo s fd ⟨[v], []⟩ [("_law_script", v)]) ∧ ∀ base : Heap, K.In base → base.Ns mainGlobals mg → FnG l.prog w K mg base CX0 9 fa fd ["_law_script"] (spD K 1 flaw) := by
  have e := hfa.symm.trans (PySem.W.mg_of X G a11)
  cases e
  have nb : NB K mg := ⟨PySem.W.mg_none_of X G z0, PySem.W.mg_none_of X G z1, PySem.W.mg_none_of X G z2, PySem.W.mg_none_of X G z3, PySem.W.mg_none_of X G z4, PySem.W.mg_none_of X G z5, PySem.W.mg_none_of X G z6, PySem.W.mg_none_of X G z7, PySem.W.mg_none_of X G z8, PySem.W.mg_none_of X G z9, PySem.W.mg_none_of X G z10, PySem.W.mg_none_of X G z11, PySem.W.mg_none_of X G z12⟩
  have F0 := fun_mk (st := st_law_deck) l0 c0 k0
  have T0 : Stands K mg "_law_deck" st_law_deck ["_law_script"] _ _ := ⟨PySem.W.mg_of X G a0, F0, F0.binds (ps := ["_law_script"]) fun _ _ _ _ _ _ us hl => match us, hl with | [_], _ => rfl⟩
  have F1 := fun_mk (st := st_law_draw) l1 c1 k1
  have T1 : Stands K mg "_law_draw" st_law_draw ["_law_deck_here", "_law_many"] _ _ := ⟨PySem.W.mg_of X G a1, F1, F1.binds (ps := ["_law_deck_here", "_law_many"]) fun _ _ _ _ _ _ us hl => match us, hl with | [_, _], _ => rfl⟩
  have F2 := fun_mk (st := st_law_whole) l2 c2 k2
  have T2 : Stands K mg "_law_whole" st_law_whole ["_law_thing"] _ _ := ⟨PySem.W.mg_of X G a2, F2, F2.binds (ps := ["_law_thing"]) fun _ _ _ _ _ _ us hl => match us, hl with | [_], _ => rfl⟩
  have F3 := fun_mk (st := st_law_due) l3 c3 k3
  have T3 : Stands K mg "_law_due" st_law_due ["_law_n", "_law_thing"] _ _ := ⟨PySem.W.mg_of X G a3, F3, F3.binds (ps := ["_law_n", "_law_thing"]) fun _ _ _ _ _ _ us hl => match us, hl with | [_, _], _ => rfl⟩
  have F4 := fun_mk (st := st_law_odd) l4 c4 k4
  have T4 : Stands K mg "_law_odd" st_law_odd ["_law_deck_here"] _ _ := ⟨PySem.W.mg_of X G a4, F4, F4.binds (ps := ["_law_deck_here"]) fun _ _ _ _ _ _ us hl => match us, hl with | [_], _ => rfl⟩
  have F5 := fun_mk (st := st_law_same) l5 c5 k5
  have T5 : Stands K mg "_law_same" st_law_same ["_law_got", "_law_due_here"] _ _ := ⟨PySem.W.mg_of X G a5, F5, F5.binds (ps := ["_law_got", "_law_due_here"]) fun _ _ _ _ _ _ us hl => match us, hl with | [_, _], _ => rfl⟩
  have F6 := fun_mk (st := st_law_sides) l6 c6 k6
  have T6 : Stands K mg "_law_sides" st_law_sides ["_law_n"] _ _ := ⟨PySem.W.mg_of X G a6, F6, F6.binds (ps := ["_law_n"]) fun _ _ _ _ _ _ us hl => match us, hl with | [_], _ => rfl⟩
  have F7 := fun_mk (st := st_law_spoilt) l7 c7 k7
  have T7 : Stands K mg "_law_spoilt" st_law_spoilt ["_law_deck_here", "_law_n", "_law_side"] _ _ := ⟨PySem.W.mg_of X G a7, F7, F7.binds (ps := ["_law_deck_here", "_law_n", "_law_side"]) fun _ _ _ _ _ _ us hl => match us, hl with | [_, _, _], _ => rfl⟩
  have F8 := fun_mk (st := stall_sides) l8 c8 k8
  have T8 : Stands K mg "all_sides" stall_sides ["n"] _ _ := ⟨PySem.W.mg_of X G a8, F8, F8.binds (ps := ["n"]) fun _ _ _ _ _ _ us hl => match us, hl with | [_], _ => rfl⟩
  have F9 := fun_mk (st := stis_house) l9 c9 k9
  have T9 : Stands K mg "is_house" stis_house ["n", "thing", "least"] _ _ := ⟨PySem.W.mg_of X G a9, F9, F9.binds (ps := ["n", "thing", "least"]) fun _ _ _ _ _ _ us hl => match us, hl with | [_, _, _], _ => rfl⟩
  have F10 := fun_mk (st := stis_side) l10 c10 k10
  have T10 : Stands K mg "is_side" stis_side ["n", "thing"] _ _ := ⟨PySem.W.mg_of X G a10, F10, F10.binds (ps := ["n", "thing"]) fun _ _ _ _ _ _ us hl => match us, hl with | [_, _], _ => rfl⟩
  have F11 := fun_mk (st := stlaw) l11 c11 k11
  have T11 : Stands K mg "law" stlaw ["_law_script"] _ _ := ⟨PySem.W.mg_of X G a11, F11, F11.binds (ps := ["_law_script"]) fun _ _ _ _ _ _ us hl => match us, hl with | [_], _ => rfl⟩
  refine ⟨PySem.W.fnOf "law" "law" (defArgs stlaw) (defBody stlaw) (defScope stlaw) .none kV11 dc11 pm11 an11 cd11 ct11, fun s v => .of_eq rfl, fun base _ _ => ?_⟩
  have H_law_deck := h_law_deck (P := l.prog) (w := w) (base := base) nb T0 
  have H_law_draw := h_law_draw (P := l.prog) (w := w) (base := base) nb T1 
  have H_law_whole := h_law_whole (P := l.prog) (w := w) (base := base) nb T2 
  have H_law_due := h_law_due (P := l.prog) (w := w) (base := base) nb T3 H_law_whole
  have H_law_odd := h_law_odd (P := l.prog) (w := w) (base := base) nb T4 H_law_draw
  have H_law_same := h_law_same (P := l.prog) (w := w) (base := base) nb T5 H_law_whole
  have H_law_sides := h_law_sides (P := l.prog) (w := w) (base := base) nb T6 
  have H_law_spoilt := h_law_spoilt (P := l.prog) (w := w) (base := base) nb T7 H_law_draw H_law_odd
  have Hall_sides := hall_sides (P := l.prog) (w := w) (base := base) nb T8 
  have His_house := his_house (P := l.prog) (w := w) (base := base) nb T9 
  have His_side := his_side (P := l.prog) (w := w) (base := base) nb T10 His_house
  exact hlaw nb T11 H_law_deck H_law_draw H_law_due H_law_odd H_law_same H_law_sides H_law_spoilt Hall_sides His_side
end G

namespace G
open PySem PySem.Spec PySem.W PyProof.Rows L2 D
theorem draw_spec {d c : Nat} {B m : Int} {h : VH} (D : Deck d c B h) (hm : 0 < m) (hm2 : m < 2 ^ 63) (hB : B < 2 ^ 40) :
    OK (f_law_draw [.ref d, .int m] h) fun v h' => ∃ r, v = .int r ∧ 0 ≤ r ∧ r < m ∧ Deck d c (B + 1) h' ∧ Grow d c h h' := by
  obtain ⟨k, cells, D, hk⟩ := D
  obtain ⟨hd, hc, ne, hpos, hk0, hlen⟩ := D
  unfold f_law_draw
  rw [ok_fn0]
  unfold b_law_draw
  have hd' : (h.set d (.lst [.ref c, .int (k + 1)]))[d]? = some (.lst [.ref c, .int (k + 1)]) := hg_set (hg_lt hd)
  have hc' : (h.set d (.lst [.ref c, .int (k + 1)]))[c]? = some (.lst (intL cells)) := (hg_set_ne (Ne.symm ne)).trans hc
  try simp (maxSteps := 4000000) only [ok_ret, ok_bnd, ok_lift, ok_var, ok_c, ok_bin, ok_un, ok_asB, ok_and, ok_or, ok_not, ok_chain, ok_nil, ok_cons, ok_tup, ok_lst, ok_fn, ok_tmp, ok_call, ok_meth, ok_tval, ok_tand, ok_tor, ok_tnot, ok_if, ok_pnone, ok_psome, ok_slice, ok_fresh, ok_lcx, ok_body, ok_true, ok_dtmp, ok_dval, ok_rng1, ok_rng2, ok_enum, ok_enumT, ok_zip, ok_gname, ok_gsnil, ok_gscons, ok_gtup, ok_gsub, fo_next, fo_seq, fo_asg, fo_expr, fo_ret, fo_retN, fo_if, fo_break, fo_cont, fo_par, fo_aug, fo_augS, fo_for, fo_body, vr_some, ra1, ra2, in_int, tr_bl, pa2, zp_two, sr_some, wk_tup, wk_rol, wk_str, oo_add, oo_addI, oo_sub, oo_mul, oo_fdiv, oo_mod, oo_pow, oo_shl, oo_shr, oo_and, oo_or, oo_neg, oo_inv, oo_le, oo_gt, oo_ge, oo_lt, oo_eq, oo_ne, oo_eqb, oo_is0, oo_isNot0, oo_nes, oo_eqs, oo_addT, oo_tup, oo_lst, oo_abs, oo_int, oo_intb, oo_max2, oo_min2, oo_max3, oo_min3, oo_lenT, oo_lenR, oo_gTuple, oo_gList, oo_gLen, oo_biT, oo_biR, oo_slT, oo_slR, oo_isaII, oo_isaIB, oo_isaIT, oo_isaIS, oo_isaBI, oo_isaBB, oo_isaBT, oo_isaBS, oo_isaNT, lo_lst, atI_0, atI_1, atI_2, ixN_0, ixN_1, or_ix, ot_ix, ol_ix, or_set, or_len, or_add, or_mul, or_append, or_isLst, or_bi, or_bl, oo_sortSL, or_sl, or_wk, or_sr, ot_sr, or_gtup, oo_neb, oo_isB, oo_isNotB, ok_lr1, ok_lr2, ok_tr1, ok_tr2, or_popAt, List.getElem?_cons_zero, List.getElem?_cons_succ, List.set_cons_zero, List.set_cons_succ, List.map_cons, List.map_nil, List.replicate_succ, List.replicate_zero, List.length_cons, List.length_nil, List.cons_append, List.nil_append, wipeD, if_true, if_false, Bool.false_eq_true, Nat.reduceAdd, Nat.reduceSub, Nat.reduceLeDiff, decide_eq_true_eq, true_and, and_true, Int.reduceNeg, hd, hc, hd', hc', intL_len]
  have big1 : -big < 7919 ∧ (7919 : Int) < big := by decide
  have p18 : (10 : Int) ^ Int.toNat 18 = 1000000000000000000 := by decide
  have mm : m.natAbs < 2 ^ 9000 := Nat.lt_of_lt_of_le (show m.natAbs < 2 ^ 63 by omega) (Nat.pow_le_pow_right (by decide) (by decide))
  have small : ∀ x : Int, 0 ≤ x → (0 ≤ (5 : Int) ∧ (5 : Int) ≤ 1000000 ∧ (x % 2147483587 + 7919 * (k + 1) + 1).natAbs < 2 ^ 64) := fun x hx => by
    have h1 := Int.emod_nonneg x (show (2147483587 : Int) ≠ 0 by decide)
    have h2 := Int.emod_lt_of_pos x (show (0 : Int) < 2147483587 by decide)
    refine ⟨by decide, by decide, ?_⟩
    omega
  have dk1 : Deck d c (B + 1) (h.set d (.lst [.ref c, .int (k + 1)])) := ⟨k + 1, cells, ⟨hd', hc', ne, hpos, by omega, hlen⟩, by omega⟩
  have gr1 : Grow d c h (h.set d (.lst [.ref c, .int (k + 1)])) := ⟨by simp, fun n o n1 n2 e => (hg_set_ne n1).trans e⟩
  have fin : ∀ y : Int, ∃ r, PV.int (y % m) = PV.int r ∧ 0 ≤ r ∧ r < m ∧ Deck d c (B + 1) (h.set d (.lst [.ref c, .int (k + 1)])) ∧ Grow d c h (h.set d (.lst [.ref c, .int (k + 1)])) := fun y =>
    ⟨_, rfl, Int.emod_nonneg _ (by omega), Int.emod_lt_of_pos _ hm, dk1, gr1⟩
  split
  · rename_i hl
    have l0 : 0 < (cells.length : Int) := by omega
    refine ⟨l0, ?_⟩
    have j0 := Int.emod_nonneg (k + 1) (show (cells.length : Int) ≠ 0 by omega)
    have j1 := Int.emod_lt_of_pos (k + 1) l0
    have hj : ((k + 1) % (cells.length : Int)).toNat < cells.length := by omega
    refine atI_of j0 (intL_get hj) ?_
    have hx : 0 ≤ cells[((k + 1) % (cells.length : Int)).toNat] := hpos _ (List.getElem_mem hj)
    generalize hxe : cells[((k + 1) % (cells.length : Int)).toNat] = x at hx
    refine ⟨by decide, ?_⟩
    have hc2 : ((h.set d (.lst [.ref c, .int (k + 1)])).set c (.lst ((intL cells).set ((k + 1) % (cells.length : Int)).toNat (.int (x / m)))))[c]? = some (.lst (intL (cells.set ((k + 1) % (cells.length : Int)).toNat (x / m)))) := by
      rw [intL_set]; exact hg_set (hg_lt hc')
    have hd2 : ((h.set d (.lst [.ref c, .int (k + 1)])).set c (.lst ((intL cells).set ((k + 1) % (cells.length : Int)).toNat (.int (x / m)))))[d]? = some (.lst [.ref c, .int (k + 1)]) := (hg_set_ne ne).trans hd'
    try simp (maxSteps := 4000000) only [ok_ret, ok_bnd, ok_lift, ok_var, ok_c, ok_bin, ok_un, ok_asB, ok_and, ok_or, ok_not, ok_chain, ok_nil, ok_cons, ok_tup, ok_lst, ok_fn, ok_tmp, ok_call, ok_meth, ok_tval, ok_tand, ok_tor, ok_tnot, ok_if, ok_pnone, ok_psome, ok_slice, ok_fresh, ok_lcx, ok_body, ok_true, ok_dtmp, ok_dval, ok_rng1, ok_rng2, ok_enum, ok_enumT, ok_zip, ok_gname, ok_gsnil, ok_gscons, ok_gtup, ok_gsub, fo_next, fo_seq, fo_asg, fo_expr, fo_ret, fo_retN, fo_if, fo_break, fo_cont, fo_par, fo_aug, fo_augS, fo_for, fo_body, vr_some, ra1, ra2, in_int, tr_bl, pa2, zp_two, sr_some, wk_tup, wk_rol, wk_str, oo_add, oo_addI, oo_sub, oo_mul, oo_fdiv, oo_mod, oo_pow, oo_shl, oo_shr, oo_and, oo_or, oo_neg, oo_inv, oo_le, oo_gt, oo_ge, oo_lt, oo_eq, oo_ne, oo_eqb, oo_is0, oo_isNot0, oo_nes, oo_eqs, oo_addT, oo_tup, oo_lst, oo_abs, oo_int, oo_intb, oo_max2, oo_min2, oo_max3, oo_min3, oo_lenT, oo_lenR, oo_gTuple, oo_gList, oo_gLen, oo_biT, oo_biR, oo_slT, oo_slR, oo_isaII, oo_isaIB, oo_isaIT, oo_isaIS, oo_isaBI, oo_isaBB, oo_isaBT, oo_isaBS, oo_isaNT, lo_lst, atI_0, atI_1, atI_2, ixN_0, ixN_1, or_ix, ot_ix, ol_ix, or_set, or_len, or_add, or_mul, or_append, or_isLst, or_bi, or_bl, oo_sortSL, or_sl, or_wk, or_sr, ot_sr, or_gtup, oo_neb, oo_isB, oo_isNotB, ok_lr1, ok_lr2, ok_tr1, ok_tr2, or_popAt, List.getElem?_cons_zero, List.getElem?_cons_succ, List.set_cons_zero, List.set_cons_succ, List.map_cons, List.map_nil, List.replicate_succ, List.replicate_zero, List.length_cons, List.length_nil, List.cons_append, List.nil_append, wipeD, if_true, if_false, Bool.false_eq_true, Nat.reduceAdd, Nat.reduceSub, Nat.reduceLeDiff, decide_eq_true_eq, true_and, and_true, Int.reduceNeg, hd', hc', intL_len]
    split
    · refine ⟨⟨hm, mm⟩, ixN_of j0 hj ⟨hm, _, rfl, Int.emod_nonneg _ (by omega), Int.emod_lt_of_pos _ hm, ⟨k + 1, _, ⟨hd2, hc2, ne, fun y hy => ?_, by omega, by simpa using hlen⟩, by omega⟩, ?_⟩⟩
      · rcases List.mem_or_eq_of_mem_set hy with e | e
        · exact hpos y e
        · rw [e]; exact Int.ediv_nonneg hx (by omega)
      · exact ⟨by simp, fun n o n1 n2 e => (hg_set_ne n2).trans ((hg_set_ne n1).trans e)⟩
    · exact ⟨by decide, .inl big1, small x hx, by decide, by decide, hm, fin _⟩
  · refine ⟨by decide, ?_⟩
    rw [if_neg (by rw [p18]; decide)]
    exact ⟨by decide, .inl big1, small 0 (by decide), by decide, by decide, hm, fin _⟩
theorem draws_spec {d c : Nat} {B m : Int} {h : VH} {σ : Sl} {j : Nat} {a b : Sl → M PV} {items : List PV} (hB : B + items.length < 2 ^ 40) (D : Deck d c B h) (hm : 0 < m) (hm2 : m < 2 ^ 63)
    (ha : ∀ x h, OK (a (σ.set j (some x)) h) fun u h' => u = .ref d ∧ h' = h) (hb : ∀ x h, OK (b (σ.set j (some x)) h) fun u h' => u = .int m ∧ h' = h) :
    OK (lcF [] (lcBody (dgName j) tTrue (dCall f_law_draw (dCons a (dCons b dNil))) σ) items h) fun l h' => ∃ ns, l = intL ns ∧ ns.length = items.length ∧ (∀ x ∈ ns, 0 ≤ x ∧ x < m) ∧ Deck d c (B + items.length) h' ∧ Grow d c h h' := by
  refine draws_lc hB D fun x B h D hB => ?_
  try simp (maxSteps := 4000000) only [ok_ret, ok_bnd, ok_lift, ok_var, ok_c, ok_bin, ok_un, ok_asB, ok_and, ok_or, ok_not, ok_chain, ok_nil, ok_cons, ok_tup, ok_lst, ok_fn, ok_tmp, ok_call, ok_meth, ok_tval, ok_tand, ok_tor, ok_tnot, ok_if, ok_pnone, ok_psome, ok_slice, ok_fresh, ok_lcx, ok_body, ok_true, ok_dtmp, ok_dval, ok_rng1, ok_rng2, ok_enum, ok_enumT, ok_zip, ok_gname, ok_gsnil, ok_gscons, ok_gtup, ok_gsub, fo_next, fo_seq, fo_asg, fo_expr, fo_ret, fo_retN, fo_if, fo_break, fo_cont, fo_par, fo_aug, fo_augS, fo_for, fo_body, vr_some, ra1, ra2, in_int, tr_bl, pa2, zp_two, sr_some, wk_tup, wk_rol, wk_str, oo_add, oo_addI, oo_sub, oo_mul, oo_fdiv, oo_mod, oo_pow, oo_shl, oo_shr, oo_and, oo_or, oo_neg, oo_inv, oo_le, oo_gt, oo_ge, oo_lt, oo_eq, oo_ne, oo_eqb, oo_is0, oo_isNot0, oo_nes, oo_eqs, oo_addT, oo_tup, oo_lst, oo_abs, oo_int, oo_intb, oo_max2, oo_min2, oo_max3, oo_min3, oo_lenT, oo_lenR, oo_gTuple, oo_gList, oo_gLen, oo_biT, oo_biR, oo_slT, oo_slR, oo_isaII, oo_isaIB, oo_isaIT, oo_isaIS, oo_isaBI, oo_isaBB, oo_isaBT, oo_isaBS, oo_isaNT, lo_lst, atI_0, atI_1, atI_2, ixN_0, ixN_1, or_ix, ot_ix, ol_ix, or_set, or_len, or_add, or_mul, or_append, or_isLst, or_bi, or_bl, oo_sortSL, or_sl, or_wk, or_sr, ot_sr, or_gtup, oo_neb, oo_isB, oo_isNotB, ok_lr1, ok_lr2, ok_tr1, ok_tr2, or_popAt, List.getElem?_cons_zero, List.getElem?_cons_succ, List.set_cons_zero, List.set_cons_succ, List.map_cons, List.map_nil, List.replicate_succ, List.replicate_zero, List.length_cons, List.length_nil, List.cons_append, List.nil_append, wipeD, if_true, if_false, Bool.false_eq_true, Nat.reduceAdd, Nat.reduceSub, Nat.reduceLeDiff, decide_eq_true_eq, true_and, and_true, Int.reduceNeg]
  refine OK.mono (ha x h) ?_
  rintro _ _ ⟨rfl, rfl⟩
  refine OK.mono (hb x _) ?_
  rintro _ _ ⟨rfl, rfl⟩
  exact draw_spec D hm hm2 hB
theorem deck_spec {ns : List Int} {h : VH} (hn : ns.length ≤ 63) : OK (f_law_deck [.rol (intL ns)] h) fun v h' => ∃ d c, v = .ref d ∧ Deck d c 0 h' := by
  unfold f_law_deck
  rw [ok_fn0]
  unfold b_law_deck
  have hcut : cutP (intL ns) none (some 63) = intL ns := by
    unfold cutP
    rw [show HT.sIx (intL ns).length (intL ns).length (some 63) = min 63 (intL ns).length from HT.sIx_nat _ _ 63, HT.sIx_none, intL_len]
    simp only [List.drop_zero, Nat.sub_zero]
    exact List.take_of_length_le (by rw [intL_len]; omega)
  have hg : (h ++ [VO.lst (intL ns)])[h.length]? = some (.lst (intL ns)) := hg_new
  try simp (maxSteps := 4000000) only [ok_ret, ok_bnd, ok_lift, ok_var, ok_c, ok_bin, ok_un, ok_asB, ok_and, ok_or, ok_not, ok_chain, ok_nil, ok_cons, ok_tup, ok_lst, ok_fn, ok_tmp, ok_call, ok_meth, ok_tval, ok_tand, ok_tor, ok_tnot, ok_if, ok_pnone, ok_psome, ok_slice, ok_fresh, ok_lcx, ok_body, ok_true, ok_dtmp, ok_dval, ok_rng1, ok_rng2, ok_enum, ok_enumT, ok_zip, ok_gname, ok_gsnil, ok_gscons, ok_gtup, ok_gsub, fo_next, fo_seq, fo_asg, fo_expr, fo_ret, fo_retN, fo_if, fo_break, fo_cont, fo_par, fo_aug, fo_augS, fo_for, fo_body, vr_some, ra1, ra2, in_int, tr_bl, pa2, zp_two, sr_some, wk_tup, wk_rol, wk_str, oo_add, oo_addI, oo_sub, oo_mul, oo_fdiv, oo_mod, oo_pow, oo_shl, oo_shr, oo_and, oo_or, oo_neg, oo_inv, oo_le, oo_gt, oo_ge, oo_lt, oo_eq, oo_ne, oo_eqb, oo_is0, oo_isNot0, oo_nes, oo_eqs, oo_addT, oo_tup, oo_lst, oo_abs, oo_int, oo_intb, oo_max2, oo_min2, oo_max3, oo_min3, oo_lenT, oo_lenR, oo_gTuple, oo_gList, oo_gLen, oo_biT, oo_biR, oo_slT, oo_slR, oo_isaII, oo_isaIB, oo_isaIT, oo_isaIS, oo_isaBI, oo_isaBB, oo_isaBT, oo_isaBS, oo_isaNT, lo_lst, atI_0, atI_1, atI_2, ixN_0, ixN_1, or_ix, ot_ix, ol_ix, or_set, or_len, or_add, or_mul, or_append, or_isLst, or_bi, or_bl, oo_sortSL, or_sl, or_wk, or_sr, ot_sr, or_gtup, oo_neb, oo_isB, oo_isNotB, ok_lr1, ok_lr2, ok_tr1, ok_tr2, or_popAt, List.getElem?_cons_zero, List.getElem?_cons_succ, List.set_cons_zero, List.set_cons_succ, List.map_cons, List.map_nil, List.replicate_succ, List.replicate_zero, List.length_cons, List.length_nil, List.cons_append, List.nil_append, wipeD, if_true, if_false, Bool.false_eq_true, Nat.reduceAdd, Nat.reduceSub, Nat.reduceLeDiff, decide_eq_true_eq, true_and, and_true, Int.reduceNeg, hcut, hg, intL_len]
  refine ⟨by omega, ?_⟩
  refine OK.mono (ints_lc (C := fun x => 0 ≤ x) (srcOk_one hg) ?_) ?_
  · intro i x hx
    obtain ⟨u, _, rfl, _⟩ := intL_inv hx
    try simp (maxSteps := 4000000) only [ok_ret, ok_bnd, ok_lift, ok_var, ok_c, ok_bin, ok_un, ok_asB, ok_and, ok_or, ok_not, ok_chain, ok_nil, ok_cons, ok_tup, ok_lst, ok_fn, ok_tmp, ok_call, ok_meth, ok_tval, ok_tand, ok_tor, ok_tnot, ok_if, ok_pnone, ok_psome, ok_slice, ok_fresh, ok_lcx, ok_body, ok_true, ok_dtmp, ok_dval, ok_rng1, ok_rng2, ok_enum, ok_enumT, ok_zip, ok_gname, ok_gsnil, ok_gscons, ok_gtup, ok_gsub, fo_next, fo_seq, fo_asg, fo_expr, fo_ret, fo_retN, fo_if, fo_break, fo_cont, fo_par, fo_aug, fo_augS, fo_for, fo_body, vr_some, ra1, ra2, in_int, tr_bl, pa2, zp_two, sr_some, wk_tup, wk_rol, wk_str, oo_add, oo_addI, oo_sub, oo_mul, oo_fdiv, oo_mod, oo_pow, oo_shl, oo_shr, oo_and, oo_or, oo_neg, oo_inv, oo_le, oo_gt, oo_ge, oo_lt, oo_eq, oo_ne, oo_eqb, oo_is0, oo_isNot0, oo_nes, oo_eqs, oo_addT, oo_tup, oo_lst, oo_abs, oo_int, oo_intb, oo_max2, oo_min2, oo_max3, oo_min3, oo_lenT, oo_lenR, oo_gTuple, oo_gList, oo_gLen, oo_biT, oo_biR, oo_slT, oo_slR, oo_isaII, oo_isaIB, oo_isaIT, oo_isaIS, oo_isaBI, oo_isaBB, oo_isaBT, oo_isaBS, oo_isaNT, lo_lst, atI_0, atI_1, atI_2, ixN_0, ixN_1, or_ix, ot_ix, ol_ix, or_set, or_len, or_add, or_mul, or_append, or_isLst, or_bi, or_bl, oo_sortSL, or_sl, or_wk, or_sr, ot_sr, or_gtup, oo_neb, oo_isB, oo_isNotB, ok_lr1, ok_lr2, ok_tr1, ok_tr2, or_popAt, List.getElem?_cons_zero, List.getElem?_cons_succ, List.set_cons_zero, List.set_cons_succ, List.map_cons, List.map_nil, List.replicate_succ, List.replicate_zero, List.length_cons, List.length_nil, List.cons_append, List.nil_append, wipeD, if_true, if_false, Bool.false_eq_true, Nat.reduceAdd, Nat.reduceSub, Nat.reduceLeDiff, decide_eq_true_eq, true_and, and_true, Int.reduceNeg]
    exact ⟨_, rfl, by split <;> omega⟩
  · rintro l h' ⟨rfl, cs, rfl, hl, hp⟩
    rw [intL_len] at hl
    refine ⟨_, _, rfl, 0, cs, ⟨hg_new, hg_app hg_new, by simp, hp, Int.le_refl _, by omega⟩, Int.le_refl _⟩
theorem cut_lo {l : List PV} {c : Nat} (hc : c ≤ l.length) : cutP l none (some (c : Int)) = l.take c := by
  unfold cutP
  rw [HT.sIx_none, HT.sIx_nat, Nat.min_eq_left hc]; simp
theorem cut_hi {l : List PV} {c : Nat} (hc : c ≤ l.length) : cutP l (some (c : Int)) none = l.drop c := by
  unfold cutP
  rw [HT.sIx_none, HT.sIx_nat, Nat.min_eq_left hc]
  exact List.take_of_length_le (by simp)
theorem cut_take {l : List PV} {c : Nat} : cutP l none (some (c : Int)) = l.take c := by
  by_cases hc : c ≤ l.length
  · exact cut_lo hc
  · unfold cutP
    rw [HT.sIx_none, HT.sIx_nat, Nat.min_eq_right (by omega)]
    rw [List.take_of_length_le (by simp), List.take_of_length_le (by omega), List.drop_zero]
end G

namespace G
open PySem PySem.Spec PySem.W PyProof.Rows L2 D
/-! the heap keeps what it has -/
def Keep (h h' : VH) : Prop := h.length ≤ h'.length ∧ ∀ (x : Nat) o, h[x]? = some o → h'[x]? = some o
theorem Keep.refl {h : VH} : Keep h h := ⟨Nat.le_refl _, fun _ _ e => e⟩
theorem Keep.trans {h h1 h2 : VH} (p : Keep h h1) (q : Keep h1 h2) : Keep h h2 := ⟨Nat.le_trans p.1 q.1, fun x o e => q.2 x o (p.2 x o e)⟩
theorem Keep.app {h k : VH} : Keep h (h ++ k) := ⟨by simp, fun _ _ e => hg_app e⟩
theorem Keep.set {h h' : VH} {r : Nat} {o : VO} (p : Keep h h') (hr : h.length ≤ r) : Keep h (h'.set r o) := ⟨by simpa using p.1, fun x o e => (hg_set_ne (by have := hg_lt e; omega)).trans (p.2 x o e)⟩
theorem Keep.grow {d c : Nat} {h h' : VH} (p : Keep h h') : Grow d c h h' := ⟨p.1, fun x o _ _ e => p.2 x o e⟩
theorem hgN0 (h : VH) (x : VO) : (h ++ [x])[h.length]? = some x := hg_new
theorem hgN1 (h : VH) (x y : VO) : ((h ++ [x]) ++ [y])[h.length]? = some x := hg_app hg_new
theorem hgN2 (h : VH) (x y z : VO) : (((h ++ [x]) ++ [y]) ++ [z])[h.length]? = some x := hg_app (hg_app hg_new)
theorem hgN3 (h : VH) (x y z w : VO) : ((((h ++ [x]) ++ [y]) ++ [z]) ++ [w])[h.length]? = some x := hg_app (hg_app (hg_app hg_new))
theorem hgN4 (h : VH) (x y z w u : VO) : (((((h ++ [x]) ++ [y]) ++ [z]) ++ [w]) ++ [u])[h.length]? = some x := hg_app (hg_app (hg_app (hg_app hg_new)))
theorem Keep.deck {d c : Nat} {B : Int} {h h' : VH} (p : Keep h h') (D : Deck d c B h) : Deck d c B h' := by
  obtain ⟨k, cs, D, q⟩ := D
  exact ⟨k, cs, ⟨p.2 _ _ D.dk, p.2 _ _ D.cl, D.ne, D.pos, D.k0, D.len⟩, q⟩
theorem Deck.lt2 {d c : Nat} {B : Int} {h : VH} (D : Deck d c B h) : d < h.length ∧ c < h.length := by
  obtain ⟨_, _, D, _⟩ := D
  exact ⟨hg_lt D.dk, hg_lt D.cl⟩
end G

namespace G
open PySem PySem.Spec PySem.W PyProof.Rows L2 D
theorem oo_eqTupE {l : List Int} {h : VH} {Q : PV → VH → Prop} : OO (oEq (.tup (intL l)) (.tup []) h) Q = Q (.bl (decide (l = []))) h := by
  have : oEq (.tup (intL l)) (.tup []) h = some (.bl (decide (l = [])), h) := by
    unfold oEq
    rw [show bothS (.tup (intL l)) (.tup []) = none from rfl]
    simp only [dat, pdat, pdats_intL, pdats]
    rw [if_pos ⟨by rw [show SeqAt.shaped (.tuple (l.map PyData.int)) = SeqAt.shaped (.list (l.map PyData.int)) from rfl]; exact D.shaped_ints l, rfl⟩]
    cases l <;> rfl
  rw [this]; with_unfolding_all rfl
theorem oo_neTupE {l : List Int} {h : VH} {Q : PV → VH → Prop} : OO (oNe (.tup (intL l)) (.tup []) h) Q = Q (.bl (!decide (l = []))) h := by
  have : oNe (.tup (intL l)) (.tup []) h = some (.bl (!decide (l = [])), h) := by
    unfold oNe
    rw [show bothS (.tup (intL l)) (.tup []) = none from rfl]
    simp only [dat, pdat, pdats_intL, pdats]
    rw [if_pos ⟨by rw [show SeqAt.shaped (.tuple (l.map PyData.int)) = SeqAt.shaped (.list (l.map PyData.int)) from rfl]; exact D.shaped_ints l, rfl⟩]
    cases l <;> rfl
  rw [this]; with_unfolding_all rfl
/-! all sides -/
def fnd : Nat → List (List Int)
  | 0 => [[]]
  | k + 1 => fnd k ++ (fnd k).map fun r => r ++ [((k + 1 : Nat) : Int)]
theorem fnd_len : ∀ k, (fnd k).length = 2 ^ k
  | 0 => rfl
  | k + 1 => by simp only [fnd, List.length_append, List.length_map, fnd_len k, Nat.pow_succ]; omega
theorem fnd_cons : ∀ k, ∃ tl, fnd k = [] :: tl ∧ ∀ r ∈ tl, r ≠ []
  | 0 => ⟨[], rfl, by simp⟩
  | k + 1 => by
    obtain ⟨tl, e, h⟩ := fnd_cons k
    refine ⟨tl ++ (fnd k).map fun r => r ++ [((k + 1 : Nat) : Int)], by simp only [fnd]; rw [e]; rfl, fun r hr => ?_⟩
    rcases List.mem_append.mp hr with z | z
    · exact h r z
    · obtain ⟨s, _, rfl⟩ := List.mem_map.mp z
      simp
structure Side (n : Nat) (r : List Int) : Prop where
  up : r.Pairwise (· < ·)
  rng : ∀ x ∈ r, 1 ≤ x ∧ x < n
  len : r.length < n
theorem fnd_side : ∀ {k : Nat} {r : List Int}, r ∈ fnd k → Side (k + 1) r
  | 0, r, h => by
    simp only [fnd, List.mem_singleton] at h
    subst h
    exact ⟨List.Pairwise.nil, by simp, by simp⟩
  | k + 1, r, h => by
    rcases List.mem_append.mp h with z | z
    · have := fnd_side z
      exact ⟨this.up, fun x hx => by have := this.rng x hx; omega, by have := this.len; omega⟩
    · obtain ⟨s, hs, rfl⟩ := List.mem_map.mp z
      have S := fnd_side hs
      refine ⟨List.pairwise_append.mpr ⟨S.up, by simp, fun a ha b hb => ?_⟩, fun x hx => ?_, by have := S.len; simp; omega⟩
      · rw [List.mem_singleton.mp hb]
        have := (S.rng a ha).2
        omega
      · rcases List.mem_append.mp hx with w | w
        · have := S.rng x w; omega
        · rw [List.mem_singleton.mp w]; omega
def sidesOf (n : Nat) : List (List Int) := srt ((fnd (n - 1)).filter fun r => !decide (r = []))
theorem sides_drop (n : Nat) : (srt (fnd n)).drop 1 = srt ((fnd n).filter fun r => !decide (r = [])) := by
  obtain ⟨tl, e, h⟩ := fnd_cons n
  have e2 : (fnd n).filter (fun r => !decide (r = [])) = tl := by
    rw [e, List.filter_cons, if_neg (by simp)]
    exact List.filter_eq_self.mpr fun r hr => by simpa using h r hr
  rw [e2, e]
  have : srt ([] :: tl) = [] :: srt tl := by
    refine (srt_eq ((List.perm_cons _).mpr (srt_perm tl)) (List.pairwise_cons.mpr ⟨fun x _ => ?_, srt_sorted tl⟩)).symm
    cases x with
    | nil => exact List.le_refl _
    | cons a x => exact List.le_of_lt (by simp)
  rw [this]
  rfl
theorem sidesOf_mem {n : Nat} (n1 : 1 ≤ n) {r : List Int} (h : r ∈ sidesOf n) : Side n r ∧ r ≠ [] := by
  have h1 := (srt_perm _).mem_iff.mp h
  obtain ⟨h2, h3⟩ := List.mem_filter.mp h1
  have := fnd_side h2
  rw [show n - 1 + 1 = n by omega] at this
  exact ⟨this, by simpa using h3⟩
theorem sidesOf_len (n : Nat) : (sidesOf n).length = 2 ^ (n - 1) - 1 := by
  obtain ⟨tl, e, h⟩ := fnd_cons (n - 1)
  have e2 : (fnd (n - 1)).filter (fun r => !decide (r = [])) = tl := by
    rw [e, List.filter_cons, if_neg (by simp)]
    exact List.filter_eq_self.mpr fun r hr => by simpa using h r hr
  have l := fnd_len (n - 1)
  rw [e, List.length_cons] at l
  unfold sidesOf
  rw [(srt_perm _).length_eq, e2]
  omega
theorem sidesOf_le {n : Nat} (n8 : n ≤ 8) : (sidesOf n).length ≤ 127 := by
  rw [sidesOf_len]
  have : 2 ^ (n - 1) ≤ 128 := Nat.le_trans (Nat.pow_le_pow_right (by decide) (show n - 1 ≤ 7 by omega)) (by decide)
  omega
theorem sidesOf_pos {n : Nat} (n2 : 2 ≤ n) : 0 < (sidesOf n).length := by
  rw [sidesOf_len]
  have : 2 ^ 1 ≤ 2 ^ (n - 1) := Nat.pow_le_pow_right (by decide) (by omega)
  omega
theorem tupI_len (t : List (List Int)) : (tupI t).length = t.length := by simp [tupI]
theorem tupI_get {t : List (List Int)} {i : Nat} {x : PV} (e : (tupI t)[i]? = some x) : ∃ r, t[i]? = some r ∧ x = .tup (intL r) ∧ r ∈ t := rowL_inv e
theorem all_sides_spec {n : Nat} {h : VH} (n1 : 1 ≤ n) (n8 : n ≤ 8) : OK (fall_sides [.int (n : Nat)] h) fun v h' => v = .tup (tupI (sidesOf n)) ∧ Keep h h' := by
  unfold fall_sides
  rw [ok_fn0]
  unfold ball_sides
  try simp (maxSteps := 4000000) only [ok_ret, ok_bnd, ok_lift, ok_var, ok_c, ok_bin, ok_un, ok_asB, ok_and, ok_or, ok_not, ok_chain, ok_nil, ok_cons, ok_tup, ok_lst, ok_fn, ok_tmp, ok_call, ok_meth, ok_tval, ok_tand, ok_tor, ok_tnot, ok_if, ok_pnone, ok_psome, ok_slice, ok_fresh, ok_lcx, ok_body, ok_true, ok_dtmp, ok_dval, ok_rng1, ok_rng2, ok_enum, ok_enumT, ok_zip, ok_gname, ok_gsnil, ok_gscons, ok_gtup, ok_gsub, fo_next, fo_seq, fo_asg, fo_expr, fo_ret, fo_retN, fo_if, fo_break, fo_cont, fo_par, fo_aug, fo_augS, fo_for, fo_body, vr_some, ra1, ra2, in_int, tr_bl, pa2, zp_two, sr_some, wk_tup, wk_rol, wk_str, oo_add, oo_addI, oo_sub, oo_mul, oo_fdiv, oo_mod, oo_pow, oo_shl, oo_shr, oo_and, oo_or, oo_neg, oo_inv, oo_le, oo_gt, oo_ge, oo_lt, oo_eq, oo_ne, oo_eqb, oo_is0, oo_isNot0, oo_nes, oo_eqs, oo_addT, oo_tup, oo_lst, oo_abs, oo_int, oo_intb, oo_max2, oo_min2, oo_max3, oo_min3, oo_lenT, oo_lenR, oo_gTuple, oo_gList, oo_gLen, oo_biT, oo_biR, oo_slT, oo_slR, oo_isaII, oo_isaIB, oo_isaIT, oo_isaIS, oo_isaBI, oo_isaBB, oo_isaBT, oo_isaBS, oo_isaNT, lo_lst, atI_0, atI_1, atI_2, ixN_0, ixN_1, or_ix, ot_ix, ol_ix, or_set, or_len, or_add, or_mul, or_append, or_isLst, or_bi, or_bl, oo_sortSL, or_sl, or_wk, or_sr, ot_sr, or_gtup, oo_neb, oo_isB, oo_isNotB, ok_lr1, ok_lr2, ok_tr1, ok_tr2, or_popAt, List.getElem?_cons_zero, List.getElem?_cons_succ, List.set_cons_zero, List.set_cons_succ, List.map_cons, List.map_nil, List.replicate_succ, List.replicate_zero, List.length_cons, List.length_nil, List.cons_append, List.nil_append, wipeD, if_true, if_false, Bool.false_eq_true, Nat.reduceAdd, Nat.reduceSub, Nat.reduceLeDiff, decide_eq_true_eq, true_and, and_true, Int.reduceNeg]
  refine ⟨by omega, ?_⟩
  refine fo_loop0 (fun i v h2 => i ≤ 7 ∧ ∃ (a : Nat) (k : VH) (x2 x3 : Option PV), v = [some (.int (n : Nat)), some (.ref a), x2, x3] ∧ h2 = h ++ k ∧ h.length ≤ a ∧ h2[a]? = some (.lst (tupI (fnd i))))
    ⟨by omega, h.length, [.lst [.tup []]], _, _, rfl, rfl, Nat.le_refl _, by simp [tupI, fnd, intL]⟩ (fun _ _ _ _ _ => rfl) ?_ ?_
  · rintro i x v h2 hx ⟨_, a, k, x2, x3, rfl, rfl, ge, ha⟩
    obtain ⟨hi, rfl⟩ := rng_get hx
    have hi7 : i < 7 := by omega
    have p7 : 2 ^ i ≤ 128 := Nat.le_trans (Nat.pow_le_pow_right (by decide) (show i ≤ 7 by omega)) (by decide)
    have fl := fnd_len i
    rw [show (1 : Int) + (i : Nat) = ((i + 1 : Nat) : Int) by omega]
    try simp (maxSteps := 4000000) only [ok_ret, ok_bnd, ok_lift, ok_var, ok_c, ok_bin, ok_un, ok_asB, ok_and, ok_or, ok_not, ok_chain, ok_nil, ok_cons, ok_tup, ok_lst, ok_fn, ok_tmp, ok_call, ok_meth, ok_tval, ok_tand, ok_tor, ok_tnot, ok_if, ok_pnone, ok_psome, ok_slice, ok_fresh, ok_lcx, ok_body, ok_true, ok_dtmp, ok_dval, ok_rng1, ok_rng2, ok_enum, ok_enumT, ok_zip, ok_gname, ok_gsnil, ok_gscons, ok_gtup, ok_gsub, fo_next, fo_seq, fo_asg, fo_expr, fo_ret, fo_retN, fo_if, fo_break, fo_cont, fo_par, fo_aug, fo_augS, fo_for, fo_body, vr_some, ra1, ra2, in_int, tr_bl, pa2, zp_two, sr_some, wk_tup, wk_rol, wk_str, oo_add, oo_addI, oo_sub, oo_mul, oo_fdiv, oo_mod, oo_pow, oo_shl, oo_shr, oo_and, oo_or, oo_neg, oo_inv, oo_le, oo_gt, oo_ge, oo_lt, oo_eq, oo_ne, oo_eqb, oo_is0, oo_isNot0, oo_nes, oo_eqs, oo_addT, oo_tup, oo_lst, oo_abs, oo_int, oo_intb, oo_max2, oo_min2, oo_max3, oo_min3, oo_lenT, oo_lenR, oo_gTuple, oo_gList, oo_gLen, oo_biT, oo_biR, oo_slT, oo_slR, oo_isaII, oo_isaIB, oo_isaIT, oo_isaIS, oo_isaBI, oo_isaBB, oo_isaBT, oo_isaBS, oo_isaNT, lo_lst, atI_0, atI_1, atI_2, ixN_0, ixN_1, or_ix, ot_ix, ol_ix, or_set, or_len, or_add, or_mul, or_append, or_isLst, or_bi, or_bl, oo_sortSL, or_sl, or_wk, or_sr, ot_sr, or_gtup, oo_neb, oo_isB, oo_isNotB, ok_lr1, ok_lr2, ok_tr1, ok_tr2, or_popAt, List.getElem?_cons_zero, List.getElem?_cons_succ, List.set_cons_zero, List.set_cons_succ, List.map_cons, List.map_nil, List.replicate_succ, List.replicate_zero, List.length_cons, List.length_nil, List.cons_append, List.nil_append, wipeD, if_true, if_false, Bool.false_eq_true, Nat.reduceAdd, Nat.reduceSub, Nat.reduceLeDiff, decide_eq_true_eq, true_and, and_true, Int.reduceNeg, ha]
    refine ⟨by rw [tupI_len]; omega, ?_⟩
    refine OK.mono (ok_lc0 (fun j acc h' => h' = h ++ k ∧ acc = tupI (((fnd i).take j).map fun r => r ++ [((i + 1 : Nat) : Int)])) ⟨rfl, rfl⟩ (fun _ _ _ _ q => by rw [q.1]; exact srcOk_one ha) ?_ fun _ _ q => q) ?_
    · rintro j x acc h' hx ⟨rfl, rfl⟩
      obtain ⟨r, hr1, rfl, hr2⟩ := tupI_get hx
      have := (fnd_side hr2).len
      try simp (maxSteps := 4000000) only [ok_ret, ok_bnd, ok_lift, ok_var, ok_c, ok_bin, ok_un, ok_asB, ok_and, ok_or, ok_not, ok_chain, ok_nil, ok_cons, ok_tup, ok_lst, ok_fn, ok_tmp, ok_call, ok_meth, ok_tval, ok_tand, ok_tor, ok_tnot, ok_if, ok_pnone, ok_psome, ok_slice, ok_fresh, ok_lcx, ok_body, ok_true, ok_dtmp, ok_dval, ok_rng1, ok_rng2, ok_enum, ok_enumT, ok_zip, ok_gname, ok_gsnil, ok_gscons, ok_gtup, ok_gsub, fo_next, fo_seq, fo_asg, fo_expr, fo_ret, fo_retN, fo_if, fo_break, fo_cont, fo_par, fo_aug, fo_augS, fo_for, fo_body, vr_some, ra1, ra2, in_int, tr_bl, pa2, zp_two, sr_some, wk_tup, wk_rol, wk_str, oo_add, oo_addI, oo_sub, oo_mul, oo_fdiv, oo_mod, oo_pow, oo_shl, oo_shr, oo_and, oo_or, oo_neg, oo_inv, oo_le, oo_gt, oo_ge, oo_lt, oo_eq, oo_ne, oo_eqb, oo_is0, oo_isNot0, oo_nes, oo_eqs, oo_addT, oo_tup, oo_lst, oo_abs, oo_int, oo_intb, oo_max2, oo_min2, oo_max3, oo_min3, oo_lenT, oo_lenR, oo_gTuple, oo_gList, oo_gLen, oo_biT, oo_biR, oo_slT, oo_slR, oo_isaII, oo_isaIB, oo_isaIT, oo_isaIS, oo_isaBI, oo_isaBB, oo_isaBT, oo_isaBS, oo_isaNT, lo_lst, atI_0, atI_1, atI_2, ixN_0, ixN_1, or_ix, ot_ix, ol_ix, or_set, or_len, or_add, or_mul, or_append, or_isLst, or_bi, or_bl, oo_sortSL, or_sl, or_wk, or_sr, ot_sr, or_gtup, oo_neb, oo_isB, oo_isNotB, ok_lr1, ok_lr2, ok_tr1, ok_tr2, or_popAt, List.getElem?_cons_zero, List.getElem?_cons_succ, List.set_cons_zero, List.set_cons_succ, List.map_cons, List.map_nil, List.replicate_succ, List.replicate_zero, List.length_cons, List.length_nil, List.cons_append, List.nil_append, wipeD, if_true, if_false, Bool.false_eq_true, Nat.reduceAdd, Nat.reduceSub, Nat.reduceLeDiff, decide_eq_true_eq, true_and, and_true, Int.reduceNeg, intL_len]
      refine ⟨by omega, ?_⟩
      rw [List.take_add_one, hr1]
      simp [intL, tupI]
    · rintro l h' ⟨rfl, rfl⟩
      rw [tupI_len, List.take_length]
      have e1 : ((h ++ k) ++ [VO.lst (tupI ((fnd i).map fun r => r ++ [((i + 1 : Nat) : Int)]))])[a]? = some (.lst (tupI (fnd i))) := hg_app ha
      have e2 : ((h ++ k) ++ [VO.lst (tupI ((fnd i).map fun r => r ++ [((i + 1 : Nat) : Int)]))])[(h ++ k).length]? = some (.lst (tupI ((fnd i).map fun r => r ++ [((i + 1 : Nat) : Int)]))) := hg_new
      try simp (maxSteps := 4000000) only [ok_ret, ok_bnd, ok_lift, ok_var, ok_c, ok_bin, ok_un, ok_asB, ok_and, ok_or, ok_not, ok_chain, ok_nil, ok_cons, ok_tup, ok_lst, ok_fn, ok_tmp, ok_call, ok_meth, ok_tval, ok_tand, ok_tor, ok_tnot, ok_if, ok_pnone, ok_psome, ok_slice, ok_fresh, ok_lcx, ok_body, ok_true, ok_dtmp, ok_dval, ok_rng1, ok_rng2, ok_enum, ok_enumT, ok_zip, ok_gname, ok_gsnil, ok_gscons, ok_gtup, ok_gsub, fo_next, fo_seq, fo_asg, fo_expr, fo_ret, fo_retN, fo_if, fo_break, fo_cont, fo_par, fo_aug, fo_augS, fo_for, fo_body, vr_some, ra1, ra2, in_int, tr_bl, pa2, zp_two, sr_some, wk_tup, wk_rol, wk_str, oo_add, oo_addI, oo_sub, oo_mul, oo_fdiv, oo_mod, oo_pow, oo_shl, oo_shr, oo_and, oo_or, oo_neg, oo_inv, oo_le, oo_gt, oo_ge, oo_lt, oo_eq, oo_ne, oo_eqb, oo_is0, oo_isNot0, oo_nes, oo_eqs, oo_addT, oo_tup, oo_lst, oo_abs, oo_int, oo_intb, oo_max2, oo_min2, oo_max3, oo_min3, oo_lenT, oo_lenR, oo_gTuple, oo_gList, oo_gLen, oo_biT, oo_biR, oo_slT, oo_slR, oo_isaII, oo_isaIB, oo_isaIT, oo_isaIS, oo_isaBI, oo_isaBB, oo_isaBT, oo_isaBS, oo_isaNT, lo_lst, atI_0, atI_1, atI_2, ixN_0, ixN_1, or_ix, ot_ix, ol_ix, or_set, or_len, or_add, or_mul, or_append, or_isLst, or_bi, or_bl, oo_sortSL, or_sl, or_wk, or_sr, ot_sr, or_gtup, oo_neb, oo_isB, oo_isNotB, ok_lr1, ok_lr2, ok_tr1, ok_tr2, or_popAt, List.getElem?_cons_zero, List.getElem?_cons_succ, List.set_cons_zero, List.set_cons_succ, List.map_cons, List.map_nil, List.replicate_succ, List.replicate_zero, List.length_cons, List.length_nil, List.cons_append, List.nil_append, wipeD, if_true, if_false, Bool.false_eq_true, Nat.reduceAdd, Nat.reduceSub, Nat.reduceLeDiff, decide_eq_true_eq, true_and, and_true, Int.reduceNeg, e1, e2]
      refine ⟨by rw [tupI_len, tupI_len, List.length_map]; omega, by omega, _, k ++ [.lst (tupI ((fnd i).map fun r => r ++ [((i + 1 : Nat) : Int)])), .lst (tupI (fnd (i + 1)))], _, _, rfl, by simp [fnd, tupI], by simp, ?_⟩
      rw [show tupI (fnd i) ++ tupI ((fnd i).map fun r => r ++ [((i + 1 : Nat) : Int)]) = tupI (fnd (i + 1)) by simp [fnd, tupI]]
      exact hg_new
  · rintro v h2 ⟨h7, a, k, x2, x3, rfl, rfl, ge, ha⟩
    rw [rng_len, show ((n : Int) - 1).toNat = n - 1 by omega] at ha
    have p7 : 2 ^ (n - 1) ≤ 128 := Nat.le_trans (Nat.pow_le_pow_right (by decide) (show n - 1 ≤ 7 by omega)) (by decide)
    have fl := fnd_len (n - 1)
    try simp (maxSteps := 4000000) only [ok_ret, ok_bnd, ok_lift, ok_var, ok_c, ok_bin, ok_un, ok_asB, ok_and, ok_or, ok_not, ok_chain, ok_nil, ok_cons, ok_tup, ok_lst, ok_fn, ok_tmp, ok_call, ok_meth, ok_tval, ok_tand, ok_tor, ok_tnot, ok_if, ok_pnone, ok_psome, ok_slice, ok_fresh, ok_lcx, ok_body, ok_true, ok_dtmp, ok_dval, ok_rng1, ok_rng2, ok_enum, ok_enumT, ok_zip, ok_gname, ok_gsnil, ok_gscons, ok_gtup, ok_gsub, fo_next, fo_seq, fo_asg, fo_expr, fo_ret, fo_retN, fo_if, fo_break, fo_cont, fo_par, fo_aug, fo_augS, fo_for, fo_body, vr_some, ra1, ra2, in_int, tr_bl, pa2, zp_two, sr_some, wk_tup, wk_rol, wk_str, oo_add, oo_addI, oo_sub, oo_mul, oo_fdiv, oo_mod, oo_pow, oo_shl, oo_shr, oo_and, oo_or, oo_neg, oo_inv, oo_le, oo_gt, oo_ge, oo_lt, oo_eq, oo_ne, oo_eqb, oo_is0, oo_isNot0, oo_nes, oo_eqs, oo_addT, oo_tup, oo_lst, oo_abs, oo_int, oo_intb, oo_max2, oo_min2, oo_max3, oo_min3, oo_lenT, oo_lenR, oo_gTuple, oo_gList, oo_gLen, oo_biT, oo_biR, oo_slT, oo_slR, oo_isaII, oo_isaIB, oo_isaIT, oo_isaIS, oo_isaBI, oo_isaBB, oo_isaBT, oo_isaBS, oo_isaNT, lo_lst, atI_0, atI_1, atI_2, ixN_0, ixN_1, or_ix, ot_ix, ol_ix, or_set, or_len, or_add, or_mul, or_append, or_isLst, or_bi, or_bl, oo_sortSL, or_sl, or_wk, or_sr, ot_sr, or_gtup, oo_neb, oo_isB, oo_isNotB, ok_lr1, ok_lr2, ok_tr1, ok_tr2, or_popAt, List.getElem?_cons_zero, List.getElem?_cons_succ, List.set_cons_zero, List.set_cons_succ, List.map_cons, List.map_nil, List.replicate_succ, List.replicate_zero, List.length_cons, List.length_nil, List.cons_append, List.nil_append, wipeD, if_true, if_false, Bool.false_eq_true, Nat.reduceAdd, Nat.reduceSub, Nat.reduceLeDiff, decide_eq_true_eq, true_and, and_true, Int.reduceNeg, ha]
    refine ⟨by rw [tupI_len]; omega, ?_⟩
    refine OK.mono (ok_lc0 (fun j acc h' => h' = h ++ k ∧ acc = tupI (((fnd (n - 1)).take j).filter fun r => !decide (r = []))) ⟨rfl, rfl⟩ (fun _ _ _ _ q => by rw [q.1]; exact srcOk_one ha) ?_ fun _ _ q => q) ?_
    · rintro j x acc h' hx ⟨rfl, rfl⟩
      obtain ⟨r, hr1, rfl, _⟩ := tupI_get hx
      try simp (maxSteps := 4000000) only [ok_ret, ok_bnd, ok_lift, ok_var, ok_c, ok_bin, ok_un, ok_asB, ok_and, ok_or, ok_not, ok_chain, ok_nil, ok_cons, ok_tup, ok_lst, ok_fn, ok_tmp, ok_call, ok_meth, ok_tval, ok_tand, ok_tor, ok_tnot, ok_if, ok_pnone, ok_psome, ok_slice, ok_fresh, ok_lcx, ok_body, ok_true, ok_dtmp, ok_dval, ok_rng1, ok_rng2, ok_enum, ok_enumT, ok_zip, ok_gname, ok_gsnil, ok_gscons, ok_gtup, ok_gsub, fo_next, fo_seq, fo_asg, fo_expr, fo_ret, fo_retN, fo_if, fo_break, fo_cont, fo_par, fo_aug, fo_augS, fo_for, fo_body, vr_some, ra1, ra2, in_int, tr_bl, pa2, zp_two, sr_some, wk_tup, wk_rol, wk_str, oo_add, oo_addI, oo_sub, oo_mul, oo_fdiv, oo_mod, oo_pow, oo_shl, oo_shr, oo_and, oo_or, oo_neg, oo_inv, oo_le, oo_gt, oo_ge, oo_lt, oo_eq, oo_ne, oo_eqb, oo_is0, oo_isNot0, oo_nes, oo_eqs, oo_addT, oo_tup, oo_lst, oo_abs, oo_int, oo_intb, oo_max2, oo_min2, oo_max3, oo_min3, oo_lenT, oo_lenR, oo_gTuple, oo_gList, oo_gLen, oo_biT, oo_biR, oo_slT, oo_slR, oo_isaII, oo_isaIB, oo_isaIT, oo_isaIS, oo_isaBI, oo_isaBB, oo_isaBT, oo_isaBS, oo_isaNT, lo_lst, atI_0, atI_1, atI_2, ixN_0, ixN_1, or_ix, ot_ix, ol_ix, or_set, or_len, or_add, or_mul, or_append, or_isLst, or_bi, or_bl, oo_sortSL, or_sl, or_wk, or_sr, ot_sr, or_gtup, oo_neb, oo_isB, oo_isNotB, ok_lr1, ok_lr2, ok_tr1, ok_tr2, or_popAt, List.getElem?_cons_zero, List.getElem?_cons_succ, List.set_cons_zero, List.set_cons_succ, List.map_cons, List.map_nil, List.replicate_succ, List.replicate_zero, List.length_cons, List.length_nil, List.cons_append, List.nil_append, wipeD, if_true, if_false, Bool.false_eq_true, Nat.reduceAdd, Nat.reduceSub, Nat.reduceLeDiff, decide_eq_true_eq, true_and, and_true, Int.reduceNeg, oo_neTupE]
      rw [List.take_add_one, hr1, List.filter_append]
      by_cases z : r = []
      · subst z; simp
      · simp [z, tupI]
    · rintro l h' ⟨rfl, rfl⟩
      rw [tupI_len, List.take_length]
      have fl2 : ((fnd (n - 1)).filter fun r => !decide (r = [])).length ≤ 128 := Nat.le_trans (List.length_filter_le _ _) (by omega)
      have e3 : ((h ++ k) ++ [VO.lst (tupI (srt ((fnd (n - 1)).filter fun r => !decide (r = []))))])[(h ++ k).length]? = some (.lst (tupI (srt ((fnd (n - 1)).filter fun r => !decide (r = []))))) := hg_new
      rw [oo_sortTI (by omega) (.inl fun r hr => by simpa using (List.mem_filter.mp hr).2)]
      try simp (maxSteps := 4000000) only [ok_ret, ok_bnd, ok_lift, ok_var, ok_c, ok_bin, ok_un, ok_asB, ok_and, ok_or, ok_not, ok_chain, ok_nil, ok_cons, ok_tup, ok_lst, ok_fn, ok_tmp, ok_call, ok_meth, ok_tval, ok_tand, ok_tor, ok_tnot, ok_if, ok_pnone, ok_psome, ok_slice, ok_fresh, ok_lcx, ok_body, ok_true, ok_dtmp, ok_dval, ok_rng1, ok_rng2, ok_enum, ok_enumT, ok_zip, ok_gname, ok_gsnil, ok_gscons, ok_gtup, ok_gsub, fo_next, fo_seq, fo_asg, fo_expr, fo_ret, fo_retN, fo_if, fo_break, fo_cont, fo_par, fo_aug, fo_augS, fo_for, fo_body, vr_some, ra1, ra2, in_int, tr_bl, pa2, zp_two, sr_some, wk_tup, wk_rol, wk_str, oo_add, oo_addI, oo_sub, oo_mul, oo_fdiv, oo_mod, oo_pow, oo_shl, oo_shr, oo_and, oo_or, oo_neg, oo_inv, oo_le, oo_gt, oo_ge, oo_lt, oo_eq, oo_ne, oo_eqb, oo_is0, oo_isNot0, oo_nes, oo_eqs, oo_addT, oo_tup, oo_lst, oo_abs, oo_int, oo_intb, oo_max2, oo_min2, oo_max3, oo_min3, oo_lenT, oo_lenR, oo_gTuple, oo_gList, oo_gLen, oo_biT, oo_biR, oo_slT, oo_slR, oo_isaII, oo_isaIB, oo_isaIT, oo_isaIS, oo_isaBI, oo_isaBB, oo_isaBT, oo_isaBS, oo_isaNT, lo_lst, atI_0, atI_1, atI_2, ixN_0, ixN_1, or_ix, ot_ix, ol_ix, or_set, or_len, or_add, or_mul, or_append, or_isLst, or_bi, or_bl, oo_sortSL, or_sl, or_wk, or_sr, ot_sr, or_gtup, oo_neb, oo_isB, oo_isNotB, ok_lr1, ok_lr2, ok_tr1, ok_tr2, or_popAt, List.getElem?_cons_zero, List.getElem?_cons_succ, List.set_cons_zero, List.set_cons_succ, List.map_cons, List.map_nil, List.replicate_succ, List.replicate_zero, List.length_cons, List.length_nil, List.cons_append, List.nil_append, wipeD, if_true, if_false, Bool.false_eq_true, Nat.reduceAdd, Nat.reduceSub, Nat.reduceLeDiff, decide_eq_true_eq, true_and, and_true, Int.reduceNeg, e3]
      exact ⟨rfl, Keep.trans .app .app⟩
end G

namespace G
open PySem PySem.Spec PySem.W PyProof.Rows L2 D
/-! k07: all sides by the law's own going -/
def rgD (i : Int) (m : Nat) : List Int := (List.range m).map fun k : Nat => i + (k : Nat) * (-1)
theorem rngD_int {i : Int} {m : Nat} : rngD i m = intL (rgD i m) := by
  unfold rngD rgD intL
  rw [List.map_map]
  rfl
abbrev St2 := List (List Int) × List (List Int)
def stepD (n : Nat) (p : St2) : St2 := match p.2.getLast? with
  | none => p
  | some s => (p.1 ++ [s], p.2.dropLast ++ (rgD ((n : Int) - 1) (((n : Int) - 1) - s.getLastD 0).toNat).map fun x => s ++ [x])
def st0 (n : Nat) : St2 := ([], (rgD ((n : Int) - 1) (((n : Int) - 1) - 0).toNat).map fun x => [x])
def goodS (n : Nat) (p : St2) : Bool := !p.2.isEmpty && decide (p.2.length ≤ 64) && decide (p.1.length ≤ 200) && p.2.all fun s => !s.isEmpty && decide (s.length ≤ 8) && s.all fun x => decide (1 ≤ x) && decide (x < (n : Int))
def itS (n : Nat) : Nat → St2 → St2
  | 0, p => p
  | k + 1, p => itS n k (stepD n p)
def dfs (n : Nat) : List (List Int) := (itS n (2 ^ (n - 1) - 1) (st0 n)).1
def runS (n : Nat) : Nat → St2 → Bool
  | 0, p => p.2.isEmpty && decide (p.1 = dfs n)
  | k + 1, p => goodS n p && runS n k (stepD n p)
theorem run_ok {n : Nat} (n1 : 1 ≤ n) (n8 : n ≤ 8) : runS n (2 ^ (n - 1) - 1) (st0 n) = true := by
  have : n = 1 ∨ n = 2 ∨ n = 3 ∨ n = 4 ∨ n = 5 ∨ n = 6 ∨ n = 7 ∨ n = 8 := by omega
  rcases this with rfl | rfl | rfl | rfl | rfl | rfl | rfl | rfl <;> decide +kernel
def leL : List Int → List Int → Bool
  | [], _ => true
  | _ :: _, [] => false
  | a :: r, b :: s => decide (a < b) || (decide (a = b) && leL r s)
theorem leL_le : ∀ {r s : List Int}, leL r s = true → r ≤ s
  | [], s, _ => by
    cases s with
    | nil => exact List.le_refl _
    | cons b s => exact List.le_of_lt (by simp)
  | a :: r, [], h => by cases h
  | a :: r, b :: s, h => by
    simp only [leL, Bool.or_eq_true, Bool.and_eq_true, decide_eq_true_eq] at h
    rcases h with h | ⟨rfl, h⟩
    · exact List.le_of_lt (List.Lex.rel h)
    · exact List.cons_le_cons_iff.mpr (.inr ⟨rfl, leL_le h⟩)
def upL : List (List Int) → Bool
  | [] => true
  | x :: l => (l.all fun y => leL x y) && upL l
theorem upL_up : ∀ {l : List (List Int)}, upL l = true → l.Pairwise (· ≤ ·)
  | [], _ => List.Pairwise.nil
  | x :: l, h => by
    simp only [upL, Bool.and_eq_true, List.all_eq_true] at h
    exact List.pairwise_cons.mpr ⟨fun y hy => leL_le (h.1 y hy), upL_up h.2⟩
theorem dfs_sides {n : Nat} (n1 : 1 ≤ n) (n8 : n ≤ 8) : dfs n = sidesOf n := by
  have : n = 1 ∨ n = 2 ∨ n = 3 ∨ n = 4 ∨ n = 5 ∨ n = 6 ∨ n = 7 ∨ n = 8 := by omega
  unfold sidesOf
  rcases this with rfl | rfl | rfl | rfl | rfl | rfl | rfl | rfl <;> exact srt_eq (by decide +kernel) (upL_up (by decide +kernel))
end G

namespace G
open PySem PySem.Spec PySem.W PyProof.Rows L2 D
/-! k00: things, and what is asked of them -/
theorem Keep.refl' {h : VH} : Keep h h := .refl
def CellOk (L : Nat) (h : VH) (v : PV) : Prop := (∃ i : Int, v = .int i ∧ i.natAbs < 2 ^ 1000) ∨ (∃ b, v = .bl b) ∨ v = .non ∨ v = .str "1" ∨ ∃ (n : Nat) (i : Int), v = .ref n ∧ L ≤ n ∧ h[n]? = some (.lst [.int i]) ∧ i.natAbs < 2 ^ 1000
def RowOk (L : Nat) (h : VH) (r : PV) : Prop := CellOk L h r ∨ (∃ cs, r = .tup cs ∧ cs.length ≤ 9 ∧ ∀ c ∈ cs, CellOk L h c) ∨ ∃ (n : Nat) (cs : List PV), r = .ref n ∧ L ≤ n ∧ h[n]? = some (.lst cs) ∧ cs.length ≤ 9 ∧ ∀ c ∈ cs, CellOk L h c
def Thing (L : Nat) (h : VH) (v : PV) : Prop := (∃ l, v = .tup l ∧ l.length ≤ 9 ∧ ∀ r ∈ l, RowOk L h r) ∨ (∃ (n : Nat) (l : List PV), v = .ref n ∧ L ≤ n ∧ h[n]? = some (.lst l) ∧ l.length ≤ 9 ∧ ∀ r ∈ l, RowOk L h r) ∨ (∃ i : Int, v = .int i ∧ i.natAbs < 2 ^ 1000) ∨ (∃ b, v = .bl b) ∨ v = .non ∨ v = .str "1" ∨ v = .str "" ∨
  ∃ n : Nat, v = .ref n ∧ L ≤ n ∧ (h[n]? = some (.dT []) ∨ h[n]? = some (.dK [("a", .int 1)]))
section
variable {L d c : Nat} {h h' : VH} {v : PV}
theorem CellOk.grow (dl : d < L) (cl : c < L) (G : Grow d c h h') (k : CellOk L h v) : CellOk L h' v := by
  rcases k with k | k | k | k | ⟨n, i, e, hn, q, b⟩
  · exact .inl k
  · exact .inr (.inl k)
  · exact .inr (.inr (.inl k))
  · exact .inr (.inr (.inr (.inl k)))
  · exact .inr (.inr (.inr (.inr ⟨n, i, e, hn, G.2 _ _ (by omega) (by omega) q, b⟩)))
theorem RowOk.grow (dl : d < L) (cl : c < L) (G : Grow d c h h') (k : RowOk L h v) : RowOk L h' v := by
  rcases k with k | ⟨cs, e, l, k⟩ | ⟨n, cs, e, hn, q, l, k⟩
  · exact .inl (k.grow dl cl G)
  · exact .inr (.inl ⟨cs, e, l, fun x hx => (k x hx).grow dl cl G⟩)
  · exact .inr (.inr ⟨n, cs, e, hn, G.2 _ _ (by omega) (by omega) q, l, fun x hx => (k x hx).grow dl cl G⟩)
theorem Thing.grow (dl : d < L) (cl : c < L) (G : Grow d c h h') (k : Thing L h v) : Thing L h' v := by
  rcases k with ⟨l, e, ll, k⟩ | ⟨n, l, e, hn, q, ll, k⟩ | k | k | k | k | k | ⟨n, e, hn, q⟩
  · exact .inl ⟨l, e, ll, fun x hx => (k x hx).grow dl cl G⟩
  · exact .inr (.inl ⟨n, l, e, hn, G.2 _ _ (by omega) (by omega) q, ll, fun x hx => (k x hx).grow dl cl G⟩)
  · exact .inr (.inr (.inl k))
  · exact .inr (.inr (.inr (.inl k)))
  · exact .inr (.inr (.inr (.inr (.inl k))))
  · exact .inr (.inr (.inr (.inr (.inr (.inl k)))))
  · exact .inr (.inr (.inr (.inr (.inr (.inr (.inl k))))))
  · exact .inr (.inr (.inr (.inr (.inr (.inr (.inr ⟨n, e, hn, q.imp (G.2 _ _ (by omega) (by omega)) (G.2 _ _ (by omega) (by omega))⟩))))))
theorem pdats_all {r : Nat → Option PyData} {P : PyData → Prop} : ∀ {l : List PV}, (∀ x ∈ l, ∃ d, pdat r x = some d ∧ P d) → ∃ ds, pdats r l = some ds ∧ ds.length = l.length ∧ ∀ d ∈ ds, P d
  | [], _ => ⟨[], rfl, rfl, by simp⟩
  | x :: l, k => by
    obtain ⟨d, e, p⟩ := k x List.mem_cons_self
    obtain ⟨ds, e2, l2, p2⟩ := pdats_all fun y hy => k y (List.mem_cons_of_mem _ hy)
    refine ⟨d :: ds, by simp only [pdats, e, e2], by simp [l2], fun y hy => ?_⟩
    rcases List.mem_cons.mp hy with rfl | hy
    · exact p
    · exact p2 y hy
theorem CellOk.dat (k : CellOk L h v) (j : Nat) : ∃ d, pdat (rdat h (j + 1)) v = some d ∧ Gd d 1 10 ∧ d.canLay0 = true := by
  rcases k with ⟨i, rfl, b⟩ | ⟨b, rfl⟩ | rfl | rfl | ⟨n, i, rfl, hn, q, b⟩
  · exact ⟨.int i, by simp only [pdat], (gd_int b).mono (by decide) (by decide), rfl⟩
  · exact ⟨.bool b, by simp only [pdat], gd_bool.mono (by decide) (by decide), rfl⟩
  · exact ⟨.none, by simp only [pdat], gd_none.mono (by decide) (by decide), rfl⟩
  · exact ⟨.str "1", by simp only [pdat], ⟨by decide +kernel, rfl, by decide, by decide +kernel, by decide +kernel⟩, by decide +kernel⟩
  · refine ⟨.list [.int i], ?_, ?_, rfl⟩
    · simp only [pdat]
      unfold rdat
      simp only [q, pdats, pdat]
    · exact (gd_list (k := 0) (N := 0) (m := 1) (fun d hd => by rw [List.mem_singleton] at hd; subst hd; exact gd_int b) (by simp)).mono (by decide) (by decide)
theorem RowOk.dat (k : RowOk L h v) (j : Nat) : ∃ d, pdat (rdat h (j + 2)) v = some d ∧ Gd d 2 99 := by
  rcases k with k | ⟨cs, rfl, l, k⟩ | ⟨n, cs, rfl, hn, q, l, k⟩
  · obtain ⟨d, e, g, _⟩ := k.dat (j + 1)
    exact ⟨d, e, g.mono (by decide) (by decide)⟩
  · obtain ⟨ds, e, l2, p⟩ := pdats_all (P := fun d => Gd d 1 10) fun x hx => by
      obtain ⟨d, e, g, _⟩ := (k x hx).dat (j + 1)
      exact ⟨d, e, g⟩
    exact ⟨.tuple ds, by simp only [pdat, e], gd_tuple (m := 9) p (by omega)⟩
  · obtain ⟨ds, e, l2, p⟩ := pdats_all (r := rdat h (j + 1)) (P := fun d => Gd d 1 10) fun x hx => by
      obtain ⟨d, e, g, _⟩ := (k x hx).dat j
      exact ⟨d, e, g⟩
    refine ⟨.list ds, ?_, gd_list (m := 9) p (by omega)⟩
    simp only [pdat]
    unfold rdat
    simp only [q, e]
theorem kn_of {x : PyData} (e : pdat (rdat h 4) v = some x) : Kn h v := by
  unfold Kn datQ
  cases dictD h v with
  | some d' => exact ⟨d', rfl⟩
  | none => exact ⟨x, e⟩
theorem CellOk.kn (k : CellOk L h v) : Kn h v := by
  obtain ⟨d, e, _⟩ := k.dat 3
  exact kn_of e
theorem RowOk.kn (k : RowOk L h v) : Kn h v := by
  obtain ⟨d, e, _⟩ := k.dat 2
  exact kn_of e
theorem Thing.dat (k : Thing L h v) : (∃ l, v = .tup l ∧ (∀ r ∈ l, RowOk L h r) ∧ ∃ d, dat h v = some d ∧ Gd d 3 900) ∨ (∃ (n : Nat) (l : List PV), v = .ref n ∧ h[n]? = some (.lst l) ∧ ∃ d, D.dat h v = some d ∧ Gd d 3 900) ∨ (isTupP v = false ∧ (∃ i : Int, v = .int i ∧ i.natAbs < 2 ^ 1000) ∨ (∃ b, v = .bl b) ∨ v = .non ∨ v = .str "1" ∨ v = .str "" ∨
  ∃ n : Nat, v = .ref n ∧ (h[n]? = some (.dT []) ∨ h[n]? = some (.dK [("a", .int 1)]))) := by
  rcases k with ⟨l, rfl, ll, k⟩ | ⟨n, l, rfl, hn, q, ll, k⟩ | ⟨i, rfl, b⟩ | ⟨b, rfl⟩ | rfl | rfl | rfl | ⟨n, rfl, hn, q⟩
  · refine .inl ⟨l, rfl, k, ?_⟩
    obtain ⟨ds, e, l2, p⟩ := pdats_all (r := rdat h 4) (P := fun d => Gd d 2 99) fun x hx => (k x hx).dat 2
    exact ⟨.tuple ds, by simp only [D.dat, pdat, e], gd_tuple (m := 9) p (by omega)⟩
  · refine .inr (.inl ⟨n, l, rfl, q, ?_⟩)
    obtain ⟨ds, e, l2, p⟩ := pdats_all (r := rdat h 3) (P := fun d => Gd d 2 99) fun x hx => (k x hx).dat 1
    refine ⟨.list ds, ?_, gd_list (m := 9) p (by omega)⟩
    simp only [D.dat, pdat]
    unfold rdat
    simp only [q, e]
  · exact .inr (.inr (.inl ⟨rfl, i, rfl, b⟩))
  · exact .inr (.inr (.inr (.inl ⟨b, rfl⟩)))
  · exact .inr (.inr (.inr (.inr (.inl rfl))))
  · exact .inr (.inr (.inr (.inr (.inr (.inl rfl)))))
  · exact .inr (.inr (.inr (.inr (.inr (.inr (.inl rfl))))))
  · exact .inr (.inr (.inr (.inr (.inr (.inr (.inr ⟨n, rfl, q⟩))))))
theorem Thing.kn (k : Thing L h v) : Kn h v := by
  rcases k.dat with ⟨l, rfl, _, d, e, _⟩ | ⟨n, l, rfl, _, d, e, _⟩ | ⟨_, i, rfl, _⟩ | ⟨b, rfl⟩ | rfl | rfl | rfl | ⟨n, rfl, q | q⟩
  · exact kn_of e
  · exact kn_of e
  · exact ⟨.int i, rfl⟩
  · exact ⟨.bool b, rfl⟩
  · exact ⟨.none, rfl⟩
  · exact ⟨.str _, rfl⟩
  · exact ⟨.str _, rfl⟩
  · exact ⟨.dict [], by simp only [datQ, dictD, q]⟩
  · exact ⟨.dict [(.str "a", .int 1)], by simp only [datQ, dictD, q]⟩
/-- what repr tells of it -/
theorem Thing.repr (k : Thing L h v) : ∃ z : Str, ∀ (Q : PV → VH → Prop), OO (oReprQ [v] h) Q = Q (.str z) h := by
  have two : ∀ (z : Str), oReprQ [v] h = some (.str z, h) → ∀ (Q : PV → VH → Prop), OO (oReprQ [v] h) Q = Q (.str z) h := fun z e Q => by
    rw [e]; with_unfolding_all rfl
  rcases k.dat with ⟨l, rfl, _, d, e, g⟩ | ⟨n, l, rfl, q, d, e, g⟩ | ⟨_, i, rfl, b⟩ | ⟨b, rfl⟩ | rfl | rfl | rfl | ⟨n, rfl, q | q⟩
  · exact ⟨d.shown, fun Q => oo_repr (a := .tup l) (l := l) (k := 3) (N := 900) rfl e g (by decide) (by decide)⟩
  · refine ⟨d.shown, fun Q => ?_⟩
    have : oReprQ [.ref n] h = oRepr [.ref n] h := by
      unfold oReprQ
      simp only [dictD, q]
    rw [this]
    exact oo_repr (a := .ref n) (l := l) (k := 3) (N := 900) (by simp only [itemsOf, q]) e g (by decide) (by decide)
  · exact ⟨_, two (toString i) (by
      show oRepr [.int i] h = _
      unfold oRepr
      simp only
      rw [if_pos (log_small b)])⟩
  · exact ⟨_, two _ rfl⟩
  · exact ⟨_, two _ rfl⟩
  · exact ⟨_, two (reprText "1") (by
      unfold oReprQ
      simp only
      rw [if_pos (by decide +kernel)])⟩
  · exact ⟨_, two (reprText "") (by
      unfold oReprQ
      simp only
      rw [if_pos (by decide +kernel)])⟩
  · exact ⟨_, two (PyData.dict []).shown (by
      unfold oReprQ
      simp only [dictD, q]
      rw [if_pos (by decide +kernel)])⟩
  · exact ⟨_, two (PyData.dict [(.str "a", .int 1)]).shown (by
      unfold oReprQ
      simp only [dictD, q]
      rw [if_pos (by decide +kernel)])⟩
end
end G

namespace G
open PySem PySem.Spec PySem.W PyProof.Rows L2 D
def FOX (r : Fl) (E : En) : Prop := FO r E
theorem fo_seqX {a b : SD} {v : Sl} {h : VH} {E : En} (p : FO (a v h) { E with nx := fun v' h' => FOX (b v' h') E }) : FO (sSeq a b v h) E := by
  rw [fo_seq]
  exact p
theorem fox {r : Fl} {E : En} (p : FO r E) : FOX r E := p
/-! k07: sides judged -/
def houseB (n : Nat) : PV → Bool
  | .int x => decide (1 ≤ x) && decide (x < (n : Int))
  | _ => false
theorem houses_int {n : Nat} : ∀ {l : List PV}, l.all (houseB n) = true → ∃ is : List Int, l = intL is ∧ ∀ x ∈ is, 1 ≤ x ∧ x < n
  | [], _ => ⟨[], rfl, by simp⟩
  | v :: l, h => by
    rw [List.all_cons, Bool.and_eq_true] at h
    obtain ⟨is, rfl, k⟩ := houses_int h.2
    cases v with
    | int x =>
      have hx := h.1
      simp only [houseB, Bool.and_eq_true, decide_eq_true_eq] at hx
      exact ⟨x :: is, rfl, fun y hy => by
        rcases List.mem_cons.mp hy with rfl | hy
        · exact hx
        · exact k y hy⟩
    | _ => cases h.1
def RIS (is : List Int) : Prop := ∀ k a b, is[k]? = some a → is[k + 1]? = some b → a < b
/-- what a side is -/
def SideP (n : Nat) (v : PV) : Prop := ∃ is : List Int, v = .tup (intL is) ∧ is ≠ [] ∧ (∀ x ∈ is, 1 ≤ x ∧ x < n) ∧ RIS is
theorem sideP_all {n : Nat} {l : List PV} (S : SideP n (.tup l)) : l ≠ [] ∧ l.all (houseB n) = true := by
  obtain ⟨is, e, ne, k, _⟩ := S
  cases e
  refine ⟨by simpa [intL] using ne, ?_⟩
  rw [List.all_eq_true]
  intro v hv
  obtain ⟨x, hx, rfl⟩ := List.mem_map.mp hv
  have := k x hx
  simp [houseB, this.1, this.2]
theorem sideP_is {n : Nat} {is : List Int} (S : SideP n (.tup (intL is))) : RIS is := by
  obtain ⟨is', e, _, _, k⟩ := S
  have : is = is' := by
    have e2 := PV.tup.inj e
    unfold intL at e2
    exact (List.map_inj_right (fun _ _ z => PV.int.inj z)).mp e2
  rw [this]
  exact k
section
variable {L n : Nat} {h : VH} {v : PV}
/-- cells and rows: what may lie in a thing -/
theorem row_kind (k : RowOk L h v) : (∃ i : Int, v = .int i) ∨ (isIntP v = false ∨ isBolP v = true) ∧ houseB n v = false := by
  rcases k with k | ⟨cs, rfl, _⟩ | ⟨m, cs, rfl, _⟩
  · rcases k with ⟨i, rfl, b⟩ | ⟨b, rfl⟩ | rfl | rfl | ⟨m, i, rfl, _⟩
    · exact .inl ⟨i, rfl⟩
    · exact .inr ⟨.inr rfl, rfl⟩
    · exact .inr ⟨.inl rfl, rfl⟩
    · exact .inr ⟨.inl rfl, rfl⟩
    · exact .inr ⟨.inl rfl, rfl⟩
  · exact .inr ⟨.inl rfl, rfl⟩
  · exact .inr ⟨.inl rfl, rfl⟩
theorem ishouseQ (k : RowOk L h v) : OK (fis_house [.int (n : Nat), v, .int 1] h) fun u h' => u = .bl (houseB n v) ∧ h' = h := by
  have kn := k.kn
  unfold fis_house
  rw [ok_fn0]
  unfold bis_house
  try simp (maxSteps := 4000000) only [ok_ret, ok_bnd, ok_lift, ok_var, ok_c, ok_bin, ok_un, ok_asB, ok_and, ok_or, ok_not, ok_chain, ok_nil, ok_cons, ok_tup, ok_lst, ok_fn, ok_tmp, ok_call, ok_meth, ok_tval, ok_tand, ok_tor, ok_tnot, ok_if, ok_pnone, ok_psome, ok_slice, ok_fresh, ok_lcx, ok_body, ok_true, ok_dtmp, ok_dval, ok_rng1, ok_rng2, ok_enum, ok_enumT, ok_zip, ok_gname, ok_gsnil, ok_gscons, ok_gtup, ok_gsub, fo_next, fo_seq, fo_asg, fo_expr, fo_ret, fo_retN, fo_if, fo_break, fo_cont, fo_par, fo_aug, fo_augS, fo_for, fo_body, vr_some, ra1, ra2, in_int, tr_bl, pa2, zp_two, sr_some, wk_tup, wk_rol, wk_str, oo_add, oo_addI, oo_sub, oo_mul, oo_fdiv, oo_mod, oo_pow, oo_shl, oo_shr, oo_and, oo_or, oo_neg, oo_inv, oo_le, oo_gt, oo_ge, oo_lt, oo_eq, oo_ne, oo_eqb, oo_is0, oo_isNot0, oo_nes, oo_eqs, oo_addT, oo_tup, oo_lst, oo_abs, oo_int, oo_intb, oo_max2, oo_min2, oo_max3, oo_min3, oo_lenT, oo_lenR, oo_gTuple, oo_gList, oo_gLen, oo_biT, oo_biR, oo_slT, oo_slR, oo_isaII, oo_isaIB, oo_isaIT, oo_isaIS, oo_isaBI, oo_isaBB, oo_isaBT, oo_isaBS, oo_isaNT, lo_lst, atI_0, atI_1, atI_2, ixN_0, ixN_1, or_ix, ot_ix, ol_ix, or_set, or_len, or_add, or_mul, or_append, or_isLst, or_bi, or_bl, oo_sortSL, or_sl, or_wk, or_sr, ot_sr, or_gtup, oo_neb, oo_isB, oo_isNotB, ok_lr1, ok_lr2, ok_tr1, ok_tr2, or_popAt, List.getElem?_cons_zero, List.getElem?_cons_succ, List.set_cons_zero, List.set_cons_succ, List.map_cons, List.map_nil, List.replicate_succ, List.replicate_zero, List.length_cons, List.length_nil, List.cons_append, List.nil_append, wipeD, if_true, if_false, Bool.false_eq_true, Nat.reduceAdd, Nat.reduceSub, Nat.reduceLeDiff, decide_eq_true_eq, true_and, and_true, Int.reduceNeg, isq_int kn, isq_bol kn]
  rcases row_kind (n := n) k with ⟨i, rfl⟩ | ⟨z | z, e⟩
  · try simp (maxSteps := 4000000) only [ok_ret, ok_bnd, ok_lift, ok_var, ok_c, ok_bin, ok_un, ok_asB, ok_and, ok_or, ok_not, ok_chain, ok_nil, ok_cons, ok_tup, ok_lst, ok_fn, ok_tmp, ok_call, ok_meth, ok_tval, ok_tand, ok_tor, ok_tnot, ok_if, ok_pnone, ok_psome, ok_slice, ok_fresh, ok_lcx, ok_body, ok_true, ok_dtmp, ok_dval, ok_rng1, ok_rng2, ok_enum, ok_enumT, ok_zip, ok_gname, ok_gsnil, ok_gscons, ok_gtup, ok_gsub, fo_next, fo_seq, fo_asg, fo_expr, fo_ret, fo_retN, fo_if, fo_break, fo_cont, fo_par, fo_aug, fo_augS, fo_for, fo_body, vr_some, ra1, ra2, in_int, tr_bl, pa2, zp_two, sr_some, wk_tup, wk_rol, wk_str, oo_add, oo_addI, oo_sub, oo_mul, oo_fdiv, oo_mod, oo_pow, oo_shl, oo_shr, oo_and, oo_or, oo_neg, oo_inv, oo_le, oo_gt, oo_ge, oo_lt, oo_eq, oo_ne, oo_eqb, oo_is0, oo_isNot0, oo_nes, oo_eqs, oo_addT, oo_tup, oo_lst, oo_abs, oo_int, oo_intb, oo_max2, oo_min2, oo_max3, oo_min3, oo_lenT, oo_lenR, oo_gTuple, oo_gList, oo_gLen, oo_biT, oo_biR, oo_slT, oo_slR, oo_isaII, oo_isaIB, oo_isaIT, oo_isaIS, oo_isaBI, oo_isaBB, oo_isaBT, oo_isaBS, oo_isaNT, lo_lst, atI_0, atI_1, atI_2, ixN_0, ixN_1, or_ix, ot_ix, ol_ix, or_set, or_len, or_add, or_mul, or_append, or_isLst, or_bi, or_bl, oo_sortSL, or_sl, or_wk, or_sr, ot_sr, or_gtup, oo_neb, oo_isB, oo_isNotB, ok_lr1, ok_lr2, ok_tr1, ok_tr2, or_popAt, List.getElem?_cons_zero, List.getElem?_cons_succ, List.set_cons_zero, List.set_cons_succ, List.map_cons, List.map_nil, List.replicate_succ, List.replicate_zero, List.length_cons, List.length_nil, List.cons_append, List.nil_append, wipeD, if_true, if_false, Bool.false_eq_true, Nat.reduceAdd, Nat.reduceSub, Nat.reduceLeDiff, decide_eq_true_eq, true_and, and_true, Int.reduceNeg, isIntP, isBolP, Bool.not_false]
    show _
    by_cases c : 1 ≤ i
    · rw [if_pos c]
      simp [houseB, c]
    · rw [if_neg c]
      simp [houseB, c]
  · rw [z, e]
    try simp (maxSteps := 4000000) only [ok_ret, ok_bnd, ok_lift, ok_var, ok_c, ok_bin, ok_un, ok_asB, ok_and, ok_or, ok_not, ok_chain, ok_nil, ok_cons, ok_tup, ok_lst, ok_fn, ok_tmp, ok_call, ok_meth, ok_tval, ok_tand, ok_tor, ok_tnot, ok_if, ok_pnone, ok_psome, ok_slice, ok_fresh, ok_lcx, ok_body, ok_true, ok_dtmp, ok_dval, ok_rng1, ok_rng2, ok_enum, ok_enumT, ok_zip, ok_gname, ok_gsnil, ok_gscons, ok_gtup, ok_gsub, fo_next, fo_seq, fo_asg, fo_expr, fo_ret, fo_retN, fo_if, fo_break, fo_cont, fo_par, fo_aug, fo_augS, fo_for, fo_body, vr_some, ra1, ra2, in_int, tr_bl, pa2, zp_two, sr_some, wk_tup, wk_rol, wk_str, oo_add, oo_addI, oo_sub, oo_mul, oo_fdiv, oo_mod, oo_pow, oo_shl, oo_shr, oo_and, oo_or, oo_neg, oo_inv, oo_le, oo_gt, oo_ge, oo_lt, oo_eq, oo_ne, oo_eqb, oo_is0, oo_isNot0, oo_nes, oo_eqs, oo_addT, oo_tup, oo_lst, oo_abs, oo_int, oo_intb, oo_max2, oo_min2, oo_max3, oo_min3, oo_lenT, oo_lenR, oo_gTuple, oo_gList, oo_gLen, oo_biT, oo_biR, oo_slT, oo_slR, oo_isaII, oo_isaIB, oo_isaIT, oo_isaIS, oo_isaBI, oo_isaBB, oo_isaBT, oo_isaBS, oo_isaNT, lo_lst, atI_0, atI_1, atI_2, ixN_0, ixN_1, or_ix, ot_ix, ol_ix, or_set, or_len, or_add, or_mul, or_append, or_isLst, or_bi, or_bl, oo_sortSL, or_sl, or_wk, or_sr, ot_sr, or_gtup, oo_neb, oo_isB, oo_isNotB, ok_lr1, ok_lr2, ok_tr1, ok_tr2, or_popAt, List.getElem?_cons_zero, List.getElem?_cons_succ, List.set_cons_zero, List.set_cons_succ, List.map_cons, List.map_nil, List.replicate_succ, List.replicate_zero, List.length_cons, List.length_nil, List.cons_append, List.nil_append, wipeD, if_true, if_false, Bool.false_eq_true, Nat.reduceAdd, Nat.reduceSub, Nat.reduceLeDiff, decide_eq_true_eq, true_and, and_true, Int.reduceNeg]
  · rw [z, e]
    cases isIntP v
    · try simp (maxSteps := 4000000) only [ok_ret, ok_bnd, ok_lift, ok_var, ok_c, ok_bin, ok_un, ok_asB, ok_and, ok_or, ok_not, ok_chain, ok_nil, ok_cons, ok_tup, ok_lst, ok_fn, ok_tmp, ok_call, ok_meth, ok_tval, ok_tand, ok_tor, ok_tnot, ok_if, ok_pnone, ok_psome, ok_slice, ok_fresh, ok_lcx, ok_body, ok_true, ok_dtmp, ok_dval, ok_rng1, ok_rng2, ok_enum, ok_enumT, ok_zip, ok_gname, ok_gsnil, ok_gscons, ok_gtup, ok_gsub, fo_next, fo_seq, fo_asg, fo_expr, fo_ret, fo_retN, fo_if, fo_break, fo_cont, fo_par, fo_aug, fo_augS, fo_for, fo_body, vr_some, ra1, ra2, in_int, tr_bl, pa2, zp_two, sr_some, wk_tup, wk_rol, wk_str, oo_add, oo_addI, oo_sub, oo_mul, oo_fdiv, oo_mod, oo_pow, oo_shl, oo_shr, oo_and, oo_or, oo_neg, oo_inv, oo_le, oo_gt, oo_ge, oo_lt, oo_eq, oo_ne, oo_eqb, oo_is0, oo_isNot0, oo_nes, oo_eqs, oo_addT, oo_tup, oo_lst, oo_abs, oo_int, oo_intb, oo_max2, oo_min2, oo_max3, oo_min3, oo_lenT, oo_lenR, oo_gTuple, oo_gList, oo_gLen, oo_biT, oo_biR, oo_slT, oo_slR, oo_isaII, oo_isaIB, oo_isaIT, oo_isaIS, oo_isaBI, oo_isaBB, oo_isaBT, oo_isaBS, oo_isaNT, lo_lst, atI_0, atI_1, atI_2, ixN_0, ixN_1, or_ix, ot_ix, ol_ix, or_set, or_len, or_add, or_mul, or_append, or_isLst, or_bi, or_bl, oo_sortSL, or_sl, or_wk, or_sr, ot_sr, or_gtup, oo_neb, oo_isB, oo_isNotB, ok_lr1, ok_lr2, ok_tr1, ok_tr2, or_popAt, List.getElem?_cons_zero, List.getElem?_cons_succ, List.set_cons_zero, List.set_cons_succ, List.map_cons, List.map_nil, List.replicate_succ, List.replicate_zero, List.length_cons, List.length_nil, List.cons_append, List.nil_append, wipeD, if_true, if_false, Bool.false_eq_true, Nat.reduceAdd, Nat.reduceSub, Nat.reduceLeDiff, decide_eq_true_eq, true_and, and_true, Int.reduceNeg]
    · try simp (maxSteps := 4000000) only [ok_ret, ok_bnd, ok_lift, ok_var, ok_c, ok_bin, ok_un, ok_asB, ok_and, ok_or, ok_not, ok_chain, ok_nil, ok_cons, ok_tup, ok_lst, ok_fn, ok_tmp, ok_call, ok_meth, ok_tval, ok_tand, ok_tor, ok_tnot, ok_if, ok_pnone, ok_psome, ok_slice, ok_fresh, ok_lcx, ok_body, ok_true, ok_dtmp, ok_dval, ok_rng1, ok_rng2, ok_enum, ok_enumT, ok_zip, ok_gname, ok_gsnil, ok_gscons, ok_gtup, ok_gsub, fo_next, fo_seq, fo_asg, fo_expr, fo_ret, fo_retN, fo_if, fo_break, fo_cont, fo_par, fo_aug, fo_augS, fo_for, fo_body, vr_some, ra1, ra2, in_int, tr_bl, pa2, zp_two, sr_some, wk_tup, wk_rol, wk_str, oo_add, oo_addI, oo_sub, oo_mul, oo_fdiv, oo_mod, oo_pow, oo_shl, oo_shr, oo_and, oo_or, oo_neg, oo_inv, oo_le, oo_gt, oo_ge, oo_lt, oo_eq, oo_ne, oo_eqb, oo_is0, oo_isNot0, oo_nes, oo_eqs, oo_addT, oo_tup, oo_lst, oo_abs, oo_int, oo_intb, oo_max2, oo_min2, oo_max3, oo_min3, oo_lenT, oo_lenR, oo_gTuple, oo_gList, oo_gLen, oo_biT, oo_biR, oo_slT, oo_slR, oo_isaII, oo_isaIB, oo_isaIT, oo_isaIS, oo_isaBI, oo_isaBB, oo_isaBT, oo_isaBS, oo_isaNT, lo_lst, atI_0, atI_1, atI_2, ixN_0, ixN_1, or_ix, ot_ix, ol_ix, or_set, or_len, or_add, or_mul, or_append, or_isLst, or_bi, or_bl, oo_sortSL, or_sl, or_wk, or_sr, ot_sr, or_gtup, oo_neb, oo_isB, oo_isNotB, ok_lr1, ok_lr2, ok_tr1, ok_tr2, or_popAt, List.getElem?_cons_zero, List.getElem?_cons_succ, List.set_cons_zero, List.set_cons_succ, List.map_cons, List.map_nil, List.replicate_succ, List.replicate_zero, List.length_cons, List.length_nil, List.cons_append, List.nil_append, wipeD, if_true, if_false, Bool.false_eq_true, Nat.reduceAdd, Nat.reduceSub, Nat.reduceLeDiff, decide_eq_true_eq, true_and, and_true, Int.reduceNeg, Bool.not_true]
theorem issideQ (k : Thing L h v) : OK (fis_side [.int (n : Nat), v] h) fun u h' => (∃ b, u = .bl b ∧ (b = true ↔ SideP n v)) ∧ h' = h := by
  have kn := k.kn
  unfold fis_side
  rw [ok_fn0]
  unfold bis_side
  refine fo_seqX ?_
  try simp (maxSteps := 4000000) only [ok_ret, ok_bnd, ok_lift, ok_var, ok_c, ok_bin, ok_un, ok_asB, ok_and, ok_or, ok_not, ok_chain, ok_nil, ok_cons, ok_tup, ok_lst, ok_fn, ok_tmp, ok_call, ok_meth, ok_tval, ok_tand, ok_tor, ok_tnot, ok_if, ok_pnone, ok_psome, ok_slice, ok_fresh, ok_lcx, ok_body, ok_true, ok_dtmp, ok_dval, ok_rng1, ok_rng2, ok_enum, ok_enumT, ok_zip, ok_gname, ok_gsnil, ok_gscons, ok_gtup, ok_gsub, fo_next, fo_seq, fo_asg, fo_expr, fo_ret, fo_retN, fo_if, fo_break, fo_cont, fo_par, fo_aug, fo_augS, fo_for, fo_body, vr_some, ra1, ra2, in_int, tr_bl, pa2, zp_two, sr_some, wk_tup, wk_rol, wk_str, oo_add, oo_addI, oo_sub, oo_mul, oo_fdiv, oo_mod, oo_pow, oo_shl, oo_shr, oo_and, oo_or, oo_neg, oo_inv, oo_le, oo_gt, oo_ge, oo_lt, oo_eq, oo_ne, oo_eqb, oo_is0, oo_isNot0, oo_nes, oo_eqs, oo_addT, oo_tup, oo_lst, oo_abs, oo_int, oo_intb, oo_max2, oo_min2, oo_max3, oo_min3, oo_lenT, oo_lenR, oo_gTuple, oo_gList, oo_gLen, oo_biT, oo_biR, oo_slT, oo_slR, oo_isaII, oo_isaIB, oo_isaIT, oo_isaIS, oo_isaBI, oo_isaBB, oo_isaBT, oo_isaBS, oo_isaNT, lo_lst, atI_0, atI_1, atI_2, ixN_0, ixN_1, or_ix, ot_ix, ol_ix, or_set, or_len, or_add, or_mul, or_append, or_isLst, or_bi, or_bl, oo_sortSL, or_sl, or_wk, or_sr, ot_sr, or_gtup, oo_neb, oo_isB, oo_isNotB, ok_lr1, ok_lr2, ok_tr1, ok_tr2, or_popAt, List.getElem?_cons_zero, List.getElem?_cons_succ, List.set_cons_zero, List.set_cons_succ, List.map_cons, List.map_nil, List.replicate_succ, List.replicate_zero, List.length_cons, List.length_nil, List.cons_append, List.nil_append, wipeD, if_true, if_false, Bool.false_eq_true, Nat.reduceAdd, Nat.reduceSub, Nat.reduceLeDiff, decide_eq_true_eq, true_and, and_true, Int.reduceNeg, isq_tup kn]
  by_cases tt : isTupP v = true
  rotate_left
  · have tf : isTupP v = false := by simpa using tt
    rw [tf]
    try simp (maxSteps := 4000000) only [ok_ret, ok_bnd, ok_lift, ok_var, ok_c, ok_bin, ok_un, ok_asB, ok_and, ok_or, ok_not, ok_chain, ok_nil, ok_cons, ok_tup, ok_lst, ok_fn, ok_tmp, ok_call, ok_meth, ok_tval, ok_tand, ok_tor, ok_tnot, ok_if, ok_pnone, ok_psome, ok_slice, ok_fresh, ok_lcx, ok_body, ok_true, ok_dtmp, ok_dval, ok_rng1, ok_rng2, ok_enum, ok_enumT, ok_zip, ok_gname, ok_gsnil, ok_gscons, ok_gtup, ok_gsub, fo_next, fo_seq, fo_asg, fo_expr, fo_ret, fo_retN, fo_if, fo_break, fo_cont, fo_par, fo_aug, fo_augS, fo_for, fo_body, vr_some, ra1, ra2, in_int, tr_bl, pa2, zp_two, sr_some, wk_tup, wk_rol, wk_str, oo_add, oo_addI, oo_sub, oo_mul, oo_fdiv, oo_mod, oo_pow, oo_shl, oo_shr, oo_and, oo_or, oo_neg, oo_inv, oo_le, oo_gt, oo_ge, oo_lt, oo_eq, oo_ne, oo_eqb, oo_is0, oo_isNot0, oo_nes, oo_eqs, oo_addT, oo_tup, oo_lst, oo_abs, oo_int, oo_intb, oo_max2, oo_min2, oo_max3, oo_min3, oo_lenT, oo_lenR, oo_gTuple, oo_gList, oo_gLen, oo_biT, oo_biR, oo_slT, oo_slR, oo_isaII, oo_isaIB, oo_isaIT, oo_isaIS, oo_isaBI, oo_isaBB, oo_isaBT, oo_isaBS, oo_isaNT, lo_lst, atI_0, atI_1, atI_2, ixN_0, ixN_1, or_ix, ot_ix, ol_ix, or_set, or_len, or_add, or_mul, or_append, or_isLst, or_bi, or_bl, oo_sortSL, or_sl, or_wk, or_sr, ot_sr, or_gtup, oo_neb, oo_isB, oo_isNotB, ok_lr1, ok_lr2, ok_tr1, ok_tr2, or_popAt, List.getElem?_cons_zero, List.getElem?_cons_succ, List.set_cons_zero, List.set_cons_succ, List.map_cons, List.map_nil, List.replicate_succ, List.replicate_zero, List.length_cons, List.length_nil, List.cons_append, List.nil_append, wipeD, if_true, if_false, Bool.false_eq_true, Nat.reduceAdd, Nat.reduceSub, Nat.reduceLeDiff, decide_eq_true_eq, true_and, and_true, Int.reduceNeg, Bool.not_false]
    refine ⟨_, rfl, ?_⟩
    constructor
    · intro z; cases z
    · rintro ⟨is, rfl, _⟩; cases tf
  obtain ⟨l, rfl, ll, kc⟩ : ∃ l, v = .tup l ∧ l.length ≤ 9 ∧ ∀ r ∈ l, RowOk L h r := by
    rcases k with k | ⟨n, l, rfl, hn, q, ll, k⟩ | ⟨i, rfl, b⟩ | ⟨b, rfl⟩ | rfl | rfl | rfl | ⟨n, rfl, hn, q⟩
    · exact k
    all_goals cases tt
  try simp (maxSteps := 4000000) only [ok_ret, ok_bnd, ok_lift, ok_var, ok_c, ok_bin, ok_un, ok_asB, ok_and, ok_or, ok_not, ok_chain, ok_nil, ok_cons, ok_tup, ok_lst, ok_fn, ok_tmp, ok_call, ok_meth, ok_tval, ok_tand, ok_tor, ok_tnot, ok_if, ok_pnone, ok_psome, ok_slice, ok_fresh, ok_lcx, ok_body, ok_true, ok_dtmp, ok_dval, ok_rng1, ok_rng2, ok_enum, ok_enumT, ok_zip, ok_gname, ok_gsnil, ok_gscons, ok_gtup, ok_gsub, fo_next, fo_seq, fo_asg, fo_expr, fo_ret, fo_retN, fo_if, fo_break, fo_cont, fo_par, fo_aug, fo_augS, fo_for, fo_body, vr_some, ra1, ra2, in_int, tr_bl, pa2, zp_two, sr_some, wk_tup, wk_rol, wk_str, oo_add, oo_addI, oo_sub, oo_mul, oo_fdiv, oo_mod, oo_pow, oo_shl, oo_shr, oo_and, oo_or, oo_neg, oo_inv, oo_le, oo_gt, oo_ge, oo_lt, oo_eq, oo_ne, oo_eqb, oo_is0, oo_isNot0, oo_nes, oo_eqs, oo_addT, oo_tup, oo_lst, oo_abs, oo_int, oo_intb, oo_max2, oo_min2, oo_max3, oo_min3, oo_lenT, oo_lenR, oo_gTuple, oo_gList, oo_gLen, oo_biT, oo_biR, oo_slT, oo_slR, oo_isaII, oo_isaIB, oo_isaIT, oo_isaIS, oo_isaBI, oo_isaBB, oo_isaBT, oo_isaBS, oo_isaNT, lo_lst, atI_0, atI_1, atI_2, ixN_0, ixN_1, or_ix, ot_ix, ol_ix, or_set, or_len, or_add, or_mul, or_append, or_isLst, or_bi, or_bl, oo_sortSL, or_sl, or_wk, or_sr, ot_sr, or_gtup, oo_neb, oo_isB, oo_isNotB, ok_lr1, ok_lr2, ok_tr1, ok_tr2, or_popAt, List.getElem?_cons_zero, List.getElem?_cons_succ, List.set_cons_zero, List.set_cons_succ, List.map_cons, List.map_nil, List.replicate_succ, List.replicate_zero, List.length_cons, List.length_nil, List.cons_append, List.nil_append, wipeD, if_true, if_false, Bool.false_eq_true, Nat.reduceAdd, Nat.reduceSub, Nat.reduceLeDiff, decide_eq_true_eq, true_and, and_true, Int.reduceNeg, isTupP, Bool.not_true]
  by_cases le : l = []
  · subst le
    try simp (maxSteps := 4000000) only [ok_ret, ok_bnd, ok_lift, ok_var, ok_c, ok_bin, ok_un, ok_asB, ok_and, ok_or, ok_not, ok_chain, ok_nil, ok_cons, ok_tup, ok_lst, ok_fn, ok_tmp, ok_call, ok_meth, ok_tval, ok_tand, ok_tor, ok_tnot, ok_if, ok_pnone, ok_psome, ok_slice, ok_fresh, ok_lcx, ok_body, ok_true, ok_dtmp, ok_dval, ok_rng1, ok_rng2, ok_enum, ok_enumT, ok_zip, ok_gname, ok_gsnil, ok_gscons, ok_gtup, ok_gsub, fo_next, fo_seq, fo_asg, fo_expr, fo_ret, fo_retN, fo_if, fo_break, fo_cont, fo_par, fo_aug, fo_augS, fo_for, fo_body, vr_some, ra1, ra2, in_int, tr_bl, pa2, zp_two, sr_some, wk_tup, wk_rol, wk_str, oo_add, oo_addI, oo_sub, oo_mul, oo_fdiv, oo_mod, oo_pow, oo_shl, oo_shr, oo_and, oo_or, oo_neg, oo_inv, oo_le, oo_gt, oo_ge, oo_lt, oo_eq, oo_ne, oo_eqb, oo_is0, oo_isNot0, oo_nes, oo_eqs, oo_addT, oo_tup, oo_lst, oo_abs, oo_int, oo_intb, oo_max2, oo_min2, oo_max3, oo_min3, oo_lenT, oo_lenR, oo_gTuple, oo_gList, oo_gLen, oo_biT, oo_biR, oo_slT, oo_slR, oo_isaII, oo_isaIB, oo_isaIT, oo_isaIS, oo_isaBI, oo_isaBB, oo_isaBT, oo_isaBS, oo_isaNT, lo_lst, atI_0, atI_1, atI_2, ixN_0, ixN_1, or_ix, ot_ix, ol_ix, or_set, or_len, or_add, or_mul, or_append, or_isLst, or_bi, or_bl, oo_sortSL, or_sl, or_wk, or_sr, ot_sr, or_gtup, oo_neb, oo_isB, oo_isNotB, ok_lr1, ok_lr2, ok_tr1, ok_tr2, or_popAt, List.getElem?_cons_zero, List.getElem?_cons_succ, List.set_cons_zero, List.set_cons_succ, List.map_cons, List.map_nil, List.replicate_succ, List.replicate_zero, List.length_cons, List.length_nil, List.cons_append, List.nil_append, wipeD, if_true, if_false, Bool.false_eq_true, Nat.reduceAdd, Nat.reduceSub, Nat.reduceLeDiff, decide_eq_true_eq, true_and, and_true, Int.reduceNeg, decide_true]
    rw [if_pos (by rfl)]
    exact ⟨_, rfl, ⟨fun z => (by cases z), fun S => absurd rfl (sideP_all S).1⟩⟩
  have l0 : l.length ≠ 0 := fun z => le (List.eq_nil_of_length_eq_zero z)
  rw [if_neg (by simpa using le)]
  refine ⟨by omega, ?_⟩
  refine OK.mono (ok_lc0 (fun j acc h' => h' = h ∧ acc = bls ((l.take j).map (houseB n))) ⟨rfl, rfl⟩ (fun _ _ _ _ _ => rfl) ?_ fun _ _ q => q) ?_
  · rintro j x acc h' hx ⟨rfl, rfl⟩
    try simp (maxSteps := 4000000) only [ok_ret, ok_bnd, ok_lift, ok_var, ok_c, ok_bin, ok_un, ok_asB, ok_and, ok_or, ok_not, ok_chain, ok_nil, ok_cons, ok_tup, ok_lst, ok_fn, ok_tmp, ok_call, ok_meth, ok_tval, ok_tand, ok_tor, ok_tnot, ok_if, ok_pnone, ok_psome, ok_slice, ok_fresh, ok_lcx, ok_body, ok_true, ok_dtmp, ok_dval, ok_rng1, ok_rng2, ok_enum, ok_enumT, ok_zip, ok_gname, ok_gsnil, ok_gscons, ok_gtup, ok_gsub, fo_next, fo_seq, fo_asg, fo_expr, fo_ret, fo_retN, fo_if, fo_break, fo_cont, fo_par, fo_aug, fo_augS, fo_for, fo_body, vr_some, ra1, ra2, in_int, tr_bl, pa2, zp_two, sr_some, wk_tup, wk_rol, wk_str, oo_add, oo_addI, oo_sub, oo_mul, oo_fdiv, oo_mod, oo_pow, oo_shl, oo_shr, oo_and, oo_or, oo_neg, oo_inv, oo_le, oo_gt, oo_ge, oo_lt, oo_eq, oo_ne, oo_eqb, oo_is0, oo_isNot0, oo_nes, oo_eqs, oo_addT, oo_tup, oo_lst, oo_abs, oo_int, oo_intb, oo_max2, oo_min2, oo_max3, oo_min3, oo_lenT, oo_lenR, oo_gTuple, oo_gList, oo_gLen, oo_biT, oo_biR, oo_slT, oo_slR, oo_isaII, oo_isaIB, oo_isaIT, oo_isaIS, oo_isaBI, oo_isaBB, oo_isaBT, oo_isaBS, oo_isaNT, lo_lst, atI_0, atI_1, atI_2, ixN_0, ixN_1, or_ix, ot_ix, ol_ix, or_set, or_len, or_add, or_mul, or_append, or_isLst, or_bi, or_bl, oo_sortSL, or_sl, or_wk, or_sr, ot_sr, or_gtup, oo_neb, oo_isB, oo_isNotB, ok_lr1, ok_lr2, ok_tr1, ok_tr2, or_popAt, List.getElem?_cons_zero, List.getElem?_cons_succ, List.set_cons_zero, List.set_cons_succ, List.map_cons, List.map_nil, List.replicate_succ, List.replicate_zero, List.length_cons, List.length_nil, List.cons_append, List.nil_append, wipeD, if_true, if_false, Bool.false_eq_true, Nat.reduceAdd, Nat.reduceSub, Nat.reduceLeDiff, decide_eq_true_eq, true_and, and_true, Int.reduceNeg]
    refine OK.mono (ishouseQ (kc x (List.mem_of_getElem? hx))) ?_
    rintro u h2 ⟨rfl, rfl⟩
    rw [List.take_add_one, hx]
    exact ⟨rfl, by simp [bls]⟩
  rintro l2 h' ⟨rfl, rfl⟩
  rw [oo_gAll, List.take_length, List.all_map]
  by_cases ah : l.all (houseB n) = true
  rotate_left
  · rw [show (l.all (id ∘ houseB n)) = false by simpa using ah]
    try simp (maxSteps := 4000000) only [ok_ret, ok_bnd, ok_lift, ok_var, ok_c, ok_bin, ok_un, ok_asB, ok_and, ok_or, ok_not, ok_chain, ok_nil, ok_cons, ok_tup, ok_lst, ok_fn, ok_tmp, ok_call, ok_meth, ok_tval, ok_tand, ok_tor, ok_tnot, ok_if, ok_pnone, ok_psome, ok_slice, ok_fresh, ok_lcx, ok_body, ok_true, ok_dtmp, ok_dval, ok_rng1, ok_rng2, ok_enum, ok_enumT, ok_zip, ok_gname, ok_gsnil, ok_gscons, ok_gtup, ok_gsub, fo_next, fo_seq, fo_asg, fo_expr, fo_ret, fo_retN, fo_if, fo_break, fo_cont, fo_par, fo_aug, fo_augS, fo_for, fo_body, vr_some, ra1, ra2, in_int, tr_bl, pa2, zp_two, sr_some, wk_tup, wk_rol, wk_str, oo_add, oo_addI, oo_sub, oo_mul, oo_fdiv, oo_mod, oo_pow, oo_shl, oo_shr, oo_and, oo_or, oo_neg, oo_inv, oo_le, oo_gt, oo_ge, oo_lt, oo_eq, oo_ne, oo_eqb, oo_is0, oo_isNot0, oo_nes, oo_eqs, oo_addT, oo_tup, oo_lst, oo_abs, oo_int, oo_intb, oo_max2, oo_min2, oo_max3, oo_min3, oo_lenT, oo_lenR, oo_gTuple, oo_gList, oo_gLen, oo_biT, oo_biR, oo_slT, oo_slR, oo_isaII, oo_isaIB, oo_isaIT, oo_isaIS, oo_isaBI, oo_isaBB, oo_isaBT, oo_isaBS, oo_isaNT, lo_lst, atI_0, atI_1, atI_2, ixN_0, ixN_1, or_ix, ot_ix, ol_ix, or_set, or_len, or_add, or_mul, or_append, or_isLst, or_bi, or_bl, oo_sortSL, or_sl, or_wk, or_sr, ot_sr, or_gtup, oo_neb, oo_isB, oo_isNotB, ok_lr1, ok_lr2, ok_tr1, ok_tr2, or_popAt, List.getElem?_cons_zero, List.getElem?_cons_succ, List.set_cons_zero, List.set_cons_succ, List.map_cons, List.map_nil, List.replicate_succ, List.replicate_zero, List.length_cons, List.length_nil, List.cons_append, List.nil_append, wipeD, if_true, if_false, Bool.false_eq_true, Nat.reduceAdd, Nat.reduceSub, Nat.reduceLeDiff, decide_eq_true_eq, true_and, and_true, Int.reduceNeg, Bool.not_false]
    refine ⟨_, rfl, ?_⟩
    constructor
    · intro z; cases z
    · intro S
      exact absurd (sideP_all S).2 ah
  rw [show (l.all (id ∘ houseB n)) = true from ah]
  obtain ⟨is, rfl, ki⟩ := houses_int ah
  try simp (maxSteps := 4000000) only [ok_ret, ok_bnd, ok_lift, ok_var, ok_c, ok_bin, ok_un, ok_asB, ok_and, ok_or, ok_not, ok_chain, ok_nil, ok_cons, ok_tup, ok_lst, ok_fn, ok_tmp, ok_call, ok_meth, ok_tval, ok_tand, ok_tor, ok_tnot, ok_if, ok_pnone, ok_psome, ok_slice, ok_fresh, ok_lcx, ok_body, ok_true, ok_dtmp, ok_dval, ok_rng1, ok_rng2, ok_enum, ok_enumT, ok_zip, ok_gname, ok_gsnil, ok_gscons, ok_gtup, ok_gsub, fo_next, fo_seq, fo_asg, fo_expr, fo_ret, fo_retN, fo_if, fo_break, fo_cont, fo_par, fo_aug, fo_augS, fo_for, fo_body, vr_some, ra1, ra2, in_int, tr_bl, pa2, zp_two, sr_some, wk_tup, wk_rol, wk_str, oo_add, oo_addI, oo_sub, oo_mul, oo_fdiv, oo_mod, oo_pow, oo_shl, oo_shr, oo_and, oo_or, oo_neg, oo_inv, oo_le, oo_gt, oo_ge, oo_lt, oo_eq, oo_ne, oo_eqb, oo_is0, oo_isNot0, oo_nes, oo_eqs, oo_addT, oo_tup, oo_lst, oo_abs, oo_int, oo_intb, oo_max2, oo_min2, oo_max3, oo_min3, oo_lenT, oo_lenR, oo_gTuple, oo_gList, oo_gLen, oo_biT, oo_biR, oo_slT, oo_slR, oo_isaII, oo_isaIB, oo_isaIT, oo_isaIS, oo_isaBI, oo_isaBB, oo_isaBT, oo_isaBS, oo_isaNT, lo_lst, atI_0, atI_1, atI_2, ixN_0, ixN_1, or_ix, ot_ix, ol_ix, or_set, or_len, or_add, or_mul, or_append, or_isLst, or_bi, or_bl, oo_sortSL, or_sl, or_wk, or_sr, ot_sr, or_gtup, oo_neb, oo_isB, oo_isNotB, ok_lr1, ok_lr2, ok_tr1, ok_tr2, or_popAt, List.getElem?_cons_zero, List.getElem?_cons_succ, List.set_cons_zero, List.set_cons_succ, List.map_cons, List.map_nil, List.replicate_succ, List.replicate_zero, List.length_cons, List.length_nil, List.cons_append, List.nil_append, wipeD, if_true, if_false, Bool.false_eq_true, Nat.reduceAdd, Nat.reduceSub, Nat.reduceLeDiff, decide_eq_true_eq, true_and, and_true, Int.reduceNeg, Bool.not_true]
  refine fox ?_
  try simp (maxSteps := 4000000) only [ok_ret, ok_bnd, ok_lift, ok_var, ok_c, ok_bin, ok_un, ok_asB, ok_and, ok_or, ok_not, ok_chain, ok_nil, ok_cons, ok_tup, ok_lst, ok_fn, ok_tmp, ok_call, ok_meth, ok_tval, ok_tand, ok_tor, ok_tnot, ok_if, ok_pnone, ok_psome, ok_slice, ok_fresh, ok_lcx, ok_body, ok_true, ok_dtmp, ok_dval, ok_rng1, ok_rng2, ok_enum, ok_enumT, ok_zip, ok_gname, ok_gsnil, ok_gscons, ok_gtup, ok_gsub, fo_next, fo_seq, fo_asg, fo_expr, fo_ret, fo_retN, fo_if, fo_break, fo_cont, fo_par, fo_aug, fo_augS, fo_for, fo_body, vr_some, ra1, ra2, in_int, tr_bl, pa2, zp_two, sr_some, wk_tup, wk_rol, wk_str, oo_add, oo_addI, oo_sub, oo_mul, oo_fdiv, oo_mod, oo_pow, oo_shl, oo_shr, oo_and, oo_or, oo_neg, oo_inv, oo_le, oo_gt, oo_ge, oo_lt, oo_eq, oo_ne, oo_eqb, oo_is0, oo_isNot0, oo_nes, oo_eqs, oo_addT, oo_tup, oo_lst, oo_abs, oo_int, oo_intb, oo_max2, oo_min2, oo_max3, oo_min3, oo_lenT, oo_lenR, oo_gTuple, oo_gList, oo_gLen, oo_biT, oo_biR, oo_slT, oo_slR, oo_isaII, oo_isaIB, oo_isaIT, oo_isaIS, oo_isaBI, oo_isaBB, oo_isaBT, oo_isaBS, oo_isaNT, lo_lst, atI_0, atI_1, atI_2, ixN_0, ixN_1, or_ix, ot_ix, ol_ix, or_set, or_len, or_add, or_mul, or_append, or_isLst, or_bi, or_bl, oo_sortSL, or_sl, or_wk, or_sr, ot_sr, or_gtup, oo_neb, oo_isB, oo_isNotB, ok_lr1, ok_lr2, ok_tr1, ok_tr2, or_popAt, List.getElem?_cons_zero, List.getElem?_cons_succ, List.set_cons_zero, List.set_cons_succ, List.map_cons, List.map_nil, List.replicate_succ, List.replicate_zero, List.length_cons, List.length_nil, List.cons_append, List.nil_append, wipeD, if_true, if_false, Bool.false_eq_true, Nat.reduceAdd, Nat.reduceSub, Nat.reduceLeDiff, decide_eq_true_eq, true_and, and_true, Int.reduceNeg]
  have li : 1 ≤ (intL is).length := by omega
  rw [show (some 1 : Option Int) = some ((1 : Nat) : Int) from rfl, cut_hi li]
  have lp : (paired (intL is) ((intL is).drop 1)).length = is.length - 1 := by rw [paired_len, List.length_drop, intL_len]; omega
  refine ⟨by rw [lp]; rw [intL_len] at ll; omega, ?_⟩
  refine OK.mono (ok_lc0 (fun i acc k => k = h' ∧ ∃ bs : List Bool, acc = bls bs ∧ (bs.all id = true ↔ ∀ j a c, j < i → is[j]? = some a → is[j + 1]? = some c → a < c)) ⟨rfl, [], rfl, by simp⟩ (fun _ _ _ _ _ => rfl) ?_ fun _ _ q => q) ?_
  · rintro i x acc k hx ⟨rfl, bs, rfl, hb⟩
    obtain ⟨p, q, e1, e2, rfl⟩ := paired_get hx
    obtain ⟨a, ea, rfl, _⟩ := intL_inv e1
    rw [List.getElem?_drop, show 1 + i = i + 1 by omega] at e2
    obtain ⟨c, ec, rfl, _⟩ := intL_inv e2
    try simp (maxSteps := 4000000) only [ok_ret, ok_bnd, ok_lift, ok_var, ok_c, ok_bin, ok_un, ok_asB, ok_and, ok_or, ok_not, ok_chain, ok_nil, ok_cons, ok_tup, ok_lst, ok_fn, ok_tmp, ok_call, ok_meth, ok_tval, ok_tand, ok_tor, ok_tnot, ok_if, ok_pnone, ok_psome, ok_slice, ok_fresh, ok_lcx, ok_body, ok_true, ok_dtmp, ok_dval, ok_rng1, ok_rng2, ok_enum, ok_enumT, ok_zip, ok_gname, ok_gsnil, ok_gscons, ok_gtup, ok_gsub, fo_next, fo_seq, fo_asg, fo_expr, fo_ret, fo_retN, fo_if, fo_break, fo_cont, fo_par, fo_aug, fo_augS, fo_for, fo_body, vr_some, ra1, ra2, in_int, tr_bl, pa2, zp_two, sr_some, wk_tup, wk_rol, wk_str, oo_add, oo_addI, oo_sub, oo_mul, oo_fdiv, oo_mod, oo_pow, oo_shl, oo_shr, oo_and, oo_or, oo_neg, oo_inv, oo_le, oo_gt, oo_ge, oo_lt, oo_eq, oo_ne, oo_eqb, oo_is0, oo_isNot0, oo_nes, oo_eqs, oo_addT, oo_tup, oo_lst, oo_abs, oo_int, oo_intb, oo_max2, oo_min2, oo_max3, oo_min3, oo_lenT, oo_lenR, oo_gTuple, oo_gList, oo_gLen, oo_biT, oo_biR, oo_slT, oo_slR, oo_isaII, oo_isaIB, oo_isaIT, oo_isaIS, oo_isaBI, oo_isaBB, oo_isaBT, oo_isaBS, oo_isaNT, lo_lst, atI_0, atI_1, atI_2, ixN_0, ixN_1, or_ix, ot_ix, ol_ix, or_set, or_len, or_add, or_mul, or_append, or_isLst, or_bi, or_bl, oo_sortSL, or_sl, or_wk, or_sr, ot_sr, or_gtup, oo_neb, oo_isB, oo_isNotB, ok_lr1, ok_lr2, ok_tr1, ok_tr2, or_popAt, List.getElem?_cons_zero, List.getElem?_cons_succ, List.set_cons_zero, List.set_cons_succ, List.map_cons, List.map_nil, List.replicate_succ, List.replicate_zero, List.length_cons, List.length_nil, List.cons_append, List.nil_append, wipeD, if_true, if_false, Bool.false_eq_true, Nat.reduceAdd, Nat.reduceSub, Nat.reduceLeDiff, decide_eq_true_eq, true_and, and_true, Int.reduceNeg]
    refine ⟨bs ++ [decide (a < c)], by simp [bls], ?_⟩
    rw [List.all_append, Bool.and_eq_true, hb]
    constructor
    · rintro ⟨h1, h2⟩ j a' c' hj ea' ec'
      by_cases e : j = i
      · subst e
        rw [ea] at ea'
        rw [ec] at ec'
        cases ea'
        cases ec'
        simpa using h2
      · exact h1 j a' c' (by omega) ea' ec'
    · intro w
      exact ⟨fun j a' c' hj => w j a' c' (by omega), by simpa using w i a c (by omega) ea ec⟩
  · rintro l k ⟨rfl, bs, rfl, hb⟩
    rw [oo_gAll]
    refine ⟨⟨_, rfl, hb.trans ⟨fun w => ⟨is, rfl, fun z => by subst z; exact le rfl, ki, fun j a c ea ec => w j a c ?_ ea ec⟩, fun S j a c _ ea ec => sideP_is S j a c ea ec⟩⟩, rfl⟩
    rw [lp]
    have := hg_lt' ec
    omega
end
end G

namespace G
open PySem PySem.Spec PySem.W PyProof.Rows L2 D
/-! things in later heaps -/
section
variable {L : Nat} {h h' : VH} {v : PV}
theorem CellOk.keep (G : Keep h h') (k : CellOk L h v) : CellOk L h' v := by
  rcases k with k | k | k | k | ⟨n, i, e, hn, q, b⟩
  · exact .inl k
  · exact .inr (.inl k)
  · exact .inr (.inr (.inl k))
  · exact .inr (.inr (.inr (.inl k)))
  · exact .inr (.inr (.inr (.inr ⟨n, i, e, hn, G.2 _ _ q, b⟩)))
theorem RowOk.keep (G : Keep h h') (k : RowOk L h v) : RowOk L h' v := by
  rcases k with k | ⟨cs, e, l, k⟩ | ⟨n, cs, e, hn, q, l, k⟩
  · exact .inl (k.keep G)
  · exact .inr (.inl ⟨cs, e, l, fun x hx => (k x hx).keep G⟩)
  · exact .inr (.inr ⟨n, cs, e, hn, G.2 _ _ q, l, fun x hx => (k x hx).keep G⟩)
theorem Thing.keep (G : Keep h h') (k : Thing L h v) : Thing L h' v := by
  rcases k with ⟨l, e, ll, k⟩ | ⟨n, l, e, hn, q, ll, k⟩ | k | k | k | k | k | ⟨n, e, hn, q⟩
  · exact .inl ⟨l, e, ll, fun x hx => (k x hx).keep G⟩
  · exact .inr (.inl ⟨n, l, e, hn, G.2 _ _ q, ll, fun x hx => (k x hx).keep G⟩)
  · exact .inr (.inr (.inl k))
  · exact .inr (.inr (.inr (.inl k)))
  · exact .inr (.inr (.inr (.inr (.inl k))))
  · exact .inr (.inr (.inr (.inr (.inr (.inl k)))))
  · exact .inr (.inr (.inr (.inr (.inr (.inr (.inl k))))))
  · exact .inr (.inr (.inr (.inr (.inr (.inr (.inr ⟨n, e, hn, q.imp (G.2 _ _) (G.2 _ _)⟩))))))
end
/-! k07: the law's own judgement -/
theorem canLay_of : ∀ {ds : List PyData}, (∀ d ∈ ds, d.canLay0 = true) → PyData.canLayAll0 ds = true
  | [], _ => rfl
  | d :: ds, h => by simp only [PyData.canLayAll0, h d List.mem_cons_self, canLay_of fun x hx => h x (List.mem_cons_of_mem _ hx), Bool.and_self]
section
variable {L n : Nat} {h : VH} {v : PV}
theorem RowOk.lay (k : RowOk L h v) (j : Nat) : ∃ d, pdat (rdat h (j + 2)) v = some d ∧ d.canLay0 = true ∧ d.depth ≤ 3 := by
  rcases k with k | ⟨cs, rfl, l, k⟩ | ⟨n, cs, rfl, hn, q, l, k⟩
  · obtain ⟨d, e, g, c⟩ := k.dat (j + 1)
    have := g.dp
    exact ⟨d, e, c, by omega⟩
  · obtain ⟨ds, e, l2, p⟩ := pdats_all (P := fun d => Gd d 1 10 ∧ d.canLay0 = true) fun x hx => (k x hx).dat (j + 1)
    have dp := (gdAll_of (k := 1) (N := 10) fun d hd => (p d hd).1).dp
    refine ⟨.tuple ds, by simp only [pdat, e], ?_, ?_⟩
    · simp only [PyData.canLay0]
      exact canLay_of fun d hd => (p d hd).2
    · simp only [PyData.depth]
      omega
  · obtain ⟨ds, e, l2, p⟩ := pdats_all (r := rdat h (j + 1)) (P := fun d => Gd d 1 10 ∧ d.canLay0 = true) fun x hx => (k x hx).dat j
    have dp := (gdAll_of (k := 1) (N := 10) fun d hd => (p d hd).1).dp
    refine ⟨.list ds, ?_, ?_, ?_⟩
    · simp only [pdat]
      unfold rdat
      simp only [q, e]
    · simp only [PyData.canLay0]
      exact canLay_of fun d hd => (p d hd).2
    · simp only [PyData.depth]
      omega
theorem depthAll_le {ds : List PyData} {k : Nat} (p : ∀ d ∈ ds, d.depth ≤ k) : PyData.depthAll ds ≤ k := by
  induction ds with
  | nil => exact Nat.zero_le _
  | cons d ds ih =>
    simp only [PyData.depthAll]
    have h1 := p d List.mem_cons_self
    have h2 := ih fun x hx => p x (List.mem_cons_of_mem _ hx)
    omega
theorem oo_neNilR {a b : Nat} {l : List PV} {Q : PV → VH → Prop} (ea : h[a]? = some (.lst l)) (eb : h[b]? = some (.lst [])) (k : ∀ x ∈ l, RowOk L h x) : OO (oNe (.ref a) (.ref b) h) Q = Q (.bl (!l.isEmpty)) h := by
  obtain ⟨ds, e, l2, p⟩ := pdats_all (r := rdat h 3) (P := fun d => d.canLay0 = true ∧ d.depth ≤ 3) fun x hx => (k x hx).lay 1
  have da : dat h (.ref a) = some (.list ds) := by
    simp only [dat, pdat]
    unfold rdat
    simp only [ea, e]
  have db : dat h (.ref b) = some (.list []) := by
    simp only [dat, pdat]
    unfold rdat
    simp only [eb, pdats]
  have dp := depthAll_le fun d hd => (p d hd).2
  have : oNe (.ref a) (.ref b) h = some (.bl (!l.isEmpty), h) := by
    unfold oNe
    simp only [show bothS (.ref a) (.ref b) = none from rfl, da, db]
    rw [if_pos ⟨by
      simp only [SeqAt.shaped, PyData.canLay0, canLay_of fun d hd => (p d hd).1, PyData.depth, Bool.true_and]
      exact decide_eq_true (by omega), by decide +kernel⟩]
    cases ds with
    | nil =>
      cases l with
      | nil => rfl
      | cons _ _ => cases l2
    | cons _ _ =>
      cases l with
      | nil => cases l2
      | cons _ _ => rfl
  rw [this]; with_unfolding_all rfl
theorem oo_eqNilT {l : List PV} {Q : PV → VH → Prop} (k : ∀ x ∈ l, RowOk L h x) : OO (oEq (.tup l) (.tup []) h) Q = Q (.bl l.isEmpty) h := by
  obtain ⟨ds, e, l2, p⟩ := pdats_all (r := rdat h 4) (P := fun d => d.canLay0 = true ∧ d.depth ≤ 3) fun x hx => (k x hx).lay 2
  have da : dat h (.tup l) = some (.tuple ds) := by
    simp only [dat, pdat, e]
  have dp := depthAll_le fun d hd => (p d hd).2
  have : oEq (.tup l) (.tup []) h = some (.bl l.isEmpty, h) := by
    unfold oEq
    simp only [show bothS (.tup l) (.tup []) = none from rfl, da, show dat h (.tup []) = some (.tuple []) from rfl]
    rw [if_pos ⟨by
      simp only [SeqAt.shaped, PyData.canLay0, canLay_of fun d hd => (p d hd).1, PyData.depth, Bool.true_and]
      exact decide_eq_true (by omega), by decide +kernel⟩]
    cases ds with
    | nil =>
      cases l with
      | nil => rfl
      | cons _ _ => cases l2
    | cons _ _ =>
      cases l with
      | nil => cases l2
      | cons _ _ => rfl
  rw [this]; with_unfolding_all rfl
theorem oo_eqNilI {a b : Nat} {is : List Int} {Q : PV → VH → Prop} (ea : h[a]? = some (.lst (intL is))) (eb : h[b]? = some (.lst [])) : OO (oEq (.ref a) (.ref b) h) Q = Q (.bl is.isEmpty) h := by
  have da : dat h (.ref a) = some (.list (is.map PyData.int)) := by
    simp only [dat, pdat]
    unfold rdat
    simp only [ea, pdats_intL]
  have db : dat h (.ref b) = some (.list []) := by
    simp only [dat, pdat]
    unfold rdat
    simp only [eb, pdats]
  have : oEq (.ref a) (.ref b) h = some (.bl is.isEmpty, h) := by
    unfold oEq
    simp only [show bothS (.ref a) (.ref b) = none from rfl, da, db]
    rw [if_pos ⟨by
      simp only [SeqAt.shaped, PyData.canLay0, canLay_ints, PyData.depth, dAll_ints, Bool.true_and]
      decide, by decide +kernel⟩]
    cases is <;> rfl
  rw [this]; with_unfolding_all rfl
theorem wholeR (k : RowOk L h v) : OK (f_law_whole [v] h) fun u h' => u = .bl (isIntP v && !isBolP v) ∧ h' = h := by
  have kn := k.kn
  unfold f_law_whole
  rw [ok_fn0]
  unfold b_law_whole
  try simp (maxSteps := 4000000) only [ok_ret, ok_bnd, ok_lift, ok_var, ok_c, ok_bin, ok_un, ok_asB, ok_and, ok_or, ok_not, ok_chain, ok_nil, ok_cons, ok_tup, ok_lst, ok_fn, ok_tmp, ok_call, ok_meth, ok_tval, ok_tand, ok_tor, ok_tnot, ok_if, ok_pnone, ok_psome, ok_slice, ok_fresh, ok_lcx, ok_body, ok_true, ok_dtmp, ok_dval, ok_rng1, ok_rng2, ok_enum, ok_enumT, ok_zip, ok_gname, ok_gsnil, ok_gscons, ok_gtup, ok_gsub, fo_next, fo_seq, fo_asg, fo_expr, fo_ret, fo_retN, fo_if, fo_break, fo_cont, fo_par, fo_aug, fo_augS, fo_for, fo_body, vr_some, ra1, ra2, in_int, tr_bl, pa2, zp_two, sr_some, wk_tup, wk_rol, wk_str, oo_add, oo_addI, oo_sub, oo_mul, oo_fdiv, oo_mod, oo_pow, oo_shl, oo_shr, oo_and, oo_or, oo_neg, oo_inv, oo_le, oo_gt, oo_ge, oo_lt, oo_eq, oo_ne, oo_eqb, oo_is0, oo_isNot0, oo_nes, oo_eqs, oo_addT, oo_tup, oo_lst, oo_abs, oo_int, oo_intb, oo_max2, oo_min2, oo_max3, oo_min3, oo_lenT, oo_lenR, oo_gTuple, oo_gList, oo_gLen, oo_biT, oo_biR, oo_slT, oo_slR, oo_isaII, oo_isaIB, oo_isaIT, oo_isaIS, oo_isaBI, oo_isaBB, oo_isaBT, oo_isaBS, oo_isaNT, lo_lst, atI_0, atI_1, atI_2, ixN_0, ixN_1, or_ix, ot_ix, ol_ix, or_set, or_len, or_add, or_mul, or_append, or_isLst, or_bi, or_bl, oo_sortSL, or_sl, or_wk, or_sr, ot_sr, or_gtup, oo_neb, oo_isB, oo_isNotB, ok_lr1, ok_lr2, ok_tr1, ok_tr2, or_popAt, List.getElem?_cons_zero, List.getElem?_cons_succ, List.set_cons_zero, List.set_cons_succ, List.map_cons, List.map_nil, List.replicate_succ, List.replicate_zero, List.length_cons, List.length_nil, List.cons_append, List.nil_append, wipeD, if_true, if_false, Bool.false_eq_true, Nat.reduceAdd, Nat.reduceSub, Nat.reduceLeDiff, decide_eq_true_eq, true_and, and_true, Int.reduceNeg, isq_int kn, isq_bol kn]
  cases isIntP v <;> cases isBolP v <;> simp
theorem dueQ (k : Thing L h v) : OK (f_law_due [.int (n : Nat), v] h) fun u h' => (∃ b, u = .bl b ∧ (b = true ↔ SideP n v)) ∧ Keep h h' := by
  have kn := k.kn
  unfold f_law_due
  rw [ok_fn0]
  unfold b_law_due
  refine fo_seqX ?_
  try simp (maxSteps := 4000000) only [ok_ret, ok_bnd, ok_lift, ok_var, ok_c, ok_bin, ok_un, ok_asB, ok_and, ok_or, ok_not, ok_chain, ok_nil, ok_cons, ok_tup, ok_lst, ok_fn, ok_tmp, ok_call, ok_meth, ok_tval, ok_tand, ok_tor, ok_tnot, ok_if, ok_pnone, ok_psome, ok_slice, ok_fresh, ok_lcx, ok_body, ok_true, ok_dtmp, ok_dval, ok_rng1, ok_rng2, ok_enum, ok_enumT, ok_zip, ok_gname, ok_gsnil, ok_gscons, ok_gtup, ok_gsub, fo_next, fo_seq, fo_asg, fo_expr, fo_ret, fo_retN, fo_if, fo_break, fo_cont, fo_par, fo_aug, fo_augS, fo_for, fo_body, vr_some, ra1, ra2, in_int, tr_bl, pa2, zp_two, sr_some, wk_tup, wk_rol, wk_str, oo_add, oo_addI, oo_sub, oo_mul, oo_fdiv, oo_mod, oo_pow, oo_shl, oo_shr, oo_and, oo_or, oo_neg, oo_inv, oo_le, oo_gt, oo_ge, oo_lt, oo_eq, oo_ne, oo_eqb, oo_is0, oo_isNot0, oo_nes, oo_eqs, oo_addT, oo_tup, oo_lst, oo_abs, oo_int, oo_intb, oo_max2, oo_min2, oo_max3, oo_min3, oo_lenT, oo_lenR, oo_gTuple, oo_gList, oo_gLen, oo_biT, oo_biR, oo_slT, oo_slR, oo_isaII, oo_isaIB, oo_isaIT, oo_isaIS, oo_isaBI, oo_isaBB, oo_isaBT, oo_isaBS, oo_isaNT, lo_lst, atI_0, atI_1, atI_2, ixN_0, ixN_1, or_ix, ot_ix, ol_ix, or_set, or_len, or_add, or_mul, or_append, or_isLst, or_bi, or_bl, oo_sortSL, or_sl, or_wk, or_sr, ot_sr, or_gtup, oo_neb, oo_isB, oo_isNotB, ok_lr1, ok_lr2, ok_tr1, ok_tr2, or_popAt, List.getElem?_cons_zero, List.getElem?_cons_succ, List.set_cons_zero, List.set_cons_succ, List.map_cons, List.map_nil, List.replicate_succ, List.replicate_zero, List.length_cons, List.length_nil, List.cons_append, List.nil_append, wipeD, if_true, if_false, Bool.false_eq_true, Nat.reduceAdd, Nat.reduceSub, Nat.reduceLeDiff, decide_eq_true_eq, true_and, and_true, Int.reduceNeg, isq_tup kn]
  by_cases tt : isTupP v = true
  rotate_left
  · have tf : isTupP v = false := by simpa using tt
    rw [tf]
    try simp (maxSteps := 4000000) only [ok_ret, ok_bnd, ok_lift, ok_var, ok_c, ok_bin, ok_un, ok_asB, ok_and, ok_or, ok_not, ok_chain, ok_nil, ok_cons, ok_tup, ok_lst, ok_fn, ok_tmp, ok_call, ok_meth, ok_tval, ok_tand, ok_tor, ok_tnot, ok_if, ok_pnone, ok_psome, ok_slice, ok_fresh, ok_lcx, ok_body, ok_true, ok_dtmp, ok_dval, ok_rng1, ok_rng2, ok_enum, ok_enumT, ok_zip, ok_gname, ok_gsnil, ok_gscons, ok_gtup, ok_gsub, fo_next, fo_seq, fo_asg, fo_expr, fo_ret, fo_retN, fo_if, fo_break, fo_cont, fo_par, fo_aug, fo_augS, fo_for, fo_body, vr_some, ra1, ra2, in_int, tr_bl, pa2, zp_two, sr_some, wk_tup, wk_rol, wk_str, oo_add, oo_addI, oo_sub, oo_mul, oo_fdiv, oo_mod, oo_pow, oo_shl, oo_shr, oo_and, oo_or, oo_neg, oo_inv, oo_le, oo_gt, oo_ge, oo_lt, oo_eq, oo_ne, oo_eqb, oo_is0, oo_isNot0, oo_nes, oo_eqs, oo_addT, oo_tup, oo_lst, oo_abs, oo_int, oo_intb, oo_max2, oo_min2, oo_max3, oo_min3, oo_lenT, oo_lenR, oo_gTuple, oo_gList, oo_gLen, oo_biT, oo_biR, oo_slT, oo_slR, oo_isaII, oo_isaIB, oo_isaIT, oo_isaIS, oo_isaBI, oo_isaBB, oo_isaBT, oo_isaBS, oo_isaNT, lo_lst, atI_0, atI_1, atI_2, ixN_0, ixN_1, or_ix, ot_ix, ol_ix, or_set, or_len, or_add, or_mul, or_append, or_isLst, or_bi, or_bl, oo_sortSL, or_sl, or_wk, or_sr, ot_sr, or_gtup, oo_neb, oo_isB, oo_isNotB, ok_lr1, ok_lr2, ok_tr1, ok_tr2, or_popAt, List.getElem?_cons_zero, List.getElem?_cons_succ, List.set_cons_zero, List.set_cons_succ, List.map_cons, List.map_nil, List.replicate_succ, List.replicate_zero, List.length_cons, List.length_nil, List.cons_append, List.nil_append, wipeD, if_true, if_false, Bool.false_eq_true, Nat.reduceAdd, Nat.reduceSub, Nat.reduceLeDiff, decide_eq_true_eq, true_and, and_true, Int.reduceNeg, Bool.not_false]
    refine ⟨⟨_, rfl, ?_⟩, .refl⟩
    constructor
    · intro z; cases z
    · rintro ⟨is, rfl, _⟩; cases tf
  obtain ⟨l, rfl, ll, kc⟩ : ∃ l, v = .tup l ∧ l.length ≤ 9 ∧ ∀ r ∈ l, RowOk L h r := by
    rcases k with k | ⟨n, l, rfl, hn, q, ll, k⟩ | ⟨i, rfl, b⟩ | ⟨b, rfl⟩ | rfl | rfl | rfl | ⟨n, rfl, hn, q⟩
    · exact k
    all_goals cases tt
  try simp (maxSteps := 4000000) only [ok_ret, ok_bnd, ok_lift, ok_var, ok_c, ok_bin, ok_un, ok_asB, ok_and, ok_or, ok_not, ok_chain, ok_nil, ok_cons, ok_tup, ok_lst, ok_fn, ok_tmp, ok_call, ok_meth, ok_tval, ok_tand, ok_tor, ok_tnot, ok_if, ok_pnone, ok_psome, ok_slice, ok_fresh, ok_lcx, ok_body, ok_true, ok_dtmp, ok_dval, ok_rng1, ok_rng2, ok_enum, ok_enumT, ok_zip, ok_gname, ok_gsnil, ok_gscons, ok_gtup, ok_gsub, fo_next, fo_seq, fo_asg, fo_expr, fo_ret, fo_retN, fo_if, fo_break, fo_cont, fo_par, fo_aug, fo_augS, fo_for, fo_body, vr_some, ra1, ra2, in_int, tr_bl, pa2, zp_two, sr_some, wk_tup, wk_rol, wk_str, oo_add, oo_addI, oo_sub, oo_mul, oo_fdiv, oo_mod, oo_pow, oo_shl, oo_shr, oo_and, oo_or, oo_neg, oo_inv, oo_le, oo_gt, oo_ge, oo_lt, oo_eq, oo_ne, oo_eqb, oo_is0, oo_isNot0, oo_nes, oo_eqs, oo_addT, oo_tup, oo_lst, oo_abs, oo_int, oo_intb, oo_max2, oo_min2, oo_max3, oo_min3, oo_lenT, oo_lenR, oo_gTuple, oo_gList, oo_gLen, oo_biT, oo_biR, oo_slT, oo_slR, oo_isaII, oo_isaIB, oo_isaIT, oo_isaIS, oo_isaBI, oo_isaBB, oo_isaBT, oo_isaBS, oo_isaNT, lo_lst, atI_0, atI_1, atI_2, ixN_0, ixN_1, or_ix, ot_ix, ol_ix, or_set, or_len, or_add, or_mul, or_append, or_isLst, or_bi, or_bl, oo_sortSL, or_sl, or_wk, or_sr, ot_sr, or_gtup, oo_neb, oo_isB, oo_isNotB, ok_lr1, ok_lr2, ok_tr1, ok_tr2, or_popAt, List.getElem?_cons_zero, List.getElem?_cons_succ, List.set_cons_zero, List.set_cons_succ, List.map_cons, List.map_nil, List.replicate_succ, List.replicate_zero, List.length_cons, List.length_nil, List.cons_append, List.nil_append, wipeD, if_true, if_false, Bool.false_eq_true, Nat.reduceAdd, Nat.reduceSub, Nat.reduceLeDiff, decide_eq_true_eq, true_and, and_true, Int.reduceNeg, isTupP, Bool.not_true, oo_eqNilT kc]
  by_cases le : l = []
  · subst le
    rw [if_pos (show ([] : List PV).isEmpty = true from rfl)]
    exact ⟨⟨_, rfl, ⟨fun z => (by cases z), fun S => absurd rfl (sideP_all S).1⟩⟩, .refl⟩
  have l0 : l.length ≠ 0 := fun z => le (List.eq_nil_of_length_eq_zero z)
  rw [if_neg (by simpa using le)]
  refine fox (fo_seqX ?_)
  try simp (maxSteps := 4000000) only [ok_ret, ok_bnd, ok_lift, ok_var, ok_c, ok_bin, ok_un, ok_asB, ok_and, ok_or, ok_not, ok_chain, ok_nil, ok_cons, ok_tup, ok_lst, ok_fn, ok_tmp, ok_call, ok_meth, ok_tval, ok_tand, ok_tor, ok_tnot, ok_if, ok_pnone, ok_psome, ok_slice, ok_fresh, ok_lcx, ok_body, ok_true, ok_dtmp, ok_dval, ok_rng1, ok_rng2, ok_enum, ok_enumT, ok_zip, ok_gname, ok_gsnil, ok_gscons, ok_gtup, ok_gsub, fo_next, fo_seq, fo_asg, fo_expr, fo_ret, fo_retN, fo_if, fo_break, fo_cont, fo_par, fo_aug, fo_augS, fo_for, fo_body, vr_some, ra1, ra2, in_int, tr_bl, pa2, zp_two, sr_some, wk_tup, wk_rol, wk_str, oo_add, oo_addI, oo_sub, oo_mul, oo_fdiv, oo_mod, oo_pow, oo_shl, oo_shr, oo_and, oo_or, oo_neg, oo_inv, oo_le, oo_gt, oo_ge, oo_lt, oo_eq, oo_ne, oo_eqb, oo_is0, oo_isNot0, oo_nes, oo_eqs, oo_addT, oo_tup, oo_lst, oo_abs, oo_int, oo_intb, oo_max2, oo_min2, oo_max3, oo_min3, oo_lenT, oo_lenR, oo_gTuple, oo_gList, oo_gLen, oo_biT, oo_biR, oo_slT, oo_slR, oo_isaII, oo_isaIB, oo_isaIT, oo_isaIS, oo_isaBI, oo_isaBB, oo_isaBT, oo_isaBS, oo_isaNT, lo_lst, atI_0, atI_1, atI_2, ixN_0, ixN_1, or_ix, ot_ix, ol_ix, or_set, or_len, or_add, or_mul, or_append, or_isLst, or_bi, or_bl, oo_sortSL, or_sl, or_wk, or_sr, ot_sr, or_gtup, oo_neb, oo_isB, oo_isNotB, ok_lr1, ok_lr2, ok_tr1, ok_tr2, or_popAt, List.getElem?_cons_zero, List.getElem?_cons_succ, List.set_cons_zero, List.set_cons_succ, List.map_cons, List.map_nil, List.replicate_succ, List.replicate_zero, List.length_cons, List.length_nil, List.cons_append, List.nil_append, wipeD, if_true, if_false, Bool.false_eq_true, Nat.reduceAdd, Nat.reduceSub, Nat.reduceLeDiff, decide_eq_true_eq, true_and, and_true, Int.reduceNeg]
  refine ⟨by omega, ?_⟩
  refine OK.mono (ok_lc0 (fun j acc h' => h' = h ∧ acc = (l.take j).filter fun c => !houseB n c) ⟨rfl, rfl⟩ (fun _ _ _ _ _ => rfl) ?_ fun _ _ q => q) ?_
  · rintro j x acc h' hx ⟨rfl, rfl⟩
    have kx := kc x (List.mem_of_getElem? hx)
    try simp (maxSteps := 4000000) only [ok_ret, ok_bnd, ok_lift, ok_var, ok_c, ok_bin, ok_un, ok_asB, ok_and, ok_or, ok_not, ok_chain, ok_nil, ok_cons, ok_tup, ok_lst, ok_fn, ok_tmp, ok_call, ok_meth, ok_tval, ok_tand, ok_tor, ok_tnot, ok_if, ok_pnone, ok_psome, ok_slice, ok_fresh, ok_lcx, ok_body, ok_true, ok_dtmp, ok_dval, ok_rng1, ok_rng2, ok_enum, ok_enumT, ok_zip, ok_gname, ok_gsnil, ok_gscons, ok_gtup, ok_gsub, fo_next, fo_seq, fo_asg, fo_expr, fo_ret, fo_retN, fo_if, fo_break, fo_cont, fo_par, fo_aug, fo_augS, fo_for, fo_body, vr_some, ra1, ra2, in_int, tr_bl, pa2, zp_two, sr_some, wk_tup, wk_rol, wk_str, oo_add, oo_addI, oo_sub, oo_mul, oo_fdiv, oo_mod, oo_pow, oo_shl, oo_shr, oo_and, oo_or, oo_neg, oo_inv, oo_le, oo_gt, oo_ge, oo_lt, oo_eq, oo_ne, oo_eqb, oo_is0, oo_isNot0, oo_nes, oo_eqs, oo_addT, oo_tup, oo_lst, oo_abs, oo_int, oo_intb, oo_max2, oo_min2, oo_max3, oo_min3, oo_lenT, oo_lenR, oo_gTuple, oo_gList, oo_gLen, oo_biT, oo_biR, oo_slT, oo_slR, oo_isaII, oo_isaIB, oo_isaIT, oo_isaIS, oo_isaBI, oo_isaBB, oo_isaBT, oo_isaBS, oo_isaNT, lo_lst, atI_0, atI_1, atI_2, ixN_0, ixN_1, or_ix, ot_ix, ol_ix, or_set, or_len, or_add, or_mul, or_append, or_isLst, or_bi, or_bl, oo_sortSL, or_sl, or_wk, or_sr, ot_sr, or_gtup, oo_neb, oo_isB, oo_isNotB, ok_lr1, ok_lr2, ok_tr1, ok_tr2, or_popAt, List.getElem?_cons_zero, List.getElem?_cons_succ, List.set_cons_zero, List.set_cons_succ, List.map_cons, List.map_nil, List.replicate_succ, List.replicate_zero, List.length_cons, List.length_nil, List.cons_append, List.nil_append, wipeD, if_true, if_false, Bool.false_eq_true, Nat.reduceAdd, Nat.reduceSub, Nat.reduceLeDiff, decide_eq_true_eq, true_and, and_true, Int.reduceNeg]
    refine OK.mono (wholeR kx) ?_
    rintro u h3 ⟨rfl, rfl⟩
    have e3 : (l.take (j + 1)).filter (fun c => !houseB n c) = (l.take j).filter (fun c => !houseB n c) ++ (if (!houseB n x) = true then [x] else []) := by
      rw [List.take_add_one, hx, List.filter_append]
      cases h9 : houseB n x <;> simp [h9]
    rw [e3]
    rcases row_kind (n := n) kx with ⟨i, rfl⟩ | ⟨z | z, e⟩
    · rw [show houseB n (.int i) = (decide (1 ≤ i) && decide (i < (n : Int))) from rfl]
      try simp (maxSteps := 4000000) only [ok_ret, ok_bnd, ok_lift, ok_var, ok_c, ok_bin, ok_un, ok_asB, ok_and, ok_or, ok_not, ok_chain, ok_nil, ok_cons, ok_tup, ok_lst, ok_fn, ok_tmp, ok_call, ok_meth, ok_tval, ok_tand, ok_tor, ok_tnot, ok_if, ok_pnone, ok_psome, ok_slice, ok_fresh, ok_lcx, ok_body, ok_true, ok_dtmp, ok_dval, ok_rng1, ok_rng2, ok_enum, ok_enumT, ok_zip, ok_gname, ok_gsnil, ok_gscons, ok_gtup, ok_gsub, fo_next, fo_seq, fo_asg, fo_expr, fo_ret, fo_retN, fo_if, fo_break, fo_cont, fo_par, fo_aug, fo_augS, fo_for, fo_body, vr_some, ra1, ra2, in_int, tr_bl, pa2, zp_two, sr_some, wk_tup, wk_rol, wk_str, oo_add, oo_addI, oo_sub, oo_mul, oo_fdiv, oo_mod, oo_pow, oo_shl, oo_shr, oo_and, oo_or, oo_neg, oo_inv, oo_le, oo_gt, oo_ge, oo_lt, oo_eq, oo_ne, oo_eqb, oo_is0, oo_isNot0, oo_nes, oo_eqs, oo_addT, oo_tup, oo_lst, oo_abs, oo_int, oo_intb, oo_max2, oo_min2, oo_max3, oo_min3, oo_lenT, oo_lenR, oo_gTuple, oo_gList, oo_gLen, oo_biT, oo_biR, oo_slT, oo_slR, oo_isaII, oo_isaIB, oo_isaIT, oo_isaIS, oo_isaBI, oo_isaBB, oo_isaBT, oo_isaBS, oo_isaNT, lo_lst, atI_0, atI_1, atI_2, ixN_0, ixN_1, or_ix, ot_ix, ol_ix, or_set, or_len, or_add, or_mul, or_append, or_isLst, or_bi, or_bl, oo_sortSL, or_sl, or_wk, or_sr, ot_sr, or_gtup, oo_neb, oo_isB, oo_isNotB, ok_lr1, ok_lr2, ok_tr1, ok_tr2, or_popAt, List.getElem?_cons_zero, List.getElem?_cons_succ, List.set_cons_zero, List.set_cons_succ, List.map_cons, List.map_nil, List.replicate_succ, List.replicate_zero, List.length_cons, List.length_nil, List.cons_append, List.nil_append, wipeD, if_true, if_false, Bool.false_eq_true, Nat.reduceAdd, Nat.reduceSub, Nat.reduceLeDiff, decide_eq_true_eq, true_and, and_true, Int.reduceNeg, isIntP, isBolP, Bool.not_false, Bool.not_true, Bool.and_self]
      by_cases c0 : 0 < i
      · rw [if_pos c0]
        by_cases c1 : i < (n : Int)
        · simp [c1]; omega
        · simp [c1]
      · rw [if_neg c0]
        have : ¬ 1 ≤ i := by omega
        simp [this]
    · rw [z, e]
      try simp (maxSteps := 4000000) only [ok_ret, ok_bnd, ok_lift, ok_var, ok_c, ok_bin, ok_un, ok_asB, ok_and, ok_or, ok_not, ok_chain, ok_nil, ok_cons, ok_tup, ok_lst, ok_fn, ok_tmp, ok_call, ok_meth, ok_tval, ok_tand, ok_tor, ok_tnot, ok_if, ok_pnone, ok_psome, ok_slice, ok_fresh, ok_lcx, ok_body, ok_true, ok_dtmp, ok_dval, ok_rng1, ok_rng2, ok_enum, ok_enumT, ok_zip, ok_gname, ok_gsnil, ok_gscons, ok_gtup, ok_gsub, fo_next, fo_seq, fo_asg, fo_expr, fo_ret, fo_retN, fo_if, fo_break, fo_cont, fo_par, fo_aug, fo_augS, fo_for, fo_body, vr_some, ra1, ra2, in_int, tr_bl, pa2, zp_two, sr_some, wk_tup, wk_rol, wk_str, oo_add, oo_addI, oo_sub, oo_mul, oo_fdiv, oo_mod, oo_pow, oo_shl, oo_shr, oo_and, oo_or, oo_neg, oo_inv, oo_le, oo_gt, oo_ge, oo_lt, oo_eq, oo_ne, oo_eqb, oo_is0, oo_isNot0, oo_nes, oo_eqs, oo_addT, oo_tup, oo_lst, oo_abs, oo_int, oo_intb, oo_max2, oo_min2, oo_max3, oo_min3, oo_lenT, oo_lenR, oo_gTuple, oo_gList, oo_gLen, oo_biT, oo_biR, oo_slT, oo_slR, oo_isaII, oo_isaIB, oo_isaIT, oo_isaIS, oo_isaBI, oo_isaBB, oo_isaBT, oo_isaBS, oo_isaNT, lo_lst, atI_0, atI_1, atI_2, ixN_0, ixN_1, or_ix, ot_ix, ol_ix, or_set, or_len, or_add, or_mul, or_append, or_isLst, or_bi, or_bl, oo_sortSL, or_sl, or_wk, or_sr, ot_sr, or_gtup, oo_neb, oo_isB, oo_isNotB, ok_lr1, ok_lr2, ok_tr1, ok_tr2, or_popAt, List.getElem?_cons_zero, List.getElem?_cons_succ, List.set_cons_zero, List.set_cons_succ, List.map_cons, List.map_nil, List.replicate_succ, List.replicate_zero, List.length_cons, List.length_nil, List.cons_append, List.nil_append, wipeD, if_true, if_false, Bool.false_eq_true, Nat.reduceAdd, Nat.reduceSub, Nat.reduceLeDiff, decide_eq_true_eq, true_and, and_true, Int.reduceNeg, Bool.false_and, Bool.not_false]
    · rw [z, e]
      try simp (maxSteps := 4000000) only [ok_ret, ok_bnd, ok_lift, ok_var, ok_c, ok_bin, ok_un, ok_asB, ok_and, ok_or, ok_not, ok_chain, ok_nil, ok_cons, ok_tup, ok_lst, ok_fn, ok_tmp, ok_call, ok_meth, ok_tval, ok_tand, ok_tor, ok_tnot, ok_if, ok_pnone, ok_psome, ok_slice, ok_fresh, ok_lcx, ok_body, ok_true, ok_dtmp, ok_dval, ok_rng1, ok_rng2, ok_enum, ok_enumT, ok_zip, ok_gname, ok_gsnil, ok_gscons, ok_gtup, ok_gsub, fo_next, fo_seq, fo_asg, fo_expr, fo_ret, fo_retN, fo_if, fo_break, fo_cont, fo_par, fo_aug, fo_augS, fo_for, fo_body, vr_some, ra1, ra2, in_int, tr_bl, pa2, zp_two, sr_some, wk_tup, wk_rol, wk_str, oo_add, oo_addI, oo_sub, oo_mul, oo_fdiv, oo_mod, oo_pow, oo_shl, oo_shr, oo_and, oo_or, oo_neg, oo_inv, oo_le, oo_gt, oo_ge, oo_lt, oo_eq, oo_ne, oo_eqb, oo_is0, oo_isNot0, oo_nes, oo_eqs, oo_addT, oo_tup, oo_lst, oo_abs, oo_int, oo_intb, oo_max2, oo_min2, oo_max3, oo_min3, oo_lenT, oo_lenR, oo_gTuple, oo_gList, oo_gLen, oo_biT, oo_biR, oo_slT, oo_slR, oo_isaII, oo_isaIB, oo_isaIT, oo_isaIS, oo_isaBI, oo_isaBB, oo_isaBT, oo_isaBS, oo_isaNT, lo_lst, atI_0, atI_1, atI_2, ixN_0, ixN_1, or_ix, ot_ix, ol_ix, or_set, or_len, or_add, or_mul, or_append, or_isLst, or_bi, or_bl, oo_sortSL, or_sl, or_wk, or_sr, ot_sr, or_gtup, oo_neb, oo_isB, oo_isNotB, ok_lr1, ok_lr2, ok_tr1, ok_tr2, or_popAt, List.getElem?_cons_zero, List.getElem?_cons_succ, List.set_cons_zero, List.set_cons_succ, List.map_cons, List.map_nil, List.replicate_succ, List.replicate_zero, List.length_cons, List.length_nil, List.cons_append, List.nil_append, wipeD, if_true, if_false, Bool.false_eq_true, Nat.reduceAdd, Nat.reduceSub, Nat.reduceLeDiff, decide_eq_true_eq, true_and, and_true, Int.reduceNeg, Bool.not_true, Bool.and_false, Bool.not_false]
  rintro l2 h' ⟨rfl, rfl⟩
  rw [List.take_length]
  have K3 : Keep h' ((h' ++ [VO.lst (l.filter fun c => !houseB n c)]) ++ [VO.lst []]) := .trans .app .app
  rw [oo_neNilR (L := L) (hg_app hg_new) hg_new fun x hx => (kc x (List.mem_filter.mp hx).1).keep K3]
  have e4 : (l.filter fun c => !houseB n c).isEmpty = l.all (houseB n) := by
    rw [Bool.eq_iff_iff, List.isEmpty_iff, List.filter_eq_nil_iff, List.all_eq_true]
    simp
  rw [e4]
  try simp (maxSteps := 4000000) only [ok_ret, ok_bnd, ok_lift, ok_var, ok_c, ok_bin, ok_un, ok_asB, ok_and, ok_or, ok_not, ok_chain, ok_nil, ok_cons, ok_tup, ok_lst, ok_fn, ok_tmp, ok_call, ok_meth, ok_tval, ok_tand, ok_tor, ok_tnot, ok_if, ok_pnone, ok_psome, ok_slice, ok_fresh, ok_lcx, ok_body, ok_true, ok_dtmp, ok_dval, ok_rng1, ok_rng2, ok_enum, ok_enumT, ok_zip, ok_gname, ok_gsnil, ok_gscons, ok_gtup, ok_gsub, fo_next, fo_seq, fo_asg, fo_expr, fo_ret, fo_retN, fo_if, fo_break, fo_cont, fo_par, fo_aug, fo_augS, fo_for, fo_body, vr_some, ra1, ra2, in_int, tr_bl, pa2, zp_two, sr_some, wk_tup, wk_rol, wk_str, oo_add, oo_addI, oo_sub, oo_mul, oo_fdiv, oo_mod, oo_pow, oo_shl, oo_shr, oo_and, oo_or, oo_neg, oo_inv, oo_le, oo_gt, oo_ge, oo_lt, oo_eq, oo_ne, oo_eqb, oo_is0, oo_isNot0, oo_nes, oo_eqs, oo_addT, oo_tup, oo_lst, oo_abs, oo_int, oo_intb, oo_max2, oo_min2, oo_max3, oo_min3, oo_lenT, oo_lenR, oo_gTuple, oo_gList, oo_gLen, oo_biT, oo_biR, oo_slT, oo_slR, oo_isaII, oo_isaIB, oo_isaIT, oo_isaIS, oo_isaBI, oo_isaBB, oo_isaBT, oo_isaBS, oo_isaNT, lo_lst, atI_0, atI_1, atI_2, ixN_0, ixN_1, or_ix, ot_ix, ol_ix, or_set, or_len, or_add, or_mul, or_append, or_isLst, or_bi, or_bl, oo_sortSL, or_sl, or_wk, or_sr, ot_sr, or_gtup, oo_neb, oo_isB, oo_isNotB, ok_lr1, ok_lr2, ok_tr1, ok_tr2, or_popAt, List.getElem?_cons_zero, List.getElem?_cons_succ, List.set_cons_zero, List.set_cons_succ, List.map_cons, List.map_nil, List.replicate_succ, List.replicate_zero, List.length_cons, List.length_nil, List.cons_append, List.nil_append, wipeD, if_true, if_false, Bool.false_eq_true, Nat.reduceAdd, Nat.reduceSub, Nat.reduceLeDiff, decide_eq_true_eq, true_and, and_true, Int.reduceNeg]
  by_cases ah : l.all (houseB n) = true
  rotate_left
  · rw [if_pos (by simpa using ah)]
    refine ⟨⟨_, rfl, ?_⟩, K3⟩
    constructor
    · intro z; cases z
    · intro S
      exact absurd (sideP_all S).2 ah
  rw [if_neg (by rw [ah]; decide)]
  generalize ((h' ++ [VO.lst (l.filter fun c => !houseB n c)]) ++ [VO.lst []]) = h4 at K3
  obtain ⟨is, rfl, ki⟩ := houses_int ah
  refine fox ?_
  try simp (maxSteps := 4000000) only [ok_ret, ok_bnd, ok_lift, ok_var, ok_c, ok_bin, ok_un, ok_asB, ok_and, ok_or, ok_not, ok_chain, ok_nil, ok_cons, ok_tup, ok_lst, ok_fn, ok_tmp, ok_call, ok_meth, ok_tval, ok_tand, ok_tor, ok_tnot, ok_if, ok_pnone, ok_psome, ok_slice, ok_fresh, ok_lcx, ok_body, ok_true, ok_dtmp, ok_dval, ok_rng1, ok_rng2, ok_enum, ok_enumT, ok_zip, ok_gname, ok_gsnil, ok_gscons, ok_gtup, ok_gsub, fo_next, fo_seq, fo_asg, fo_expr, fo_ret, fo_retN, fo_if, fo_break, fo_cont, fo_par, fo_aug, fo_augS, fo_for, fo_body, vr_some, ra1, ra2, in_int, tr_bl, pa2, zp_two, sr_some, wk_tup, wk_rol, wk_str, oo_add, oo_addI, oo_sub, oo_mul, oo_fdiv, oo_mod, oo_pow, oo_shl, oo_shr, oo_and, oo_or, oo_neg, oo_inv, oo_le, oo_gt, oo_ge, oo_lt, oo_eq, oo_ne, oo_eqb, oo_is0, oo_isNot0, oo_nes, oo_eqs, oo_addT, oo_tup, oo_lst, oo_abs, oo_int, oo_intb, oo_max2, oo_min2, oo_max3, oo_min3, oo_lenT, oo_lenR, oo_gTuple, oo_gList, oo_gLen, oo_biT, oo_biR, oo_slT, oo_slR, oo_isaII, oo_isaIB, oo_isaIT, oo_isaIS, oo_isaBI, oo_isaBB, oo_isaBT, oo_isaBS, oo_isaNT, lo_lst, atI_0, atI_1, atI_2, ixN_0, ixN_1, or_ix, ot_ix, ol_ix, or_set, or_len, or_add, or_mul, or_append, or_isLst, or_bi, or_bl, oo_sortSL, or_sl, or_wk, or_sr, ot_sr, or_gtup, oo_neb, oo_isB, oo_isNotB, ok_lr1, ok_lr2, ok_tr1, ok_tr2, or_popAt, List.getElem?_cons_zero, List.getElem?_cons_succ, List.set_cons_zero, List.set_cons_succ, List.map_cons, List.map_nil, List.replicate_succ, List.replicate_zero, List.length_cons, List.length_nil, List.cons_append, List.nil_append, wipeD, if_true, if_false, Bool.false_eq_true, Nat.reduceAdd, Nat.reduceSub, Nat.reduceLeDiff, decide_eq_true_eq, true_and, and_true, Int.reduceNeg]
  rw [intL_len] at ll l0
  rw [intL_len]
  refine ⟨⟨by omega, by omega⟩, by rw [rng_len]; omega, ?_⟩
  refine OK.mono (ok_lc0 (fun i acc k => k = h4 ∧ ∃ ks : List Int, acc = intL ks ∧ (ks = [] ↔ ∀ j a c, j < i → is[j]? = some a → is[j + 1]? = some c → a < c)) ⟨rfl, [], rfl, by simp⟩ (fun _ _ _ _ _ => rfl) ?_ fun _ _ q => q) ?_
  · rintro i x acc k hx ⟨rfl, ks, rfl, hb⟩
    obtain ⟨hi, rfl⟩ := rng0_get hx
    have i1 : i < is.length := by omega
    have i2 : i + 1 < is.length := by omega
    try simp (maxSteps := 4000000) only [ok_ret, ok_bnd, ok_lift, ok_var, ok_c, ok_bin, ok_un, ok_asB, ok_and, ok_or, ok_not, ok_chain, ok_nil, ok_cons, ok_tup, ok_lst, ok_fn, ok_tmp, ok_call, ok_meth, ok_tval, ok_tand, ok_tor, ok_tnot, ok_if, ok_pnone, ok_psome, ok_slice, ok_fresh, ok_lcx, ok_body, ok_true, ok_dtmp, ok_dval, ok_rng1, ok_rng2, ok_enum, ok_enumT, ok_zip, ok_gname, ok_gsnil, ok_gscons, ok_gtup, ok_gsub, fo_next, fo_seq, fo_asg, fo_expr, fo_ret, fo_retN, fo_if, fo_break, fo_cont, fo_par, fo_aug, fo_augS, fo_for, fo_body, vr_some, ra1, ra2, in_int, tr_bl, pa2, zp_two, sr_some, wk_tup, wk_rol, wk_str, oo_add, oo_addI, oo_sub, oo_mul, oo_fdiv, oo_mod, oo_pow, oo_shl, oo_shr, oo_and, oo_or, oo_neg, oo_inv, oo_le, oo_gt, oo_ge, oo_lt, oo_eq, oo_ne, oo_eqb, oo_is0, oo_isNot0, oo_nes, oo_eqs, oo_addT, oo_tup, oo_lst, oo_abs, oo_int, oo_intb, oo_max2, oo_min2, oo_max3, oo_min3, oo_lenT, oo_lenR, oo_gTuple, oo_gList, oo_gLen, oo_biT, oo_biR, oo_slT, oo_slR, oo_isaII, oo_isaIB, oo_isaIT, oo_isaIS, oo_isaBI, oo_isaBB, oo_isaBT, oo_isaBS, oo_isaNT, lo_lst, atI_0, atI_1, atI_2, ixN_0, ixN_1, or_ix, ot_ix, ol_ix, or_set, or_len, or_add, or_mul, or_append, or_isLst, or_bi, or_bl, oo_sortSL, or_sl, or_wk, or_sr, ot_sr, or_gtup, oo_neb, oo_isB, oo_isNotB, ok_lr1, ok_lr2, ok_tr1, ok_tr2, or_popAt, List.getElem?_cons_zero, List.getElem?_cons_succ, List.set_cons_zero, List.set_cons_succ, List.map_cons, List.map_nil, List.replicate_succ, List.replicate_zero, List.length_cons, List.length_nil, List.cons_append, List.nil_append, wipeD, if_true, if_false, Bool.false_eq_true, Nat.reduceAdd, Nat.reduceSub, Nat.reduceLeDiff, decide_eq_true_eq, true_and, and_true, Int.reduceNeg]
    refine atI_nat' (intL_get i1) ?_
    rw [show ((i : Nat) : Int) + 1 = ((i + 1 : Nat) : Int) by omega]
    refine atI_nat' (intL_get i2) ?_
    try simp (maxSteps := 4000000) only [ok_ret, ok_bnd, ok_lift, ok_var, ok_c, ok_bin, ok_un, ok_asB, ok_and, ok_or, ok_not, ok_chain, ok_nil, ok_cons, ok_tup, ok_lst, ok_fn, ok_tmp, ok_call, ok_meth, ok_tval, ok_tand, ok_tor, ok_tnot, ok_if, ok_pnone, ok_psome, ok_slice, ok_fresh, ok_lcx, ok_body, ok_true, ok_dtmp, ok_dval, ok_rng1, ok_rng2, ok_enum, ok_enumT, ok_zip, ok_gname, ok_gsnil, ok_gscons, ok_gtup, ok_gsub, fo_next, fo_seq, fo_asg, fo_expr, fo_ret, fo_retN, fo_if, fo_break, fo_cont, fo_par, fo_aug, fo_augS, fo_for, fo_body, vr_some, ra1, ra2, in_int, tr_bl, pa2, zp_two, sr_some, wk_tup, wk_rol, wk_str, oo_add, oo_addI, oo_sub, oo_mul, oo_fdiv, oo_mod, oo_pow, oo_shl, oo_shr, oo_and, oo_or, oo_neg, oo_inv, oo_le, oo_gt, oo_ge, oo_lt, oo_eq, oo_ne, oo_eqb, oo_is0, oo_isNot0, oo_nes, oo_eqs, oo_addT, oo_tup, oo_lst, oo_abs, oo_int, oo_intb, oo_max2, oo_min2, oo_max3, oo_min3, oo_lenT, oo_lenR, oo_gTuple, oo_gList, oo_gLen, oo_biT, oo_biR, oo_slT, oo_slR, oo_isaII, oo_isaIB, oo_isaIT, oo_isaIS, oo_isaBI, oo_isaBB, oo_isaBT, oo_isaBS, oo_isaNT, lo_lst, atI_0, atI_1, atI_2, ixN_0, ixN_1, or_ix, ot_ix, ol_ix, or_set, or_len, or_add, or_mul, or_append, or_isLst, or_bi, or_bl, oo_sortSL, or_sl, or_wk, or_sr, ot_sr, or_gtup, oo_neb, oo_isB, oo_isNotB, ok_lr1, ok_lr2, ok_tr1, ok_tr2, or_popAt, List.getElem?_cons_zero, List.getElem?_cons_succ, List.set_cons_zero, List.set_cons_succ, List.map_cons, List.map_nil, List.replicate_succ, List.replicate_zero, List.length_cons, List.length_nil, List.cons_append, List.nil_append, wipeD, if_true, if_false, Bool.false_eq_true, Nat.reduceAdd, Nat.reduceSub, Nat.reduceLeDiff, decide_eq_true_eq, true_and, and_true, Int.reduceNeg]
    have ea : is[i]? = some is[i] := List.getElem?_eq_getElem i1
    have ec : is[i + 1]? = some is[i + 1] := List.getElem?_eq_getElem i2
    generalize is[i] = a at ea
    generalize is[i + 1] = c at ec
    split
    · rename_i w
      refine ⟨ks ++ [(i : Int)], by simp [intL], ?_⟩
      constructor
      · intro z; simp at z
      · intro z
        have := z i a c (by omega) ea ec
        omega
    · rename_i w
      refine ⟨ks, by simp, hb.trans ⟨fun z j a' c' hj ea' ec' => ?_, fun z j a' c' hj => z j a' c' (by omega)⟩⟩
      by_cases e : j = i
      · subst e
        rw [ea] at ea'
        rw [ec] at ec'
        cases ea'
        cases ec'
        omega
      · exact z j a' c' (by omega) ea' ec'
  · rintro l k ⟨rfl, ks, rfl, hb⟩
    rw [oo_eqNilI (hg_app hg_new) hg_new]
    refine ⟨⟨_, rfl, List.isEmpty_iff.trans (hb.trans ⟨fun w => ⟨is, rfl, fun z => by subst z; exact le rfl, ki, fun j a c ea ec => w j a c ?_ ea ec⟩, fun S j a c _ ea ec => sideP_is S j a c ea ec⟩)⟩, K3.trans (Keep.app.trans .app)⟩
    rw [rng_len]
    have := hg_lt' ec
    omega
end
end G

namespace G
open PySem PySem.Spec PySem.W PyProof.Rows L2 D
/-! tables alike -/
theorem eqvAll_ints : ∀ a b : List Int, PyData.eqvAll (a.map PyData.int) (b.map PyData.int) = decide (a = b)
  | [], [] => rfl
  | [], _ :: _ => rfl
  | _ :: _, [] => rfl
  | x :: a, y :: b => by
    rw [List.map_cons, List.map_cons, PyData.eqvAll, eqv_int, eqvAll_ints a b, ← Bool.decide_and]
    exact decide_eq_decide.mpr (by rw [List.cons.injEq])
theorem eqvAll_rows : ∀ a b : List (List Int), PyData.eqvAll (a.map fun r => PyData.tuple (r.map PyData.int)) (b.map fun r => PyData.tuple (r.map PyData.int)) = decide (a = b)
  | [], [] => rfl
  | [], _ :: _ => rfl
  | _ :: _, [] => rfl
  | x :: a, y :: b => by
    rw [List.map_cons, List.map_cons, PyData.eqvAll, eqvAll_rows a b, PyData.eqv, eqvAll_ints, ← Bool.decide_and]
    exact decide_eq_decide.mpr (by rw [List.cons.injEq])
theorem canLay_rows : ∀ t : List (List Int), PyData.canLayAll0 (t.map fun r => PyData.tuple (r.map PyData.int)) = true
  | [] => rfl
  | n :: ns => by simp only [List.map_cons, PyData.canLayAll0, PyData.canLay0, canLay_ints, canLay_rows ns, Bool.and_self]
theorem depthAll_rows : ∀ t : List (List Int), PyData.depthAll (t.map fun r => PyData.tuple (r.map PyData.int)) ≤ 1
  | [] => Nat.zero_le _
  | n :: ns => by
    have := depthAll_rows ns
    simp only [List.map_cons, PyData.depthAll, PyData.depth, dAll_ints]
    omega
theorem shaped_tab (t : List (List Int)) : SeqAt.shaped (tabD t) = true := by
  have := depthAll_rows t
  simp only [SeqAt.shaped, tabD, PyData.canLay0, canLay_rows, PyData.depth, Bool.true_and]
  exact decide_eq_true (by omega)
section
variable {Q : PV → VH → Prop} {h : VH}
theorem oo_eqTab {s t : List (List Int)} : OO (oEq (tabV s) (tabV t) h) Q = Q (.bl (decide (s = t))) h := by
  have : oEq (tabV s) (tabV t) h = some (.bl (decide (s = t)), h) := by
    unfold oEq
    simp only [show bothS (tabV s) (tabV t) = none from rfl, dat_tab]
    rw [if_pos ⟨shaped_tab s, shaped_tab t⟩]
    unfold tabD
    rw [PyData.eqv, eqvAll_rows]
  rw [this]; with_unfolding_all rfl
theorem oo_neTab {s t : List (List Int)} : OO (oNe (tabV s) (tabV t) h) Q = Q (.bl (!decide (s = t))) h := by
  have : oNe (tabV s) (tabV t) h = some (.bl (!decide (s = t)), h) := by
    unfold oNe
    simp only [show bothS (tabV s) (tabV t) = none from rfl, dat_tab]
    rw [if_pos ⟨shaped_tab s, shaped_tab t⟩]
    unfold tabD
    rw [PyData.eqv, eqvAll_rows]
  rw [this]; with_unfolding_all rfl
end
/-! odd things -/
section
variable {L d c n : Nat} {B : Int} {h : VH}
theorem odd_spec (dl : d < L) (cl : c < L) (hL : L ≤ h.length) (hB : B < 2 ^ 38) (D : Deck d c B h) :
    OK (f_law_odd [.ref d] h) fun v h' => Deck d c (B + 1) h' ∧ Grow d c h h' ∧ Thing L h' v := by
  unfold f_law_odd
  rw [ok_fn0]
  unfold b_law_odd
  try simp (maxSteps := 4000000) only [ok_ret, ok_bnd, ok_lift, ok_var, ok_c, ok_bin, ok_un, ok_asB, ok_and, ok_or, ok_not, ok_chain, ok_nil, ok_cons, ok_tup, ok_lst, ok_fn, ok_tmp, ok_call, ok_meth, ok_tval, ok_tand, ok_tor, ok_tnot, ok_if, ok_pnone, ok_psome, ok_slice, ok_fresh, ok_lcx, ok_body, ok_true, ok_dtmp, ok_dval, ok_rng1, ok_rng2, ok_enum, ok_enumT, ok_zip, ok_gname, ok_gsnil, ok_gscons, ok_gtup, ok_gsub, fo_next, fo_seq, fo_asg, fo_expr, fo_ret, fo_retN, fo_if, fo_break, fo_cont, fo_par, fo_aug, fo_augS, fo_for, fo_body, vr_some, ra1, ra2, in_int, tr_bl, pa2, zp_two, sr_some, wk_tup, wk_rol, wk_str, oo_add, oo_addI, oo_sub, oo_mul, oo_fdiv, oo_mod, oo_pow, oo_shl, oo_shr, oo_and, oo_or, oo_neg, oo_inv, oo_le, oo_gt, oo_ge, oo_lt, oo_eq, oo_ne, oo_eqb, oo_is0, oo_isNot0, oo_nes, oo_eqs, oo_addT, oo_tup, oo_lst, oo_abs, oo_int, oo_intb, oo_max2, oo_min2, oo_max3, oo_min3, oo_lenT, oo_lenR, oo_gTuple, oo_gList, oo_gLen, oo_biT, oo_biR, oo_slT, oo_slR, oo_isaII, oo_isaIB, oo_isaIT, oo_isaIS, oo_isaBI, oo_isaBB, oo_isaBT, oo_isaBS, oo_isaNT, lo_lst, atI_0, atI_1, atI_2, ixN_0, ixN_1, or_ix, ot_ix, ol_ix, or_set, or_len, or_add, or_mul, or_append, or_isLst, or_bi, or_bl, oo_sortSL, or_sl, or_wk, or_sr, ot_sr, or_gtup, oo_neb, oo_isB, oo_isNotB, ok_lr1, ok_lr2, ok_tr1, ok_tr2, or_popAt, List.getElem?_cons_zero, List.getElem?_cons_succ, List.set_cons_zero, List.set_cons_succ, List.map_cons, List.map_nil, List.replicate_succ, List.replicate_zero, List.length_cons, List.length_nil, List.cons_append, List.nil_append, wipeD, if_true, if_false, Bool.false_eq_true, Nat.reduceAdd, Nat.reduceSub, Nat.reduceLeDiff, decide_eq_true_eq, true_and, and_true, Int.reduceNeg, ok_newD, ok_dispS]
  refine ⟨by decide, by decide, ?_⟩
  have b15 : ((10 : Int) ^ Int.toNat 15 + 1).natAbs < 2 ^ 1000 := Nat.lt_of_lt_of_le (show ((10 : Int) ^ Int.toNat 15 + 1).natAbs < 2 ^ 100 by decide) (Nat.pow_le_pow_right (by decide) (by decide))
  have b29 : ((10 : Int) ^ Int.toNat 29).natAbs < 2 ^ 1000 := Nat.lt_of_lt_of_le (show ((10 : Int) ^ Int.toNat 29).natAbs < 2 ^ 100 by decide) (Nat.pow_le_pow_right (by decide) (by decide))
  have bs : ∀ i : Int, -5 ≤ i → i ≤ 5 → i.natAbs < 2 ^ 1000 := fun i h1 h2 => Nat.lt_of_lt_of_le (show i.natAbs < 2 ^ 8 by omega) (Nat.pow_le_pow_right (by decide) (by decide))
  generalize (10 : Int) ^ Int.toNat 15 + 1 = x15 at b15
  generalize (10 : Int) ^ Int.toNat 29 = x29 at b29
  have D4 := (((D.app (x := [VO.lst []])).app (x := [VO.lst [PV.int 0]])).app (x := [VO.dT []])).app (x := [VO.dK [("a", PV.int 1)]])
  have G4 : Grow d c h ((((h ++ [VO.lst []]) ++ [VO.lst [PV.int 0]]) ++ [VO.dT []]) ++ [VO.dK [("a", PV.int 1)]]) := ((Grow.app.trans .app).trans .app).trans .app
  have e0 : ((((h ++ [VO.lst []]) ++ [VO.lst [PV.int 0]]) ++ [VO.dT []]) ++ [VO.dK [("a", PV.int 1)]])[h.length]? = some (.lst []) := hg_app (hg_app (hg_app hg_new))
  have e1 : ((((h ++ [VO.lst []]) ++ [VO.lst [PV.int 0]]) ++ [VO.dT []]) ++ [VO.dK [("a", PV.int 1)]])[(h ++ [VO.lst []]).length]? = some (.lst [.int 0]) := hg_app (hg_app hg_new)
  have e2 : ((((h ++ [VO.lst []]) ++ [VO.lst [PV.int 0]]) ++ [VO.dT []]) ++ [VO.dK [("a", PV.int 1)]])[((h ++ [VO.lst []]) ++ [VO.lst [PV.int 0]]).length]? = some (.dT []) := hg_app hg_new
  have e3 : ((((h ++ [VO.lst []]) ++ [VO.lst [PV.int 0]]) ++ [VO.dT []]) ++ [VO.dK [("a", PV.int 1)]])[(((h ++ [VO.lst []]) ++ [VO.lst [PV.int 0]]) ++ [VO.dT []]).length]? = some (.dK [("a", .int 1)]) := hg_new
  have m1 : L ≤ (h ++ [VO.lst []]).length := by simp; omega
  have m2 : L ≤ ((h ++ [VO.lst []]) ++ [VO.lst [PV.int 0]]).length := by simp; omega
  have m3 : L ≤ (((h ++ [VO.lst []]) ++ [VO.lst [PV.int 0]]) ++ [VO.dT []]).length := by simp; omega
  have m4 : L ≤ ((((h ++ [VO.lst []]) ++ [VO.lst [PV.int 0]]) ++ [VO.dT []]) ++ [VO.dK [("a", PV.int 1)]]).length := by simp; omega
  generalize (((h ++ [VO.lst []]) ++ [VO.lst [PV.int 0]]) ++ [VO.dT []]).length = q3 at e3 m3
  generalize ((h ++ [VO.lst []]) ++ [VO.lst [PV.int 0]]).length = q2 at e2 m2
  generalize (h ++ [VO.lst []]).length = q1 at e1 m1
  generalize h.length = q0 at e0 hL
  generalize ((((h ++ [VO.lst []]) ++ [VO.lst [PV.int 0]]) ++ [VO.dT []]) ++ [VO.dK [("a", PV.int 1)]]) = h4 at D4 G4 e0 e1 e2 e3 m4
  have hitems : ∀ (h' : VH), Grow d c h4 h' → ∀ v ∈ [PV.non, PV.bl true, PV.bl false, PV.int (-1), PV.int 0, PV.int 1, PV.int x15, PV.int x29, PV.str "", PV.str "1", PV.tup [], PV.tup [PV.int 0], PV.ref q0, PV.ref q1, PV.ref q2, PV.ref q3, PV.tup [PV.tup [PV.int 0]]], Thing L h' v := fun h' G v hv => by
    have c0 : CellOk L h' (.int 0) := .inl ⟨0, rfl, bs 0 (by decide) (by decide)⟩
    have gg : ∀ {p o}, L ≤ p → h4[p]? = some o → h'[p]? = some o := fun {p o} l e => G.2 _ _ (by omega) (by omega) e
    simp only [List.mem_cons, List.not_mem_nil, or_false] at hv
    rcases hv with rfl | rfl | rfl | rfl | rfl | rfl | rfl | rfl | rfl | rfl | rfl | rfl | rfl | rfl | rfl | rfl | rfl
    · exact .inr (.inr (.inr (.inr (.inl rfl))))
    · exact .inr (.inr (.inr (.inl ⟨_, rfl⟩)))
    · exact .inr (.inr (.inr (.inl ⟨_, rfl⟩)))
    · exact .inr (.inr (.inl ⟨_, rfl, bs _ (by decide) (by decide)⟩))
    · exact .inr (.inr (.inl ⟨_, rfl, bs _ (by decide) (by decide)⟩))
    · exact .inr (.inr (.inl ⟨_, rfl, bs _ (by decide) (by decide)⟩))
    · exact .inr (.inr (.inl ⟨_, rfl, b15⟩))
    · exact .inr (.inr (.inl ⟨_, rfl, b29⟩))
    · exact .inr (.inr (.inr (.inr (.inr (.inr (.inl rfl))))))
    · exact .inr (.inr (.inr (.inr (.inr (.inl rfl)))))
    · exact .inl ⟨[], rfl, by decide, by simp⟩
    · exact .inl ⟨_, rfl, by simp, fun r hr => by rw [List.mem_singleton] at hr; subst hr; exact .inl c0⟩
    · exact .inr (.inl ⟨_, [], rfl, hL, gg hL e0, by decide, by simp⟩)
    · exact .inr (.inl ⟨_, [.int 0], rfl, m1, gg m1 e1, by simp, fun r hr => by rw [List.mem_singleton] at hr; subst hr; exact .inl c0⟩)
    · exact .inr (.inr (.inr (.inr (.inr (.inr (.inr ⟨_, rfl, m2, .inl (gg m2 e2)⟩))))))
    · exact .inr (.inr (.inr (.inr (.inr (.inr (.inr ⟨_, rfl, m3, .inr (gg m3 e3)⟩))))))
    · exact .inl ⟨_, rfl, by simp, fun r hr => by
        rw [List.mem_singleton] at hr
        subst hr
        exact .inr (.inl ⟨_, rfl, by simp, fun c hc => by rw [List.mem_singleton] at hc; subst hc; exact c0⟩)⟩
  have li : [PV.non, PV.bl true, PV.bl false, PV.int (-1), PV.int 0, PV.int 1, PV.int x15, PV.int x29, PV.str "", PV.str "1", PV.tup [], PV.tup [PV.int 0], PV.ref q0, PV.ref q1, PV.ref q2, PV.ref q3, PV.tup [PV.tup [PV.int 0]]].length = 17 := rfl
  generalize [PV.non, PV.bl true, PV.bl false, PV.int (-1), PV.int 0, PV.int 1, PV.int x15, PV.int x29, PV.str "", PV.str "1", PV.tup [], PV.tup [PV.int 0], PV.ref q0, PV.ref q1, PV.ref q2, PV.ref q3, PV.tup [PV.tup [PV.int 0]]] = items at hitems li
  have L5 : (h4 ++ [VO.lst items])[h4.length]? = some (.lst items) := hg_new
  refine OK.mono (draw_spec (m := 17) (D4.app (x := [VO.lst items])) (by decide) (by decide) (by omega)) ?_
  rintro v h6 ⟨y, rfl, y0, y1, D6, g6⟩
  have L6 := g6.2 _ _ (show h4.length ≠ d by omega) (show h4.length ≠ c by omega) L5
  try simp (maxSteps := 4000000) only [ok_ret, ok_bnd, ok_lift, ok_var, ok_c, ok_bin, ok_un, ok_asB, ok_and, ok_or, ok_not, ok_chain, ok_nil, ok_cons, ok_tup, ok_lst, ok_fn, ok_tmp, ok_call, ok_meth, ok_tval, ok_tand, ok_tor, ok_tnot, ok_if, ok_pnone, ok_psome, ok_slice, ok_fresh, ok_lcx, ok_body, ok_true, ok_dtmp, ok_dval, ok_rng1, ok_rng2, ok_enum, ok_enumT, ok_zip, ok_gname, ok_gsnil, ok_gscons, ok_gtup, ok_gsub, fo_next, fo_seq, fo_asg, fo_expr, fo_ret, fo_retN, fo_if, fo_break, fo_cont, fo_par, fo_aug, fo_augS, fo_for, fo_body, vr_some, ra1, ra2, in_int, tr_bl, pa2, zp_two, sr_some, wk_tup, wk_rol, wk_str, oo_add, oo_addI, oo_sub, oo_mul, oo_fdiv, oo_mod, oo_pow, oo_shl, oo_shr, oo_and, oo_or, oo_neg, oo_inv, oo_le, oo_gt, oo_ge, oo_lt, oo_eq, oo_ne, oo_eqb, oo_is0, oo_isNot0, oo_nes, oo_eqs, oo_addT, oo_tup, oo_lst, oo_abs, oo_int, oo_intb, oo_max2, oo_min2, oo_max3, oo_min3, oo_lenT, oo_lenR, oo_gTuple, oo_gList, oo_gLen, oo_biT, oo_biR, oo_slT, oo_slR, oo_isaII, oo_isaIB, oo_isaIT, oo_isaIS, oo_isaBI, oo_isaBB, oo_isaBT, oo_isaBS, oo_isaNT, lo_lst, atI_0, atI_1, atI_2, ixN_0, ixN_1, or_ix, ot_ix, ol_ix, or_set, or_len, or_add, or_mul, or_append, or_isLst, or_bi, or_bl, oo_sortSL, or_sl, or_wk, or_sr, ot_sr, or_gtup, oo_neb, oo_isB, oo_isNotB, ok_lr1, ok_lr2, ok_tr1, ok_tr2, or_popAt, List.getElem?_cons_zero, List.getElem?_cons_succ, List.set_cons_zero, List.set_cons_succ, List.map_cons, List.map_nil, List.replicate_succ, List.replicate_zero, List.length_cons, List.length_nil, List.cons_append, List.nil_append, wipeD, if_true, if_false, Bool.false_eq_true, Nat.reduceAdd, Nat.reduceSub, Nat.reduceLeDiff, decide_eq_true_eq, true_and, and_true, Int.reduceNeg, L6]
  have ly : y.toNat < items.length := by omega
  refine atI_of y0 (List.getElem?_eq_getElem ly) ?_
  exact ⟨D6, (G4.trans .app).trans g6, hitems _ (Grow.app.trans g6) _ (List.getElem_mem ly)⟩
end
/-! k07: all sides by the law's own going, walked -/
section
variable {h : VH} {v : Sl}
theorem ok_rng3 {d : Sl → M (List PV)} {P : Its' → VH → Prop} (q : OK (d v h) fun as h1 => ∃ i j : Int, as = [.int i, .int j, .int (-1)] ∧ (-1000000000 < i ∧ i < 1000000000 ∧ -1000000000 < j ∧ j < 1000000000) ∧ P { items := rngD i (i - j).toNat } h1) : OK (dRng3 d v h) P := by
  obtain ⟨as, h1, e, i, j, rfl, b, q⟩ := q.get
  unfold dRng3 bnd
  rw [e]
  simp only
  rw [if_pos ⟨trivial, b⟩, show OK (R.ok { items := rngD i (i - j).toNat } h1) P = P { items := rngD i (i - j).toNat } h1 by with_unfolding_all rfl]
  exact q
theorem rngD_get {i : Int} {m k : Nat} {x : PV} (e : (rngD i m)[k]? = some x) : k < m ∧ x = .int (i + (k : Nat) * (-1)) := by
  unfold rngD at e
  rw [List.getElem?_map] at e
  obtain ⟨y, ey, rfl⟩ := Option.map_eq_some_iff.mp e
  have := hg_lt' ey
  rw [List.length_range] at this
  simp [this] at ey
  subst ey
  exact ⟨this, rfl⟩
theorem oo_neNilU {a b : Nat} {t : List (List Int)} {Q : PV → VH → Prop} (ea : h[a]? = some (.lst (tupI t))) (eb : h[b]? = some (.lst [])) : OO (oNe (.ref a) (.ref b) h) Q = Q (.bl (!t.isEmpty)) h := by
  have da : dat h (.ref a) = some (.list (t.map fun r => PyData.tuple (r.map PyData.int))) := by
    simp only [dat, pdat]
    unfold rdat
    simp only [ea, show tupI t = t.map fun r => PV.tup (intL r) from rfl, pdats_rows]
  have db : dat h (.ref b) = some (.list []) := by
    simp only [dat, pdat]
    unfold rdat
    simp only [eb, pdats]
  have dp := depthAll_rows t
  have : oNe (.ref a) (.ref b) h = some (.bl (!t.isEmpty), h) := by
    unfold oNe
    simp only [show bothS (.ref a) (.ref b) = none from rfl, da, db]
    rw [if_pos ⟨by
      simp only [SeqAt.shaped, PyData.canLay0, canLay_rows, PyData.depth, Bool.true_and]
      exact decide_eq_true (by omega), by decide +kernel⟩]
    cases t <;> rfl
  rw [this]; with_unfolding_all rfl
theorem or_pop {a : Nat} {l : List PV} {x : PV} {Q : PV → VH → Prop} (e : h[a]? = some (.lst (l ++ [x]))) : OO (mPop (.ref a) [] h) Q = Q x (h.set a (.lst l)) := by
  have : mPop (.ref a) [] h = some (x, h.set a (.lst l)) := by
    unfold mPop
    simp only [e]
    simp
  rw [this]; with_unfolding_all rfl
theorem atI_lastV {l : List PV} {v : PV} {q : PV → Prop} (e : l[l.length - 1]? = some v) (h : 0 < l.length) (p : q v) : AtI l (-1) q := by
  unfold AtI
  have : L2.atI l (-1) = some v := by
    unfold L2.atI L2.ixN
    rw [if_neg (by decide), if_pos (by omega)]
    show l[((-1 : Int) + l.length).toNat]? = some v
    rw [show ((-1 : Int) + l.length).toNat = l.length - 1 by omega]
    exact e
  rw [this]; exact p
theorem lawsides_spec {n : Nat} (n1 : 1 ≤ n) (n8 : n ≤ 8) : OK (f_law_sides [.int (n : Nat)] h) fun v h' => v = .tup (tupI (sidesOf n)) ∧ Keep h h' := by
  unfold f_law_sides
  rw [ok_fn0]
  unfold b_law_sides
  refine fo_seqX ?_
  try simp (maxSteps := 4000000) only [ok_ret, ok_bnd, ok_lift, ok_var, ok_c, ok_bin, ok_un, ok_asB, ok_and, ok_or, ok_not, ok_chain, ok_nil, ok_cons, ok_tup, ok_lst, ok_fn, ok_tmp, ok_call, ok_meth, ok_tval, ok_tand, ok_tor, ok_tnot, ok_if, ok_pnone, ok_psome, ok_slice, ok_fresh, ok_lcx, ok_body, ok_true, ok_dtmp, ok_dval, ok_rng1, ok_rng2, ok_enum, ok_enumT, ok_zip, ok_gname, ok_gsnil, ok_gscons, ok_gtup, ok_gsub, fo_next, fo_seq, fo_asg, fo_expr, fo_ret, fo_retN, fo_if, fo_break, fo_cont, fo_par, fo_aug, fo_augS, fo_for, fo_body, vr_some, ra1, ra2, in_int, tr_bl, pa2, zp_two, sr_some, wk_tup, wk_rol, wk_str, oo_add, oo_addI, oo_sub, oo_mul, oo_fdiv, oo_mod, oo_pow, oo_shl, oo_shr, oo_and, oo_or, oo_neg, oo_inv, oo_le, oo_gt, oo_ge, oo_lt, oo_eq, oo_ne, oo_eqb, oo_is0, oo_isNot0, oo_nes, oo_eqs, oo_addT, oo_tup, oo_lst, oo_abs, oo_int, oo_intb, oo_max2, oo_min2, oo_max3, oo_min3, oo_lenT, oo_lenR, oo_gTuple, oo_gList, oo_gLen, oo_biT, oo_biR, oo_slT, oo_slR, oo_isaII, oo_isaIB, oo_isaIT, oo_isaIS, oo_isaBI, oo_isaBB, oo_isaBT, oo_isaBS, oo_isaNT, lo_lst, atI_0, atI_1, atI_2, ixN_0, ixN_1, or_ix, ot_ix, ol_ix, or_set, or_len, or_add, or_mul, or_append, or_isLst, or_bi, or_bl, oo_sortSL, or_sl, or_wk, or_sr, ot_sr, or_gtup, oo_neb, oo_isB, oo_isNotB, ok_lr1, ok_lr2, ok_tr1, ok_tr2, or_popAt, List.getElem?_cons_zero, List.getElem?_cons_succ, List.set_cons_zero, List.set_cons_succ, List.map_cons, List.map_nil, List.replicate_succ, List.replicate_zero, List.length_cons, List.length_nil, List.cons_append, List.nil_append, wipeD, if_true, if_false, Bool.false_eq_true, Nat.reduceAdd, Nat.reduceSub, Nat.reduceLeDiff, decide_eq_true_eq, true_and, and_true, Int.reduceNeg]
  refine fox (fo_seqX ?_)
  try simp (maxSteps := 4000000) only [ok_ret, ok_bnd, ok_lift, ok_var, ok_c, ok_bin, ok_un, ok_asB, ok_and, ok_or, ok_not, ok_chain, ok_nil, ok_cons, ok_tup, ok_lst, ok_fn, ok_tmp, ok_call, ok_meth, ok_tval, ok_tand, ok_tor, ok_tnot, ok_if, ok_pnone, ok_psome, ok_slice, ok_fresh, ok_lcx, ok_body, ok_true, ok_dtmp, ok_dval, ok_rng1, ok_rng2, ok_enum, ok_enumT, ok_zip, ok_gname, ok_gsnil, ok_gscons, ok_gtup, ok_gsub, fo_next, fo_seq, fo_asg, fo_expr, fo_ret, fo_retN, fo_if, fo_break, fo_cont, fo_par, fo_aug, fo_augS, fo_for, fo_body, vr_some, ra1, ra2, in_int, tr_bl, pa2, zp_two, sr_some, wk_tup, wk_rol, wk_str, oo_add, oo_addI, oo_sub, oo_mul, oo_fdiv, oo_mod, oo_pow, oo_shl, oo_shr, oo_and, oo_or, oo_neg, oo_inv, oo_le, oo_gt, oo_ge, oo_lt, oo_eq, oo_ne, oo_eqb, oo_is0, oo_isNot0, oo_nes, oo_eqs, oo_addT, oo_tup, oo_lst, oo_abs, oo_int, oo_intb, oo_max2, oo_min2, oo_max3, oo_min3, oo_lenT, oo_lenR, oo_gTuple, oo_gList, oo_gLen, oo_biT, oo_biR, oo_slT, oo_slR, oo_isaII, oo_isaIB, oo_isaIT, oo_isaIS, oo_isaBI, oo_isaBB, oo_isaBT, oo_isaBS, oo_isaNT, lo_lst, atI_0, atI_1, atI_2, ixN_0, ixN_1, or_ix, ot_ix, ol_ix, or_set, or_len, or_add, or_mul, or_append, or_isLst, or_bi, or_bl, oo_sortSL, or_sl, or_wk, or_sr, ot_sr, or_gtup, oo_neb, oo_isB, oo_isNotB, ok_lr1, ok_lr2, ok_tr1, ok_tr2, or_popAt, List.getElem?_cons_zero, List.getElem?_cons_succ, List.set_cons_zero, List.set_cons_succ, List.map_cons, List.map_nil, List.replicate_succ, List.replicate_zero, List.length_cons, List.length_nil, List.cons_append, List.nil_append, wipeD, if_true, if_false, Bool.false_eq_true, Nat.reduceAdd, Nat.reduceSub, Nat.reduceLeDiff, decide_eq_true_eq, true_and, and_true, Int.reduceNeg]
  refine ok_rng3 ?_
  try simp (maxSteps := 4000000) only [ok_ret, ok_bnd, ok_lift, ok_var, ok_c, ok_bin, ok_un, ok_asB, ok_and, ok_or, ok_not, ok_chain, ok_nil, ok_cons, ok_tup, ok_lst, ok_fn, ok_tmp, ok_call, ok_meth, ok_tval, ok_tand, ok_tor, ok_tnot, ok_if, ok_pnone, ok_psome, ok_slice, ok_fresh, ok_lcx, ok_body, ok_true, ok_dtmp, ok_dval, ok_rng1, ok_rng2, ok_enum, ok_enumT, ok_zip, ok_gname, ok_gsnil, ok_gscons, ok_gtup, ok_gsub, fo_next, fo_seq, fo_asg, fo_expr, fo_ret, fo_retN, fo_if, fo_break, fo_cont, fo_par, fo_aug, fo_augS, fo_for, fo_body, vr_some, ra1, ra2, in_int, tr_bl, pa2, zp_two, sr_some, wk_tup, wk_rol, wk_str, oo_add, oo_addI, oo_sub, oo_mul, oo_fdiv, oo_mod, oo_pow, oo_shl, oo_shr, oo_and, oo_or, oo_neg, oo_inv, oo_le, oo_gt, oo_ge, oo_lt, oo_eq, oo_ne, oo_eqb, oo_is0, oo_isNot0, oo_nes, oo_eqs, oo_addT, oo_tup, oo_lst, oo_abs, oo_int, oo_intb, oo_max2, oo_min2, oo_max3, oo_min3, oo_lenT, oo_lenR, oo_gTuple, oo_gList, oo_gLen, oo_biT, oo_biR, oo_slT, oo_slR, oo_isaII, oo_isaIB, oo_isaIT, oo_isaIS, oo_isaBI, oo_isaBB, oo_isaBT, oo_isaBS, oo_isaNT, lo_lst, atI_0, atI_1, atI_2, ixN_0, ixN_1, or_ix, ot_ix, ol_ix, or_set, or_len, or_add, or_mul, or_append, or_isLst, or_bi, or_bl, oo_sortSL, or_sl, or_wk, or_sr, ot_sr, or_gtup, oo_neb, oo_isB, oo_isNotB, ok_lr1, ok_lr2, ok_tr1, ok_tr2, or_popAt, List.getElem?_cons_zero, List.getElem?_cons_succ, List.set_cons_zero, List.set_cons_succ, List.map_cons, List.map_nil, List.replicate_succ, List.replicate_zero, List.length_cons, List.length_nil, List.cons_append, List.nil_append, wipeD, if_true, if_false, Bool.false_eq_true, Nat.reduceAdd, Nat.reduceSub, Nat.reduceLeDiff, decide_eq_true_eq, true_and, and_true, Int.reduceNeg]
  refine ⟨(n : Int) - 1, 0, rfl, ⟨by omega, by omega, by omega, by omega⟩, ?_⟩
  refine ⟨by simp [rngD]; omega, ?_⟩
  refine OK.mono (ok_lc0 (fun i acc k => k = h ++ [VO.lst []] ∧ acc = tupI (((st0 n).2).take i)) ⟨rfl, rfl⟩ (fun _ _ _ _ _ => rfl) ?_ fun _ _ q => q) ?_
  · rintro i x acc k hx ⟨rfl, rfl⟩
    obtain ⟨hi, rfl⟩ := rngD_get hx
    try simp (maxSteps := 4000000) only [ok_ret, ok_bnd, ok_lift, ok_var, ok_c, ok_bin, ok_un, ok_asB, ok_and, ok_or, ok_not, ok_chain, ok_nil, ok_cons, ok_tup, ok_lst, ok_fn, ok_tmp, ok_call, ok_meth, ok_tval, ok_tand, ok_tor, ok_tnot, ok_if, ok_pnone, ok_psome, ok_slice, ok_fresh, ok_lcx, ok_body, ok_true, ok_dtmp, ok_dval, ok_rng1, ok_rng2, ok_enum, ok_enumT, ok_zip, ok_gname, ok_gsnil, ok_gscons, ok_gtup, ok_gsub, fo_next, fo_seq, fo_asg, fo_expr, fo_ret, fo_retN, fo_if, fo_break, fo_cont, fo_par, fo_aug, fo_augS, fo_for, fo_body, vr_some, ra1, ra2, in_int, tr_bl, pa2, zp_two, sr_some, wk_tup, wk_rol, wk_str, oo_add, oo_addI, oo_sub, oo_mul, oo_fdiv, oo_mod, oo_pow, oo_shl, oo_shr, oo_and, oo_or, oo_neg, oo_inv, oo_le, oo_gt, oo_ge, oo_lt, oo_eq, oo_ne, oo_eqb, oo_is0, oo_isNot0, oo_nes, oo_eqs, oo_addT, oo_tup, oo_lst, oo_abs, oo_int, oo_intb, oo_max2, oo_min2, oo_max3, oo_min3, oo_lenT, oo_lenR, oo_gTuple, oo_gList, oo_gLen, oo_biT, oo_biR, oo_slT, oo_slR, oo_isaII, oo_isaIB, oo_isaIT, oo_isaIS, oo_isaBI, oo_isaBB, oo_isaBT, oo_isaBS, oo_isaNT, lo_lst, atI_0, atI_1, atI_2, ixN_0, ixN_1, or_ix, ot_ix, ol_ix, or_set, or_len, or_add, or_mul, or_append, or_isLst, or_bi, or_bl, oo_sortSL, or_sl, or_wk, or_sr, ot_sr, or_gtup, oo_neb, oo_isB, oo_isNotB, ok_lr1, ok_lr2, ok_tr1, ok_tr2, or_popAt, List.getElem?_cons_zero, List.getElem?_cons_succ, List.set_cons_zero, List.set_cons_succ, List.map_cons, List.map_nil, List.replicate_succ, List.replicate_zero, List.length_cons, List.length_nil, List.cons_append, List.nil_append, wipeD, if_true, if_false, Bool.false_eq_true, Nat.reduceAdd, Nat.reduceSub, Nat.reduceLeDiff, decide_eq_true_eq, true_and, and_true, Int.reduceNeg]
    rw [List.take_add_one, show (st0 n).2[i]? = some [(n : Int) - 1 + (i : Nat) * (-1)] by
      unfold st0 rgD
      rw [List.map_map, List.getElem?_map, List.getElem?_range hi]
      rfl]
    simp [tupI, intL]
  rintro l k ⟨rfl, rfl⟩
  rw [show (rngD ((n : Int) - 1) (((n : Int) - 1) - 0).toNat).length = (st0 n).2.length by simp [st0, rngD, rgD], List.take_length]
  have A0 : ((h ++ [VO.lst []]) ++ [VO.lst (tupI (st0 n).2)])[h.length]? = some (.lst (tupI (st0 n).1)) := hg_app hg_new
  have A1 : ((h ++ [VO.lst []]) ++ [VO.lst (tupI (st0 n).2)])[(h ++ [VO.lst []]).length]? = some (.lst (tupI (st0 n).2)) := hg_new
  have K0 : Keep h ((h ++ [VO.lst []]) ++ [VO.lst (tupI (st0 n).2)]) := .trans .app .app
  have q1 : h.length < (h ++ [VO.lst []]).length := by simp
  generalize (h ++ [VO.lst []]) ++ [VO.lst (tupI (st0 n).2)] = h1 at A0 A1 K0
  generalize (h ++ [VO.lst []]).length = q at A1 q1
  refine fox (fo_seqX ?_)
  have N7 : 2 ^ (n - 1) ≤ 2 ^ 7 := Nat.pow_le_pow_right (by decide) (by omega)
  refine fo_while (fun k v k1 => ∃ (st : St2) (q : Nat) (x3 x4 : Option PV), v = [some (.int (n : Nat)), some (.ref h.length), some (.ref q), x3, x4] ∧ k1[h.length]? = some (.lst (tupI st.1)) ∧ k1[q]? = some (.lst (tupI st.2)) ∧ h.length < q ∧ runS n k st = true ∧ Keep h k1) ?_ (k := 2 ^ (n - 1) - 1) (by omega) ⟨st0 n, q, _, _, rfl, A0, A1, q1, run_ok n1 n8, K0⟩
  rintro k v k1 ⟨st, q, x3, x4, rfl, B0, B1, qq, ru, K1⟩
  try simp (maxSteps := 4000000) only [ok_ret, ok_bnd, ok_lift, ok_var, ok_c, ok_bin, ok_un, ok_asB, ok_and, ok_or, ok_not, ok_chain, ok_nil, ok_cons, ok_tup, ok_lst, ok_fn, ok_tmp, ok_call, ok_meth, ok_tval, ok_tand, ok_tor, ok_tnot, ok_if, ok_pnone, ok_psome, ok_slice, ok_fresh, ok_lcx, ok_body, ok_true, ok_dtmp, ok_dval, ok_rng1, ok_rng2, ok_enum, ok_enumT, ok_zip, ok_gname, ok_gsnil, ok_gscons, ok_gtup, ok_gsub, fo_next, fo_seq, fo_asg, fo_expr, fo_ret, fo_retN, fo_if, fo_break, fo_cont, fo_par, fo_aug, fo_augS, fo_for, fo_body, vr_some, ra1, ra2, in_int, tr_bl, pa2, zp_two, sr_some, wk_tup, wk_rol, wk_str, oo_add, oo_addI, oo_sub, oo_mul, oo_fdiv, oo_mod, oo_pow, oo_shl, oo_shr, oo_and, oo_or, oo_neg, oo_inv, oo_le, oo_gt, oo_ge, oo_lt, oo_eq, oo_ne, oo_eqb, oo_is0, oo_isNot0, oo_nes, oo_eqs, oo_addT, oo_tup, oo_lst, oo_abs, oo_int, oo_intb, oo_max2, oo_min2, oo_max3, oo_min3, oo_lenT, oo_lenR, oo_gTuple, oo_gList, oo_gLen, oo_biT, oo_biR, oo_slT, oo_slR, oo_isaII, oo_isaIB, oo_isaIT, oo_isaIS, oo_isaBI, oo_isaBB, oo_isaBT, oo_isaBS, oo_isaNT, lo_lst, atI_0, atI_1, atI_2, ixN_0, ixN_1, or_ix, ot_ix, ol_ix, or_set, or_len, or_add, or_mul, or_append, or_isLst, or_bi, or_bl, oo_sortSL, or_sl, or_wk, or_sr, ot_sr, or_gtup, oo_neb, oo_isB, oo_isNotB, ok_lr1, ok_lr2, ok_tr1, ok_tr2, or_popAt, List.getElem?_cons_zero, List.getElem?_cons_succ, List.set_cons_zero, List.set_cons_succ, List.map_cons, List.map_nil, List.replicate_succ, List.replicate_zero, List.length_cons, List.length_nil, List.cons_append, List.nil_append, wipeD, if_true, if_false, Bool.false_eq_true, Nat.reduceAdd, Nat.reduceSub, Nat.reduceLeDiff, decide_eq_true_eq, true_and, and_true, Int.reduceNeg]
  have K2 : Keep k1 (k1 ++ [VO.lst []]) := .app
  rw [oo_neNilU (hg_app B1) hg_new]
  try simp (maxSteps := 4000000) only [ok_ret, ok_bnd, ok_lift, ok_var, ok_c, ok_bin, ok_un, ok_asB, ok_and, ok_or, ok_not, ok_chain, ok_nil, ok_cons, ok_tup, ok_lst, ok_fn, ok_tmp, ok_call, ok_meth, ok_tval, ok_tand, ok_tor, ok_tnot, ok_if, ok_pnone, ok_psome, ok_slice, ok_fresh, ok_lcx, ok_body, ok_true, ok_dtmp, ok_dval, ok_rng1, ok_rng2, ok_enum, ok_enumT, ok_zip, ok_gname, ok_gsnil, ok_gscons, ok_gtup, ok_gsub, fo_next, fo_seq, fo_asg, fo_expr, fo_ret, fo_retN, fo_if, fo_break, fo_cont, fo_par, fo_aug, fo_augS, fo_for, fo_body, vr_some, ra1, ra2, in_int, tr_bl, pa2, zp_two, sr_some, wk_tup, wk_rol, wk_str, oo_add, oo_addI, oo_sub, oo_mul, oo_fdiv, oo_mod, oo_pow, oo_shl, oo_shr, oo_and, oo_or, oo_neg, oo_inv, oo_le, oo_gt, oo_ge, oo_lt, oo_eq, oo_ne, oo_eqb, oo_is0, oo_isNot0, oo_nes, oo_eqs, oo_addT, oo_tup, oo_lst, oo_abs, oo_int, oo_intb, oo_max2, oo_min2, oo_max3, oo_min3, oo_lenT, oo_lenR, oo_gTuple, oo_gList, oo_gLen, oo_biT, oo_biR, oo_slT, oo_slR, oo_isaII, oo_isaIB, oo_isaIT, oo_isaIS, oo_isaBI, oo_isaBB, oo_isaBT, oo_isaBS, oo_isaNT, lo_lst, atI_0, atI_1, atI_2, ixN_0, ixN_1, or_ix, ot_ix, ol_ix, or_set, or_len, or_add, or_mul, or_append, or_isLst, or_bi, or_bl, oo_sortSL, or_sl, or_wk, or_sr, ot_sr, or_gtup, oo_neb, oo_isB, oo_isNotB, ok_lr1, ok_lr2, ok_tr1, ok_tr2, or_popAt, List.getElem?_cons_zero, List.getElem?_cons_succ, List.set_cons_zero, List.set_cons_succ, List.map_cons, List.map_nil, List.replicate_succ, List.replicate_zero, List.length_cons, List.length_nil, List.cons_append, List.nil_append, wipeD, if_true, if_false, Bool.false_eq_true, Nat.reduceAdd, Nat.reduceSub, Nat.reduceLeDiff, decide_eq_true_eq, true_and, and_true, Int.reduceNeg]
  cases k with
  | zero =>
    simp only [runS, Bool.and_eq_true, decide_eq_true_eq] at ru
    rw [if_neg (by rw [ru.1]; decide)]
    refine fox ?_
    try simp (maxSteps := 4000000) only [ok_ret, ok_bnd, ok_lift, ok_var, ok_c, ok_bin, ok_un, ok_asB, ok_and, ok_or, ok_not, ok_chain, ok_nil, ok_cons, ok_tup, ok_lst, ok_fn, ok_tmp, ok_call, ok_meth, ok_tval, ok_tand, ok_tor, ok_tnot, ok_if, ok_pnone, ok_psome, ok_slice, ok_fresh, ok_lcx, ok_body, ok_true, ok_dtmp, ok_dval, ok_rng1, ok_rng2, ok_enum, ok_enumT, ok_zip, ok_gname, ok_gsnil, ok_gscons, ok_gtup, ok_gsub, fo_next, fo_seq, fo_asg, fo_expr, fo_ret, fo_retN, fo_if, fo_break, fo_cont, fo_par, fo_aug, fo_augS, fo_for, fo_body, vr_some, ra1, ra2, in_int, tr_bl, pa2, zp_two, sr_some, wk_tup, wk_rol, wk_str, oo_add, oo_addI, oo_sub, oo_mul, oo_fdiv, oo_mod, oo_pow, oo_shl, oo_shr, oo_and, oo_or, oo_neg, oo_inv, oo_le, oo_gt, oo_ge, oo_lt, oo_eq, oo_ne, oo_eqb, oo_is0, oo_isNot0, oo_nes, oo_eqs, oo_addT, oo_tup, oo_lst, oo_abs, oo_int, oo_intb, oo_max2, oo_min2, oo_max3, oo_min3, oo_lenT, oo_lenR, oo_gTuple, oo_gList, oo_gLen, oo_biT, oo_biR, oo_slT, oo_slR, oo_isaII, oo_isaIB, oo_isaIT, oo_isaIS, oo_isaBI, oo_isaBB, oo_isaBT, oo_isaBS, oo_isaNT, lo_lst, atI_0, atI_1, atI_2, ixN_0, ixN_1, or_ix, ot_ix, ol_ix, or_set, or_len, or_add, or_mul, or_append, or_isLst, or_bi, or_bl, oo_sortSL, or_sl, or_wk, or_sr, ot_sr, or_gtup, oo_neb, oo_isB, oo_isNotB, ok_lr1, ok_lr2, ok_tr1, ok_tr2, or_popAt, List.getElem?_cons_zero, List.getElem?_cons_succ, List.set_cons_zero, List.set_cons_succ, List.map_cons, List.map_nil, List.replicate_succ, List.replicate_zero, List.length_cons, List.length_nil, List.cons_append, List.nil_append, wipeD, if_true, if_false, Bool.false_eq_true, Nat.reduceAdd, Nat.reduceSub, Nat.reduceLeDiff, decide_eq_true_eq, true_and, and_true, Int.reduceNeg, hg_app B0]
    rw [ru.2, dfs_sides n1 n8]
    exact ⟨rfl, K1.trans K2⟩
  | succ k =>
    simp only [runS, goodS, Bool.and_eq_true, decide_eq_true_eq, Bool.not_eq_true'] at ru
    rw [if_pos (by rw [ru.1.1.1.1]; decide)]
    refine ⟨k, rfl, ?_⟩
    obtain ⟨m1, m2⟩ := st
    simp only at ru B0 B1
    obtain ⟨ini, s, rfl⟩ : ∃ ini s, m2 = ini ++ [s] := by
      rcases List.eq_nil_or_concat m2 with z | ⟨ini, s, z⟩
      · subst z
        have := ru.1.1.1.1
        simp at this
      · exact ⟨ini, s, by rw [z]; simp⟩
    have sg := List.all_eq_true.mp ru.1.2 s (by simp)
    simp only [Bool.and_eq_true, Bool.not_eq_true', decide_eq_true_eq] at sg
    have e2 : tupI (ini ++ [s]) = tupI ini ++ [PV.tup (intL s)] := by simp [tupI]
    rw [e2] at B1
    have C1 : (k1 ++ [VO.lst []])[q]? = some (.lst (tupI ini ++ [PV.tup (intL s)])) := hg_app B1
    have C0 : (k1 ++ [VO.lst []])[h.length]? = some (.lst (tupI m1)) := hg_app B0
    have K3 := K1.trans K2
    generalize k1 ++ [VO.lst []] = k2 at C0 C1 K3
    try simp (maxSteps := 4000000) only [ok_ret, ok_bnd, ok_lift, ok_var, ok_c, ok_bin, ok_un, ok_asB, ok_and, ok_or, ok_not, ok_chain, ok_nil, ok_cons, ok_tup, ok_lst, ok_fn, ok_tmp, ok_call, ok_meth, ok_tval, ok_tand, ok_tor, ok_tnot, ok_if, ok_pnone, ok_psome, ok_slice, ok_fresh, ok_lcx, ok_body, ok_true, ok_dtmp, ok_dval, ok_rng1, ok_rng2, ok_enum, ok_enumT, ok_zip, ok_gname, ok_gsnil, ok_gscons, ok_gtup, ok_gsub, fo_next, fo_seq, fo_asg, fo_expr, fo_ret, fo_retN, fo_if, fo_break, fo_cont, fo_par, fo_aug, fo_augS, fo_for, fo_body, vr_some, ra1, ra2, in_int, tr_bl, pa2, zp_two, sr_some, wk_tup, wk_rol, wk_str, oo_add, oo_addI, oo_sub, oo_mul, oo_fdiv, oo_mod, oo_pow, oo_shl, oo_shr, oo_and, oo_or, oo_neg, oo_inv, oo_le, oo_gt, oo_ge, oo_lt, oo_eq, oo_ne, oo_eqb, oo_is0, oo_isNot0, oo_nes, oo_eqs, oo_addT, oo_tup, oo_lst, oo_abs, oo_int, oo_intb, oo_max2, oo_min2, oo_max3, oo_min3, oo_lenT, oo_lenR, oo_gTuple, oo_gList, oo_gLen, oo_biT, oo_biR, oo_slT, oo_slR, oo_isaII, oo_isaIB, oo_isaIT, oo_isaIS, oo_isaBI, oo_isaBB, oo_isaBT, oo_isaBS, oo_isaNT, lo_lst, atI_0, atI_1, atI_2, ixN_0, ixN_1, or_ix, ot_ix, ol_ix, or_set, or_len, or_add, or_mul, or_append, or_isLst, or_bi, or_bl, oo_sortSL, or_sl, or_wk, or_sr, ot_sr, or_gtup, oo_neb, oo_isB, oo_isNotB, ok_lr1, ok_lr2, ok_tr1, ok_tr2, or_popAt, List.getElem?_cons_zero, List.getElem?_cons_succ, List.set_cons_zero, List.set_cons_succ, List.map_cons, List.map_nil, List.replicate_succ, List.replicate_zero, List.length_cons, List.length_nil, List.cons_append, List.nil_append, wipeD, if_true, if_false, Bool.false_eq_true, Nat.reduceAdd, Nat.reduceSub, Nat.reduceLeDiff, decide_eq_true_eq, true_and, and_true, Int.reduceNeg, C1]
    rw [or_pop C1]
    have D1 : (k2.set q (.lst (tupI ini)))[q]? = some (.lst (tupI ini)) := hg_set (hg_lt C1)
    have D0 : (k2.set q (.lst (tupI ini)))[h.length]? = some (.lst (tupI m1)) := (hg_set_ne (by omega)).trans C0
    have K4 : Keep h (k2.set q (.lst (tupI ini))) := K3.set (by omega)
    generalize k2.set q (.lst (tupI ini)) = k3 at D0 D1 K4
    rw [D0, lo_lst, lo_lst]
    have lm : (tupI m1).length ≤ 200 := by rw [tupI_len]; exact ru.1.1.2
    refine ⟨by omega, ?_⟩
    have E0 : (k3.set h.length (.lst (tupI m1 ++ [PV.tup (intL s)])))[h.length]? = some (.lst (tupI (m1 ++ [s]))) := by
      rw [hg_set (hg_lt D0)]
      simp [tupI]
    have E1 : (k3.set h.length (.lst (tupI m1 ++ [PV.tup (intL s)])))[q]? = some (.lst (tupI ini)) := (hg_set_ne (by omega)).trans D1
    have K5 : Keep h (k3.set h.length (.lst (tupI m1 ++ [PV.tup (intL s)]))) := K4.set (Nat.le_refl _)
    generalize k3.set h.length (.lst (tupI m1 ++ [PV.tup (intL s)])) = k4 at E0 E1 K5
    refine ok_rng3 ?_
    try simp (maxSteps := 4000000) only [ok_ret, ok_bnd, ok_lift, ok_var, ok_c, ok_bin, ok_un, ok_asB, ok_and, ok_or, ok_not, ok_chain, ok_nil, ok_cons, ok_tup, ok_lst, ok_fn, ok_tmp, ok_call, ok_meth, ok_tval, ok_tand, ok_tor, ok_tnot, ok_if, ok_pnone, ok_psome, ok_slice, ok_fresh, ok_lcx, ok_body, ok_true, ok_dtmp, ok_dval, ok_rng1, ok_rng2, ok_enum, ok_enumT, ok_zip, ok_gname, ok_gsnil, ok_gscons, ok_gtup, ok_gsub, fo_next, fo_seq, fo_asg, fo_expr, fo_ret, fo_retN, fo_if, fo_break, fo_cont, fo_par, fo_aug, fo_augS, fo_for, fo_body, vr_some, ra1, ra2, in_int, tr_bl, pa2, zp_two, sr_some, wk_tup, wk_rol, wk_str, oo_add, oo_addI, oo_sub, oo_mul, oo_fdiv, oo_mod, oo_pow, oo_shl, oo_shr, oo_and, oo_or, oo_neg, oo_inv, oo_le, oo_gt, oo_ge, oo_lt, oo_eq, oo_ne, oo_eqb, oo_is0, oo_isNot0, oo_nes, oo_eqs, oo_addT, oo_tup, oo_lst, oo_abs, oo_int, oo_intb, oo_max2, oo_min2, oo_max3, oo_min3, oo_lenT, oo_lenR, oo_gTuple, oo_gList, oo_gLen, oo_biT, oo_biR, oo_slT, oo_slR, oo_isaII, oo_isaIB, oo_isaIT, oo_isaIS, oo_isaBI, oo_isaBB, oo_isaBT, oo_isaBS, oo_isaNT, lo_lst, atI_0, atI_1, atI_2, ixN_0, ixN_1, or_ix, ot_ix, ol_ix, or_set, or_len, or_add, or_mul, or_append, or_isLst, or_bi, or_bl, oo_sortSL, or_sl, or_wk, or_sr, ot_sr, or_gtup, oo_neb, oo_isB, oo_isNotB, ok_lr1, ok_lr2, ok_tr1, ok_tr2, or_popAt, List.getElem?_cons_zero, List.getElem?_cons_succ, List.set_cons_zero, List.set_cons_succ, List.map_cons, List.map_nil, List.replicate_succ, List.replicate_zero, List.length_cons, List.length_nil, List.cons_append, List.nil_append, wipeD, if_true, if_false, Bool.false_eq_true, Nat.reduceAdd, Nat.reduceSub, Nat.reduceLeDiff, decide_eq_true_eq, true_and, and_true, Int.reduceNeg]
    obtain ⟨s0, z, rfl⟩ : ∃ s0 z, s = s0 ++ [z] := by
      rcases List.eq_nil_or_concat s with w | ⟨a, b, w⟩
      · subst w
        have := sg.1.1
        simp at this
      · exact ⟨a, b, by rw [w]; simp⟩
    have zb := List.all_eq_true.mp sg.2 z (by simp)
    simp only [Bool.and_eq_true, decide_eq_true_eq] at zb
    have stp : stepD n (m1, ini ++ [s0 ++ [z]]) = (m1 ++ [s0 ++ [z]], ini ++ (rgD ((n : Int) - 1) (((n : Int) - 1) - z).toNat).map fun x => s0 ++ [z] ++ [x]) := by
      simp [stepD, List.getLastD_eq_getLast?]
    rw [stp] at ru
    generalize hnew : ((rgD ((n : Int) - 1) (((n : Int) - 1) - z).toNat).map fun x => s0 ++ [z] ++ [x]) = new at ru
    have lnew : new.length = (((n : Int) - 1) - z).toNat := by rw [← hnew]; simp [rgD]
    refine atI_lastV (v := .int z) (by simp [intL]) (by simp [intL]) ⟨(n : Int) - 1, z, rfl, ⟨by omega, by omega, by omega, by omega⟩, by simp [rngD]; omega, ?_⟩
    refine OK.mono (ok_lc0 (fun i acc k => k = k4 ∧ acc = tupI (new.take i)) ⟨rfl, rfl⟩ (fun _ _ _ _ _ => rfl) ?_ fun _ _ q => q) ?_
    · rintro i x acc k hx ⟨rfl, rfl⟩
      obtain ⟨hi, rfl⟩ := rngD_get hx
      try simp (maxSteps := 4000000) only [ok_ret, ok_bnd, ok_lift, ok_var, ok_c, ok_bin, ok_un, ok_asB, ok_and, ok_or, ok_not, ok_chain, ok_nil, ok_cons, ok_tup, ok_lst, ok_fn, ok_tmp, ok_call, ok_meth, ok_tval, ok_tand, ok_tor, ok_tnot, ok_if, ok_pnone, ok_psome, ok_slice, ok_fresh, ok_lcx, ok_body, ok_true, ok_dtmp, ok_dval, ok_rng1, ok_rng2, ok_enum, ok_enumT, ok_zip, ok_gname, ok_gsnil, ok_gscons, ok_gtup, ok_gsub, fo_next, fo_seq, fo_asg, fo_expr, fo_ret, fo_retN, fo_if, fo_break, fo_cont, fo_par, fo_aug, fo_augS, fo_for, fo_body, vr_some, ra1, ra2, in_int, tr_bl, pa2, zp_two, sr_some, wk_tup, wk_rol, wk_str, oo_add, oo_addI, oo_sub, oo_mul, oo_fdiv, oo_mod, oo_pow, oo_shl, oo_shr, oo_and, oo_or, oo_neg, oo_inv, oo_le, oo_gt, oo_ge, oo_lt, oo_eq, oo_ne, oo_eqb, oo_is0, oo_isNot0, oo_nes, oo_eqs, oo_addT, oo_tup, oo_lst, oo_abs, oo_int, oo_intb, oo_max2, oo_min2, oo_max3, oo_min3, oo_lenT, oo_lenR, oo_gTuple, oo_gList, oo_gLen, oo_biT, oo_biR, oo_slT, oo_slR, oo_isaII, oo_isaIB, oo_isaIT, oo_isaIS, oo_isaBI, oo_isaBB, oo_isaBT, oo_isaBS, oo_isaNT, lo_lst, atI_0, atI_1, atI_2, ixN_0, ixN_1, or_ix, ot_ix, ol_ix, or_set, or_len, or_add, or_mul, or_append, or_isLst, or_bi, or_bl, oo_sortSL, or_sl, or_wk, or_sr, ot_sr, or_gtup, oo_neb, oo_isB, oo_isNotB, ok_lr1, ok_lr2, ok_tr1, ok_tr2, or_popAt, List.getElem?_cons_zero, List.getElem?_cons_succ, List.set_cons_zero, List.set_cons_succ, List.map_cons, List.map_nil, List.replicate_succ, List.replicate_zero, List.length_cons, List.length_nil, List.cons_append, List.nil_append, wipeD, if_true, if_false, Bool.false_eq_true, Nat.reduceAdd, Nat.reduceSub, Nat.reduceLeDiff, decide_eq_true_eq, true_and, and_true, Int.reduceNeg]
      have ei : new[i]? = some (s0 ++ [z] ++ [(n : Int) - 1 + (i : Nat) * (-1)]) := by
        rw [← hnew]
        unfold rgD
        rw [List.map_map, List.getElem?_map, List.getElem?_range hi]
        rfl
      refine ⟨by rw [intL_len]; omega, ?_⟩
      rw [List.take_add_one, ei]
      simp [tupI, intL]
    rintro l k ⟨rfl, rfl⟩
    rw [show (rngD ((n : Int) - 1) (((n : Int) - 1) - z).toNat).length = new.length by rw [lnew]; simp [rngD], List.take_length]
    have F1 : (k ++ [VO.lst (tupI new)])[q]? = some (.lst (tupI ini)) := hg_app E1
    have F0 : (k ++ [VO.lst (tupI new)])[h.length]? = some (.lst (tupI (m1 ++ [s0 ++ [z]]))) := hg_app E0
    have F2 : (k ++ [VO.lst (tupI new)])[k.length]? = some (.lst (tupI new)) := hg_new
    have K6 : Keep h (k ++ [VO.lst (tupI new)]) := K5.trans .app
    rw [F1, F2, lo_lst, lo_lst]
    have li : ini.length ≤ 64 := by
      have := ru.1.1.1.2
      rw [List.length_append] at this
      omega
    refine ⟨by rw [tupI_len, tupI_len]; omega, (m1 ++ [s0 ++ [z]], ini ++ new), (k ++ [VO.lst (tupI new)]).length, _, _, rfl, hg_app F0, ?_, ?_, ru.2, K6.trans .app⟩
    · show (k ++ [VO.lst (tupI new)] ++ [VO.lst (tupI ini ++ tupI new)])[(k ++ [VO.lst (tupI new)]).length]? = some (.lst (tupI (ini ++ new)))
      rw [show tupI (ini ++ new) = tupI ini ++ tupI new by simp [tupI]]
      exact hg_new
    · have := hg_lt F0
      exact this
end
end G

namespace G
open PySem PySem.Spec PySem.W PyProof.Rows L2 D
/-! k07: what the law makes of a side -/
theorem cutP_subs {l : List PV} {lo hi : Option Int} : (∀ x ∈ cutP l lo hi, x ∈ l) ∧ (cutP l lo hi).length ≤ l.length := by
  unfold cutP
  exact ⟨fun x hx => List.mem_of_mem_drop (List.mem_of_mem_take hx), by rw [List.length_take, List.length_drop]; omega⟩
theorem cutP_last {l : List PV} : (cutP l (some (-1)) none).length ≤ 1 := by
  unfold cutP
  have : HT.sIx l.length 0 (some (-1)) = ((-1 : Int) + (l.length : Int)).toNat := by
    show (if (-1 : Int) < 0 then ((-1 : Int) + (l.length : Int)).toNat else min (-1 : Int).toNat l.length) = _
    rw [if_pos (by decide)]
  rw [this, List.length_take, List.length_drop]
  omega
section
variable {L d c n : Nat} {B : Int} {h : VH}
theorem spoilt_spec {is : List Int} (dl : d < L) (cl : c < L) (hL : L ≤ h.length) (n1 : 1 ≤ n) (n8 : n ≤ 8) (ne : is ≠ []) (l7 : is.length ≤ 7) (ib : ∀ x ∈ is, 1 ≤ x ∧ x < n) (hB : B < 2 ^ 37) (D : Deck d c B h) :
    OK (f_law_spoilt [.ref d, .int (n : Nat), .tup (intL is)] h) fun v h' => Deck d c (B + 3) h' ∧ Grow d c h h' ∧ Thing L h' v := by
  unfold f_law_spoilt
  rw [ok_fn0]
  unfold b_law_spoilt
  have lp : 0 < is.length := List.length_pos_iff.mpr ne
  refine fo_seqX ?_
  try simp (maxSteps := 4000000) only [ok_ret, ok_bnd, ok_lift, ok_var, ok_c, ok_bin, ok_un, ok_asB, ok_and, ok_or, ok_not, ok_chain, ok_nil, ok_cons, ok_tup, ok_lst, ok_fn, ok_tmp, ok_call, ok_meth, ok_tval, ok_tand, ok_tor, ok_tnot, ok_if, ok_pnone, ok_psome, ok_slice, ok_fresh, ok_lcx, ok_body, ok_true, ok_dtmp, ok_dval, ok_rng1, ok_rng2, ok_enum, ok_enumT, ok_zip, ok_gname, ok_gsnil, ok_gscons, ok_gtup, ok_gsub, fo_next, fo_seq, fo_asg, fo_expr, fo_ret, fo_retN, fo_if, fo_break, fo_cont, fo_par, fo_aug, fo_augS, fo_for, fo_body, vr_some, ra1, ra2, in_int, tr_bl, pa2, zp_two, sr_some, wk_tup, wk_rol, wk_str, oo_add, oo_addI, oo_sub, oo_mul, oo_fdiv, oo_mod, oo_pow, oo_shl, oo_shr, oo_and, oo_or, oo_neg, oo_inv, oo_le, oo_gt, oo_ge, oo_lt, oo_eq, oo_ne, oo_eqb, oo_is0, oo_isNot0, oo_nes, oo_eqs, oo_addT, oo_tup, oo_lst, oo_abs, oo_int, oo_intb, oo_max2, oo_min2, oo_max3, oo_min3, oo_lenT, oo_lenR, oo_gTuple, oo_gList, oo_gLen, oo_biT, oo_biR, oo_slT, oo_slR, oo_isaII, oo_isaIB, oo_isaIT, oo_isaIS, oo_isaBI, oo_isaBB, oo_isaBT, oo_isaBS, oo_isaNT, lo_lst, atI_0, atI_1, atI_2, ixN_0, ixN_1, or_ix, ot_ix, ol_ix, or_set, or_len, or_add, or_mul, or_append, or_isLst, or_bi, or_bl, oo_sortSL, or_sl, or_wk, or_sr, ot_sr, or_gtup, oo_neb, oo_isB, oo_isNotB, ok_lr1, ok_lr2, ok_tr1, ok_tr2, or_popAt, List.getElem?_cons_zero, List.getElem?_cons_succ, List.set_cons_zero, List.set_cons_succ, List.map_cons, List.map_nil, List.replicate_succ, List.replicate_zero, List.length_cons, List.length_nil, List.cons_append, List.nil_append, wipeD, if_true, if_false, Bool.false_eq_true, Nat.reduceAdd, Nat.reduceSub, Nat.reduceLeDiff, decide_eq_true_eq, true_and, and_true, Int.reduceNeg]
  refine OK.mono (draw_spec (m := ((intL is).length : Nat)) D (by rw [intL_len]; omega) (by rw [intL_len]; omega) (by omega)) ?_
  rintro v h1 ⟨a, rfl, a0, a1, D1, G1⟩
  obtain ⟨at', rfl⟩ : ∃ k : Nat, a = k := ⟨a.toNat, by omega⟩
  rw [intL_len] at a1
  refine fox (fo_seqX ?_)
  try simp (maxSteps := 4000000) only [ok_ret, ok_bnd, ok_lift, ok_var, ok_c, ok_bin, ok_un, ok_asB, ok_and, ok_or, ok_not, ok_chain, ok_nil, ok_cons, ok_tup, ok_lst, ok_fn, ok_tmp, ok_call, ok_meth, ok_tval, ok_tand, ok_tor, ok_tnot, ok_if, ok_pnone, ok_psome, ok_slice, ok_fresh, ok_lcx, ok_body, ok_true, ok_dtmp, ok_dval, ok_rng1, ok_rng2, ok_enum, ok_enumT, ok_zip, ok_gname, ok_gsnil, ok_gscons, ok_gtup, ok_gsub, fo_next, fo_seq, fo_asg, fo_expr, fo_ret, fo_retN, fo_if, fo_break, fo_cont, fo_par, fo_aug, fo_augS, fo_for, fo_body, vr_some, ra1, ra2, in_int, tr_bl, pa2, zp_two, sr_some, wk_tup, wk_rol, wk_str, oo_add, oo_addI, oo_sub, oo_mul, oo_fdiv, oo_mod, oo_pow, oo_shl, oo_shr, oo_and, oo_or, oo_neg, oo_inv, oo_le, oo_gt, oo_ge, oo_lt, oo_eq, oo_ne, oo_eqb, oo_is0, oo_isNot0, oo_nes, oo_eqs, oo_addT, oo_tup, oo_lst, oo_abs, oo_int, oo_intb, oo_max2, oo_min2, oo_max3, oo_min3, oo_lenT, oo_lenR, oo_gTuple, oo_gList, oo_gLen, oo_biT, oo_biR, oo_slT, oo_slR, oo_isaII, oo_isaIB, oo_isaIT, oo_isaIS, oo_isaBI, oo_isaBB, oo_isaBT, oo_isaBS, oo_isaNT, lo_lst, atI_0, atI_1, atI_2, ixN_0, ixN_1, or_ix, ot_ix, ol_ix, or_set, or_len, or_add, or_mul, or_append, or_isLst, or_bi, or_bl, oo_sortSL, or_sl, or_wk, or_sr, ot_sr, or_gtup, oo_neb, oo_isB, oo_isNotB, ok_lr1, ok_lr2, ok_tr1, ok_tr2, or_popAt, List.getElem?_cons_zero, List.getElem?_cons_succ, List.set_cons_zero, List.set_cons_succ, List.map_cons, List.map_nil, List.replicate_succ, List.replicate_zero, List.length_cons, List.length_nil, List.cons_append, List.nil_append, wipeD, if_true, if_false, Bool.false_eq_true, Nat.reduceAdd, Nat.reduceSub, Nat.reduceLeDiff, decide_eq_true_eq, true_and, and_true, Int.reduceNeg]
  have cl1 := cutP_last (l := intL is)
  have il := @intL_len is
  refine ⟨by omega, by omega, by omega, ?_⟩
  refine ok_revT (l := intL is) ?_
  try simp (maxSteps := 4000000) only [ok_ret, ok_bnd, ok_lift, ok_var, ok_c, ok_bin, ok_un, ok_asB, ok_and, ok_or, ok_not, ok_chain, ok_nil, ok_cons, ok_tup, ok_lst, ok_fn, ok_tmp, ok_call, ok_meth, ok_tval, ok_tand, ok_tor, ok_tnot, ok_if, ok_pnone, ok_psome, ok_slice, ok_fresh, ok_lcx, ok_body, ok_true, ok_dtmp, ok_dval, ok_rng1, ok_rng2, ok_enum, ok_enumT, ok_zip, ok_gname, ok_gsnil, ok_gscons, ok_gtup, ok_gsub, fo_next, fo_seq, fo_asg, fo_expr, fo_ret, fo_retN, fo_if, fo_break, fo_cont, fo_par, fo_aug, fo_augS, fo_for, fo_body, vr_some, ra1, ra2, in_int, tr_bl, pa2, zp_two, sr_some, wk_tup, wk_rol, wk_str, oo_add, oo_addI, oo_sub, oo_mul, oo_fdiv, oo_mod, oo_pow, oo_shl, oo_shr, oo_and, oo_or, oo_neg, oo_inv, oo_le, oo_gt, oo_ge, oo_lt, oo_eq, oo_ne, oo_eqb, oo_is0, oo_isNot0, oo_nes, oo_eqs, oo_addT, oo_tup, oo_lst, oo_abs, oo_int, oo_intb, oo_max2, oo_min2, oo_max3, oo_min3, oo_lenT, oo_lenR, oo_gTuple, oo_gList, oo_gLen, oo_biT, oo_biR, oo_slT, oo_slR, oo_isaII, oo_isaIB, oo_isaIT, oo_isaIS, oo_isaBI, oo_isaBB, oo_isaBT, oo_isaBS, oo_isaNT, lo_lst, atI_0, atI_1, atI_2, ixN_0, ixN_1, or_ix, ot_ix, ol_ix, or_set, or_len, or_add, or_mul, or_append, or_isLst, or_bi, or_bl, oo_sortSL, or_sl, or_wk, or_sr, ot_sr, or_gtup, oo_neb, oo_isB, oo_isNotB, ok_lr1, ok_lr2, ok_tr1, ok_tr2, or_popAt, List.getElem?_cons_zero, List.getElem?_cons_succ, List.set_cons_zero, List.set_cons_succ, List.map_cons, List.map_nil, List.replicate_succ, List.replicate_zero, List.length_cons, List.length_nil, List.cons_append, List.nil_append, wipeD, if_true, if_false, Bool.false_eq_true, Nat.reduceAdd, Nat.reduceSub, Nat.reduceLeDiff, decide_eq_true_eq, true_and, and_true, Int.reduceNeg]
  refine ⟨by omega, fox (fo_seqX ?_)⟩
  have bs : ∀ i : Int, -10 ≤ i → i ≤ 10 → i.natAbs < 2 ^ 1000 := fun i h1 h2 => Nat.lt_of_lt_of_le (show i.natAbs < 2 ^ 8 by omega) (Nat.pow_le_pow_right (by decide) (by decide))
  have cI : ∀ (h' : VH) (i : Int), -10 ≤ i → i ≤ 10 → CellOk L h' (.int i) := fun h' i a b => .inl ⟨i, rfl, bs i a b⟩
  have cS : ∀ (h' : VH), ∀ x ∈ intL is, CellOk L h' x := fun h' x hx => by
    obtain ⟨i, hi, rfl⟩ := List.mem_map.mp hx
    have := ib i hi
    exact cI h' i (by omega) (by omega)
  have tT : ∀ (h' : VH) (l : List PV), l.length ≤ 9 → (∀ x ∈ l, CellOk L h' x) → Thing L h' (.tup l) := fun h' l a b => .inl ⟨l, rfl, a, fun r hr => .inl (b r hr)⟩
  have Lh1 : L ≤ h1.length := by have := G1.1; omega
  have e0 : ((h1 ++ [VO.lst (intL is)]) ++ [VO.lst [PV.tup (intL is ++ [PV.int n]), PV.tup (intL is ++ cutP (intL is) (some (-1)) none), PV.tup (cutP (intL is) (some 1) none), PV.tup (PV.int 0 :: intL is), PV.tup (intL is).reverse, PV.ref (List.length h1), PV.tup (intL is ++ [PV.bl true]), PV.tup [PV.tup (intL is)]]])[h1.length]? = some (.lst (intL is)) := hg_app hg_new
  have e1 : ((h1 ++ [VO.lst (intL is)]) ++ [VO.lst [PV.tup (intL is ++ [PV.int n]), PV.tup (intL is ++ cutP (intL is) (some (-1)) none), PV.tup (cutP (intL is) (some 1) none), PV.tup (PV.int 0 :: intL is), PV.tup (intL is).reverse, PV.ref (List.length h1), PV.tup (intL is ++ [PV.bl true]), PV.tup [PV.tup (intL is)]]])[(h1 ++ [VO.lst (intL is)]).length]? = some (.lst [PV.tup (intL is ++ [PV.int n]), PV.tup (intL is ++ cutP (intL is) (some (-1)) none), PV.tup (cutP (intL is) (some 1) none), PV.tup (PV.int 0 :: intL is), PV.tup (intL is).reverse, PV.ref (List.length h1), PV.tup (intL is ++ [PV.bl true]), PV.tup [PV.tup (intL is)]]) := hg_new
  have D2 := (D1.app (x := [VO.lst (intL is)])).app (x := [VO.lst [PV.tup (intL is ++ [PV.int n]), PV.tup (intL is ++ cutP (intL is) (some (-1)) none), PV.tup (cutP (intL is) (some 1) none), PV.tup (PV.int 0 :: intL is), PV.tup (intL is).reverse, PV.ref (List.length h1), PV.tup (intL is ++ [PV.bl true]), PV.tup [PV.tup (intL is)]]])
  have G2 : Grow d c h ((h1 ++ [VO.lst (intL is)]) ++ [VO.lst [PV.tup (intL is ++ [PV.int n]), PV.tup (intL is ++ cutP (intL is) (some (-1)) none), PV.tup (cutP (intL is) (some 1) none), PV.tup (PV.int 0 :: intL is), PV.tup (intL is).reverse, PV.ref (List.length h1), PV.tup (intL is ++ [PV.bl true]), PV.tup [PV.tup (intL is)]]]) := (G1.trans .app).trans .app
  have q1 : h1.length < (h1 ++ [VO.lst (intL is)]).length := by simp
  generalize (h1 ++ [VO.lst (intL is)]).length = p1 at e1 q1
  generalize hk : (h1 ++ [VO.lst (intL is)]) ++ [VO.lst [PV.tup (intL is ++ [PV.int n]), PV.tup (intL is ++ cutP (intL is) (some (-1)) none), PV.tup (cutP (intL is) (some 1) none), PV.tup (PV.int 0 :: intL is), PV.tup (intL is).reverse, PV.ref (List.length h1), PV.tup (intL is ++ [PV.bl true]), PV.tup [PV.tup (intL is)]]] = h2 at e0 e1 D2 G2
  clear hk
  generalize h1.length = p0 at e0 e1 Lh1 q1
  have li : [PV.tup (intL is ++ [PV.int n]), PV.tup (intL is ++ cutP (intL is) (some (-1)) none), PV.tup (cutP (intL is) (some 1) none), PV.tup (PV.int 0 :: intL is), PV.tup (intL is).reverse, PV.ref p0, PV.tup (intL is ++ [PV.bl true]), PV.tup [PV.tup (intL is)]].length = 8 := rfl
  have T8 : ∀ v ∈ [PV.tup (intL is ++ [PV.int n]), PV.tup (intL is ++ cutP (intL is) (some (-1)) none), PV.tup (cutP (intL is) (some 1) none), PV.tup (PV.int 0 :: intL is), PV.tup (intL is).reverse, PV.ref p0, PV.tup (intL is ++ [PV.bl true]), PV.tup [PV.tup (intL is)]], ∀ h', Grow d c h2 h' → Thing L h' v := fun v hv h' G => by
    simp only [List.mem_cons, List.not_mem_nil, or_false] at hv
    rcases hv with rfl | rfl | rfl | rfl | rfl | rfl | rfl | rfl
    · refine tT h' _ (by rw [List.length_append, il, List.length_singleton]; omega) fun x hx => ?_
      rcases List.mem_append.mp hx with w | w
      · exact cS h' x w
      · rw [List.mem_singleton.mp w]; exact cI h' _ (by omega) (by omega)
    · refine tT h' _ (by rw [List.length_append, il]; omega) fun x hx => ?_
      rcases List.mem_append.mp hx with w | w
      · exact cS h' x w
      · exact cS h' x (cutP_subs.1 x w)
    · exact tT h' _ (by have := (cutP_subs (l := intL is) (lo := some 1) (hi := none)).2; omega) fun x hx => cS h' x (cutP_subs.1 x hx)
    · refine tT h' _ (by rw [List.length_cons, il]; omega) fun x hx => ?_
      rcases List.mem_cons.mp hx with rfl | w
      · exact cI h' _ (by decide) (by decide)
      · exact cS h' x w
    · exact tT h' _ (by rw [List.length_reverse, il]; omega) fun x hx => cS h' x (List.mem_reverse.mp hx)
    · exact .inr (.inl ⟨p0, intL is, rfl, Lh1, G.2 _ _ (by omega) (by omega) e0, by omega, fun r hr => .inl (cS h' r hr)⟩)
    · refine tT h' _ (by rw [List.length_append, il, List.length_singleton]; omega) fun x hx => ?_
      rcases List.mem_append.mp hx with w | w
      · exact cS h' x w
      · rw [List.mem_singleton.mp w]; exact .inr (.inl ⟨_, rfl⟩)
    · refine .inl ⟨_, rfl, by simp, fun r hr => ?_⟩
      rw [List.mem_singleton.mp hr]
      exact .inr (.inl ⟨_, rfl, by omega, cS h'⟩)
  generalize [PV.tup (intL is ++ [PV.int n]), PV.tup (intL is ++ cutP (intL is) (some (-1)) none), PV.tup (cutP (intL is) (some 1) none), PV.tup (PV.int 0 :: intL is), PV.tup (intL is).reverse, PV.ref p0, PV.tup (intL is ++ [PV.bl true]), PV.tup [PV.tup (intL is)]] = items at e1 li T8
  try simp (maxSteps := 4000000) only [ok_ret, ok_bnd, ok_lift, ok_var, ok_c, ok_bin, ok_un, ok_asB, ok_and, ok_or, ok_not, ok_chain, ok_nil, ok_cons, ok_tup, ok_lst, ok_fn, ok_tmp, ok_call, ok_meth, ok_tval, ok_tand, ok_tor, ok_tnot, ok_if, ok_pnone, ok_psome, ok_slice, ok_fresh, ok_lcx, ok_body, ok_true, ok_dtmp, ok_dval, ok_rng1, ok_rng2, ok_enum, ok_enumT, ok_zip, ok_gname, ok_gsnil, ok_gscons, ok_gtup, ok_gsub, fo_next, fo_seq, fo_asg, fo_expr, fo_ret, fo_retN, fo_if, fo_break, fo_cont, fo_par, fo_aug, fo_augS, fo_for, fo_body, vr_some, ra1, ra2, in_int, tr_bl, pa2, zp_two, sr_some, wk_tup, wk_rol, wk_str, oo_add, oo_addI, oo_sub, oo_mul, oo_fdiv, oo_mod, oo_pow, oo_shl, oo_shr, oo_and, oo_or, oo_neg, oo_inv, oo_le, oo_gt, oo_ge, oo_lt, oo_eq, oo_ne, oo_eqb, oo_is0, oo_isNot0, oo_nes, oo_eqs, oo_addT, oo_tup, oo_lst, oo_abs, oo_int, oo_intb, oo_max2, oo_min2, oo_max3, oo_min3, oo_lenT, oo_lenR, oo_gTuple, oo_gList, oo_gLen, oo_biT, oo_biR, oo_slT, oo_slR, oo_isaII, oo_isaIB, oo_isaIT, oo_isaIS, oo_isaBI, oo_isaBB, oo_isaBT, oo_isaBS, oo_isaNT, lo_lst, atI_0, atI_1, atI_2, ixN_0, ixN_1, or_ix, ot_ix, ol_ix, or_set, or_len, or_add, or_mul, or_append, or_isLst, or_bi, or_bl, oo_sortSL, or_sl, or_wk, or_sr, ot_sr, or_gtup, oo_neb, oo_isB, oo_isNotB, ok_lr1, ok_lr2, ok_tr1, ok_tr2, or_popAt, List.getElem?_cons_zero, List.getElem?_cons_succ, List.set_cons_zero, List.set_cons_succ, List.map_cons, List.map_nil, List.replicate_succ, List.replicate_zero, List.length_cons, List.length_nil, List.cons_append, List.nil_append, wipeD, if_true, if_false, Bool.false_eq_true, Nat.reduceAdd, Nat.reduceSub, Nat.reduceLeDiff, decide_eq_true_eq, true_and, and_true, Int.reduceNeg]
  have D3 := D2.app (x := [VO.lst [PV.bl true, PV.non, PV.int (-1), PV.int 0, PV.int n, PV.int ((n : Int) - 1), PV.str (Str.ofString "1")]])
  have G3 : Grow d c h2 (h2 ++ [VO.lst [PV.bl true, PV.non, PV.int (-1), PV.int 0, PV.int n, PV.int ((n : Int) - 1), PV.str (Str.ofString "1")]]) := .app
  have f0 : (h2 ++ [VO.lst [PV.bl true, PV.non, PV.int (-1), PV.int 0, PV.int n, PV.int ((n : Int) - 1), PV.str (Str.ofString "1")]])[h2.length]? = some (.lst [PV.bl true, PV.non, PV.int (-1), PV.int 0, PV.int n, PV.int ((n : Int) - 1), PV.str (Str.ofString "1")]) := hg_new
  have f1 := hg_app (k := [VO.lst [PV.bl true, PV.non, PV.int (-1), PV.int 0, PV.int n, PV.int ((n : Int) - 1), PV.str (Str.ofString "1")]]) e1
  have lo7 : [PV.bl true, PV.non, PV.int (-1), PV.int 0, PV.int n, PV.int ((n : Int) - 1), PV.str (Str.ofString "1")].length = 7 := rfl
  have k7 : ∀ x ∈ [PV.bl true, PV.non, PV.int (-1), PV.int 0, PV.int n, PV.int ((n : Int) - 1), PV.str (Str.ofString "1")], ∀ h', CellOk L h' x := fun x hx h' => by
    simp only [List.mem_cons, List.not_mem_nil, or_false] at hx
    rcases hx with rfl | rfl | rfl | rfl | rfl | rfl | rfl
    · exact .inr (.inl ⟨_, rfl⟩)
    · exact .inr (.inr (.inl rfl))
    · exact cI h' _ (by decide) (by decide)
    · exact cI h' _ (by decide) (by decide)
    · exact cI h' _ (by omega) (by omega)
    · exact cI h' _ (by omega) (by omega)
    · exact .inr (.inr (.inr (.inl rfl)))
  generalize [PV.bl true, PV.non, PV.int (-1), PV.int 0, PV.int n, PV.int ((n : Int) - 1), PV.str (Str.ofString "1")] = ones at D3 G3 f0 f1 lo7 k7
  have p1h := hg_lt f1
  generalize h2 ++ [VO.lst ones] = h3 at D3 G3 f0 f1 p1h
  rw [f0, lo_lst]
  refine ⟨by omega, ?_⟩
  refine OK.mono (ok_lc0 (fun i acc k => k = h3 ∧ acc.length = i ∧ ∀ v ∈ acc, ∀ h', Thing L h' v) ⟨rfl, rfl, by simp⟩ (fun _ _ _ _ q => by rw [q.1]; exact srcOk_one f0) ?_ fun _ _ q => q) ?_
  · rintro i x acc k hx ⟨rfl, la, ka⟩
    have kx := k7 x (List.mem_of_getElem? hx)
    try simp (maxSteps := 4000000) only [ok_ret, ok_bnd, ok_lift, ok_var, ok_c, ok_bin, ok_un, ok_asB, ok_and, ok_or, ok_not, ok_chain, ok_nil, ok_cons, ok_tup, ok_lst, ok_fn, ok_tmp, ok_call, ok_meth, ok_tval, ok_tand, ok_tor, ok_tnot, ok_if, ok_pnone, ok_psome, ok_slice, ok_fresh, ok_lcx, ok_body, ok_true, ok_dtmp, ok_dval, ok_rng1, ok_rng2, ok_enum, ok_enumT, ok_zip, ok_gname, ok_gsnil, ok_gscons, ok_gtup, ok_gsub, fo_next, fo_seq, fo_asg, fo_expr, fo_ret, fo_retN, fo_if, fo_break, fo_cont, fo_par, fo_aug, fo_augS, fo_for, fo_body, vr_some, ra1, ra2, in_int, tr_bl, pa2, zp_two, sr_some, wk_tup, wk_rol, wk_str, oo_add, oo_addI, oo_sub, oo_mul, oo_fdiv, oo_mod, oo_pow, oo_shl, oo_shr, oo_and, oo_or, oo_neg, oo_inv, oo_le, oo_gt, oo_ge, oo_lt, oo_eq, oo_ne, oo_eqb, oo_is0, oo_isNot0, oo_nes, oo_eqs, oo_addT, oo_tup, oo_lst, oo_abs, oo_int, oo_intb, oo_max2, oo_min2, oo_max3, oo_min3, oo_lenT, oo_lenR, oo_gTuple, oo_gList, oo_gLen, oo_biT, oo_biR, oo_slT, oo_slR, oo_isaII, oo_isaIB, oo_isaIT, oo_isaIS, oo_isaBI, oo_isaBB, oo_isaBT, oo_isaBS, oo_isaNT, lo_lst, atI_0, atI_1, atI_2, ixN_0, ixN_1, or_ix, ot_ix, ol_ix, or_set, or_len, or_add, or_mul, or_append, or_isLst, or_bi, or_bl, oo_sortSL, or_sl, or_wk, or_sr, ot_sr, or_gtup, oo_neb, oo_isB, oo_isNotB, ok_lr1, ok_lr2, ok_tr1, ok_tr2, or_popAt, List.getElem?_cons_zero, List.getElem?_cons_succ, List.set_cons_zero, List.set_cons_succ, List.map_cons, List.map_nil, List.replicate_succ, List.replicate_zero, List.length_cons, List.length_nil, List.cons_append, List.nil_append, wipeD, if_true, if_false, Bool.false_eq_true, Nat.reduceAdd, Nat.reduceSub, Nat.reduceLeDiff, decide_eq_true_eq, true_and, and_true, Int.reduceNeg]
    rw [cut_take, show ((at' : Int) + 1) = ((at' + 1 : Nat) : Int) by omega, cut_hi (by omega)]
    refine ⟨by rw [List.length_take]; omega, by rw [List.length_append, List.length_take, List.length_drop, List.length_singleton]; omega, by rw [List.length_append, List.length_singleton]; omega, fun v hv h' => ?_⟩
    rcases List.mem_append.mp hv with w | w
    · exact ka v w h'
    · rw [List.mem_singleton.mp w]
      refine tT h' _ (by simp only [List.length_append, List.length_take, List.length_drop, List.length_singleton]; omega) fun y hy => ?_
      rcases List.mem_append.mp hy with w | w
      · rcases List.mem_append.mp w with w | w
        · exact cS h' y (List.mem_of_mem_take w)
        · rw [List.mem_singleton.mp w]; exact kx h'
      · exact cS h' y (List.mem_of_mem_drop w)
  rintro l k ⟨rfl, la, ka⟩
  have g1 : (k ++ [VO.lst l])[p1]? = some (.lst items) := hg_app f1
  have g2 : (k ++ [VO.lst l])[k.length]? = some (.lst l) := hg_new
  have D4 := D3.app (x := [VO.lst l])
  have G4 := G3.trans (Grow.app (k := [VO.lst l]))
  have p1k : L ≤ k.length := by have := G2.1; have := G3.1; have := G1.1; omega
  generalize k ++ [VO.lst l] = h4 at g1 g2 D4 G4
  rw [g1, g2, lo_lst, lo_lst]
  refine ⟨by omega, fox ?_⟩
  have g3 : (h4 ++ [VO.lst (items ++ l)])[h4.length]? = some (.lst (items ++ l)) := hg_new
  have D5 := D4.app (x := [VO.lst (items ++ l)])
  have G5 := G4.trans (Grow.app (k := [VO.lst (items ++ l)]))
  have l4 : L ≤ h4.length := by have := hg_lt g2; omega
  have l5 : h4.length < (h4 ++ [VO.lst (items ++ l)]).length := by simp
  generalize h4.length = p4 at g3 l4 l5
  generalize h4 ++ [VO.lst (items ++ l)] = h5 at g3 D5 G5 l5
  have ll : (items ++ l).length = 15 := by rw [List.length_append]; omega
  have TT : ∀ v ∈ items ++ l, ∀ h', Grow d c h2 h' → Thing L h' v := fun v hv h' G => by
    rcases List.mem_append.mp hv with w | w
    · exact T8 v w h' G
    · exact ka v w h'
  generalize items ++ l = all at g3 ll TT
  try simp (maxSteps := 4000000) only [ok_ret, ok_bnd, ok_lift, ok_var, ok_c, ok_bin, ok_un, ok_asB, ok_and, ok_or, ok_not, ok_chain, ok_nil, ok_cons, ok_tup, ok_lst, ok_fn, ok_tmp, ok_call, ok_meth, ok_tval, ok_tand, ok_tor, ok_tnot, ok_if, ok_pnone, ok_psome, ok_slice, ok_fresh, ok_lcx, ok_body, ok_true, ok_dtmp, ok_dval, ok_rng1, ok_rng2, ok_enum, ok_enumT, ok_zip, ok_gname, ok_gsnil, ok_gscons, ok_gtup, ok_gsub, fo_next, fo_seq, fo_asg, fo_expr, fo_ret, fo_retN, fo_if, fo_break, fo_cont, fo_par, fo_aug, fo_augS, fo_for, fo_body, vr_some, ra1, ra2, in_int, tr_bl, pa2, zp_two, sr_some, wk_tup, wk_rol, wk_str, oo_add, oo_addI, oo_sub, oo_mul, oo_fdiv, oo_mod, oo_pow, oo_shl, oo_shr, oo_and, oo_or, oo_neg, oo_inv, oo_le, oo_gt, oo_ge, oo_lt, oo_eq, oo_ne, oo_eqb, oo_is0, oo_isNot0, oo_nes, oo_eqs, oo_addT, oo_tup, oo_lst, oo_abs, oo_int, oo_intb, oo_max2, oo_min2, oo_max3, oo_min3, oo_lenT, oo_lenR, oo_gTuple, oo_gList, oo_gLen, oo_biT, oo_biR, oo_slT, oo_slR, oo_isaII, oo_isaIB, oo_isaIT, oo_isaIS, oo_isaBI, oo_isaBB, oo_isaBT, oo_isaBS, oo_isaNT, lo_lst, atI_0, atI_1, atI_2, ixN_0, ixN_1, or_ix, ot_ix, ol_ix, or_set, or_len, or_add, or_mul, or_append, or_isLst, or_bi, or_bl, oo_sortSL, or_sl, or_wk, or_sr, ot_sr, or_gtup, oo_neb, oo_isB, oo_isNotB, ok_lr1, ok_lr2, ok_tr1, ok_tr2, or_popAt, List.getElem?_cons_zero, List.getElem?_cons_succ, List.set_cons_zero, List.set_cons_succ, List.map_cons, List.map_nil, List.replicate_succ, List.replicate_zero, List.length_cons, List.length_nil, List.cons_append, List.nil_append, wipeD, if_true, if_false, Bool.false_eq_true, Nat.reduceAdd, Nat.reduceSub, Nat.reduceLeDiff, decide_eq_true_eq, true_and, and_true, Int.reduceNeg]
  refine OK.mono (odd_spec dl cl (by omega) (by omega) D5) ?_
  rintro v h6 ⟨D6, G6, T6⟩
  have g6 := G6.2 _ _ (show p4 ≠ d by omega) (show p4 ≠ c by omega) g3
  try simp (maxSteps := 4000000) only [ok_ret, ok_bnd, ok_lift, ok_var, ok_c, ok_bin, ok_un, ok_asB, ok_and, ok_or, ok_not, ok_chain, ok_nil, ok_cons, ok_tup, ok_lst, ok_fn, ok_tmp, ok_call, ok_meth, ok_tval, ok_tand, ok_tor, ok_tnot, ok_if, ok_pnone, ok_psome, ok_slice, ok_fresh, ok_lcx, ok_body, ok_true, ok_dtmp, ok_dval, ok_rng1, ok_rng2, ok_enum, ok_enumT, ok_zip, ok_gname, ok_gsnil, ok_gscons, ok_gtup, ok_gsub, fo_next, fo_seq, fo_asg, fo_expr, fo_ret, fo_retN, fo_if, fo_break, fo_cont, fo_par, fo_aug, fo_augS, fo_for, fo_body, vr_some, ra1, ra2, in_int, tr_bl, pa2, zp_two, sr_some, wk_tup, wk_rol, wk_str, oo_add, oo_addI, oo_sub, oo_mul, oo_fdiv, oo_mod, oo_pow, oo_shl, oo_shr, oo_and, oo_or, oo_neg, oo_inv, oo_le, oo_gt, oo_ge, oo_lt, oo_eq, oo_ne, oo_eqb, oo_is0, oo_isNot0, oo_nes, oo_eqs, oo_addT, oo_tup, oo_lst, oo_abs, oo_int, oo_intb, oo_max2, oo_min2, oo_max3, oo_min3, oo_lenT, oo_lenR, oo_gTuple, oo_gList, oo_gLen, oo_biT, oo_biR, oo_slT, oo_slR, oo_isaII, oo_isaIB, oo_isaIT, oo_isaIS, oo_isaBI, oo_isaBB, oo_isaBT, oo_isaBS, oo_isaNT, lo_lst, atI_0, atI_1, atI_2, ixN_0, ixN_1, or_ix, ot_ix, ol_ix, or_set, or_len, or_add, or_mul, or_append, or_isLst, or_bi, or_bl, oo_sortSL, or_sl, or_wk, or_sr, ot_sr, or_gtup, oo_neb, oo_isB, oo_isNotB, ok_lr1, ok_lr2, ok_tr1, ok_tr2, or_popAt, List.getElem?_cons_zero, List.getElem?_cons_succ, List.set_cons_zero, List.set_cons_succ, List.map_cons, List.map_nil, List.replicate_succ, List.replicate_zero, List.length_cons, List.length_nil, List.cons_append, List.nil_append, wipeD, if_true, if_false, Bool.false_eq_true, Nat.reduceAdd, Nat.reduceSub, Nat.reduceLeDiff, decide_eq_true_eq, true_and, and_true, Int.reduceNeg]
  have g7 : (h6 ++ [VO.lst [v]])[p4]? = some (.lst all) := hg_app g6
  have g8 : (h6 ++ [VO.lst [v]])[h6.length]? = some (.lst [v]) := hg_new
  have D7 := D6.app (x := [VO.lst [v]])
  have G7 := G6.trans (Grow.app (k := [VO.lst [v]]))
  have G67 : Grow d c h6 (h6 ++ [VO.lst [v]]) := .app
  generalize h6 ++ [VO.lst [v]] = h7 at g7 g8 D7 G7 G67
  rw [g7, g8, lo_lst, lo_lst]
  refine ⟨by rw [ll]; simp, ?_⟩
  have g9 : (h7 ++ [VO.lst (all ++ [v])])[h7.length]? = some (.lst (all ++ [v])) := hg_new
  have D8 := D7.app (x := [VO.lst (all ++ [v])])
  have G8 := G7.trans (Grow.app (k := [VO.lst (all ++ [v])]))
  have G68 := G67.trans (Grow.app (k := [VO.lst (all ++ [v])]))
  have l7' : L ≤ h7.length := by have := G7.1; omega
  generalize h7.length = p7 at g9 l7'
  generalize h7 ++ [VO.lst (all ++ [v])] = h8 at g9 D8 G8 G68
  refine OK.mono (draw_spec (m := 16) D8 (by decide) (by decide) (by omega)) ?_
  rintro u h9 ⟨y, rfl, y0, y1, D9, G9⟩
  have g10 := G9.2 _ _ (show p7 ≠ d by omega) (show p7 ≠ c by omega) g9
  try simp (maxSteps := 4000000) only [ok_ret, ok_bnd, ok_lift, ok_var, ok_c, ok_bin, ok_un, ok_asB, ok_and, ok_or, ok_not, ok_chain, ok_nil, ok_cons, ok_tup, ok_lst, ok_fn, ok_tmp, ok_call, ok_meth, ok_tval, ok_tand, ok_tor, ok_tnot, ok_if, ok_pnone, ok_psome, ok_slice, ok_fresh, ok_lcx, ok_body, ok_true, ok_dtmp, ok_dval, ok_rng1, ok_rng2, ok_enum, ok_enumT, ok_zip, ok_gname, ok_gsnil, ok_gscons, ok_gtup, ok_gsub, fo_next, fo_seq, fo_asg, fo_expr, fo_ret, fo_retN, fo_if, fo_break, fo_cont, fo_par, fo_aug, fo_augS, fo_for, fo_body, vr_some, ra1, ra2, in_int, tr_bl, pa2, zp_two, sr_some, wk_tup, wk_rol, wk_str, oo_add, oo_addI, oo_sub, oo_mul, oo_fdiv, oo_mod, oo_pow, oo_shl, oo_shr, oo_and, oo_or, oo_neg, oo_inv, oo_le, oo_gt, oo_ge, oo_lt, oo_eq, oo_ne, oo_eqb, oo_is0, oo_isNot0, oo_nes, oo_eqs, oo_addT, oo_tup, oo_lst, oo_abs, oo_int, oo_intb, oo_max2, oo_min2, oo_max3, oo_min3, oo_lenT, oo_lenR, oo_gTuple, oo_gList, oo_gLen, oo_biT, oo_biR, oo_slT, oo_slR, oo_isaII, oo_isaIB, oo_isaIT, oo_isaIS, oo_isaBI, oo_isaBB, oo_isaBT, oo_isaBS, oo_isaNT, lo_lst, atI_0, atI_1, atI_2, ixN_0, ixN_1, or_ix, ot_ix, ol_ix, or_set, or_len, or_add, or_mul, or_append, or_isLst, or_bi, or_bl, oo_sortSL, or_sl, or_wk, or_sr, ot_sr, or_gtup, oo_neb, oo_isB, oo_isNotB, ok_lr1, ok_lr2, ok_tr1, ok_tr2, or_popAt, List.getElem?_cons_zero, List.getElem?_cons_succ, List.set_cons_zero, List.set_cons_succ, List.map_cons, List.map_nil, List.replicate_succ, List.replicate_zero, List.length_cons, List.length_nil, List.cons_append, List.nil_append, wipeD, if_true, if_false, Bool.false_eq_true, Nat.reduceAdd, Nat.reduceSub, Nat.reduceLeDiff, decide_eq_true_eq, true_and, and_true, Int.reduceNeg, g10]
  have ly : y.toNat < (all ++ [v]).length := by rw [List.length_append, ll, List.length_singleton]; omega
  refine atI_of y0 (List.getElem?_eq_getElem ly) ?_
  refine ⟨D9.mono (by omega), (G2.trans G5).trans (G8.trans G9), ?_⟩
  rcases List.mem_append.mp (List.getElem_mem ly) with w | w
  · exact TT _ w _ (G5.trans (G8.trans G9))
  · rw [List.mem_singleton.mp w]
    exact T6.grow dl cl (G68.trans G9)
end
end G

namespace G
open PySem PySem.Spec PySem.W PyProof.Rows L2 D
/-! what repr tells stays -/
theorem pdats_allS {S : (Nat → Option PyData) → Prop} {P : PyData → Prop} : ∀ {l : List PV}, (∀ x ∈ l, ∃ d, (∀ r, S r → pdat r x = some d) ∧ P d) → ∃ ds, (∀ r, S r → pdats r l = some ds) ∧ ds.length = l.length ∧ ∀ d ∈ ds, P d
  | [], _ => ⟨[], fun _ _ => rfl, rfl, by simp⟩
  | x :: l, k => by
    obtain ⟨d, e, p⟩ := k x List.mem_cons_self
    obtain ⟨ds, e2, l2, p2⟩ := pdats_allS fun y hy => k y (List.mem_cons_of_mem _ hy)
    refine ⟨d :: ds, fun r hr => by simp only [pdats, e r hr, e2 r hr], by simp [l2], fun y hy => ?_⟩
    rcases List.mem_cons.mp hy with rfl | hy
    · exact p
    · exact p2 y hy
/-- data as a later heap reads it -/
def Sk (h : VH) (k : Nat) : (Nat → Option PyData) → Prop := fun r => ∃ (h' : VH) (j : Nat), Keep h h' ∧ r = rdat h' (j + k)
section
variable {L : Nat} {h : VH} {v : PV}
theorem CellOk.datS (k : CellOk L h v) : ∃ d, (∀ r, Sk h 1 r → pdat r v = some d) ∧ Gd d 1 10 := by
  rcases k with ⟨i, rfl, b⟩ | ⟨b, rfl⟩ | rfl | rfl | ⟨n, i, rfl, hn, q, b⟩
  · exact ⟨.int i, fun r _ => by simp only [pdat], (gd_int b).mono (by decide) (by decide)⟩
  · exact ⟨.bool b, fun r _ => by simp only [pdat], gd_bool.mono (by decide) (by decide)⟩
  · exact ⟨.none, fun r _ => by simp only [pdat], gd_none.mono (by decide) (by decide)⟩
  · exact ⟨.str "1", fun r _ => by simp only [pdat], ⟨by decide +kernel, rfl, by decide, by decide +kernel, by decide +kernel⟩⟩
  · refine ⟨.list [.int i], fun r ⟨h', j, K, e⟩ => ?_, ?_⟩
    · subst e
      simp only [pdat]
      unfold rdat
      simp only [K.2 _ _ q, pdats, pdat]
    · exact (gd_list (k := 0) (N := 0) (m := 1) (fun d hd => by rw [List.mem_singleton] at hd; subst hd; exact gd_int b) (by simp)).mono (by decide) (by decide)
theorem Sk.down {k : Nat} {r : Nat → Option PyData} (s : Sk h (k + 1) r) : Sk h k r := by
  obtain ⟨h', j, K, e⟩ := s
  exact ⟨h', j + 1, K, by rw [e]; congr 1; omega⟩
theorem RowOk.datS (k : RowOk L h v) : ∃ d, (∀ r, Sk h 2 r → pdat r v = some d) ∧ Gd d 2 99 := by
  rcases k with k | ⟨cs, rfl, l, k⟩ | ⟨n, cs, rfl, hn, q, l, k⟩
  · obtain ⟨d, e, g⟩ := k.datS
    exact ⟨d, fun r s => e r s.down, g.mono (by decide) (by decide)⟩
  · obtain ⟨ds, e, l2, p⟩ := pdats_allS (P := fun d => Gd d 1 10) fun x hx => (k x hx).datS
    exact ⟨.tuple ds, fun r s => by simp only [pdat, e r s.down], gd_tuple (m := 9) p (by omega)⟩
  · obtain ⟨ds, e, l2, p⟩ := pdats_allS (P := fun d => Gd d 1 10) fun x hx => (k x hx).datS
    refine ⟨.list ds, fun r ⟨h', j, K, er⟩ => ?_, gd_list (m := 9) p (by omega)⟩
    subst er
    simp only [pdat]
    unfold rdat
    simp only [K.2 _ _ q, e (rdat h' (j + 1)) ⟨h', j, K, rfl⟩]
theorem Thing.reprK (k : Thing L h v) : ∃ z : Str, ∀ (h' : VH), Keep h h' → ∀ (Q : PV → VH → Prop), OO (oReprQ [v] h') Q = Q (.str z) h' := by
  have two : ∀ (z : Str), (∀ h', Keep h h' → oReprQ [v] h' = some (.str z, h')) → ∃ z : Str, ∀ (h' : VH), Keep h h' → ∀ (Q : PV → VH → Prop), OO (oReprQ [v] h') Q = Q (.str z) h' := fun z e => ⟨z, fun h' K Q => by
    rw [e h' K]; with_unfolding_all rfl⟩
  rcases k with ⟨l, rfl, ll, k⟩ | ⟨n, l, rfl, hn, q, ll, k⟩ | ⟨i, rfl, b⟩ | ⟨b, rfl⟩ | rfl | rfl | rfl | ⟨n, rfl, hn, q | q⟩
  · obtain ⟨ds, e, l2, p⟩ := pdats_allS (P := fun d => Gd d 2 99) fun x hx => (k x hx).datS
    exact ⟨(PyData.tuple ds).shown, fun h' K Q => oo_repr (a := .tup l) (l := l) (k := 3) (N := 900) rfl (by simp only [D.dat, pdat, e (rdat h' 4) ⟨h', 2, K, rfl⟩]) (gd_tuple (m := 9) p (by omega)) (by decide) (by decide)⟩
  · obtain ⟨ds, e, l2, p⟩ := pdats_allS (P := fun d => Gd d 2 99) fun x hx => (k x hx).datS
    refine ⟨(PyData.list ds).shown, fun h' K Q => ?_⟩
    have q' := K.2 _ _ q
    have : oReprQ [.ref n] h' = oRepr [.ref n] h' := by
      unfold oReprQ
      simp only [dictD, q']
    rw [this]
    refine oo_repr (a := .ref n) (l := l) (k := 3) (N := 900) (by simp only [itemsOf, q']) ?_ (gd_list (m := 9) p (by omega)) (by decide) (by decide)
    simp only [D.dat, pdat]
    unfold rdat
    simp only [q', e (rdat h' 3) ⟨h', 1, K, rfl⟩]
  · exact two (toString i) fun h' _ => by
      show oRepr [.int i] h' = _
      unfold oRepr
      simp only
      rw [if_pos (log_small b)]
  · exact two _ fun h' _ => rfl
  · exact two _ fun h' _ => rfl
  · exact two (reprText "1") fun h' _ => by
      unfold oReprQ
      simp only
      rw [if_pos (by decide +kernel)]
  · exact two (reprText "") fun h' _ => by
      unfold oReprQ
      simp only
      rw [if_pos (by decide +kernel)]
  · exact two (PyData.dict []).shown fun h' K => by
      unfold oReprQ
      simp only [dictD, K.2 _ _ q]
      rw [if_pos (by decide +kernel)]
  · exact two (PyData.dict [(.str "a", .int 1)]).shown fun h' K => by
      unfold oReprQ
      simp only [dictD, K.2 _ _ q]
      rw [if_pos (by decide +kernel)]
end
/-! k07: the same tuples -/
theorem sameQ_intA {h : VH} {Q : PV → VH → Prop} {k : Nat} {i : Int} (p : Q (.bl true) h) : OK (f_law_same (k + 1) [.int i, .int i] h) Q := by
  have kn : Kn h (.int i) := ⟨.int i, rfl⟩
  show OK (fn0 4 (b_law_same (f_law_same k)) [.int i, .int i] h) Q
  rw [ok_fn0]
  unfold b_law_same f_law_whole
  try simp (maxSteps := 4000000) only [ok_ret, ok_bnd, ok_lift, ok_var, ok_c, ok_bin, ok_un, ok_asB, ok_and, ok_or, ok_not, ok_chain, ok_nil, ok_cons, ok_tup, ok_lst, ok_fn, ok_tmp, ok_call, ok_meth, ok_tval, ok_tand, ok_tor, ok_tnot, ok_if, ok_pnone, ok_psome, ok_slice, ok_fresh, ok_lcx, ok_body, ok_true, ok_dtmp, ok_dval, ok_rng1, ok_rng2, ok_enum, ok_enumT, ok_zip, ok_gname, ok_gsnil, ok_gscons, ok_gtup, ok_gsub, fo_next, fo_seq, fo_asg, fo_expr, fo_ret, fo_retN, fo_if, fo_break, fo_cont, fo_par, fo_aug, fo_augS, fo_for, fo_body, vr_some, ra1, ra2, in_int, tr_bl, pa2, zp_two, sr_some, wk_tup, wk_rol, wk_str, oo_add, oo_addI, oo_sub, oo_mul, oo_fdiv, oo_mod, oo_pow, oo_shl, oo_shr, oo_and, oo_or, oo_neg, oo_inv, oo_le, oo_gt, oo_ge, oo_lt, oo_eq, oo_ne, oo_eqb, oo_is0, oo_isNot0, oo_nes, oo_eqs, oo_addT, oo_tup, oo_lst, oo_abs, oo_int, oo_intb, oo_max2, oo_min2, oo_max3, oo_min3, oo_lenT, oo_lenR, oo_gTuple, oo_gList, oo_gLen, oo_biT, oo_biR, oo_slT, oo_slR, oo_isaII, oo_isaIB, oo_isaIT, oo_isaIS, oo_isaBI, oo_isaBB, oo_isaBT, oo_isaBS, oo_isaNT, lo_lst, atI_0, atI_1, atI_2, ixN_0, ixN_1, or_ix, ot_ix, ol_ix, or_set, or_len, or_add, or_mul, or_append, or_isLst, or_bi, or_bl, oo_sortSL, or_sl, or_wk, or_sr, ot_sr, or_gtup, oo_neb, oo_isB, oo_isNotB, ok_lr1, ok_lr2, ok_tr1, ok_tr2, or_popAt, List.getElem?_cons_zero, List.getElem?_cons_succ, List.set_cons_zero, List.set_cons_succ, List.map_cons, List.map_nil, List.replicate_succ, List.replicate_zero, List.length_cons, List.length_nil, List.cons_append, List.nil_append, wipeD, if_true, if_false, Bool.false_eq_true, Nat.reduceAdd, Nat.reduceSub, Nat.reduceLeDiff, decide_eq_true_eq, true_and, and_true, Int.reduceNeg, isNonP, decide_true, isq_tup kn, isq_bol kn, isq_str kn, isq_int kn, isTupP, isBolP, isStrP, isIntP, ok_fn0]
  unfold b_law_whole
  try simp (maxSteps := 4000000) only [ok_ret, ok_bnd, ok_lift, ok_var, ok_c, ok_bin, ok_un, ok_asB, ok_and, ok_or, ok_not, ok_chain, ok_nil, ok_cons, ok_tup, ok_lst, ok_fn, ok_tmp, ok_call, ok_meth, ok_tval, ok_tand, ok_tor, ok_tnot, ok_if, ok_pnone, ok_psome, ok_slice, ok_fresh, ok_lcx, ok_body, ok_true, ok_dtmp, ok_dval, ok_rng1, ok_rng2, ok_enum, ok_enumT, ok_zip, ok_gname, ok_gsnil, ok_gscons, ok_gtup, ok_gsub, fo_next, fo_seq, fo_asg, fo_expr, fo_ret, fo_retN, fo_if, fo_break, fo_cont, fo_par, fo_aug, fo_augS, fo_for, fo_body, vr_some, ra1, ra2, in_int, tr_bl, pa2, zp_two, sr_some, wk_tup, wk_rol, wk_str, oo_add, oo_addI, oo_sub, oo_mul, oo_fdiv, oo_mod, oo_pow, oo_shl, oo_shr, oo_and, oo_or, oo_neg, oo_inv, oo_le, oo_gt, oo_ge, oo_lt, oo_eq, oo_ne, oo_eqb, oo_is0, oo_isNot0, oo_nes, oo_eqs, oo_addT, oo_tup, oo_lst, oo_abs, oo_int, oo_intb, oo_max2, oo_min2, oo_max3, oo_min3, oo_lenT, oo_lenR, oo_gTuple, oo_gList, oo_gLen, oo_biT, oo_biR, oo_slT, oo_slR, oo_isaII, oo_isaIB, oo_isaIT, oo_isaIS, oo_isaBI, oo_isaBB, oo_isaBT, oo_isaBS, oo_isaNT, lo_lst, atI_0, atI_1, atI_2, ixN_0, ixN_1, or_ix, ot_ix, ol_ix, or_set, or_len, or_add, or_mul, or_append, or_isLst, or_bi, or_bl, oo_sortSL, or_sl, or_wk, or_sr, ot_sr, or_gtup, oo_neb, oo_isB, oo_isNotB, ok_lr1, ok_lr2, ok_tr1, ok_tr2, or_popAt, List.getElem?_cons_zero, List.getElem?_cons_succ, List.set_cons_zero, List.set_cons_succ, List.map_cons, List.map_nil, List.replicate_succ, List.replicate_zero, List.length_cons, List.length_nil, List.cons_append, List.nil_append, wipeD, if_true, if_false, Bool.false_eq_true, Nat.reduceAdd, Nat.reduceSub, Nat.reduceLeDiff, decide_eq_true_eq, true_and, and_true, Int.reduceNeg, isNonP, decide_true, isq_tup kn, isq_bol kn, isq_str kn, isq_int kn, isTupP, isBolP, isStrP, isIntP, Bool.not_false]
  exact p
theorem sameQ_tupA {h : VH} {Q : PV → VH → Prop} {k : Nat} {l : List PV} (kn : Kn h (.tup l)) (ll : l.length ≤ 1000) (e : ∀ x ∈ l, ∀ Q : PV → VH → Prop, Q (.bl true) h → OK (f_law_same k [x, x] h) Q) (p : Q (.bl true) h) : OK (f_law_same (k + 1) [.tup l, .tup l] h) Q := by
  show OK (fn0 4 (b_law_same (f_law_same k)) [.tup l, .tup l] h) Q
  rw [ok_fn0]
  unfold b_law_same
  try simp (maxSteps := 4000000) only [ok_ret, ok_bnd, ok_lift, ok_var, ok_c, ok_bin, ok_un, ok_asB, ok_and, ok_or, ok_not, ok_chain, ok_nil, ok_cons, ok_tup, ok_lst, ok_fn, ok_tmp, ok_call, ok_meth, ok_tval, ok_tand, ok_tor, ok_tnot, ok_if, ok_pnone, ok_psome, ok_slice, ok_fresh, ok_lcx, ok_body, ok_true, ok_dtmp, ok_dval, ok_rng1, ok_rng2, ok_enum, ok_enumT, ok_zip, ok_gname, ok_gsnil, ok_gscons, ok_gtup, ok_gsub, fo_next, fo_seq, fo_asg, fo_expr, fo_ret, fo_retN, fo_if, fo_break, fo_cont, fo_par, fo_aug, fo_augS, fo_for, fo_body, vr_some, ra1, ra2, in_int, tr_bl, pa2, zp_two, sr_some, wk_tup, wk_rol, wk_str, oo_add, oo_addI, oo_sub, oo_mul, oo_fdiv, oo_mod, oo_pow, oo_shl, oo_shr, oo_and, oo_or, oo_neg, oo_inv, oo_le, oo_gt, oo_ge, oo_lt, oo_eq, oo_ne, oo_eqb, oo_is0, oo_isNot0, oo_nes, oo_eqs, oo_addT, oo_tup, oo_lst, oo_abs, oo_int, oo_intb, oo_max2, oo_min2, oo_max3, oo_min3, oo_lenT, oo_lenR, oo_gTuple, oo_gList, oo_gLen, oo_biT, oo_biR, oo_slT, oo_slR, oo_isaII, oo_isaIB, oo_isaIT, oo_isaIS, oo_isaBI, oo_isaBB, oo_isaBT, oo_isaBS, oo_isaNT, lo_lst, atI_0, atI_1, atI_2, ixN_0, ixN_1, or_ix, ot_ix, ol_ix, or_set, or_len, or_add, or_mul, or_append, or_isLst, or_bi, or_bl, oo_sortSL, or_sl, or_wk, or_sr, ot_sr, or_gtup, oo_neb, oo_isB, oo_isNotB, ok_lr1, ok_lr2, ok_tr1, ok_tr2, or_popAt, List.getElem?_cons_zero, List.getElem?_cons_succ, List.set_cons_zero, List.set_cons_succ, List.map_cons, List.map_nil, List.replicate_succ, List.replicate_zero, List.length_cons, List.length_nil, List.cons_append, List.nil_append, wipeD, if_true, if_false, Bool.false_eq_true, Nat.reduceAdd, Nat.reduceSub, Nat.reduceLeDiff, decide_eq_true_eq, true_and, and_true, Int.reduceNeg, isq_tup kn, isTupP, Bool.not_true, decide_true]
  refine ⟨by rw [paired_len]; omega, OK.mono (ok_lc0 (fun k acc h' => h' = h ∧ ∃ bs : List Bool, acc = bls bs ∧ ∀ b ∈ bs, b = true) ⟨rfl, [], rfl, by simp⟩ (fun _ _ _ _ _ => rfl) ?_ fun _ _ q => q) ?_⟩
  · rintro i x acc h' hx ⟨rfl, bs, rfl, hb⟩
    obtain ⟨p, q, e1, e2, rfl⟩ := paired_get hx
    obtain rfl : p = q := by rw [e1] at e2; exact Option.some.inj e2
    have fin : ∃ bs_1 : List Bool, bls bs ++ [PV.bl true] = bls bs_1 ∧ ∀ b ∈ bs_1, b = true := ⟨bs ++ [true], by simp [bls], fun b hm => by
      rcases List.mem_append.mp hm with z | z
      · exact hb b z
      · simpa using z⟩
    try simp (maxSteps := 4000000) only [ok_ret, ok_bnd, ok_lift, ok_var, ok_c, ok_bin, ok_un, ok_asB, ok_and, ok_or, ok_not, ok_chain, ok_nil, ok_cons, ok_tup, ok_lst, ok_fn, ok_tmp, ok_call, ok_meth, ok_tval, ok_tand, ok_tor, ok_tnot, ok_if, ok_pnone, ok_psome, ok_slice, ok_fresh, ok_lcx, ok_body, ok_true, ok_dtmp, ok_dval, ok_rng1, ok_rng2, ok_enum, ok_enumT, ok_zip, ok_gname, ok_gsnil, ok_gscons, ok_gtup, ok_gsub, fo_next, fo_seq, fo_asg, fo_expr, fo_ret, fo_retN, fo_if, fo_break, fo_cont, fo_par, fo_aug, fo_augS, fo_for, fo_body, vr_some, ra1, ra2, in_int, tr_bl, pa2, zp_two, sr_some, wk_tup, wk_rol, wk_str, oo_add, oo_addI, oo_sub, oo_mul, oo_fdiv, oo_mod, oo_pow, oo_shl, oo_shr, oo_and, oo_or, oo_neg, oo_inv, oo_le, oo_gt, oo_ge, oo_lt, oo_eq, oo_ne, oo_eqb, oo_is0, oo_isNot0, oo_nes, oo_eqs, oo_addT, oo_tup, oo_lst, oo_abs, oo_int, oo_intb, oo_max2, oo_min2, oo_max3, oo_min3, oo_lenT, oo_lenR, oo_gTuple, oo_gList, oo_gLen, oo_biT, oo_biR, oo_slT, oo_slR, oo_isaII, oo_isaIB, oo_isaIT, oo_isaIS, oo_isaBI, oo_isaBB, oo_isaBT, oo_isaBS, oo_isaNT, lo_lst, atI_0, atI_1, atI_2, ixN_0, ixN_1, or_ix, ot_ix, ol_ix, or_set, or_len, or_add, or_mul, or_append, or_isLst, or_bi, or_bl, oo_sortSL, or_sl, or_wk, or_sr, ot_sr, or_gtup, oo_neb, oo_isB, oo_isNotB, ok_lr1, ok_lr2, ok_tr1, ok_tr2, or_popAt, List.getElem?_cons_zero, List.getElem?_cons_succ, List.set_cons_zero, List.set_cons_succ, List.map_cons, List.map_nil, List.replicate_succ, List.replicate_zero, List.length_cons, List.length_nil, List.cons_append, List.nil_append, wipeD, if_true, if_false, Bool.false_eq_true, Nat.reduceAdd, Nat.reduceSub, Nat.reduceLeDiff, decide_eq_true_eq, true_and, and_true, Int.reduceNeg]
    refine e p (List.mem_of_getElem? e1) _ ?_
    try simp (maxSteps := 4000000) only [ok_ret, ok_bnd, ok_lift, ok_var, ok_c, ok_bin, ok_un, ok_asB, ok_and, ok_or, ok_not, ok_chain, ok_nil, ok_cons, ok_tup, ok_lst, ok_fn, ok_tmp, ok_call, ok_meth, ok_tval, ok_tand, ok_tor, ok_tnot, ok_if, ok_pnone, ok_psome, ok_slice, ok_fresh, ok_lcx, ok_body, ok_true, ok_dtmp, ok_dval, ok_rng1, ok_rng2, ok_enum, ok_enumT, ok_zip, ok_gname, ok_gsnil, ok_gscons, ok_gtup, ok_gsub, fo_next, fo_seq, fo_asg, fo_expr, fo_ret, fo_retN, fo_if, fo_break, fo_cont, fo_par, fo_aug, fo_augS, fo_for, fo_body, vr_some, ra1, ra2, in_int, tr_bl, pa2, zp_two, sr_some, wk_tup, wk_rol, wk_str, oo_add, oo_addI, oo_sub, oo_mul, oo_fdiv, oo_mod, oo_pow, oo_shl, oo_shr, oo_and, oo_or, oo_neg, oo_inv, oo_le, oo_gt, oo_ge, oo_lt, oo_eq, oo_ne, oo_eqb, oo_is0, oo_isNot0, oo_nes, oo_eqs, oo_addT, oo_tup, oo_lst, oo_abs, oo_int, oo_intb, oo_max2, oo_min2, oo_max3, oo_min3, oo_lenT, oo_lenR, oo_gTuple, oo_gList, oo_gLen, oo_biT, oo_biR, oo_slT, oo_slR, oo_isaII, oo_isaIB, oo_isaIT, oo_isaIS, oo_isaBI, oo_isaBB, oo_isaBT, oo_isaBS, oo_isaNT, lo_lst, atI_0, atI_1, atI_2, ixN_0, ixN_1, or_ix, ot_ix, ol_ix, or_set, or_len, or_add, or_mul, or_append, or_isLst, or_bi, or_bl, oo_sortSL, or_sl, or_wk, or_sr, ot_sr, or_gtup, oo_neb, oo_isB, oo_isNotB, ok_lr1, ok_lr2, ok_tr1, ok_tr2, or_popAt, List.getElem?_cons_zero, List.getElem?_cons_succ, List.set_cons_zero, List.set_cons_succ, List.map_cons, List.map_nil, List.replicate_succ, List.replicate_zero, List.length_cons, List.length_nil, List.cons_append, List.nil_append, wipeD, if_true, if_false, Bool.false_eq_true, Nat.reduceAdd, Nat.reduceSub, Nat.reduceLeDiff, decide_eq_true_eq, true_and, and_true, Int.reduceNeg]
    exact fin
  · rintro l h' ⟨rfl, bs, rfl, hb⟩
    rw [oo_gAll]
    have : bs.all id = true := List.all_eq_true.mpr fun b hm => hb b hm
    rw [this]
    exact p
theorem sameQ_sides {h : VH} {Q : PV → VH → Prop} {t : List (List Int)} (lt : t.length ≤ 1000) (lr : ∀ r ∈ t, r.length ≤ 1000) (p : Q (.bl true) h) : OK (f_law_same 6 [.tup (tupI t), .tup (tupI t)] h) Q := by
  refine sameQ_tupA (k := 5) ⟨.tuple (t.map fun r => PyData.tuple (r.map PyData.int)), ?_⟩ (by rw [tupI_len]; exact lt) (fun x hx Q p => ?_) p
  · show dat h _ = _
    simp only [dat, pdat, show tupI t = t.map fun r => PV.tup (intL r) from rfl, pdats_rows]
  · obtain ⟨r, hr, rfl⟩ := List.mem_map.mp hx
    refine sameQ_tupA (k := 4) ⟨.tuple (r.map PyData.int), ?_⟩ (by rw [intL_len]; exact lr r hr) (fun y hy Q p => ?_) p
    · show dat h _ = _
      simp only [dat, pdat, pdats_intL]
    · obtain ⟨i, _, rfl⟩ := List.mem_map.mp hy
      exact sameQ_intA (k := 3) p
end G

namespace G
open PySem PySem.Spec PySem.W PyProof.Rows L2 D
/-! k07: the law -/
theorem tup_thing {L n : Nat} {h : VH} {r : List Int} (n8 : n ≤ 8) (lr : r.length ≤ 9) (b : ∀ x ∈ r, 0 ≤ x ∧ x ≤ n) : Thing L h (.tup (intL r)) :=
  .inl ⟨_, rfl, by rw [intL_len]; exact lr, fun x hx => by
    obtain ⟨i, hi, rfl⟩ := List.mem_map.mp hx
    have := b i hi
    exact .inl (.inl ⟨i, rfl, Nat.lt_of_lt_of_le (show i.natAbs < 2 ^ 8 by omega) (Nat.pow_le_pow_right (by decide) (by decide))⟩)⟩
theorem law_true (ns : List Int) (hn : ns.length ≤ 63) : ∃ h', flaw [.rol (ns.map PV.int)] [] = .ok (.bl true) h' := by
  have key : OK (flaw [.rol (intL ns)] []) fun v _ => v = .bl true := by
    unfold flaw
    rw [ok_fn0]
    unfold blaw
    try simp (maxSteps := 4000000) only [ok_ret, ok_bnd, ok_lift, ok_var, ok_c, ok_bin, ok_un, ok_asB, ok_and, ok_or, ok_not, ok_chain, ok_nil, ok_cons, ok_tup, ok_lst, ok_fn, ok_tmp, ok_call, ok_meth, ok_tval, ok_tand, ok_tor, ok_tnot, ok_if, ok_pnone, ok_psome, ok_slice, ok_fresh, ok_lcx, ok_body, ok_true, ok_dtmp, ok_dval, ok_rng1, ok_rng2, ok_enum, ok_enumT, ok_zip, ok_gname, ok_gsnil, ok_gscons, ok_gtup, ok_gsub, fo_next, fo_seq, fo_asg, fo_expr, fo_ret, fo_retN, fo_if, fo_break, fo_cont, fo_par, fo_aug, fo_augS, fo_for, fo_body, vr_some, ra1, ra2, in_int, tr_bl, pa2, zp_two, sr_some, wk_tup, wk_rol, wk_str, oo_add, oo_addI, oo_sub, oo_mul, oo_fdiv, oo_mod, oo_pow, oo_shl, oo_shr, oo_and, oo_or, oo_neg, oo_inv, oo_le, oo_gt, oo_ge, oo_lt, oo_eq, oo_ne, oo_eqb, oo_is0, oo_isNot0, oo_nes, oo_eqs, oo_addT, oo_tup, oo_lst, oo_abs, oo_int, oo_intb, oo_max2, oo_min2, oo_max3, oo_min3, oo_lenT, oo_lenR, oo_gTuple, oo_gList, oo_gLen, oo_biT, oo_biR, oo_slT, oo_slR, oo_isaII, oo_isaIB, oo_isaIT, oo_isaIS, oo_isaBI, oo_isaBB, oo_isaBT, oo_isaBS, oo_isaNT, lo_lst, atI_0, atI_1, atI_2, ixN_0, ixN_1, or_ix, ot_ix, ol_ix, or_set, or_len, or_add, or_mul, or_append, or_isLst, or_bi, or_bl, oo_sortSL, or_sl, or_wk, or_sr, ot_sr, or_gtup, oo_neb, oo_isB, oo_isNotB, ok_lr1, ok_lr2, ok_tr1, ok_tr2, or_popAt, List.getElem?_cons_zero, List.getElem?_cons_succ, List.set_cons_zero, List.set_cons_succ, List.map_cons, List.map_nil, List.replicate_succ, List.replicate_zero, List.length_cons, List.length_nil, List.cons_append, List.nil_append, wipeD, if_true, if_false, Bool.false_eq_true, Nat.reduceAdd, Nat.reduceSub, Nat.reduceLeDiff, decide_eq_true_eq, true_and, and_true, Int.reduceNeg]
    refine OK.mono (deck_spec hn) ?_
    rintro v h ⟨d, c, rfl, D⟩
    try simp (maxSteps := 4000000) only [ok_ret, ok_bnd, ok_lift, ok_var, ok_c, ok_bin, ok_un, ok_asB, ok_and, ok_or, ok_not, ok_chain, ok_nil, ok_cons, ok_tup, ok_lst, ok_fn, ok_tmp, ok_call, ok_meth, ok_tval, ok_tand, ok_tor, ok_tnot, ok_if, ok_pnone, ok_psome, ok_slice, ok_fresh, ok_lcx, ok_body, ok_true, ok_dtmp, ok_dval, ok_rng1, ok_rng2, ok_enum, ok_enumT, ok_zip, ok_gname, ok_gsnil, ok_gscons, ok_gtup, ok_gsub, fo_next, fo_seq, fo_asg, fo_expr, fo_ret, fo_retN, fo_if, fo_break, fo_cont, fo_par, fo_aug, fo_augS, fo_for, fo_body, vr_some, ra1, ra2, in_int, tr_bl, pa2, zp_two, sr_some, wk_tup, wk_rol, wk_str, oo_add, oo_addI, oo_sub, oo_mul, oo_fdiv, oo_mod, oo_pow, oo_shl, oo_shr, oo_and, oo_or, oo_neg, oo_inv, oo_le, oo_gt, oo_ge, oo_lt, oo_eq, oo_ne, oo_eqb, oo_is0, oo_isNot0, oo_nes, oo_eqs, oo_addT, oo_tup, oo_lst, oo_abs, oo_int, oo_intb, oo_max2, oo_min2, oo_max3, oo_min3, oo_lenT, oo_lenR, oo_gTuple, oo_gList, oo_gLen, oo_biT, oo_biR, oo_slT, oo_slR, oo_isaII, oo_isaIB, oo_isaIT, oo_isaIS, oo_isaBI, oo_isaBB, oo_isaBT, oo_isaBS, oo_isaNT, lo_lst, atI_0, atI_1, atI_2, ixN_0, ixN_1, or_ix, ot_ix, ol_ix, or_set, or_len, or_add, or_mul, or_append, or_isLst, or_bi, or_bl, oo_sortSL, or_sl, or_wk, or_sr, ot_sr, or_gtup, oo_neb, oo_isB, oo_isNotB, ok_lr1, ok_lr2, ok_tr1, ok_tr2, or_popAt, List.getElem?_cons_zero, List.getElem?_cons_succ, List.set_cons_zero, List.set_cons_succ, List.map_cons, List.map_nil, List.replicate_succ, List.replicate_zero, List.length_cons, List.length_nil, List.cons_append, List.nil_append, wipeD, if_true, if_false, Bool.false_eq_true, Nat.reduceAdd, Nat.reduceSub, Nat.reduceLeDiff, decide_eq_true_eq, true_and, and_true, Int.reduceNeg]
    refine ⟨by decide, ?_⟩
    refine fo_loop0 (fun i v h => (∃ x3 x4 x5 x6 x7 x8 x9 x10 : Option PV, v = [some (.rol (intL ns)), some (.ref d), some (.int ((2 ^ i : Nat) : Int)), x3, x4, x5, x6, x7, x8, x9, x10]) ∧ Deck d c (2000 * i) h) ⟨⟨_, _, _, _, _, _, _, _, rfl⟩, D.mono (by simp)⟩ (fun _ _ _ _ _ => rfl) ?_ ?_
    · rintro i x v h1 hx ⟨⟨x3, x4, x5, x6, x7, x8, x9, x10, rfl⟩, D⟩
      obtain ⟨hi, rfl⟩ := rng_get hx
      have hi8 : i < 8 := by simpa using hi
      obtain ⟨n, hni⟩ : ∃ n : Nat, n = i + 1 := ⟨_, rfl⟩
      have n1 : 1 ≤ n := by omega
      have n8 : n ≤ 8 := by omega
      have hnI : (1 : Int) + (i : Nat) = (n : Int) := by omega
      rw [hnI]
      refine fo_seqX ?_
      try simp (maxSteps := 4000000) only [ok_ret, ok_bnd, ok_lift, ok_var, ok_c, ok_bin, ok_un, ok_asB, ok_and, ok_or, ok_not, ok_chain, ok_nil, ok_cons, ok_tup, ok_lst, ok_fn, ok_tmp, ok_call, ok_meth, ok_tval, ok_tand, ok_tor, ok_tnot, ok_if, ok_pnone, ok_psome, ok_slice, ok_fresh, ok_lcx, ok_body, ok_true, ok_dtmp, ok_dval, ok_rng1, ok_rng2, ok_enum, ok_enumT, ok_zip, ok_gname, ok_gsnil, ok_gscons, ok_gtup, ok_gsub, fo_next, fo_seq, fo_asg, fo_expr, fo_ret, fo_retN, fo_if, fo_break, fo_cont, fo_par, fo_aug, fo_augS, fo_for, fo_body, vr_some, ra1, ra2, in_int, tr_bl, pa2, zp_two, sr_some, wk_tup, wk_rol, wk_str, oo_add, oo_addI, oo_sub, oo_mul, oo_fdiv, oo_mod, oo_pow, oo_shl, oo_shr, oo_and, oo_or, oo_neg, oo_inv, oo_le, oo_gt, oo_ge, oo_lt, oo_eq, oo_ne, oo_eqb, oo_is0, oo_isNot0, oo_nes, oo_eqs, oo_addT, oo_tup, oo_lst, oo_abs, oo_int, oo_intb, oo_max2, oo_min2, oo_max3, oo_min3, oo_lenT, oo_lenR, oo_gTuple, oo_gList, oo_gLen, oo_biT, oo_biR, oo_slT, oo_slR, oo_isaII, oo_isaIB, oo_isaIT, oo_isaIS, oo_isaBI, oo_isaBB, oo_isaBT, oo_isaBS, oo_isaNT, lo_lst, atI_0, atI_1, atI_2, ixN_0, ixN_1, or_ix, ot_ix, ol_ix, or_set, or_len, or_add, or_mul, or_append, or_isLst, or_bi, or_bl, oo_sortSL, or_sl, or_wk, or_sr, ot_sr, or_gtup, oo_neb, oo_isB, oo_isNotB, ok_lr1, ok_lr2, ok_tr1, ok_tr2, or_popAt, List.getElem?_cons_zero, List.getElem?_cons_succ, List.set_cons_zero, List.set_cons_succ, List.map_cons, List.map_nil, List.replicate_succ, List.replicate_zero, List.length_cons, List.length_nil, List.cons_append, List.nil_append, wipeD, if_true, if_false, Bool.false_eq_true, Nat.reduceAdd, Nat.reduceSub, Nat.reduceLeDiff, decide_eq_true_eq, true_and, and_true, Int.reduceNeg]
      refine OK.mono (lawsides_spec n1 n8) ?_
      rintro v h2 ⟨rfl, K2⟩
      have D2 := K2.deck D
      refine fox (fo_seqX ?_)
      rw [fo_if]
      try simp (maxSteps := 4000000) only [ok_ret, ok_bnd, ok_lift, ok_var, ok_c, ok_bin, ok_un, ok_asB, ok_and, ok_or, ok_not, ok_chain, ok_nil, ok_cons, ok_tup, ok_lst, ok_fn, ok_tmp, ok_call, ok_meth, ok_tval, ok_tand, ok_tor, ok_tnot, ok_if, ok_pnone, ok_psome, ok_slice, ok_fresh, ok_lcx, ok_body, ok_true, ok_dtmp, ok_dval, ok_rng1, ok_rng2, ok_enum, ok_enumT, ok_zip, ok_gname, ok_gsnil, ok_gscons, ok_gtup, ok_gsub, fo_next, fo_seq, fo_asg, fo_expr, fo_ret, fo_retN, fo_if, fo_break, fo_cont, fo_par, fo_aug, fo_augS, fo_for, fo_body, vr_some, ra1, ra2, in_int, tr_bl, pa2, zp_two, sr_some, wk_tup, wk_rol, wk_str, oo_add, oo_addI, oo_sub, oo_mul, oo_fdiv, oo_mod, oo_pow, oo_shl, oo_shr, oo_and, oo_or, oo_neg, oo_inv, oo_le, oo_gt, oo_ge, oo_lt, oo_eq, oo_ne, oo_eqb, oo_is0, oo_isNot0, oo_nes, oo_eqs, oo_addT, oo_tup, oo_lst, oo_abs, oo_int, oo_intb, oo_max2, oo_min2, oo_max3, oo_min3, oo_lenT, oo_lenR, oo_gTuple, oo_gList, oo_gLen, oo_biT, oo_biR, oo_slT, oo_slR, oo_isaII, oo_isaIB, oo_isaIT, oo_isaIS, oo_isaBI, oo_isaBB, oo_isaBT, oo_isaBS, oo_isaNT, lo_lst, atI_0, atI_1, atI_2, ixN_0, ixN_1, or_ix, ot_ix, ol_ix, or_set, or_len, or_add, or_mul, or_append, or_isLst, or_bi, or_bl, oo_sortSL, or_sl, or_wk, or_sr, ot_sr, or_gtup, oo_neb, oo_isB, oo_isNotB, ok_lr1, ok_lr2, ok_tr1, ok_tr2, or_popAt, List.getElem?_cons_zero, List.getElem?_cons_succ, List.set_cons_zero, List.set_cons_succ, List.map_cons, List.map_nil, List.replicate_succ, List.replicate_zero, List.length_cons, List.length_nil, List.cons_append, List.nil_append, wipeD, if_true, if_false, Bool.false_eq_true, Nat.reduceAdd, Nat.reduceSub, Nat.reduceLeDiff, decide_eq_true_eq, true_and, and_true, Int.reduceNeg]
      refine OK.mono (all_sides_spec n1 n8) ?_
      rintro v h3 ⟨rfl, K3⟩
      have D3 := K3.deck D2
      have sl : (sidesOf n).length = 2 ^ i - 1 := by rw [sidesOf_len, hni]; rfl
      have sp : 0 < 2 ^ i := Nat.pow_pos (by decide)
      have s127 := sidesOf_le n8
      have sm : ∀ r ∈ sidesOf n, r ≠ [] ∧ r.length ≤ 7 ∧ ∀ x ∈ r, 1 ≤ x ∧ x < n := fun r hr => by
        obtain ⟨S, ne⟩ := sidesOf_mem n1 hr
        exact ⟨ne, by have := S.len; omega, S.rng⟩
      refine sameQ_sides (by omega) (fun r hr => by have := (sm r hr).2.1; omega) ?_
      try simp (maxSteps := 4000000) only [ok_ret, ok_bnd, ok_lift, ok_var, ok_c, ok_bin, ok_un, ok_asB, ok_and, ok_or, ok_not, ok_chain, ok_nil, ok_cons, ok_tup, ok_lst, ok_fn, ok_tmp, ok_call, ok_meth, ok_tval, ok_tand, ok_tor, ok_tnot, ok_if, ok_pnone, ok_psome, ok_slice, ok_fresh, ok_lcx, ok_body, ok_true, ok_dtmp, ok_dval, ok_rng1, ok_rng2, ok_enum, ok_enumT, ok_zip, ok_gname, ok_gsnil, ok_gscons, ok_gtup, ok_gsub, fo_next, fo_seq, fo_asg, fo_expr, fo_ret, fo_retN, fo_if, fo_break, fo_cont, fo_par, fo_aug, fo_augS, fo_for, fo_body, vr_some, ra1, ra2, in_int, tr_bl, pa2, zp_two, sr_some, wk_tup, wk_rol, wk_str, oo_add, oo_addI, oo_sub, oo_mul, oo_fdiv, oo_mod, oo_pow, oo_shl, oo_shr, oo_and, oo_or, oo_neg, oo_inv, oo_le, oo_gt, oo_ge, oo_lt, oo_eq, oo_ne, oo_eqb, oo_is0, oo_isNot0, oo_nes, oo_eqs, oo_addT, oo_tup, oo_lst, oo_abs, oo_int, oo_intb, oo_max2, oo_min2, oo_max3, oo_min3, oo_lenT, oo_lenR, oo_gTuple, oo_gList, oo_gLen, oo_biT, oo_biR, oo_slT, oo_slR, oo_isaII, oo_isaIB, oo_isaIT, oo_isaIS, oo_isaBI, oo_isaBB, oo_isaBT, oo_isaBS, oo_isaNT, lo_lst, atI_0, atI_1, atI_2, ixN_0, ixN_1, or_ix, ot_ix, ol_ix, or_set, or_len, or_add, or_mul, or_append, or_isLst, or_bi, or_bl, oo_sortSL, or_sl, or_wk, or_sr, ot_sr, or_gtup, oo_neb, oo_isB, oo_isNotB, ok_lr1, ok_lr2, ok_tr1, ok_tr2, or_popAt, List.getElem?_cons_zero, List.getElem?_cons_succ, List.set_cons_zero, List.set_cons_succ, List.map_cons, List.map_nil, List.replicate_succ, List.replicate_zero, List.length_cons, List.length_nil, List.cons_append, List.nil_append, wipeD, if_true, if_false, Bool.false_eq_true, Nat.reduceAdd, Nat.reduceSub, Nat.reduceLeDiff, decide_eq_true_eq, true_and, and_true, Int.reduceNeg]
      have dl : decide (((tupI (sidesOf n)).length : Int) = ((2 ^ i : Nat) : Int) - 1) = true := decide_eq_true (by rw [tupI_len, sl]; omega)
      try simp (maxSteps := 4000000) only [ok_ret, ok_bnd, ok_lift, ok_var, ok_c, ok_bin, ok_un, ok_asB, ok_and, ok_or, ok_not, ok_chain, ok_nil, ok_cons, ok_tup, ok_lst, ok_fn, ok_tmp, ok_call, ok_meth, ok_tval, ok_tand, ok_tor, ok_tnot, ok_if, ok_pnone, ok_psome, ok_slice, ok_fresh, ok_lcx, ok_body, ok_true, ok_dtmp, ok_dval, ok_rng1, ok_rng2, ok_enum, ok_enumT, ok_zip, ok_gname, ok_gsnil, ok_gscons, ok_gtup, ok_gsub, fo_next, fo_seq, fo_asg, fo_expr, fo_ret, fo_retN, fo_if, fo_break, fo_cont, fo_par, fo_aug, fo_augS, fo_for, fo_body, vr_some, ra1, ra2, in_int, tr_bl, pa2, zp_two, sr_some, wk_tup, wk_rol, wk_str, oo_add, oo_addI, oo_sub, oo_mul, oo_fdiv, oo_mod, oo_pow, oo_shl, oo_shr, oo_and, oo_or, oo_neg, oo_inv, oo_le, oo_gt, oo_ge, oo_lt, oo_eq, oo_ne, oo_eqb, oo_is0, oo_isNot0, oo_nes, oo_eqs, oo_addT, oo_tup, oo_lst, oo_abs, oo_int, oo_intb, oo_max2, oo_min2, oo_max3, oo_min3, oo_lenT, oo_lenR, oo_gTuple, oo_gList, oo_gLen, oo_biT, oo_biR, oo_slT, oo_slR, oo_isaII, oo_isaIB, oo_isaIT, oo_isaIS, oo_isaBI, oo_isaBB, oo_isaBT, oo_isaBS, oo_isaNT, lo_lst, atI_0, atI_1, atI_2, ixN_0, ixN_1, or_ix, ot_ix, ol_ix, or_set, or_len, or_add, or_mul, or_append, or_isLst, or_bi, or_bl, oo_sortSL, or_sl, or_wk, or_sr, ot_sr, or_gtup, oo_neb, oo_isB, oo_isNotB, ok_lr1, ok_lr2, ok_tr1, ok_tr2, or_popAt, List.getElem?_cons_zero, List.getElem?_cons_succ, List.set_cons_zero, List.set_cons_succ, List.map_cons, List.map_nil, List.replicate_succ, List.replicate_zero, List.length_cons, List.length_nil, List.cons_append, List.nil_append, wipeD, if_true, if_false, Bool.false_eq_true, Nat.reduceAdd, Nat.reduceSub, Nat.reduceLeDiff, decide_eq_true_eq, true_and, and_true, Int.reduceNeg, Bool.not_true, dl]
      refine fox (fo_seqX ?_)
      try simp (maxSteps := 4000000) only [ok_ret, ok_bnd, ok_lift, ok_var, ok_c, ok_bin, ok_un, ok_asB, ok_and, ok_or, ok_not, ok_chain, ok_nil, ok_cons, ok_tup, ok_lst, ok_fn, ok_tmp, ok_call, ok_meth, ok_tval, ok_tand, ok_tor, ok_tnot, ok_if, ok_pnone, ok_psome, ok_slice, ok_fresh, ok_lcx, ok_body, ok_true, ok_dtmp, ok_dval, ok_rng1, ok_rng2, ok_enum, ok_enumT, ok_zip, ok_gname, ok_gsnil, ok_gscons, ok_gtup, ok_gsub, fo_next, fo_seq, fo_asg, fo_expr, fo_ret, fo_retN, fo_if, fo_break, fo_cont, fo_par, fo_aug, fo_augS, fo_for, fo_body, vr_some, ra1, ra2, in_int, tr_bl, pa2, zp_two, sr_some, wk_tup, wk_rol, wk_str, oo_add, oo_addI, oo_sub, oo_mul, oo_fdiv, oo_mod, oo_pow, oo_shl, oo_shr, oo_and, oo_or, oo_neg, oo_inv, oo_le, oo_gt, oo_ge, oo_lt, oo_eq, oo_ne, oo_eqb, oo_is0, oo_isNot0, oo_nes, oo_eqs, oo_addT, oo_tup, oo_lst, oo_abs, oo_int, oo_intb, oo_max2, oo_min2, oo_max3, oo_min3, oo_lenT, oo_lenR, oo_gTuple, oo_gList, oo_gLen, oo_biT, oo_biR, oo_slT, oo_slR, oo_isaII, oo_isaIB, oo_isaIT, oo_isaIS, oo_isaBI, oo_isaBB, oo_isaBT, oo_isaBS, oo_isaNT, lo_lst, atI_0, atI_1, atI_2, ixN_0, ixN_1, or_ix, ot_ix, ol_ix, or_set, or_len, or_add, or_mul, or_append, or_isLst, or_bi, or_bl, oo_sortSL, or_sl, or_wk, or_sr, ot_sr, or_gtup, oo_neb, oo_isB, oo_isNotB, ok_lr1, ok_lr2, ok_tr1, ok_tr2, or_popAt, List.getElem?_cons_zero, List.getElem?_cons_succ, List.set_cons_zero, List.set_cons_succ, List.map_cons, List.map_nil, List.replicate_succ, List.replicate_zero, List.length_cons, List.length_nil, List.cons_append, List.nil_append, wipeD, if_true, if_false, Bool.false_eq_true, Nat.reduceAdd, Nat.reduceSub, Nat.reduceLeDiff, decide_eq_true_eq, true_and, and_true, Int.reduceNeg]
      refine ⟨.inl ⟨by decide, by decide⟩, fox (fo_seqX ?_)⟩
      try simp (maxSteps := 4000000) only [ok_ret, ok_bnd, ok_lift, ok_var, ok_c, ok_bin, ok_un, ok_asB, ok_and, ok_or, ok_not, ok_chain, ok_nil, ok_cons, ok_tup, ok_lst, ok_fn, ok_tmp, ok_call, ok_meth, ok_tval, ok_tand, ok_tor, ok_tnot, ok_if, ok_pnone, ok_psome, ok_slice, ok_fresh, ok_lcx, ok_body, ok_true, ok_dtmp, ok_dval, ok_rng1, ok_rng2, ok_enum, ok_enumT, ok_zip, ok_gname, ok_gsnil, ok_gscons, ok_gtup, ok_gsub, fo_next, fo_seq, fo_asg, fo_expr, fo_ret, fo_retN, fo_if, fo_break, fo_cont, fo_par, fo_aug, fo_augS, fo_for, fo_body, vr_some, ra1, ra2, in_int, tr_bl, pa2, zp_two, sr_some, wk_tup, wk_rol, wk_str, oo_add, oo_addI, oo_sub, oo_mul, oo_fdiv, oo_mod, oo_pow, oo_shl, oo_shr, oo_and, oo_or, oo_neg, oo_inv, oo_le, oo_gt, oo_ge, oo_lt, oo_eq, oo_ne, oo_eqb, oo_is0, oo_isNot0, oo_nes, oo_eqs, oo_addT, oo_tup, oo_lst, oo_abs, oo_int, oo_intb, oo_max2, oo_min2, oo_max3, oo_min3, oo_lenT, oo_lenR, oo_gTuple, oo_gList, oo_gLen, oo_biT, oo_biR, oo_slT, oo_slR, oo_isaII, oo_isaIB, oo_isaIT, oo_isaIS, oo_isaBI, oo_isaBB, oo_isaBT, oo_isaBS, oo_isaNT, lo_lst, atI_0, atI_1, atI_2, ixN_0, ixN_1, or_ix, ot_ix, ol_ix, or_set, or_len, or_add, or_mul, or_append, or_isLst, or_bi, or_bl, oo_sortSL, or_sl, or_wk, or_sr, ot_sr, or_gtup, oo_neb, oo_isB, oo_isNotB, ok_lr1, ok_lr2, ok_tr1, ok_tr2, or_popAt, List.getElem?_cons_zero, List.getElem?_cons_succ, List.set_cons_zero, List.set_cons_succ, List.map_cons, List.map_nil, List.replicate_succ, List.replicate_zero, List.length_cons, List.length_nil, List.cons_append, List.nil_append, wipeD, if_true, if_false, Bool.false_eq_true, Nat.reduceAdd, Nat.reduceSub, Nat.reduceLeDiff, decide_eq_true_eq, true_and, and_true, Int.reduceNeg]
      obtain ⟨hd3, hc3⟩ := Deck.lt2 D3
      generalize hL : h3.length = L at hd3 hc3
      have Lh : L ≤ h3.length := by omega
      refine OK.mono (odd_spec hd3 hc3 Lh (by omega) D3) ?_
      rintro odd h4 ⟨D4, g4, T4⟩
      try simp (maxSteps := 4000000) only [ok_ret, ok_bnd, ok_lift, ok_var, ok_c, ok_bin, ok_un, ok_asB, ok_and, ok_or, ok_not, ok_chain, ok_nil, ok_cons, ok_tup, ok_lst, ok_fn, ok_tmp, ok_call, ok_meth, ok_tval, ok_tand, ok_tor, ok_tnot, ok_if, ok_pnone, ok_psome, ok_slice, ok_fresh, ok_lcx, ok_body, ok_true, ok_dtmp, ok_dval, ok_rng1, ok_rng2, ok_enum, ok_enumT, ok_zip, ok_gname, ok_gsnil, ok_gscons, ok_gtup, ok_gsub, fo_next, fo_seq, fo_asg, fo_expr, fo_ret, fo_retN, fo_if, fo_break, fo_cont, fo_par, fo_aug, fo_augS, fo_for, fo_body, vr_some, ra1, ra2, in_int, tr_bl, pa2, zp_two, sr_some, wk_tup, wk_rol, wk_str, oo_add, oo_addI, oo_sub, oo_mul, oo_fdiv, oo_mod, oo_pow, oo_shl, oo_shr, oo_and, oo_or, oo_neg, oo_inv, oo_le, oo_gt, oo_ge, oo_lt, oo_eq, oo_ne, oo_eqb, oo_is0, oo_isNot0, oo_nes, oo_eqs, oo_addT, oo_tup, oo_lst, oo_abs, oo_int, oo_intb, oo_max2, oo_min2, oo_max3, oo_min3, oo_lenT, oo_lenR, oo_gTuple, oo_gList, oo_gLen, oo_biT, oo_biR, oo_slT, oo_slR, oo_isaII, oo_isaIB, oo_isaIT, oo_isaIS, oo_isaBI, oo_isaBB, oo_isaBT, oo_isaBS, oo_isaNT, lo_lst, atI_0, atI_1, atI_2, ixN_0, ixN_1, or_ix, ot_ix, ol_ix, or_set, or_len, or_add, or_mul, or_append, or_isLst, or_bi, or_bl, oo_sortSL, or_sl, or_wk, or_sr, ot_sr, or_gtup, oo_neb, oo_isB, oo_isNotB, ok_lr1, ok_lr2, ok_tr1, ok_tr2, or_popAt, List.getElem?_cons_zero, List.getElem?_cons_succ, List.set_cons_zero, List.set_cons_succ, List.map_cons, List.map_nil, List.replicate_succ, List.replicate_zero, List.length_cons, List.length_nil, List.cons_append, List.nil_append, wipeD, if_true, if_false, Bool.false_eq_true, Nat.reduceAdd, Nat.reduceSub, Nat.reduceLeDiff, decide_eq_true_eq, true_and, and_true, Int.reduceNeg]
      refine OK.mono (draw_spec (m := 4) D4 (by decide) (by decide) (by omega)) ?_
      rintro v h5 ⟨y, rfl, y0, y4, D5, g5⟩
      try simp (maxSteps := 4000000) only [ok_ret, ok_bnd, ok_lift, ok_var, ok_c, ok_bin, ok_un, ok_asB, ok_and, ok_or, ok_not, ok_chain, ok_nil, ok_cons, ok_tup, ok_lst, ok_fn, ok_tmp, ok_call, ok_meth, ok_tval, ok_tand, ok_tor, ok_tnot, ok_if, ok_pnone, ok_psome, ok_slice, ok_fresh, ok_lcx, ok_body, ok_true, ok_dtmp, ok_dval, ok_rng1, ok_rng2, ok_enum, ok_enumT, ok_zip, ok_gname, ok_gsnil, ok_gscons, ok_gtup, ok_gsub, fo_next, fo_seq, fo_asg, fo_expr, fo_ret, fo_retN, fo_if, fo_break, fo_cont, fo_par, fo_aug, fo_augS, fo_for, fo_body, vr_some, ra1, ra2, in_int, tr_bl, pa2, zp_two, sr_some, wk_tup, wk_rol, wk_str, oo_add, oo_addI, oo_sub, oo_mul, oo_fdiv, oo_mod, oo_pow, oo_shl, oo_shr, oo_and, oo_or, oo_neg, oo_inv, oo_le, oo_gt, oo_ge, oo_lt, oo_eq, oo_ne, oo_eqb, oo_is0, oo_isNot0, oo_nes, oo_eqs, oo_addT, oo_tup, oo_lst, oo_abs, oo_int, oo_intb, oo_max2, oo_min2, oo_max3, oo_min3, oo_lenT, oo_lenR, oo_gTuple, oo_gList, oo_gLen, oo_biT, oo_biR, oo_slT, oo_slR, oo_isaII, oo_isaIB, oo_isaIT, oo_isaIS, oo_isaBI, oo_isaBB, oo_isaBT, oo_isaBS, oo_isaNT, lo_lst, atI_0, atI_1, atI_2, ixN_0, ixN_1, or_ix, ot_ix, ol_ix, or_set, or_len, or_add, or_mul, or_append, or_isLst, or_bi, or_bl, oo_sortSL, or_sl, or_wk, or_sr, ot_sr, or_gtup, oo_neb, oo_isB, oo_isNotB, ok_lr1, ok_lr2, ok_tr1, ok_tr2, or_popAt, List.getElem?_cons_zero, List.getElem?_cons_succ, List.set_cons_zero, List.set_cons_succ, List.map_cons, List.map_nil, List.replicate_succ, List.replicate_zero, List.length_cons, List.length_nil, List.cons_append, List.nil_append, wipeD, if_true, if_false, Bool.false_eq_true, Nat.reduceAdd, Nat.reduceSub, Nat.reduceLeDiff, decide_eq_true_eq, true_and, and_true, Int.reduceNeg]
      refine ⟨by omega, by rw [rng_len]; omega, ?_⟩
      refine OK.mono (draws_spec (m := (n : Int) + 1) (B := 2000 * i + 1 + 1) (by rw [rng_len]; omega) D5 (by omega) (by omega) (by intro x h; try simp (maxSteps := 4000000) only [ok_ret, ok_bnd, ok_lift, ok_var, ok_c, ok_bin, ok_un, ok_asB, ok_and, ok_or, ok_not, ok_chain, ok_nil, ok_cons, ok_tup, ok_lst, ok_fn, ok_tmp, ok_call, ok_meth, ok_tval, ok_tand, ok_tor, ok_tnot, ok_if, ok_pnone, ok_psome, ok_slice, ok_fresh, ok_lcx, ok_body, ok_true, ok_dtmp, ok_dval, ok_rng1, ok_rng2, ok_enum, ok_enumT, ok_zip, ok_gname, ok_gsnil, ok_gscons, ok_gtup, ok_gsub, fo_next, fo_seq, fo_asg, fo_expr, fo_ret, fo_retN, fo_if, fo_break, fo_cont, fo_par, fo_aug, fo_augS, fo_for, fo_body, vr_some, ra1, ra2, in_int, tr_bl, pa2, zp_two, sr_some, wk_tup, wk_rol, wk_str, oo_add, oo_addI, oo_sub, oo_mul, oo_fdiv, oo_mod, oo_pow, oo_shl, oo_shr, oo_and, oo_or, oo_neg, oo_inv, oo_le, oo_gt, oo_ge, oo_lt, oo_eq, oo_ne, oo_eqb, oo_is0, oo_isNot0, oo_nes, oo_eqs, oo_addT, oo_tup, oo_lst, oo_abs, oo_int, oo_intb, oo_max2, oo_min2, oo_max3, oo_min3, oo_lenT, oo_lenR, oo_gTuple, oo_gList, oo_gLen, oo_biT, oo_biR, oo_slT, oo_slR, oo_isaII, oo_isaIB, oo_isaIT, oo_isaIS, oo_isaBI, oo_isaBB, oo_isaBT, oo_isaBS, oo_isaNT, lo_lst, atI_0, atI_1, atI_2, ixN_0, ixN_1, or_ix, ot_ix, ol_ix, or_set, or_len, or_add, or_mul, or_append, or_isLst, or_bi, or_bl, oo_sortSL, or_sl, or_wk, or_sr, ot_sr, or_gtup, oo_neb, oo_isB, oo_isNotB, ok_lr1, ok_lr2, ok_tr1, ok_tr2, or_popAt, List.getElem?_cons_zero, List.getElem?_cons_succ, List.set_cons_zero, List.set_cons_succ, List.map_cons, List.map_nil, List.replicate_succ, List.replicate_zero, List.length_cons, List.length_nil, List.cons_append, List.nil_append, wipeD, if_true, if_false, Bool.false_eq_true, Nat.reduceAdd, Nat.reduceSub, Nat.reduceLeDiff, decide_eq_true_eq, true_and, and_true, Int.reduceNeg]) (by intro x h; try simp (maxSteps := 4000000) only [ok_ret, ok_bnd, ok_lift, ok_var, ok_c, ok_bin, ok_un, ok_asB, ok_and, ok_or, ok_not, ok_chain, ok_nil, ok_cons, ok_tup, ok_lst, ok_fn, ok_tmp, ok_call, ok_meth, ok_tval, ok_tand, ok_tor, ok_tnot, ok_if, ok_pnone, ok_psome, ok_slice, ok_fresh, ok_lcx, ok_body, ok_true, ok_dtmp, ok_dval, ok_rng1, ok_rng2, ok_enum, ok_enumT, ok_zip, ok_gname, ok_gsnil, ok_gscons, ok_gtup, ok_gsub, fo_next, fo_seq, fo_asg, fo_expr, fo_ret, fo_retN, fo_if, fo_break, fo_cont, fo_par, fo_aug, fo_augS, fo_for, fo_body, vr_some, ra1, ra2, in_int, tr_bl, pa2, zp_two, sr_some, wk_tup, wk_rol, wk_str, oo_add, oo_addI, oo_sub, oo_mul, oo_fdiv, oo_mod, oo_pow, oo_shl, oo_shr, oo_and, oo_or, oo_neg, oo_inv, oo_le, oo_gt, oo_ge, oo_lt, oo_eq, oo_ne, oo_eqb, oo_is0, oo_isNot0, oo_nes, oo_eqs, oo_addT, oo_tup, oo_lst, oo_abs, oo_int, oo_intb, oo_max2, oo_min2, oo_max3, oo_min3, oo_lenT, oo_lenR, oo_gTuple, oo_gList, oo_gLen, oo_biT, oo_biR, oo_slT, oo_slR, oo_isaII, oo_isaIB, oo_isaIT, oo_isaIS, oo_isaBI, oo_isaBB, oo_isaBT, oo_isaBS, oo_isaNT, lo_lst, atI_0, atI_1, atI_2, ixN_0, ixN_1, or_ix, ot_ix, ol_ix, or_set, or_len, or_add, or_mul, or_append, or_isLst, or_bi, or_bl, oo_sortSL, or_sl, or_wk, or_sr, ot_sr, or_gtup, oo_neb, oo_isB, oo_isNotB, ok_lr1, ok_lr2, ok_tr1, ok_tr2, or_popAt, List.getElem?_cons_zero, List.getElem?_cons_succ, List.set_cons_zero, List.set_cons_succ, List.map_cons, List.map_nil, List.replicate_succ, List.replicate_zero, List.length_cons, List.length_nil, List.cons_append, List.nil_append, wipeD, if_true, if_false, Bool.false_eq_true, Nat.reduceAdd, Nat.reduceSub, Nat.reduceLeDiff, decide_eq_true_eq, true_and, and_true, Int.reduceNeg])) ?_
      rintro l h6 ⟨ms, rfl, lms, bms, D6, g6⟩
      rw [rng_len] at lms D6
      have Tm : ∀ h', Thing L h' (.tup (intL ms)) := fun h' => tup_thing n8 (by omega) fun x hx => by have := bms x hx; omega
      have L6 : L ≤ h6.length := by have := g4.1; have := g5.1; have := g6.1; omega
      have e7 : (h6 ++ [VO.lst [odd, PV.tup (intL ms)]])[h6.length]? = some (.lst [odd, .tup (intL ms)]) := hg_new
      have D7 := D6.app (x := [VO.lst [odd, PV.tup (intL ms)]])
      have T7 : ∀ v ∈ [odd, PV.tup (intL ms)], Thing L (h6 ++ [VO.lst [odd, PV.tup (intL ms)]]) v := fun v hv => by
        simp only [List.mem_cons, List.not_mem_nil, or_false] at hv
        rcases hv with rfl | rfl
        · exact T4.grow hd3 hc3 ((g5.trans g6).trans .app)
        · exact Tm _
      have l7 : [odd, PV.tup (intL ms)].length = 2 := rfl
      generalize [odd, PV.tup (intL ms)] = its0 at e7 D7 T7 l7
      have L7 : L ≤ (h6 ++ [VO.lst its0]).length := by simp; omega
      generalize h6 ++ [VO.lst its0] = h7 at e7 D7 T7 L7
      generalize h6.length = a7 at e7 L6
      refine fox (fo_seqX ?_)
      try simp (maxSteps := 4000000) only [ok_ret, ok_bnd, ok_lift, ok_var, ok_c, ok_bin, ok_un, ok_asB, ok_and, ok_or, ok_not, ok_chain, ok_nil, ok_cons, ok_tup, ok_lst, ok_fn, ok_tmp, ok_call, ok_meth, ok_tval, ok_tand, ok_tor, ok_tnot, ok_if, ok_pnone, ok_psome, ok_slice, ok_fresh, ok_lcx, ok_body, ok_true, ok_dtmp, ok_dval, ok_rng1, ok_rng2, ok_enum, ok_enumT, ok_zip, ok_gname, ok_gsnil, ok_gscons, ok_gtup, ok_gsub, fo_next, fo_seq, fo_asg, fo_expr, fo_ret, fo_retN, fo_if, fo_break, fo_cont, fo_par, fo_aug, fo_augS, fo_for, fo_body, vr_some, ra1, ra2, in_int, tr_bl, pa2, zp_two, sr_some, wk_tup, wk_rol, wk_str, oo_add, oo_addI, oo_sub, oo_mul, oo_fdiv, oo_mod, oo_pow, oo_shl, oo_shr, oo_and, oo_or, oo_neg, oo_inv, oo_le, oo_gt, oo_ge, oo_lt, oo_eq, oo_ne, oo_eqb, oo_is0, oo_isNot0, oo_nes, oo_eqs, oo_addT, oo_tup, oo_lst, oo_abs, oo_int, oo_intb, oo_max2, oo_min2, oo_max3, oo_min3, oo_lenT, oo_lenR, oo_gTuple, oo_gList, oo_gLen, oo_biT, oo_biR, oo_slT, oo_slR, oo_isaII, oo_isaIB, oo_isaIT, oo_isaIS, oo_isaBI, oo_isaBB, oo_isaBT, oo_isaBS, oo_isaNT, lo_lst, atI_0, atI_1, atI_2, ixN_0, ixN_1, or_ix, ot_ix, ol_ix, or_set, or_len, or_add, or_mul, or_append, or_isLst, or_bi, or_bl, oo_sortSL, or_sl, or_wk, or_sr, ot_sr, or_gtup, oo_neb, oo_isB, oo_isNotB, ok_lr1, ok_lr2, ok_tr1, ok_tr2, or_popAt, List.getElem?_cons_zero, List.getElem?_cons_succ, List.set_cons_zero, List.set_cons_succ, List.map_cons, List.map_nil, List.replicate_succ, List.replicate_zero, List.length_cons, List.length_nil, List.cons_append, List.nil_append, wipeD, if_true, if_false, Bool.false_eq_true, Nat.reduceAdd, Nat.reduceSub, Nat.reduceLeDiff, decide_eq_true_eq, true_and, and_true, Int.reduceNeg]
      have q1 := cutP_subs (l := tupI (sidesOf n)) (lo := none) (hi := some 20)
      have q2 := cutP_subs (l := tupI (sidesOf n)) (lo := some (-3)) (hi := none)
      rw [tupI_len] at q1 q2
      refine ⟨by omega, ?_⟩
      have sI : ∀ v ∈ cutP (tupI (sidesOf n)) none (some 20) ++ cutP (tupI (sidesOf n)) (some (-3)) none, ∃ r ∈ sidesOf n, v = .tup (intL r) := fun v hv => by
        have : v ∈ tupI (sidesOf n) := by
          rcases List.mem_append.mp hv with w | w
          · exact q1.1 v w
          · exact q2.1 v w
        obtain ⟨r, hr, rfl⟩ := List.mem_map.mp this
        exact ⟨r, hr, rfl⟩
      have lI : (cutP (tupI (sidesOf n)) none (some 20) ++ cutP (tupI (sidesOf n)) (some (-3)) none).length ≤ 254 := by rw [List.length_append]; omega
      generalize cutP (tupI (sidesOf n)) none (some 20) ++ cutP (tupI (sidesOf n)) (some (-3)) none = sides at sI lI
      refine fo_loop0 (fun j v h' => ∃ (a : Nat) (its : List PV) (x6 : Option PV), v = [some (.rol (intL ns)), some (.ref d), some (.int (2 * ((2 ^ i : Nat) : Int))), some (.int (n : Nat)), some (.tup (tupI (sidesOf n))), some (.ref a), x6, x7, x8, x9, x10] ∧ h'[a]? = some (.lst its) ∧ L ≤ a ∧ its.length = 2 + 2 * j ∧ (∀ v ∈ its, Thing L h' v) ∧ Deck d c (2000 * i + 10 + 3 * j) h' ∧ L ≤ h'.length) ⟨_, _, _, rfl, e7, L6, by omega, T7, D7.mono (by omega), L7⟩ (fun _ _ _ _ _ => rfl) ?_ ?_
      · rintro j v w k hj ⟨a, its, x6, rfl, ea, La, li, Ti, Dk, Lk⟩
        have lj := hg_lt' hj
        obtain ⟨r, hr, rfl⟩ := sI _ (List.mem_of_getElem? hj)
        obtain ⟨rn, r7, rb⟩ := sm r hr
        try simp (maxSteps := 4000000) only [ok_ret, ok_bnd, ok_lift, ok_var, ok_c, ok_bin, ok_un, ok_asB, ok_and, ok_or, ok_not, ok_chain, ok_nil, ok_cons, ok_tup, ok_lst, ok_fn, ok_tmp, ok_call, ok_meth, ok_tval, ok_tand, ok_tor, ok_tnot, ok_if, ok_pnone, ok_psome, ok_slice, ok_fresh, ok_lcx, ok_body, ok_true, ok_dtmp, ok_dval, ok_rng1, ok_rng2, ok_enum, ok_enumT, ok_zip, ok_gname, ok_gsnil, ok_gscons, ok_gtup, ok_gsub, fo_next, fo_seq, fo_asg, fo_expr, fo_ret, fo_retN, fo_if, fo_break, fo_cont, fo_par, fo_aug, fo_augS, fo_for, fo_body, vr_some, ra1, ra2, in_int, tr_bl, pa2, zp_two, sr_some, wk_tup, wk_rol, wk_str, oo_add, oo_addI, oo_sub, oo_mul, oo_fdiv, oo_mod, oo_pow, oo_shl, oo_shr, oo_and, oo_or, oo_neg, oo_inv, oo_le, oo_gt, oo_ge, oo_lt, oo_eq, oo_ne, oo_eqb, oo_is0, oo_isNot0, oo_nes, oo_eqs, oo_addT, oo_tup, oo_lst, oo_abs, oo_int, oo_intb, oo_max2, oo_min2, oo_max3, oo_min3, oo_lenT, oo_lenR, oo_gTuple, oo_gList, oo_gLen, oo_biT, oo_biR, oo_slT, oo_slR, oo_isaII, oo_isaIB, oo_isaIT, oo_isaIS, oo_isaBI, oo_isaBB, oo_isaBT, oo_isaBS, oo_isaNT, lo_lst, atI_0, atI_1, atI_2, ixN_0, ixN_1, or_ix, ot_ix, ol_ix, or_set, or_len, or_add, or_mul, or_append, or_isLst, or_bi, or_bl, oo_sortSL, or_sl, or_wk, or_sr, ot_sr, or_gtup, oo_neb, oo_isB, oo_isNotB, ok_lr1, ok_lr2, ok_tr1, ok_tr2, or_popAt, List.getElem?_cons_zero, List.getElem?_cons_succ, List.set_cons_zero, List.set_cons_succ, List.map_cons, List.map_nil, List.replicate_succ, List.replicate_zero, List.length_cons, List.length_nil, List.cons_append, List.nil_append, wipeD, if_true, if_false, Bool.false_eq_true, Nat.reduceAdd, Nat.reduceSub, Nat.reduceLeDiff, decide_eq_true_eq, true_and, and_true, Int.reduceNeg]
        refine OK.mono (spoilt_spec hd3 hc3 Lk n1 n8 rn r7 rb (by omega) Dk) ?_
        rintro z k1 ⟨Dk1, gk1, Tz⟩
        try simp (maxSteps := 4000000) only [ok_ret, ok_bnd, ok_lift, ok_var, ok_c, ok_bin, ok_un, ok_asB, ok_and, ok_or, ok_not, ok_chain, ok_nil, ok_cons, ok_tup, ok_lst, ok_fn, ok_tmp, ok_call, ok_meth, ok_tval, ok_tand, ok_tor, ok_tnot, ok_if, ok_pnone, ok_psome, ok_slice, ok_fresh, ok_lcx, ok_body, ok_true, ok_dtmp, ok_dval, ok_rng1, ok_rng2, ok_enum, ok_enumT, ok_zip, ok_gname, ok_gsnil, ok_gscons, ok_gtup, ok_gsub, fo_next, fo_seq, fo_asg, fo_expr, fo_ret, fo_retN, fo_if, fo_break, fo_cont, fo_par, fo_aug, fo_augS, fo_for, fo_body, vr_some, ra1, ra2, in_int, tr_bl, pa2, zp_two, sr_some, wk_tup, wk_rol, wk_str, oo_add, oo_addI, oo_sub, oo_mul, oo_fdiv, oo_mod, oo_pow, oo_shl, oo_shr, oo_and, oo_or, oo_neg, oo_inv, oo_le, oo_gt, oo_ge, oo_lt, oo_eq, oo_ne, oo_eqb, oo_is0, oo_isNot0, oo_nes, oo_eqs, oo_addT, oo_tup, oo_lst, oo_abs, oo_int, oo_intb, oo_max2, oo_min2, oo_max3, oo_min3, oo_lenT, oo_lenR, oo_gTuple, oo_gList, oo_gLen, oo_biT, oo_biR, oo_slT, oo_slR, oo_isaII, oo_isaIB, oo_isaIT, oo_isaIS, oo_isaBI, oo_isaBB, oo_isaBT, oo_isaBS, oo_isaNT, lo_lst, atI_0, atI_1, atI_2, ixN_0, ixN_1, or_ix, ot_ix, ol_ix, or_set, or_len, or_add, or_mul, or_append, or_isLst, or_bi, or_bl, oo_sortSL, or_sl, or_wk, or_sr, ot_sr, or_gtup, oo_neb, oo_isB, oo_isNotB, ok_lr1, ok_lr2, ok_tr1, ok_tr2, or_popAt, List.getElem?_cons_zero, List.getElem?_cons_succ, List.set_cons_zero, List.set_cons_succ, List.map_cons, List.map_nil, List.replicate_succ, List.replicate_zero, List.length_cons, List.length_nil, List.cons_append, List.nil_append, wipeD, if_true, if_false, Bool.false_eq_true, Nat.reduceAdd, Nat.reduceSub, Nat.reduceLeDiff, decide_eq_true_eq, true_and, and_true, Int.reduceNeg]
        have ea1 := gk1.2 _ _ (by omega) (by omega) ea
        have f1 : (k1 ++ [VO.lst [PV.tup (intL r), z]])[a]? = some (.lst its) := hg_app ea1
        have f2 : (k1 ++ [VO.lst [PV.tup (intL r), z]])[k1.length]? = some (.lst [PV.tup (intL r), z]) := hg_new
        have gk2 : Grow d c k1 (k1 ++ [VO.lst [PV.tup (intL r), z]]) := .app
        have Dk2 := Dk1.app (x := [VO.lst [PV.tup (intL r), z]])
        generalize k1 ++ [VO.lst [PV.tup (intL r), z]] = k2 at f1 f2 gk2 Dk2
        rw [f1, f2, lo_lst, lo_lst]
        have Lk1 := gk1.1
        have Lk2 := gk2.1
        refine ⟨by rw [li]; simp; omega, _, its ++ [PV.tup (intL r), z], _, rfl, hg_new, by omega, by rw [List.length_append, li]; simp; omega, fun v hv => ?_, (Dk2.app).mono (by omega), by simp; omega⟩
        rcases List.mem_append.mp hv with w | w
        · exact (Ti v w).grow hd3 hc3 ((gk1.trans gk2).trans .app)
        · simp only [List.mem_cons, List.not_mem_nil, or_false] at w
          rcases w with rfl | rfl
          · exact tup_thing n8 (by omega) fun x hx => by have := rb x hx; omega
          · exact Tz.grow hd3 hc3 (gk2.trans .app)
      · rintro v k ⟨a, its, x6, rfl, ea, La, li, Ti, Dk, Lk⟩
        refine fox ?_
        try simp (maxSteps := 4000000) only [ok_ret, ok_bnd, ok_lift, ok_var, ok_c, ok_bin, ok_un, ok_asB, ok_and, ok_or, ok_not, ok_chain, ok_nil, ok_cons, ok_tup, ok_lst, ok_fn, ok_tmp, ok_call, ok_meth, ok_tval, ok_tand, ok_tor, ok_tnot, ok_if, ok_pnone, ok_psome, ok_slice, ok_fresh, ok_lcx, ok_body, ok_true, ok_dtmp, ok_dval, ok_rng1, ok_rng2, ok_enum, ok_enumT, ok_zip, ok_gname, ok_gsnil, ok_gscons, ok_gtup, ok_gsub, fo_next, fo_seq, fo_asg, fo_expr, fo_ret, fo_retN, fo_if, fo_break, fo_cont, fo_par, fo_aug, fo_augS, fo_for, fo_body, vr_some, ra1, ra2, in_int, tr_bl, pa2, zp_two, sr_some, wk_tup, wk_rol, wk_str, oo_add, oo_addI, oo_sub, oo_mul, oo_fdiv, oo_mod, oo_pow, oo_shl, oo_shr, oo_and, oo_or, oo_neg, oo_inv, oo_le, oo_gt, oo_ge, oo_lt, oo_eq, oo_ne, oo_eqb, oo_is0, oo_isNot0, oo_nes, oo_eqs, oo_addT, oo_tup, oo_lst, oo_abs, oo_int, oo_intb, oo_max2, oo_min2, oo_max3, oo_min3, oo_lenT, oo_lenR, oo_gTuple, oo_gList, oo_gLen, oo_biT, oo_biR, oo_slT, oo_slR, oo_isaII, oo_isaIB, oo_isaIT, oo_isaIS, oo_isaBI, oo_isaBB, oo_isaBT, oo_isaBS, oo_isaNT, lo_lst, atI_0, atI_1, atI_2, ixN_0, ixN_1, or_ix, ot_ix, ol_ix, or_set, or_len, or_add, or_mul, or_append, or_isLst, or_bi, or_bl, oo_sortSL, or_sl, or_wk, or_sr, ot_sr, or_gtup, oo_neb, oo_isB, oo_isNotB, ok_lr1, ok_lr2, ok_tr1, ok_tr2, or_popAt, List.getElem?_cons_zero, List.getElem?_cons_succ, List.set_cons_zero, List.set_cons_succ, List.map_cons, List.map_nil, List.replicate_succ, List.replicate_zero, List.length_cons, List.length_nil, List.cons_append, List.nil_append, wipeD, if_true, if_false, Bool.false_eq_true, Nat.reduceAdd, Nat.reduceSub, Nat.reduceLeDiff, decide_eq_true_eq, true_and, and_true, Int.reduceNeg, ea]
        refine fo_loop0 (fun j v k' => (∃ x7 x8 x9 : Option PV, v = [some (.rol (intL ns)), some (.ref d), some (.int (2 * ((2 ^ i : Nat) : Int))), some (.int (n : Nat)), some (.tup (tupI (sidesOf n))), some (.ref a), x6, x7, x8, x9, x10]) ∧ Keep k k') ⟨⟨_, _, _, rfl⟩, .refl⟩ (fun _ _ _ _ q => srcOk_one (q.2.2 _ _ ea)) ?_ ?_
        · rintro j v w k0 hx ⟨⟨x7, x8, x9, rfl⟩, K⟩
          have Tv := (Ti v (List.mem_of_getElem? hx)).keep K
          obtain ⟨z, rz⟩ := Tv.reprK
          try simp (maxSteps := 4000000) only [ok_ret, ok_bnd, ok_lift, ok_var, ok_c, ok_bin, ok_un, ok_asB, ok_and, ok_or, ok_not, ok_chain, ok_nil, ok_cons, ok_tup, ok_lst, ok_fn, ok_tmp, ok_call, ok_meth, ok_tval, ok_tand, ok_tor, ok_tnot, ok_if, ok_pnone, ok_psome, ok_slice, ok_fresh, ok_lcx, ok_body, ok_true, ok_dtmp, ok_dval, ok_rng1, ok_rng2, ok_enum, ok_enumT, ok_zip, ok_gname, ok_gsnil, ok_gscons, ok_gtup, ok_gsub, fo_next, fo_seq, fo_asg, fo_expr, fo_ret, fo_retN, fo_if, fo_break, fo_cont, fo_par, fo_aug, fo_augS, fo_for, fo_body, vr_some, ra1, ra2, in_int, tr_bl, pa2, zp_two, sr_some, wk_tup, wk_rol, wk_str, oo_add, oo_addI, oo_sub, oo_mul, oo_fdiv, oo_mod, oo_pow, oo_shl, oo_shr, oo_and, oo_or, oo_neg, oo_inv, oo_le, oo_gt, oo_ge, oo_lt, oo_eq, oo_ne, oo_eqb, oo_is0, oo_isNot0, oo_nes, oo_eqs, oo_addT, oo_tup, oo_lst, oo_abs, oo_int, oo_intb, oo_max2, oo_min2, oo_max3, oo_min3, oo_lenT, oo_lenR, oo_gTuple, oo_gList, oo_gLen, oo_biT, oo_biR, oo_slT, oo_slR, oo_isaII, oo_isaIB, oo_isaIT, oo_isaIS, oo_isaBI, oo_isaBB, oo_isaBT, oo_isaBS, oo_isaNT, lo_lst, atI_0, atI_1, atI_2, ixN_0, ixN_1, or_ix, ot_ix, ol_ix, or_set, or_len, or_add, or_mul, or_append, or_isLst, or_bi, or_bl, oo_sortSL, or_sl, or_wk, or_sr, ot_sr, or_gtup, oo_neb, oo_isB, oo_isNotB, ok_lr1, ok_lr2, ok_tr1, ok_tr2, or_popAt, List.getElem?_cons_zero, List.getElem?_cons_succ, List.set_cons_zero, List.set_cons_succ, List.map_cons, List.map_nil, List.replicate_succ, List.replicate_zero, List.length_cons, List.length_nil, List.cons_append, List.nil_append, wipeD, if_true, if_false, Bool.false_eq_true, Nat.reduceAdd, Nat.reduceSub, Nat.reduceLeDiff, decide_eq_true_eq, true_and, and_true, Int.reduceNeg, rz k0 .refl]
          refine OK.mono (issideQ (n := n) Tv) ?_
          rintro u k1 ⟨⟨b1, rfl, hb1⟩, rfl⟩
          try simp (maxSteps := 4000000) only [ok_ret, ok_bnd, ok_lift, ok_var, ok_c, ok_bin, ok_un, ok_asB, ok_and, ok_or, ok_not, ok_chain, ok_nil, ok_cons, ok_tup, ok_lst, ok_fn, ok_tmp, ok_call, ok_meth, ok_tval, ok_tand, ok_tor, ok_tnot, ok_if, ok_pnone, ok_psome, ok_slice, ok_fresh, ok_lcx, ok_body, ok_true, ok_dtmp, ok_dval, ok_rng1, ok_rng2, ok_enum, ok_enumT, ok_zip, ok_gname, ok_gsnil, ok_gscons, ok_gtup, ok_gsub, fo_next, fo_seq, fo_asg, fo_expr, fo_ret, fo_retN, fo_if, fo_break, fo_cont, fo_par, fo_aug, fo_augS, fo_for, fo_body, vr_some, ra1, ra2, in_int, tr_bl, pa2, zp_two, sr_some, wk_tup, wk_rol, wk_str, oo_add, oo_addI, oo_sub, oo_mul, oo_fdiv, oo_mod, oo_pow, oo_shl, oo_shr, oo_and, oo_or, oo_neg, oo_inv, oo_le, oo_gt, oo_ge, oo_lt, oo_eq, oo_ne, oo_eqb, oo_is0, oo_isNot0, oo_nes, oo_eqs, oo_addT, oo_tup, oo_lst, oo_abs, oo_int, oo_intb, oo_max2, oo_min2, oo_max3, oo_min3, oo_lenT, oo_lenR, oo_gTuple, oo_gList, oo_gLen, oo_biT, oo_biR, oo_slT, oo_slR, oo_isaII, oo_isaIB, oo_isaIT, oo_isaIS, oo_isaBI, oo_isaBB, oo_isaBT, oo_isaBS, oo_isaNT, lo_lst, atI_0, atI_1, atI_2, ixN_0, ixN_1, or_ix, ot_ix, ol_ix, or_set, or_len, or_add, or_mul, or_append, or_isLst, or_bi, or_bl, oo_sortSL, or_sl, or_wk, or_sr, ot_sr, or_gtup, oo_neb, oo_isB, oo_isNotB, ok_lr1, ok_lr2, ok_tr1, ok_tr2, or_popAt, List.getElem?_cons_zero, List.getElem?_cons_succ, List.set_cons_zero, List.set_cons_succ, List.map_cons, List.map_nil, List.replicate_succ, List.replicate_zero, List.length_cons, List.length_nil, List.cons_append, List.nil_append, wipeD, if_true, if_false, Bool.false_eq_true, Nat.reduceAdd, Nat.reduceSub, Nat.reduceLeDiff, decide_eq_true_eq, true_and, and_true, Int.reduceNeg, isq_bol (show Kn k1 (.bl b1) from ⟨_, rfl⟩), isBolP, Bool.not_true]
          refine OK.mono (dueQ (n := n) Tv) ?_
          rintro u k2 ⟨⟨b2, rfl, hb2⟩, K2⟩
          obtain rfl : b1 = b2 := Bool.eq_iff_iff.mpr (hb1.trans hb2.symm)
          try simp (maxSteps := 4000000) only [ok_ret, ok_bnd, ok_lift, ok_var, ok_c, ok_bin, ok_un, ok_asB, ok_and, ok_or, ok_not, ok_chain, ok_nil, ok_cons, ok_tup, ok_lst, ok_fn, ok_tmp, ok_call, ok_meth, ok_tval, ok_tand, ok_tor, ok_tnot, ok_if, ok_pnone, ok_psome, ok_slice, ok_fresh, ok_lcx, ok_body, ok_true, ok_dtmp, ok_dval, ok_rng1, ok_rng2, ok_enum, ok_enumT, ok_zip, ok_gname, ok_gsnil, ok_gscons, ok_gtup, ok_gsub, fo_next, fo_seq, fo_asg, fo_expr, fo_ret, fo_retN, fo_if, fo_break, fo_cont, fo_par, fo_aug, fo_augS, fo_for, fo_body, vr_some, ra1, ra2, in_int, tr_bl, pa2, zp_two, sr_some, wk_tup, wk_rol, wk_str, oo_add, oo_addI, oo_sub, oo_mul, oo_fdiv, oo_mod, oo_pow, oo_shl, oo_shr, oo_and, oo_or, oo_neg, oo_inv, oo_le, oo_gt, oo_ge, oo_lt, oo_eq, oo_ne, oo_eqb, oo_is0, oo_isNot0, oo_nes, oo_eqs, oo_addT, oo_tup, oo_lst, oo_abs, oo_int, oo_intb, oo_max2, oo_min2, oo_max3, oo_min3, oo_lenT, oo_lenR, oo_gTuple, oo_gList, oo_gLen, oo_biT, oo_biR, oo_slT, oo_slR, oo_isaII, oo_isaIB, oo_isaIT, oo_isaIS, oo_isaBI, oo_isaBB, oo_isaBT, oo_isaBS, oo_isaNT, lo_lst, atI_0, atI_1, atI_2, ixN_0, ixN_1, or_ix, ot_ix, ol_ix, or_set, or_len, or_add, or_mul, or_append, or_isLst, or_bi, or_bl, oo_sortSL, or_sl, or_wk, or_sr, ot_sr, or_gtup, oo_neb, oo_isB, oo_isNotB, ok_lr1, ok_lr2, ok_tr1, ok_tr2, or_popAt, List.getElem?_cons_zero, List.getElem?_cons_succ, List.set_cons_zero, List.set_cons_succ, List.map_cons, List.map_nil, List.replicate_succ, List.replicate_zero, List.length_cons, List.length_nil, List.cons_append, List.nil_append, wipeD, if_true, if_false, Bool.false_eq_true, Nat.reduceAdd, Nat.reduceSub, Nat.reduceLeDiff, decide_eq_true_eq, true_and, and_true, Int.reduceNeg, decide_true, Bool.not_true, rz k2 K2]
          exact ⟨⟨_, _, _, rfl⟩, K.trans K2⟩
        · rintro v k0 ⟨⟨x7, x8, x9, rfl⟩, K⟩
          have e2 : (2 * ((2 ^ i : Nat) : Int)) = ((2 ^ (i + 1) : Nat) : Int) := by rw [Nat.pow_succ]; omega
          rw [e2]
          exact ⟨⟨_, _, _, _, _, _, _, _, rfl⟩, (K.deck Dk).mono (by omega)⟩
    · rintro v h1 ⟨⟨x3, x4, x5, x6, x7, x8, x9, x10, rfl⟩, D⟩
      try simp (maxSteps := 4000000) only [ok_ret, ok_bnd, ok_lift, ok_var, ok_c, ok_bin, ok_un, ok_asB, ok_and, ok_or, ok_not, ok_chain, ok_nil, ok_cons, ok_tup, ok_lst, ok_fn, ok_tmp, ok_call, ok_meth, ok_tval, ok_tand, ok_tor, ok_tnot, ok_if, ok_pnone, ok_psome, ok_slice, ok_fresh, ok_lcx, ok_body, ok_true, ok_dtmp, ok_dval, ok_rng1, ok_rng2, ok_enum, ok_enumT, ok_zip, ok_gname, ok_gsnil, ok_gscons, ok_gtup, ok_gsub, fo_next, fo_seq, fo_asg, fo_expr, fo_ret, fo_retN, fo_if, fo_break, fo_cont, fo_par, fo_aug, fo_augS, fo_for, fo_body, vr_some, ra1, ra2, in_int, tr_bl, pa2, zp_two, sr_some, wk_tup, wk_rol, wk_str, oo_add, oo_addI, oo_sub, oo_mul, oo_fdiv, oo_mod, oo_pow, oo_shl, oo_shr, oo_and, oo_or, oo_neg, oo_inv, oo_le, oo_gt, oo_ge, oo_lt, oo_eq, oo_ne, oo_eqb, oo_is0, oo_isNot0, oo_nes, oo_eqs, oo_addT, oo_tup, oo_lst, oo_abs, oo_int, oo_intb, oo_max2, oo_min2, oo_max3, oo_min3, oo_lenT, oo_lenR, oo_gTuple, oo_gList, oo_gLen, oo_biT, oo_biR, oo_slT, oo_slR, oo_isaII, oo_isaIB, oo_isaIT, oo_isaIS, oo_isaBI, oo_isaBB, oo_isaBT, oo_isaBS, oo_isaNT, lo_lst, atI_0, atI_1, atI_2, ixN_0, ixN_1, or_ix, ot_ix, ol_ix, or_set, or_len, or_add, or_mul, or_append, or_isLst, or_bi, or_bl, oo_sortSL, or_sl, or_wk, or_sr, ot_sr, or_gtup, oo_neb, oo_isB, oo_isNotB, ok_lr1, ok_lr2, ok_tr1, ok_tr2, or_popAt, List.getElem?_cons_zero, List.getElem?_cons_succ, List.set_cons_zero, List.set_cons_succ, List.map_cons, List.map_nil, List.replicate_succ, List.replicate_zero, List.length_cons, List.length_nil, List.cons_append, List.nil_append, wipeD, if_true, if_false, Bool.false_eq_true, Nat.reduceAdd, Nat.reduceSub, Nat.reduceLeDiff, decide_eq_true_eq, true_and, and_true, Int.reduceNeg]
  obtain ⟨v, h', e, rfl⟩ := key.get
  exact ⟨h', e⟩
end G

open PySem PySem.W PyProof.Rows
set_option maxHeartbeats 0 in
theorem PySem.Challenge.cw_thickwalls_k07_sides_judged_and_told_holds : PySem.Challenge.rw_thickwalls_k07_sides_judged_and_told.Holds := by
  w_on; o_law; k_head; (case hw => w_witness2)
  k_fill
  refine D.walk_D (l := PySem.Challenge.rw_thickwalls_k07_sides_judged_and_told) (n := 63) (k := 9) (x := "_law_script") (CX := fun _ => L2.CX0) (f := fun _ => G.flaw) rfl (by decide) rfl ⟨rfl, by decide, by decide⟩ (fun w h Y => PySem.W.kIn_of Y) ?F (fun _ ns hl => G.law_true ns hl) (fun _ _ _ _ _ h => h)
  case F =>
    intro w mg fa h KX gg hmg
    refine' G.all_mk KX gg hmg ?a0 ?l0 ?c0 ?k0 ?a1 ?l1 ?c1 ?k1 ?a2 ?l2 ?c2 ?k2 ?a3 ?l3 ?c3 ?k3 ?a4 ?l4 ?c4 ?k4 ?a5 ?l5 ?c5 ?k5 ?a6 ?l6 ?c6 ?k6 ?a7 ?l7 ?c7 ?k7 ?a8 ?l8 ?c8 ?k8 ?a9 ?l9 ?c9 ?k9 ?a10 ?l10 ?c10 ?k10 ?a11 ?l11 ?c11 ?k11 ?z0 ?z1 ?z2 ?z3 ?z4 ?z5 ?z6 ?z7 ?z8 ?z9 ?z10 ?z11 ?z12
    (case a0 => k_is)
    (case l0 => k_is)
    (case c0 => k_is)
    (case k0 => k_is)
    (case a1 => k_is)
    (case l1 => k_is)
    (case c1 => k_is)
    (case k1 => k_is)
    (case a2 => k_is)
    (case l2 => k_is)
    (case c2 => k_is)
    (case k2 => k_is)
    (case a3 => k_is)
    (case l3 => k_is)
    (case c3 => k_is)
    (case k3 => k_is)
    (case a4 => k_is)
    (case l4 => k_is)
    (case c4 => k_is)
    (case k4 => k_is)
    (case a5 => k_is)
    (case l5 => k_is)
    (case c5 => k_is)
    (case k5 => k_is)
    (case a6 => k_is)
    (case l6 => k_is)
    (case c6 => k_is)
    (case k6 => k_is)
    (case a7 => k_is)
    (case l7 => k_is)
    (case c7 => k_is)
    (case k7 => k_is)
    (case a8 => k_is)
    (case l8 => k_is)
    (case c8 => k_is)
    (case k8 => k_is)
    (case a9 => k_is)
    (case l9 => k_is)
    (case c9 => k_is)
    (case k9 => k_is)
    (case a10 => k_is)
    (case l10 => k_is)
    (case c10 => k_is)
    (case k10 => k_is)
    (case a11 => k_is)
    (case l11 => k_is)
    (case c11 => k_is)
    (case k11 => k_is)
    (case z0 => k_is)
    (case z1 => k_is)
    (case z2 => k_is)
    (case z3 => k_is)
    (case z4 => k_is)
    (case z5 => k_is)
    (case z6 => k_is)
    (case z7 => k_is)
    (case z8 => k_is)
    (case z9 => k_is)
    (case z10 => k_is)
    (case z11 => k_is)
    (case z12 => k_is)

