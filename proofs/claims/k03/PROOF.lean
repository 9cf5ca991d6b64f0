import PyProof.Rows.All
import Wide.All
import OpenK.AllK
import Wide.FinOn
import HandS.ForMost
import HandS.ForExc
import HandS.TryMany
import HandS.Walk
import HandS.CallSlots
import HandS.Deep
import HandS.IsInst
import HandS.SortInts
import HandS.Conv
import HandS.ExcIs
import PySem.Challenge.RW_backline_k03_thrown_away
set_option Elab.async false
set_option linter.all false
set_option maxRecDepth 100000
set_option maxHeartbeats 4000000
namespace L3
open PySem PySem.Spec L2

inductive LV where
  | non | bl (b : Bool) | int (i : Int) | str (x : Str) | ty (n : String) | ref (a : Addr) | scr (ns : List Int)
  | tup (xs : List LV) | lst (xs : List LV) | dT (kvs : List (List Key × LV)) | ins (C : Addr) (fs : List (Str × LV))

/-- what stands in the store at an address: a thing that may change -/
inductive LO where
  | lst (xs : List LV) | dK (kvs : List (Key × LV)) | dT (kvs : List (List Key × LV)) | ins (C : Addr) (fs : List (Str × LV)) | raw (o : HO)

abbrev LS := Addr → Option LO
def put (s : LS) (a : Addr) (o : LO) : LS := fun b => if b = a then some o else s b
def del (s : LS) (a : Addr) : LS := fun b => if b = a then none else s b
theorem put_same {s : LS} {a : Addr} {o : LO} : put s a o a = some o := by unfold put; rw [if_pos rfl]
theorem put_ne {s : LS} {a b : Addr} {o : LO} (h : b ≠ a) : put s a o b = s b := by unfold put; rw [if_neg h]
theorem put_put {s : LS} {a : Addr} {o u : LO} : put (put s a o) a u = put s a u := by
  funext b; unfold put; split <;> rfl
theorem del_put {s : LS} {a : Addr} {o : LO} (h : s a = none) : del (put s a o) a = s := by
  funext b; unfold del put
  split
  · next e => rw [e, h]
  · rfl
theorem put_self {s : LS} {a : Addr} {o : LO} (h : s a = some o) : put s a o = s := by
  funext b; unfold put
  split
  · next e => rw [e, h]
  · rfl
theorem ne_put {s : LS} {a b : Addr} {o : LO} (h : put s a o b = none) : b ≠ a ∧ s b = none := by
  unfold put at h
  split at h
  · cases h
  · next e => exact ⟨e, h⟩

def isD (us : List (List Key × V)) (o : HO) : Prop := o = .dT us ∨ ∃ ob, o = .frz ob (.dT us)
theorem isD.inj {us vs : List (List Key × V)} {o : HO} (a : isD us o) (b : isD vs o) : us = vs := by
  rcases a with rfl | ⟨_, rfl⟩ <;> rcases b with e | ⟨_, e⟩ <;> cases e <;> rfl
/-- the same, up to a dict's lock -/
def Eqo (o o' : HO) : Prop := o' = o ∨ ∃ us, isD us o ∧ isD us o'
theorem Eqo.refl (o : HO) : Eqo o o := .inl rfl
theorem Eqo.trans {a b c : HO} (x : Eqo a b) (y : Eqo b c) : Eqo a c := by
  rcases x with rfl | ⟨us, h1, h2⟩
  · exact y
  · rcases y with rfl | ⟨vs, h3, h4⟩
    · exact .inr ⟨us, h1, h2⟩
    · cases h2.inj h3
      exact .inr ⟨us, h1, h4⟩
theorem Eqo.tup {xs : List V} {o : HO} (h : Eqo (.tup xs) o) : o = .tup xs := by
  rcases h with rfl | ⟨us, h1, _⟩
  · rfl
  · rcases h1 with h1 | ⟨_, h1⟩ <;> cases h1
theorem Eqo.lst {xs : List V} {o : HO} (h : Eqo (.lst xs) o) : o = .lst xs := by
  rcases h with rfl | ⟨us, h1, _⟩
  · rfl
  · rcases h1 with h1 | ⟨_, h1⟩ <;> cases h1
theorem Eqo.ins {C dx : Addr} {xs : List (Str × V)} {o : HO} (h : Eqo (.ins C dx xs) o) : o = .ins C dx xs := by
  rcases h with rfl | ⟨us, h1, _⟩
  · rfl
  · rcases h1 with h1 | ⟨_, h1⟩ <;> cases h1
theorem Eqo.frzL {ob : Obj} {xs : List V} {o : HO} (h : Eqo (.frz ob (.lst xs)) o) : o = .frz ob (.lst xs) := by
  rcases h with rfl | ⟨us, h1, _⟩
  · rfl
  · rcases h1 with h1 | ⟨_, h1⟩ <;> cases h1
theorem Eqo.isD {us : List (List Key × V)} {o o' : HO} (h : Eqo o o') (d : L3.isD us o) : L3.isD us o' := by
  rcases h with rfl | ⟨vs, h1, h2⟩
  · exact d
  · cases d.inj h1
    exact h2

/-- from one state to a later one: what the store does not hold stands as it stood, and comes into no store again -/
def Step (s : LS) (H : Hp) (s' : LS) (H' : Hp) : Prop := ∀ a o, H a = some o → s a = none → (∃ o', H' a = some o' ∧ Eqo o o') ∧ s' a = none
theorem Step.refl (s : LS) (H : Hp) : Step s H s H := fun a o h n => ⟨⟨o, h, .refl o⟩, n⟩
theorem Step.trans {s s1 s2 : LS} {H H1 H2 : Hp} (a : Step s H s1 H1) (b : Step s1 H1 s2 H2) : Step s H s2 H2 := fun x o h n => by
  obtain ⟨⟨o1, h1, e1⟩, n1⟩ := a x o h n
  obtain ⟨⟨o2, h2, e2⟩, n2⟩ := b x o1 h1 n1
  exact ⟨⟨o2, h2, e1.trans e2⟩, n2⟩

section
variable (K : PySem.W.Frag) (s : LS) (H : Hp)
def ScrAt (a : Addr) (ns : List Int) : Prop := (s a = none ∧ ∃ o, H a = some (.frz o (.lst (ns.map V.int)))) ∨
    ∃ (o : Obj) (its : Array Value) (n : Nat), K.lookup a = some o ∧ o.cls = .type "list" ∧ o.dict = none ∧ o.data = .seq its n ∧ its.size ≤ sizeLine ∧ Vals (ns.map V.int) its.toList
mutual
def RV : LV → V → Prop
  | .non, v => v = .non
  | .bl b, v => v = .bl b
  | .int i, v => v = .int i
  | .str x, v => v = .str x
  | .ty n, v => v = .ty n
  | .ref a, v => v = .ref a
  | .scr ns, v => ∃ a, v = .ref a ∧ ScrAt K s H a ns
  | .tup xs, v => ∃ a us, v = .ref a ∧ s a = none ∧ H a = some (.tup us) ∧ RVs xs us
  | .lst xs, v => ∃ a us, v = .ref a ∧ s a = none ∧ H a = some (.lst us) ∧ RVs xs us
  | .dT kvs, v => ∃ a us o, v = .ref a ∧ s a = none ∧ H a = some o ∧ isD us o ∧ RVk kvs us
  | .ins C fs, v => ∃ a dx us, v = .ref a ∧ s a = none ∧ H a = some (.ins C dx us) ∧ RVf fs us
def RVs : List LV → List V → Prop
  | [], us => us = []
  | x :: xs, us => ∃ u r, us = u :: r ∧ RV x u ∧ RVs xs r
def RVk : List (List Key × LV) → List (List Key × V) → Prop
  | [], us => us = []
  | (k, x) :: xs, us => ∃ u r, us = (k, u) :: r ∧ RV x u ∧ RVk xs r
def RVf : List (Str × LV) → List (Str × V) → Prop
  | [], us => us = []
  | (k, x) :: xs, us => ∃ u r, us = (k, u) :: r ∧ RV x u ∧ RVf xs r
end
end
/-- dicts with plain keys (in the store alone) -/
def RVd (K : PySem.W.Frag) (s : LS) (H : Hp) : List (Key × LV) → List (Key × V) → Prop
  | [], us => us = []
  | (k, x) :: xs, us => ∃ u r, us = (k, u) :: r ∧ RV K s H x u ∧ RVd K s H xs r
def ObjR (K : PySem.W.Frag) (s : LS) (H : Hp) (a : Addr) : LO → Prop
  | .lst xs => ∃ us, H a = some (.lst us) ∧ RVs K s H xs us
  | .dK kvs => ∃ us, H a = some (.dK us) ∧ RVd K s H kvs us
  | .dT kvs => ∃ us, H a = some (.dT us) ∧ RVk K s H kvs us
  | .ins C fs => ∃ dx us, H a = some (.ins C dx us) ∧ RVf K s H fs us
  | .raw o => H a = some o
def RelS (K : PySem.W.Frag) (s : LS) (H : Hp) : Prop := ∀ a o, s a = some o → ObjR K s H a o

section
variable {K : PySem.W.Frag} {s s' : LS} {H H' : Hp}
theorem ScrAt.mono (st : Step s H s' H') {a : Addr} {ns : List Int} (h : ScrAt K s H a ns) : ScrAt K s' H' a ns := by
  rcases h with ⟨n, o, h⟩ | h
  · obtain ⟨⟨o', h', e⟩, n'⟩ := st a _ h n
    rw [e.frzL] at h'
    exact .inl ⟨n', o, h'⟩
  · exact .inr h
mutual
theorem RV.mono (st : Step s H s' H') : ∀ {x : LV} {v : V}, RV K s H x v → RV K s' H' x v
  | .non, _, h => h
  | .bl _, _, h => h
  | .int _, _, h => h
  | .str _, _, h => h
  | .ty _, _, h => h
  | .ref _, _, h => h
  | .scr _, _, h => by
    simp only [RV] at h ⊢
    obtain ⟨a, e, h⟩ := h
    exact ⟨a, e, h.mono st⟩
  | .tup xs, _, h => by
    simp only [RV] at h ⊢
    obtain ⟨a, us, e, n, h, r⟩ := h
    obtain ⟨⟨o', h', q⟩, n'⟩ := st a _ h n
    rw [q.tup] at h'
    exact ⟨a, us, e, n', h', RVs.mono st r⟩
  | .lst xs, _, h => by
    simp only [RV] at h ⊢
    obtain ⟨a, us, e, n, h, r⟩ := h
    obtain ⟨⟨o', h', q⟩, n'⟩ := st a _ h n
    rw [q.lst] at h'
    exact ⟨a, us, e, n', h', RVs.mono st r⟩
  | .dT kvs, _, h => by
    simp only [RV] at h ⊢
    obtain ⟨a, us, o, e, n, h, d, r⟩ := h
    obtain ⟨⟨o', h', q⟩, n'⟩ := st a _ h n
    exact ⟨a, us, o', e, n', h', q.isD d, RVk.mono st r⟩
  | .ins C fs, _, h => by
    simp only [RV] at h ⊢
    obtain ⟨a, dx, us, e, n, h, r⟩ := h
    obtain ⟨⟨o', h', q⟩, n'⟩ := st a _ h n
    rw [q.ins] at h'
    exact ⟨a, dx, us, e, n', h', RVf.mono st r⟩
theorem RVs.mono (st : Step s H s' H') : ∀ {xs : List LV} {us : List V}, RVs K s H xs us → RVs K s' H' xs us
  | [], _, h => by simp only [RVs] at h ⊢; exact h
  | x :: xs, _, h => by
    simp only [RVs] at h ⊢
    obtain ⟨u, r, e, h1, h2⟩ := h
    exact ⟨u, r, e, RV.mono st h1, RVs.mono st h2⟩
theorem RVk.mono (st : Step s H s' H') : ∀ {xs : List (List Key × LV)} {us : List (List Key × V)}, RVk K s H xs us → RVk K s' H' xs us
  | [], _, h => by simp only [RVk] at h ⊢; exact h
  | (k, x) :: xs, _, h => by
    simp only [RVk] at h ⊢
    obtain ⟨u, r, e, h1, h2⟩ := h
    exact ⟨u, r, e, RV.mono st h1, RVk.mono st h2⟩
theorem RVf.mono (st : Step s H s' H') : ∀ {xs : List (Str × LV)} {us : List (Str × V)}, RVf K s H xs us → RVf K s' H' xs us
  | [], _, h => by simp only [RVf] at h ⊢; exact h
  | (k, x) :: xs, _, h => by
    simp only [RVf] at h ⊢
    obtain ⟨u, r, e, h1, h2⟩ := h
    exact ⟨u, r, e, RV.mono st h1, RVf.mono st h2⟩
end
theorem RVd.mono (st : Step s H s' H') : ∀ {xs : List (Key × LV)} {us : List (Key × V)}, RVd K s H xs us → RVd K s' H' xs us
  | [], _, h => by simp only [RVd] at h ⊢; exact h
  | (k, x) :: xs, _, h => by
    simp only [RVd] at h ⊢
    obtain ⟨u, r, e, h1, h2⟩ := h
    exact ⟨u, r, e, RV.mono st h1, RVd.mono st h2⟩
end

section
variable {K : PySem.W.Frag} {s : LS} {H : Hp}
theorem RVs.nil : RVs K s H [] [] := by simp only [RVs]
theorem RVs.cons {x : LV} {u : V} {xs : List LV} {us : List V} (a : RV K s H x u) (b : RVs K s H xs us) : RVs K s H (x :: xs) (u :: us) := by
  simp only [RVs]; exact ⟨u, us, rfl, a, b⟩
theorem RVs.length : ∀ {xs : List LV} {us : List V}, RVs K s H xs us → us.length = xs.length
  | [], _, h => by simp only [RVs] at h; rw [h]; rfl
  | x :: xs, _, h => by
    simp only [RVs] at h
    obtain ⟨u, r, rfl, _, h2⟩ := h
    simp [RVs.length h2]
theorem RVs.get : ∀ {xs : List LV} {us : List V} {i : Nat} {x : LV}, RVs K s H xs us → xs[i]? = some x → ∃ u, us[i]? = some u ∧ RV K s H x u
  | [], _, _, _, _, e => by simp at e
  | y :: xs, _, 0, x, h, e => by
    simp only [RVs] at h
    obtain ⟨u, r, rfl, h1, _⟩ := h
    simp at e; subst e
    exact ⟨u, rfl, h1⟩
  | y :: xs, _, i + 1, x, h, e => by
    simp only [RVs] at h
    obtain ⟨u, r, rfl, _, h2⟩ := h
    obtain ⟨v, a, b⟩ := RVs.get (i := i) (x := x) h2 (by simpa using e)
    exact ⟨v, by simpa using a, b⟩
theorem RVs.get' : ∀ {xs : List LV} {us : List V} {i : Nat} {u : V}, RVs K s H xs us → us[i]? = some u → ∃ x, xs[i]? = some x ∧ RV K s H x u
  | [], _, _, _, h, e => by simp only [RVs] at h; subst h; simp at e
  | y :: xs, _, 0, u, h, e => by
    simp only [RVs] at h
    obtain ⟨v, r, rfl, h1, _⟩ := h
    simp at e; subst e
    exact ⟨y, rfl, h1⟩
  | y :: xs, _, i + 1, u, h, e => by
    simp only [RVs] at h
    obtain ⟨v, r, rfl, _, h2⟩ := h
    obtain ⟨w, a, b⟩ := RVs.get' (i := i) (u := u) h2 (by simpa using e)
    exact ⟨w, by simpa using a, b⟩
theorem RVs.append : ∀ {xs ys : List LV} {us vs : List V}, RVs K s H xs us → RVs K s H ys vs → RVs K s H (xs ++ ys) (us ++ vs)
  | [], _, _, _, h, g => by simp only [RVs] at h; subst h; exact g
  | x :: xs, _, _, _, h, g => by
    simp only [RVs] at h
    obtain ⟨u, r, rfl, h1, h2⟩ := h
    exact .cons h1 (RVs.append h2 g)
theorem RVs.take : ∀ {xs : List LV} {us : List V} (n : Nat), RVs K s H xs us → RVs K s H (xs.take n) (us.take n)
  | [], _, n, h => by simp only [RVs] at h; subst h; simp; exact .nil
  | x :: xs, _, 0, h => .nil
  | x :: xs, _, n + 1, h => by
    simp only [RVs] at h
    obtain ⟨u, r, rfl, h1, h2⟩ := h
    exact .cons h1 (RVs.take n h2)
theorem RVs.drop : ∀ {xs : List LV} {us : List V} (n : Nat), RVs K s H xs us → RVs K s H (xs.drop n) (us.drop n)
  | _, _, 0, h => h
  | [], _, n + 1, h => by simp only [RVs] at h; subst h; simp; exact .nil
  | x :: xs, _, n + 1, h => by
    simp only [RVs] at h
    obtain ⟨u, r, rfl, h1, h2⟩ := h
    exact RVs.drop n h2
theorem RVs.set : ∀ {xs : List LV} {us : List V} (i : Nat) {x : LV} {u : V}, RVs K s H xs us → RV K s H x u → RVs K s H (xs.set i x) (us.set i u)
  | [], _, _, _, _, h, _ => by simp only [RVs] at h; subst h; exact .nil
  | y :: xs, _, 0, _, _, h, g => by
    simp only [RVs] at h
    obtain ⟨u, r, rfl, h1, h2⟩ := h
    exact .cons g h2
  | y :: xs, _, i + 1, _, _, h, g => by
    simp only [RVs] at h
    obtain ⟨u, r, rfl, h1, h2⟩ := h
    exact .cons h1 (RVs.set i h2 g)
theorem RVs.ints : ∀ (ns : List Int), RVs K s H (ns.map LV.int) (ns.map V.int)
  | [] => .nil
  | n :: ns => .cons (by simp only [RV]) (RVs.ints ns)
theorem RVs.of_ints : ∀ {ns : List Int} {us : List V}, RVs K s H (ns.map LV.int) us → us = ns.map V.int
  | [], _, h => by simpa only [List.map_nil, RVs] using h
  | n :: ns, _, h => by
    simp only [List.map_cons, RVs, RV] at h
    obtain ⟨u, r, rfl, rfl, h2⟩ := h
    rw [RVs.of_ints h2]; rfl
theorem RVs.reverse : ∀ {xs : List LV} {us : List V}, RVs K s H xs us → RVs K s H xs.reverse us.reverse
  | [], _, h => by simp only [RVs] at h; subst h; exact .nil
  | x :: xs, _, h => by
    simp only [RVs] at h
    obtain ⟨u, r, rfl, h1, h2⟩ := h
    rw [List.reverse_cons, List.reverse_cons]
    exact (RVs.reverse h2).append (.cons h1 .nil)
def putL (f : Str) (v : LV) : List (Str × LV) → List (Str × LV)
  | [] => [(f, v)]
  | (g, u) :: r => if g = f then (g, v) :: r else (g, u) :: putL f v r
theorem RVf.look : ∀ {fs : List (Str × LV)} {us : List (Str × V)} {f : Str} {x : LV}, RVf K s H fs us → fs.lookup f = some x → ∃ v, us.lookup f = some v ∧ RV K s H x v
  | [], _, _, _, _, e => by simp at e
  | (g, y) :: fs, _, f, x, h, e => by
    simp only [RVf] at h
    obtain ⟨u, r, rfl, h1, h2⟩ := h
    rw [List.lookup_cons] at e ⊢
    cases q : f == g with
    | true => rw [q] at e; cases e; exact ⟨u, rfl, h1⟩
    | false => rw [q] at e; exact RVf.look h2 e
theorem RVf.look0 : ∀ {fs : List (Str × LV)} {us : List (Str × V)} {f : Str}, RVf K s H fs us → fs.lookup f = none → us.lookup f = none
  | [], _, _, h, e => by simp only [RVf] at h; subst h; rfl
  | (g, y) :: fs, _, f, h, e => by
    simp only [RVf] at h
    obtain ⟨u, r, rfl, h1, h2⟩ := h
    rw [List.lookup_cons] at e ⊢
    cases q : f == g with
    | true => rw [q] at e; cases e
    | false => rw [q] at e; exact RVf.look0 h2 e
theorem RVf.put : ∀ {fs : List (Str × LV)} {us : List (Str × V)} (f : Str) {x : LV} {v : V}, RVf K s H fs us → RV K s H x v → RVf K s H (putL f x fs) (putF f v us)
  | [], _, f, x, v, h, g => by
    simp only [RVf] at h; subst h
    show RVf K s H [(f, x)] [(f, v)]
    simp only [RVf]
    exact ⟨v, [], rfl, g, rfl⟩
  | (k, y) :: fs, _, f, x, v, h, g => by
    simp only [RVf] at h
    obtain ⟨u, r, rfl, h1, h2⟩ := h
    show RVf K s H (if k = f then (k, x) :: fs else (k, y) :: putL f x fs) (if k = f then (k, v) :: r else (k, u) :: putF f v r)
    split
    · simp only [RVf]; exact ⟨v, r, rfl, g, h2⟩
    · simp only [RVf]; exact ⟨u, _, rfl, h1, RVf.put f h2 g⟩
theorem RVf.length : ∀ {xs : List (Str × LV)} {us : List (Str × V)}, RVf K s H xs us → us.length = xs.length
  | [], _, h => by simp only [RVf] at h; rw [h]; rfl
  | (k, x) :: xs, _, h => by
    simp only [RVf] at h
    obtain ⟨u, r, rfl, _, h2⟩ := h
    simp [RVf.length h2]
theorem RVk.length : ∀ {xs : List (List Key × LV)} {us : List (List Key × V)}, RVk K s H xs us → us.length = xs.length
  | [], _, h => by simp only [RVk] at h; rw [h]; rfl
  | (k, x) :: xs, _, h => by
    simp only [RVk] at h
    obtain ⟨u, r, rfl, _, h2⟩ := h
    simp [RVk.length h2]
/-- the value at a key -/
def valL {κ : Type} [DecidableEq κ] : List (κ × LV) → κ → Option LV
  | [], _ => none
  | (j, x) :: r, k => if j = k then some x else valL r k
def putD {κ : Type} [DecidableEq κ] (kvs : List (κ × LV)) (k : κ) (v : LV) : List (κ × LV) :=
  if (kvs.any fun p => decide (p.1 = k)) = true then kvs.map (fun p => if p.1 = k then (p.1, v) else p) else kvs ++ [(k, v)]
end
end L3

namespace L3
open PySem PySem.Spec L2

abbrev LSt := List (Option LV)
abbrev LVK := LV → LS → Prop
/-- an exception that leaves: its class, the store -/
abbrev LX := Addr → LS → Prop
/-- .. with the slots -/
abbrev LXS := Addr → LSt → LS → Prop
abbrev LTE := LSt → LS → LVK → LX → Prop
abbrev LTT := LSt → LS → (Bool → LS → Prop) → LX → Prop
abbrev LTA := LSt → LS → (List LV → LS → Prop) → LX → Prop
structure LEnds where
  nx : LSt → LS → Prop
  rt : LVK
  bk : LSt → LS → Prop
  ct : LSt → LS → Prop
  ex : LXS
@[reducible] def LEnds.wnx (D : LEnds) (u : LSt → LS → Prop) : LEnds := { D with nx := u }
@[reducible] def LEnds.wex (D : LEnds) (u : LXS) : LEnds := { D with ex := u }
/-- within a loop: the next turn -/
@[reducible] def LEnds.wlp (D : LEnds) (u : LSt → LS → Prop) : LEnds := { D with nx := u, ct := u, bk := D.nx }
abbrev LTS := LEnds → LSt → LS → Prop
abbrev LTG := LV → LSt → LS → (LSt → LS → Prop) → LX → Prop

section
variable (K : PySem.W.Frag) (s : LS) (H : Hp)
def RSt : LSt → St → Prop
  | [], vs => vs = []
  | none :: xs, vs => ∃ v r, vs = v :: r ∧ RSt xs r
  | some x :: xs, vs => ∃ v r, vs = some v :: r ∧ RV K s H x v ∧ RSt xs r
end
section
variable {K : PySem.W.Frag} {s s' : LS} {H H' : Hp}
theorem RSt.mono (st : Step s H s' H') : ∀ {xs : LSt} {vs : St}, RSt K s H xs vs → RSt K s' H' xs vs
  | [], _, h => h
  | none :: xs, _, h => let ⟨v, r, e, h⟩ := h; ⟨v, r, e, RSt.mono st h⟩
  | some x :: xs, _, h => let ⟨v, r, e, g, h⟩ := h; ⟨v, r, e, g.mono st, RSt.mono st h⟩
theorem RSt.get : ∀ {xs : LSt} {vs : St} {i : Nat} {x : LV}, RSt K s H xs vs → xs[i]? = some (some x) → ∃ v, vs[i]? = some (some v) ∧ RV K s H x v
  | [], _, _, _, _, e => by simp at e
  | none :: xs, _, 0, _, _, e => by simp at e
  | some y :: xs, _, 0, x, h, e => by
    obtain ⟨v, r, rfl, g, h⟩ := h
    simp at e; subst e
    exact ⟨v, rfl, g⟩
  | none :: xs, _, i + 1, x, h, e => by
    obtain ⟨v, r, rfl, h⟩ := h
    obtain ⟨w, a, b⟩ := RSt.get (i := i) (x := x) h (by simpa using e)
    exact ⟨w, by simpa using a, b⟩
  | some y :: xs, _, i + 1, x, h, e => by
    obtain ⟨v, r, rfl, g, h⟩ := h
    obtain ⟨w, a, b⟩ := RSt.get (i := i) (x := x) h (by simpa using e)
    exact ⟨w, by simpa using a, b⟩
theorem RSt.set : ∀ {xs : LSt} {vs : St} (i : Nat) {x : LV} {v : V}, RSt K s H xs vs → RV K s H x v → RSt K s H (xs.set i (some x)) (vs.set i (some v))
  | [], _, _, _, _, h, _ => by cases h; rfl
  | none :: xs, _, 0, _, _, h, g => by obtain ⟨v, r, rfl, h⟩ := h; exact ⟨_, r, rfl, g, h⟩
  | some y :: xs, _, 0, _, _, h, g => by obtain ⟨v, r, rfl, _, h⟩ := h; exact ⟨_, r, rfl, g, h⟩
  | none :: xs, _, i + 1, _, _, h, g => by obtain ⟨v, r, rfl, h⟩ := h; exact ⟨v, _, rfl, RSt.set i h g⟩
  | some y :: xs, _, i + 1, _, _, h, g => by obtain ⟨v, r, rfl, g', h⟩ := h; exact ⟨v, _, rfl, g', RSt.set i h g⟩
theorem RSt.setN : ∀ {xs : LSt} {vs : St} (i : Nat) (v : Option V), RSt K s H xs vs → RSt K s H (xs.set i none) (vs.set i v)
  | [], _, _, _, h => by cases h; rfl
  | none :: xs, _, 0, v, h => by obtain ⟨_, r, rfl, h⟩ := h; exact ⟨v, r, rfl, h⟩
  | some y :: xs, _, 0, v, h => by obtain ⟨_, r, rfl, _, h⟩ := h; exact ⟨v, r, rfl, h⟩
  | none :: xs, _, i + 1, v, h => by obtain ⟨_, r, rfl, h⟩ := h; exact ⟨_, _, rfl, RSt.setN i v h⟩
  | some y :: xs, _, i + 1, v, h => by obtain ⟨_, r, rfl, g, h⟩ := h; exact ⟨_, _, rfl, g, RSt.setN i v h⟩
theorem RSt.nones : ∀ (n : Nat), RSt K s H (List.replicate n none) (List.replicate n none)
  | 0 => rfl
  | n + 1 => ⟨none, _, rfl, RSt.nones n⟩
theorem RSt.append : ∀ {xs ys : LSt} {us vs : St}, RSt K s H xs us → RSt K s H ys vs → RSt K s H (xs ++ ys) (us ++ vs)
  | [], _, _, _, h, g => by cases h; exact g
  | none :: xs, _, _, _, h, g => by obtain ⟨v, r, rfl, h⟩ := h; exact ⟨v, _, rfl, RSt.append h g⟩
  | some x :: xs, _, _, _, h, g => by obtain ⟨v, r, rfl, g', h⟩ := h; exact ⟨v, _, rfl, g', RSt.append h g⟩
theorem RSt.vals : ∀ {xs : List LV} {us : List V}, RVs K s H xs us → RSt K s H (xs.map some) (us.map some)
  | [], _, h => by simp only [RVs] at h; subst h; rfl
  | x :: xs, _, h => by
    simp only [RVs] at h
    obtain ⟨u, r, rfl, h1, h2⟩ := h
    exact ⟨u, _, rfl, h1, RSt.vals h2⟩
end

/-- the wish about exceptions, lifted -/
def WL (K : PySem.W.Frag) (s0 : LS) (H0 : Hp) (E : LXS) : WX := fun cls d σ H => ∃ C σl s, cls = .ref C ∧ d = none ∧ RSt K s H σl σ ∧ RelS K s H ∧ Step s0 H0 s H ∧ E C σl s
def up (K : PySem.W.Frag) (s0 : LS) (H0 : Hp) (E : LXS) (t : LTE) : TE := fun σ H Q => ∃ σl s Q0 E1, RSt K s H σl σ ∧ RelS K s H ∧ Step s0 H0 s H ∧ (∀ C s', E1 C s' → E C σl s') ∧ t σl s Q0 E1 ∧
  ∀ lv s' v H', Q0 lv s' → Step s H s' H' → RelS K s' H' → RV K s' H' lv v → Q v H'
def upT (K : PySem.W.Frag) (s0 : LS) (H0 : Hp) (E : LXS) (t : LTT) : TT := fun σ H Q => ∃ σl s Q0 E1, RSt K s H σl σ ∧ RelS K s H ∧ Step s0 H0 s H ∧ (∀ C s', E1 C s' → E C σl s') ∧ t σl s Q0 E1 ∧
  ∀ b s' H', Q0 b s' → Step s H s' H' → RelS K s' H' → Q b H'
def upA (K : PySem.W.Frag) (s0 : LS) (H0 : Hp) (E : LXS) (t : LTA) : TA := fun σ H Q => ∃ σl s Q0 E1, RSt K s H σl σ ∧ RelS K s H ∧ Step s0 H0 s H ∧ (∀ C s', E1 C s' → E C σl s') ∧ t σl s Q0 E1 ∧
  ∀ lvs s' vs H', Q0 lvs s' → Step s H s' H' → RelS K s' H' → RVs K s' H' lvs vs → Q vs H'
/-- the ends, lifted, from the state s, H -/
structure DnE (K : PySem.W.Frag) (E : LXS) (s : LS) (H : Hp) (Dl : LEnds) (D : Ends) : Prop where
  nx : ∀ σl s' σ H', Dl.nx σl s' → Step s H s' H' → RelS K s' H' → RSt K s' H' σl σ → D.nx σ H'
  rt : ∀ lv s' v H', Dl.rt lv s' → Step s H s' H' → RelS K s' H' → RV K s' H' lv v → D.rt v H'
  bk : ∀ σl s' σ H', Dl.bk σl s' → Step s H s' H' → RelS K s' H' → RSt K s' H' σl σ → D.bk σ H'
  ct : ∀ σl s' σ H', Dl.ct σl s' → Step s H s' H' → RelS K s' H' → RSt K s' H' σl σ → D.ct σ H'
  ex : ∀ C σl s', Dl.ex C σl s' → E C σl s'
theorem DnE.mono {K : PySem.W.Frag} {E : LXS} {s s1 : LS} {H H1 : Hp} {Dl : LEnds} {D : Ends} (d : DnE K E s H Dl D) (st : Step s H s1 H1) : DnE K E s1 H1 Dl D :=
  ⟨fun a b c e h t => d.nx a b c e h (st.trans t), fun a b c e h t => d.rt a b c e h (st.trans t), fun a b c e h t => d.bk a b c e h (st.trans t), fun a b c e h t => d.ct a b c e h (st.trans t), d.ex⟩
def upS (K : PySem.W.Frag) (s0 : LS) (H0 : Hp) (E : LXS) (t : LTS) : TS := fun D σ H => ∃ σl s Dl, RSt K s H σl σ ∧ RelS K s H ∧ Step s0 H0 s H ∧ t Dl σl s ∧ DnE K E s H Dl D
def upG (K : PySem.W.Frag) (s0 : LS) (H0 : Hp) (E : LXS) (t : LTG) : TG := fun v σ H Q => ∃ lv σl s Q0 E1, RSt K s H σl σ ∧ RelS K s H ∧ Step s0 H0 s H ∧ RV K s H lv v ∧ (∀ C s', E1 C s' → E C σl s') ∧ t lv σl s Q0 E1 ∧
  ∀ σl' s' σ' H', Q0 σl' s' → Step s H s' H' → RelS K s' H' → RSt K s' H' σl' σ' → Q σ' H'

def LE (X : Cx) (e : Expr) (t : LTE) : Prop := ∀ s0 H0 E, Takes X (WL X.K s0 H0 E) → PE X e (up X.K s0 H0 E t)
def LT (X : Cx) (e : Expr) (t : LTT) : Prop := ∀ s0 H0 E, Takes X (WL X.K s0 H0 E) → PT X e (upT X.K s0 H0 E t)
def LW (X : Cx) (e : Expr) (t : LTT) : Prop := ∀ s0 H0 E, Takes X (WL X.K s0 H0 E) → PW X e (upT X.K s0 H0 E t)
def LA (X : Cx) (es : List Expr) (t : LTA) : Prop := ∀ s0 H0 E, Takes X (WL X.K s0 H0 E) → PA X es (upA X.K s0 H0 E t)
def LP (X : Cx) (st : Stmt) (t : LTS) : Prop := ∀ s0 H0 E, Takes X (WL X.K s0 H0 E) → PassesOwn (model X.prog X.w) X.A X.env X.xe → PS X st (upS X.K s0 H0 E t)
def LPs (X : Cx) (st : List Stmt) (t : LTS) : Prop := ∀ s0 H0 E, Takes X (WL X.K s0 H0 E) → PassesOwn (model X.prog X.w) X.A X.env X.xe → PSs X st (upS X.K s0 H0 E t)
def LG (X : Cx) (e : Expr) (t : LTG) : Prop := ∀ s0 H0 E, Takes X (WL X.K s0 H0 E) → PG X e (upG X.K s0 H0 E t)

theorem _root_.L2.PE.imp {X : Cx} {e : Expr} {t t' : TE} (h : PE X e t) (i : ∀ σ H Q, t' σ H Q → t σ H Q) : PE X e t' := ⟨fun pins s σ H Q I q => h.run pins s σ H Q I (i _ _ _ q)⟩
theorem _root_.L2.PT.imp {X : Cx} {e : Expr} {t t' : TT} (h : PT X e t) (i : ∀ σ H Q, t' σ H Q → t σ H Q) : PT X e t' := ⟨fun pins s σ H Q I q => h.run pins s σ H Q I (i _ _ _ q)⟩
theorem _root_.L2.PW.imp {X : Cx} {e : Expr} {t t' : TT} (h : PW X e t) (i : ∀ σ H Q, t' σ H Q → t σ H Q) : PW X e t' := ⟨fun wh pins s σ H Q I q => h.run wh pins s σ H Q I (i _ _ _ q)⟩
theorem _root_.L2.PA.imp {X : Cx} {e : List Expr} {t t' : TA} (h : PA X e t) (i : ∀ σ H Q, t' σ H Q → t σ H Q) : PA X e t' := ⟨fun pos pins s σ H Q I q => h.run pos pins s σ H Q I (i _ _ _ q)⟩
theorem _root_.L2.PS.imp {X : Cx} {e : Stmt} {t t' : TS} (h : PS X e t) (i : ∀ D σ H, t' D σ H → t D σ H) : PS X e t' := ⟨fun pins s σ H D I q => h.run pins s σ H D I (i _ _ _ q)⟩
theorem _root_.L2.PSs.imp {X : Cx} {e : List Stmt} {t t' : TS} (h : PSs X e t) (i : ∀ D σ H, t' D σ H → t D σ H) : PSs X e t' := ⟨fun pins s σ H D I q => h.run pins s σ H D I (i _ _ _ q)⟩
theorem _root_.L2.PG.imp {X : Cx} {e : Expr} {t t' : TG} (h : PG X e t) (i : ∀ v σ H Q, t' v σ H Q → t v σ H Q) : PG X e t' := ⟨fun pins s σ H v u Q I r q => h.run pins s σ H v u Q I r (i _ _ _ _ q)⟩

def lVar (i : Nat) : LTE := fun σ s Q _ => match σ[i]? with
  | some (some v) => Q v s
  | _ => False
def lC (v : LV) : LTE := fun _ s Q _ => Q v s
section
variable {X : Cx} {e a b : Expr} {pos : Pos}
theorem le_of_pe_var {i : Nat} (h : PE X e (tVar i)) : LE X e (lVar i) := fun s0 H0 E tk => h.imp fun σ H Q ⟨σl, s, Q0, E1, hσ, hs, st, hE, h, k⟩ => by
  unfold lVar at h
  split at h
  · next v e =>
    obtain ⟨u, hu, r⟩ := hσ.get e
    exact ⟨u, hu, k _ _ _ _ h (.refl _ _) hs r⟩
  · exact h.elim
theorem lv (i : Nat) {x : Str} {pos : Pos} (hN : X.N[i]? = some x := by rfl) (hv : Vis X.env.scope x := by first | exact Or.inl rfl | exact Or.inr (Or.inl rfl) | exact Or.inr (Or.inr rfl)) (hd : (x == ("__debug__" : Str)) = false := by decide)
    (hcd : (x == ("__classdict__" : Str)) = false := by decide) : LE X (.Name x pos) (lVar i) := le_of_pe_var (pe_var hN hv hd hcd)
theorem le_of_pe_c {v : V} {x : LV} (h : PE X e (tC v)) (r : ∀ K s H, RV K s H x v) : LE X e (lC x) := fun s0 H0 E tk => h.imp fun σ H Q ⟨σl, s, Q0, E1, hσ, hs, st, hE, h, k⟩ =>
  k _ _ _ _ h (.refl _ _) hs (r _ _ _)
theorem le_int {i j} : LE X (.Constant (.int i) j pos) (lC (.int i)) := le_of_pe_c pe_int fun _ _ _ => by simp only [RV]
theorem le_bl {i j} : LE X (.Constant (.bool i) j pos) (lC (.bl i)) := le_of_pe_c pe_bl fun _ _ _ => by simp only [RV]
theorem le_non {j} : LE X (.Constant .none j pos) (lC .non) := le_of_pe_c pe_non fun _ _ _ => by simp only [RV]
theorem le_str {x j} : LE X (.Constant (.str x) j pos) (lC (.str x)) := le_of_pe_c pe_str fun _ _ _ => by simp only [RV]
/-- a class or a def of the module as a value -/
theorem le_glob {x : Str} {c : Addr} (hg : Gl X x) (hm : X.mg x = some (.ref c)) (hd : (x == ("__debug__" : Str)) = false := by decide) : LE X (.Name x pos) (lC (.ref c)) :=
  le_of_pe_c (v := .ref c) (pe_glob hg hm rfl hd) fun _ _ _ => by simp only [RV]
theorem le_bty {x : Str} {n : String} (hg : Gl X x) (hm : X.mg x = none) (hv : bootBuiltins x = some (.type n)) (hn : x ≠ "__name__" := by decide) (hd : (x == ("__debug__" : Str)) = false := by decide) : LE X (.Name x pos) (lC (.ty n)) :=
  le_of_pe_c (v := .ty n) (pe_bltn hg hm hv rfl hn hd) fun _ _ _ => by simp only [RV]

abbrev LR2 := LV → LV → LS → LVK → Prop
abbrev LR1 := LV → LS → LVK → Prop
def lOp (r : LR2) (ta tb : LTE) : LTE := fun σ s Q E => ta σ s (fun x s1 => tb σ s1 (fun y s2 => r x y s2 Q) E) E
def lUn (r : LR1) (ta : LTE) : LTE := fun σ s Q E => ta σ s (fun x s1 => r x s1 Q) E
/-- what lies between: a rule on values -/
def Up2 (K : PySem.W.Frag) (r : R2) (rl : LR2) : Prop := ∀ x y s H lx ly Q0 Q, RelS K s H → RV K s H lx x → RV K s H ly y → rl lx ly s Q0 →
  (∀ lv s' v H', Q0 lv s' → Step s H s' H' → RelS K s' H' → RV K s' H' lv v → Q v H') → r x y H Q
def Up1 (K : PySem.W.Frag) (r : V → Hp → VK → Prop) (rl : LR1) : Prop := ∀ x s H lx Q0 Q, RelS K s H → RV K s H lx x → rl lx s Q0 →
  (∀ lv s' v H', Q0 lv s' → Step s H s' H' → RelS K s' H' → RV K s' H' lv v → Q v H') → r x H Q
variable {ta tb tc te : LTE}
theorem up_op {K : PySem.W.Frag} {s0 : LS} {H0 : Hp} {E : LXS} {r : R2} {rl : LR2} (u : Up2 K r rl) {σ : St} {H : Hp} {Q : VK} (h : up K s0 H0 E (lOp rl ta tb) σ H Q) : tOp r (up K s0 H0 E ta) (up K s0 H0 E tb) σ H Q := by
  obtain ⟨σl, s, Q0, E1, hσ, hs, st, hE, h, k⟩ := h
  refine ⟨σl, s, _, E1, hσ, hs, st, hE, h, fun lx s1 x H1 h st1 hs1 rx => ?_⟩
  refine ⟨σl, s1, _, E1, hσ.mono st1, hs1, st.trans st1, hE, h, fun ly s2 y H2 h st2 hs2 ry => ?_⟩
  exact u x y s2 H2 lx ly Q0 Q hs2 (rx.mono st2) ry h fun lv s3 v H3 q st3 => k lv s3 v H3 q ((st1.trans st2).trans st3)
theorem le_op {op : Operator} {r : R2} {rl : LR2} (ho : OpR X (binaryOp op) r) (u : Up2 X.K r rl) (ha : LE X a ta) (hb : LE X b tb) : LE X (.BinOp a op b pos) (lOp rl ta tb) := fun s0 H0 E tk =>
  (pe_op ho (ha s0 H0 E tk) (hb s0 H0 E tk)).imp fun σ H Q h => up_op u h
theorem le_cmp {op : CmpOp} {r : R2} {rl : LR2} (ho : OpR X (compareOp op) r) (u : Up2 X.K r rl) (ha : LE X a ta) (hb : LE X b tb) (hm : behindInMarks op b = false) : LE X (.Compare a [op] [b] pos) (lOp rl ta tb) := fun s0 H0 E tk =>
  (pe_cmpR ho (ha s0 H0 E tk) (hb s0 H0 E tk) hm).imp fun σ H Q h => up_op u h
theorem le_ix {r : R2} {rl : LR2} (ho : IxR X r) (u : Up2 X.K r rl) (ha : LE X a ta) (hb : LE X b tb) (hs : PlainIx b) : LE X (.Subscript a b pos) (lOp rl ta tb) := fun s0 H0 E tk =>
  (pe_ix ho (ha s0 H0 E tk) (hb s0 H0 E tk) hs).imp fun σ H Q h => up_op u h
theorem le_un {op : UnaryOp} {r : V → Hp → VK → Prop} {rl : LR1} (ho : UnR X (unaryOp op) r) (u : Up1 X.K r rl) (ha : LE X a ta) : LE X (.UnaryOp op a pos) (lUn rl ta) := fun s0 H0 E tk =>
  (pe_un ho (ha s0 H0 E tk)).imp fun σ H Q ⟨σl, s, Q0, E1, hσ, hs, st, hE, h, k⟩ => ⟨σl, s, _, E1, hσ, hs, st, hE, h, fun lx s1 x H1 h st1 hs1 rx => u x s1 H1 lx Q0 Q hs1 rx h fun lv s3 v H3 q st3 => k lv s3 v H3 q (st1.trans st3)⟩

/-- a value that is a bool, as a test -/
def isBl (x : LV) (k : Bool → Prop) : Prop := match x with
  | .bl c => k c
  | _ => False
def lB (t : LTE) : LTT := fun σ s Q E => t σ s (fun x s1 => isBl x fun c => Q c s1) E
theorem lb_ok {x : LV} {k : Bool → Prop} (h : isBl x k) : ∃ c, x = .bl c ∧ k c := by
  cases x <;> first | exact ⟨_, rfl, h⟩ | exact h.elim
theorem RV.bl' {K : PySem.W.Frag} {s : LS} {H : Hp} {b : Bool} {v : V} (h : RV K s H (.bl b) v) : v = .bl b := by simpa only [RV] using h
theorem RV.int' {K : PySem.W.Frag} {s : LS} {H : Hp} {b : Int} {v : V} (h : RV K s H (.int b) v) : v = .int b := by simpa only [RV] using h
theorem RV.str' {K : PySem.W.Frag} {s : LS} {H : Hp} {b : Str} {v : V} (h : RV K s H (.str b) v) : v = .str b := by simpa only [RV] using h
theorem RV.ref' {K : PySem.W.Frag} {s : LS} {H : Hp} {b : Addr} {v : V} (h : RV K s H (.ref b) v) : v = .ref b := by simpa only [RV] using h
theorem RV.non' {K : PySem.W.Frag} {s : LS} {H : Hp} {v : V} (h : RV K s H .non v) : v = .non := by simpa only [RV] using h
theorem RV.bl {K : PySem.W.Frag} {s : LS} {H : Hp} {b : Bool} : RV K s H (.bl b) (.bl b) := by simp only [RV]
theorem RV.int {K : PySem.W.Frag} {s : LS} {H : Hp} {b : Int} : RV K s H (.int b) (.int b) := by simp only [RV]
theorem RV.str {K : PySem.W.Frag} {s : LS} {H : Hp} {b : Str} : RV K s H (.str b) (.str b) := by simp only [RV]
theorem RV.ref {K : PySem.W.Frag} {s : LS} {H : Hp} {b : Addr} : RV K s H (.ref b) (.ref b) := by simp only [RV]
theorem RV.non {K : PySem.W.Frag} {s : LS} {H : Hp} : RV K s H .non .non := by simp only [RV]
theorem lt_val (ha : LE X a ta) (he : ∀ whole, isTrue a X.env whole = (do let v ← whole; standAt a.pos; holding [v] (truthy v)) := by intro _; rfl) : LT X a (lB ta) := fun s0 H0 E tk =>
  (pt_val (ha s0 H0 E tk) he).imp fun σ H Q ⟨σl, s, Q0, E1, hσ, hs, st, hE, h, k⟩ => ⟨σl, s, _, E1, hσ, hs, st, hE, h, fun lx s1 x H1 h st1 hs1 rx => by
    obtain ⟨c, rfl, h⟩ := lb_ok h
    exact ⟨c, rx.bl', k _ _ _ h st1 hs1⟩⟩
theorem lt_cmp {op : CmpOp} {r : R2} {rl : LR2} (ho : OpR X (compareOp op) r) (u : Up2 X.K r rl) (ha : LE X a ta) (hb : LE X b tb) (hm : behindInMarks op b = false) : LT X (.Compare a [op] [b] pos) (lB (lOp rl ta tb)) := fun s0 H0 E tk =>
  (pt_cmpR ho (ha s0 H0 E tk) (hb s0 H0 E tk) hm).imp fun σ H Q ⟨σl, s, Q0, E1, hσ, hs, st, hE, h, k⟩ => by
    refine up_op u (Q := fun x H' => ∃ k, x = .bl k ∧ Q k H') ⟨σl, s, _, E1, hσ, hs, st, hE, h, fun lx s1 x H1 h st1 hs1 rx => ?_⟩
    obtain ⟨c, rfl, h⟩ := lb_ok h
    exact ⟨c, rx.bl', k _ _ _ h st1 hs1⟩
variable {tA tB : LTT} {rest : List Expr}
def lAnd (t u : LTT) : LTT := fun σ s Q E => t σ s (fun c s1 => (c = true → u σ s1 Q E) ∧ (c = false → Q false s1)) E
def lOr (t u : LTT) : LTT := fun σ s Q E => t σ s (fun c s1 => (c = true → Q true s1) ∧ (c = false → u σ s1 Q E)) E
def lNot (t : LTT) : LTT := fun σ s Q E => t σ s (fun c s1 => Q (!c) s1) E
theorem LW.lt (h : LW X e tA) : LT X e tA := fun s0 H0 E tk => (h s0 H0 E tk).pt
theorem lw_and1 (ha : LT X a tA) : LW X (.BoolOp .And [a] pos) tA := fun s0 H0 E tk => pw_and1 (ha s0 H0 E tk)
theorem lw_or1 (ha : LT X a tA) : LW X (.BoolOp .Or [a] pos) tA := fun s0 H0 E tk => pw_or1 (ha s0 H0 E tk)
theorem lw_and (ha : LT X a tA) (hb : LW X (.BoolOp .And (b :: rest) pos) tB) : LW X (.BoolOp .And (a :: b :: rest) pos) (lAnd tA tB) := fun s0 H0 E tk =>
  (pw_and (ha s0 H0 E tk) (hb s0 H0 E tk)).imp fun σ H Q ⟨σl, s, Q0, E1, hσ, hs, st, hE, h, k⟩ => ⟨σl, s, _, E1, hσ, hs, st, hE, h, fun c s1 H1 h st1 hs1 => by
    cases c with
    | true => exact ⟨σl, s1, _, E1, hσ.mono st1, hs1, st.trans st1, hE, h.1 rfl, fun b s2 H2 q st2 => k b s2 H2 q (st1.trans st2)⟩
    | false => exact k _ _ _ (h.2 rfl) st1 hs1⟩
theorem lw_or (ha : LT X a tA) (hb : LW X (.BoolOp .Or (b :: rest) pos) tB) : LW X (.BoolOp .Or (a :: b :: rest) pos) (lOr tA tB) := fun s0 H0 E tk =>
  (pw_or (ha s0 H0 E tk) (hb s0 H0 E tk)).imp fun σ H Q ⟨σl, s, Q0, E1, hσ, hs, st, hE, h, k⟩ => ⟨σl, s, _, E1, hσ, hs, st, hE, h, fun c s1 H1 h st1 hs1 => by
    cases c with
    | true => exact k _ _ _ (h.1 rfl) st1 hs1
    | false => exact ⟨σl, s1, _, E1, hσ.mono st1, hs1, st.trans st1, hE, h.2 rfl, fun b s2 H2 q st2 => k b s2 H2 q (st1.trans st2)⟩⟩
theorem lt_not (ha : LT X a tA) : LT X (.UnaryOp .Not a pos) (lNot tA) := fun s0 H0 E tk =>
  (pt_not (ha s0 H0 E tk)).imp fun σ H Q ⟨σl, s, Q0, E1, hσ, hs, st, hE, h, k⟩ => ⟨σl, s, _, E1, hσ, hs, st, hE, h, fun c s1 H1 h st1 hs1 => k _ _ _ h st1 hs1⟩
/-- .. as values -/
def lAndV (ta tb : LTE) : LTE := fun σ s Q E => lB ta σ s (fun c s1 => (c = true → tb σ s1 Q E) ∧ (c = false → Q (.bl false) s1)) E
def lOrV (ta tb : LTE) : LTE := fun σ s Q E => lB ta σ s (fun c s1 => (c = true → Q (.bl true) s1) ∧ (c = false → tb σ s1 Q E)) E
def lNotV (ta : LTE) : LTE := fun σ s Q E => lB ta σ s (fun c s1 => Q (.bl (!c)) s1) E
theorem le_one {op} (h : LE X a ta) : LE X (.BoolOp op [a] pos) ta := fun s0 H0 E tk => pe_one (h s0 H0 E tk)
theorem le_and (ha : LE X a ta) (hb : LE X (.BoolOp .And (b :: rest) pos) tb) : LE X (.BoolOp .And (a :: b :: rest) pos) (lAndV ta tb) := fun s0 H0 E tk =>
  (pe_and (ha s0 H0 E tk) (hb s0 H0 E tk)).imp fun σ H Q ⟨σl, s, Q0, E1, hσ, hs, st, hE, h, k⟩ => ⟨σl, s, _, E1, hσ, hs, st, hE, h, fun lx s1 x H1 h st1 hs1 rx => by
    obtain ⟨c, rfl, h⟩ := lb_ok h
    refine ⟨c, rx.bl', ?_⟩
    cases c with
    | true => exact ⟨σl, s1, _, E1, hσ.mono st1, hs1, st.trans st1, hE, h.1 rfl, fun b s2 v H2 q st2 => k b s2 v H2 q (st1.trans st2)⟩
    | false => exact k _ _ _ _ (h.2 rfl) st1 hs1 .bl⟩
theorem le_or (ha : LE X a ta) (hb : LE X (.BoolOp .Or (b :: rest) pos) tb) : LE X (.BoolOp .Or (a :: b :: rest) pos) (lOrV ta tb) := fun s0 H0 E tk =>
  (pe_or (ha s0 H0 E tk) (hb s0 H0 E tk)).imp fun σ H Q ⟨σl, s, Q0, E1, hσ, hs, st, hE, h, k⟩ => ⟨σl, s, _, E1, hσ, hs, st, hE, h, fun lx s1 x H1 h st1 hs1 rx => by
    obtain ⟨c, rfl, h⟩ := lb_ok h
    refine ⟨c, rx.bl', ?_⟩
    cases c with
    | true => exact k _ _ _ _ (h.1 rfl) st1 hs1 .bl
    | false => exact ⟨σl, s1, _, E1, hσ.mono st1, hs1, st.trans st1, hE, h.2 rfl, fun b s2 v H2 q st2 => k b s2 v H2 q (st1.trans st2)⟩⟩
theorem le_not (ha : LE X a ta) : LE X (.UnaryOp .Not a pos) (lNotV ta) := fun s0 H0 E tk =>
  (pe_not (ha s0 H0 E tk)).imp fun σ H Q ⟨σl, s, Q0, E1, hσ, hs, st, hE, h, k⟩ => ⟨σl, s, _, E1, hσ, hs, st, hE, h, fun lx s1 x H1 h st1 hs1 rx => by
    obtain ⟨c, rfl, h⟩ := lb_ok h
    exact ⟨c, rx.bl', k _ _ _ _ h st1 hs1 .bl⟩⟩
def lCutT (t : LTT) : LTT := fun σ s Q E => ∃ b, t σ s (fun b' s' => b' = b ∧ s' = s) E ∧ Q b s
theorem lt_cut (h : LT X e tA) : LT X e (lCutT tA) := fun s0 H0 E tk => (h s0 H0 E tk).imp fun σ H Q ⟨σl, s, Q0, E1, hσ, hs, st, hE, ⟨b, h, q⟩, k⟩ =>
  ⟨σl, s, _, E1, hσ, hs, st, hE, h, fun b' s' H' ⟨e1, e2⟩ st1 hs1 => by subst e1 e2; exact k _ _ _ q st1 hs1⟩
def lCutE (t : LTE) : LTE := fun σ s Q E => ∃ v, t σ s (fun v' s' => v' = v ∧ s' = s) E ∧ Q v s
theorem le_cut (h : LE X e ta) : LE X e (lCutE ta) := fun s0 H0 E tk => (h s0 H0 E tk).imp fun σ H Q ⟨σl, s, Q0, E1, hσ, hs, st, hE, ⟨b, h, q⟩, k⟩ =>
  ⟨σl, s, _, E1, hσ, hs, st, hE, h, fun b' s' v H' ⟨e1, e2⟩ st1 hs1 r => by subst e1 e2; exact k _ _ _ _ q st1 hs1 r⟩

def lNil : LTA := fun _ s Q _ => Q [] s
def lCons (t : LTE) (u : LTA) : LTA := fun σ s Q E => t σ s (fun x s1 => u σ s1 (fun xs s2 => Q (x :: xs) s2) E) E
variable {tas : LTA} {es : List Expr}
theorem la_nil : LA X [] lNil := fun s0 H0 E tk => pa_nil.imp fun σ H Q ⟨σl, s, Q0, E1, hσ, hs, st, hE, h, k⟩ => k _ _ _ _ h (.refl _ _) hs .nil
theorem la_cons (h : LE X e te) (t : LA X es tas) (hs : starEach (e :: es) X.env = (false, eval e X.env) :: starEach es X.env := by rfl) : LA X (e :: es) (lCons te tas) := fun s0 H0 E tk =>
  (pa_cons (h s0 H0 E tk) (t s0 H0 E tk) hs).imp fun σ H Q ⟨σl, s, Q0, E1, hσ, hs, st, hE, h, k⟩ => ⟨σl, s, _, E1, hσ, hs, st, hE, h, fun lx s1 x H1 h st1 hs1 rx =>
    ⟨σl, s1, _, E1, hσ.mono st1, hs1, st.trans st1, hE, h, fun ly s2 y H2 h st2 hs2 ry => k _ _ _ _ h (st1.trans st2) hs2 (.cons (rx.mono st2) ry)⟩⟩

variable {st : Stmt} {sts : List Stmt} {t u : LTS}
def lNext : LTS := fun D σ s => D.nx σ s
def lSeq (t u : LTS) : LTS := fun D σ s => t (D.wnx (u D)) σ s
theorem lps_nil : LPs X [] lNext := fun s0 H0 E tk hp => pss_nil.imp fun D σ H ⟨σl, s, Dl, hσ, hs, st, h, d⟩ => d.nx _ _ _ _ h (.refl _ _) hs hσ
theorem lps_cons (h1 : LP X st t) (h2 : LPs X sts u) : LPs X (st :: sts) (lSeq t u) := fun s0 H0 E tk hp => (pss_cons (h1 s0 H0 E tk hp) (h2 s0 H0 E tk hp)).imp fun D σ H ⟨σl, s, Dl, hσ, hs, st, h, d⟩ =>
  ⟨σl, s, _, hσ, hs, st, h, ⟨fun σl1 s1 σ1 H1 h1 st1 hs1 r1 => ⟨σl1, s1, Dl, r1, hs1, st.trans st1, h1, d.mono st1⟩, d.rt, d.bk, d.ct, d.ex⟩⟩
theorem lps_one (h1 : LP X st t) : LPs X [st] t := fun s0 H0 E tk hp => pss_one (h1 s0 H0 E tk hp)
theorem lp_pass : LP X (.Pass pos) lNext := fun s0 H0 E tk hp => ps_pass.imp fun D σ H ⟨σl, s, Dl, hσ, hs, st, h, d⟩ => d.nx _ _ _ _ h (.refl _ _) hs hσ
def lBreak : LTS := fun D σ s => D.bk σ s
def lCont : LTS := fun D σ s => D.ct σ s
theorem lp_break : LP X (.Break pos) lBreak := fun s0 H0 E tk hp => ps_break.imp fun D σ H ⟨σl, s, Dl, hσ, hs, st, h, d⟩ => d.bk _ _ _ _ h (.refl _ _) hs hσ
theorem lp_continue : LP X (.Continue pos) lCont := fun s0 H0 E tk hp => ps_continue.imp fun D σ H ⟨σl, s, Dl, hσ, hs, st, h, d⟩ => d.ct _ _ _ _ h (.refl _ _) hs hσ
theorem lp_doc {x j pos pos'} : LP X (.Expr (.Constant (.str x) j pos) pos') lNext := fun s0 H0 E tk hp => ps_doc.imp fun D σ H ⟨σl, s, Dl, hσ, hs, st, h, d⟩ => d.nx _ _ _ _ h (.refl _ _) hs hσ
def lDrop (te : LTE) : LTS := fun D σ s => te σ s (fun _ s1 => D.nx σ s1) (fun C s1 => D.ex C σ s1)
theorem lp_expr (he : LE X e te) (hs : swapsWith e none pos.line X.env = pure false := by rfl) : LP X (.Expr e pos) (lDrop te) := fun s0 H0 E tk hp =>
  (ps_expr (he s0 H0 E tk) hs).imp fun D σ H ⟨σl, s, Dl, hσ, hs, st, h, d⟩ =>
    ⟨σl, s, _, _, hσ, hs, st, fun C s' q => d.ex C σl s' q, h, fun lv s1 v H1 h1 st1 hs1 r1 => d.nx _ _ _ _ h1 st1 hs1 (hσ.mono st1)⟩
end
end L3

namespace L3
open PySem PySem.Spec L2
section
variable {X : Cx} {e a b c : Expr} {pos : Pos} {ta tb tc te : LTE} {tt : LTT} {t u : LTS} {st : Stmt} {sts sts2 : List Stmt}
def lRet (te : LTE) : LTS := fun D σ s => te σ s D.rt (fun C s1 => D.ex C σ s1)
theorem lp_ret (he : LE X e te) : LP X (.Return (some e) pos) (lRet te) := fun s0 H0 E tk hp => (ps_ret (he s0 H0 E tk)).imp fun D σ H ⟨σl, s, Dl, hσ, hs, st, h, d⟩ =>
  ⟨σl, s, _, _, hσ, hs, st, fun C s' q => d.ex C σl s' q, h, d.rt⟩
def lRetN : LTS := fun D _ s => D.rt .non s
theorem lp_retN : LP X (.Return none pos) lRetN := fun s0 H0 E tk hp => ps_retN.imp fun D σ H ⟨σl, s, Dl, hσ, hs, st, h, d⟩ => d.rt _ _ _ _ h (.refl _ _) hs .non
def lIf (c : LTT) (t u : LTS) : LTS := fun D σ s => c σ s (fun b s1 => (b = true → t D σ s1) ∧ (b = false → u D σ s1)) (fun C s1 => D.ex C σ s1)
theorem lp_if (hc : LT X c tt) (ha : LPs X sts t) (hb : LPs X sts2 u) : LP X (.If c sts sts2 pos) (lIf tt t u) := fun s0 H0 E tk hp =>
  (ps_if (hc s0 H0 E tk) (ha s0 H0 E tk hp) (hb s0 H0 E tk hp)).imp fun D σ H ⟨σl, s, Dl, hσ, hs, st, h, d⟩ =>
    ⟨σl, s, _, _, hσ, hs, st, fun C s' q => d.ex C σl s' q, h, fun b s1 H1 h st1 hs1 => by
      cases b with
      | true => exact ⟨σl, s1, Dl, hσ.mono st1, hs1, st.trans st1, h.1 rfl, d.mono st1⟩
      | false => exact ⟨σl, s1, Dl, hσ.mono st1, hs1, st.trans st1, h.2 rfl, d.mono st1⟩⟩
/-- a cut behind a statement, a block: what holds there is said -/
def lCut (t : LTS) : LTS := fun D σ s => ∃ R : LSt → LS → Prop, t (D.wnx R) σ s ∧ ∀ σ' s', R σ' s' → D.nx σ' s'
theorem lp_cut (h : LP X st t) : LP X st (lCut t) := fun s0 H0 E tk hp => (h s0 H0 E tk hp).imp fun D σ H ⟨σl, s, Dl, hσ, hs, st, ⟨R, h, r⟩, d⟩ =>
  ⟨σl, s, _, hσ, hs, st, h, ⟨fun σl1 s1 σ1 H1 h1 => d.nx σl1 s1 σ1 H1 (r _ _ h1), d.rt, d.bk, d.ct, d.ex⟩⟩
def lNever : LTS := fun _ _ _ => False
theorem lp_never : LP X st lNever := fun s0 H0 E tk hp => ps_never.imp fun D σ H ⟨_, _, _, _, _, _, h, _⟩ => h
theorem lps_never : LPs X sts lNever := fun s0 H0 E tk hp => pss_never.imp fun D σ H ⟨_, _, _, _, _, _, h, _⟩ => h

def lgName (i : Nat) : LTG := fun v σ s Q _ => Q (σ.set i (some v)) s
theorem lg_name {i : Nat} {x : Str} (hN : X.N.Nodup) (hi : X.N[i]? = some x) (hx : Loc X.env.scope x) (hf : X.fn x = true ∨ X.env.scope.names.lookup x = some .local := by first | exact .inl rfl | exact .inr rfl | assumption) : LG X (.Name x pos) (lgName i) := fun s0 H0 E tk =>
  (pg_name hN hi hx hf).imp fun v σ H Q ⟨lv, σl, s, Q0, E1, hσ, hs, st, rv, hE, h, k⟩ => k _ _ _ _ h (.refl _ _) hs (hσ.set i rv)
/-- several names, from the left -/
def lSets : List Nat → List LV → LSt → Option LSt
  | [], [], σ => some σ
  | i :: is, v :: vs, σ => lSets is vs (σ.set i (some v))
  | _, _, _ => none
def lgTup (is : List Nat) : LTG := fun v σ s Q _ => match v with
  | .tup xs => (match lSets is xs σ with
    | some σ' => Q σ' s
    | none => False)
  | _ => False
/-- the real targets of names -/
def gNames : List Nat → TGs
  | [] => gNil
  | i :: is => gCons (gName i) (gNames is)
theorem gNames_ok {K : PySem.W.Frag} {s : LS} {H : Hp} {Q : St → Hp → Prop} : ∀ {is : List Nat} {xs : List LV} {vs : List V} {σl σl' : LSt} {σ : St}, RSt K s H σl σ → RVs K s H xs vs → lSets is xs σl = some σl' →
    (∀ σ', RSt K s H σl' σ' → Q σ' H) → gNames is vs σ H Q
  | [], [], _, _, _, σ, hσ, rv, e, k => by
    simp only [RVs] at rv
    subst rv
    cases e
    exact ⟨rfl, k _ hσ⟩
  | i :: is, x :: xs, _, _, _, σ, hσ, rv, e, k => by
    simp only [RVs] at rv
    obtain ⟨u, r, rfl, r1, r2⟩ := rv
    exact ⟨u, r, rfl, gNames_ok (is := is) (hσ.set i r1) r2 e k⟩
  | [], _ :: _, _, _, _, _, _, _, e, _ => by cases e
  | _ :: _, [], _, _, _, _, _, _, e, _ => by cases e
theorem lSets_len : ∀ {is : List Nat} {xs : List LV} {σ σ' : LSt}, lSets is xs σ = some σ' → xs.length = is.length
  | [], [], _, _, _ => rfl
  | i :: is, x :: xs, _, _, e => by simp [lSets_len (is := is) e]
  | [], _ :: _, _, _, e => by cases e
  | _ :: _, [], _, _, e => by cases e
theorem lg_tup {es : List Expr} {k : Nat} {is : List Nat} (hc : X.calm = true) (h : PGs X es (gNames is)) (hn : (assignEach es X.env).length = is.length := by rfl) (hst : (assignEach es X.env).findIdx? (·.1) = none := by rfl) :
    LG X (.Tuple es k pos) (lgTup is) := fun s0 H0 E tk => (pg_tup hc h hn hst).imp fun v σ H Q ⟨lv, σl, s, Q0, E1, hσ, hs, st, rv, hE, h, k⟩ => by
  cases lv with
  | tup xs =>
    simp only [RV] at rv
    obtain ⟨a, us, rfl, n, hh, r⟩ := rv
    simp only [lgTup] at h
    split at h
    · next σ' e => exact ⟨a, us, rfl, SqT.of hh, by rw [r.length, lSets_len e], gNames_ok hσ r e fun σ2 q => k _ _ _ _ h (.refl _ _) hs q⟩
    · exact h.elim
  | _ => exact h.elim
/-- target = value -/
def lAsg (te : LTE) (g : LTG) : LTS := fun D σ s => te σ s (fun x s1 => g x σ s1 D.nx (fun C s2 => D.ex C σ s2)) (fun C s1 => D.ex C σ s1)
theorem lp_asg {tg : Expr} {g : LTG} (he : LE X e te) (hg : LG X tg g) (hs : swapsWithSole [tg] e pos.line X.env = pure false := by rfl) (hw : swappedStores [tg] e X.env = pure none := by rfl)
    (h1 : (assignEach [tg] X.env).map (·.2) = [assign tg X.env] := by rfl) : LP X (.Assign [tg] e pos) (lAsg te g) := fun s0 H0 E tk hp =>
  (ps_asg (he s0 H0 E tk) (hg s0 H0 E tk) hs hw h1).imp fun D σ H ⟨σl, s, Dl, hσ, hs, st, h, d⟩ =>
    ⟨σl, s, _, _, hσ, hs, st, fun C s' q => d.ex C σl s' q, h, fun lx s1 x H1 h st1 hs1 rx => ⟨lx, σl, s1, _, _, hσ.mono st1, hs1, st.trans st1, rx, fun C s' q => d.ex C σl s' q, h, (d.mono st1).nx⟩⟩
theorem lp_set {i : Nat} {x : Str} {pos' : Pos} (hN : X.N.Nodup) (hi : X.N[i]? = some x) (hx : Loc X.env.scope x) (he : LE X e te) (hs : swapsWith e (some (.Name x pos')) pos.line X.env = pure false := by rfl)
    (hf : X.fn x = true ∨ X.env.scope.names.lookup x = some .local := by first | exact .inl rfl | exact .inr rfl | assumption) : LP X (.Assign [.Name x pos'] e pos) (lAsg te (lgName i)) := fun s0 H0 E tk hp =>
  (ps_set hN hi hx (he s0 H0 E tk) hs hf).imp fun D σ H ⟨σl, s, Dl, hσ, hs, st, h, d⟩ =>
    ⟨σl, s, _, _, hσ, hs, st, fun C s' q => d.ex C σl s' q, h, fun lx s1 x H1 h st1 hs1 rx => d.nx _ _ _ _ h st1 hs1 ((hσ.mono st1).set i rx)⟩

def lWhile (c : LTT) (tb : LTS) : LTS := fun D σ s => ∃ W : Nat → LSt → LS → Prop, (∃ m, W m σ s) ∧ ∀ m σ s, W m σ s →
  c σ s (fun b s1 => (b = true → tb (D.wlp fun σ' s' => ∃ m', m' < m ∧ W m' σ' s') σ s1) ∧ (b = false → D.nx σ s1)) (fun C s1 => D.ex C σ s1)
theorem lp_while (hc : LT X c tt) (hb : LPs X sts t) : LP X (.While c sts [] pos) (lWhile tt t) := fun s0 H0 E tk hp =>
  (ps_while hp (hc s0 H0 E tk) (hb s0 H0 E tk hp)).imp fun D σ H ⟨σl, s, Dl, hσ, hs, st, ⟨W, ⟨m0, w0⟩, turn⟩, d⟩ => by
    refine ⟨fun m σ' H' => ∃ σl' s', RSt X.K s' H' σl' σ' ∧ RelS X.K s' H' ∧ Step s H s' H' ∧ W m σl' s', ⟨m0, σl, s, hσ, hs, .refl _ _, w0⟩, ?_⟩
    rintro m σ1 H1 ⟨σl1, s1, hσ1, hs1, st1, w1⟩
    refine ⟨σl1, s1, _, _, hσ1, hs1, st.trans st1, fun C s' q => d.ex C σl1 s' q, turn m σl1 s1 w1, fun b s2 H2 h st2 hs2 => ?_⟩
    have st12 := st1.trans st2
    cases b with
    | true =>
      refine iteT ?_
      refine ⟨fun σ' H' => ∃ m', m' < m ∧ ∃ σl' s', RSt X.K s' H' σl' σ' ∧ RelS X.K s' H' ∧ Step s H s' H' ∧ W m' σl' s', fun σ' H' q => q, σl1, s2, _, hσ1.mono st2, hs2, st.trans st12, h.1 rfl, ?_⟩
      exact ⟨fun σl3 s3 σ3 H3 ⟨m', lt, w⟩ st3 hs3 r3 => ⟨m', lt, σl3, s3, r3, hs3, st12.trans st3, w⟩, (d.mono st12).rt, (d.mono st12).nx, fun σl3 s3 σ3 H3 ⟨m', lt, w⟩ st3 hs3 r3 => ⟨m', lt, σl3, s3, r3, hs3, st12.trans st3, w⟩, d.ex⟩
    | false =>
      refine iteF ?_
      exact d.nx _ _ _ _ (h.2 rfl) st12 hs2 (hσ1.mono st2)

abbrev LTI := LSt → LS → (List LV → (LS → Prop) → LS → Prop) → LX → Prop
structure ItR (K : PySem.W.Frag) (J : It) (xs : List LV) (stb : LS → Prop) (s1 : LS) (H1 : Hp) : Prop where
  go : ∀ i s H, i < xs.length → Step s1 H1 s H → RelS K s H → stb s → J.go i H
  stop : ∀ s H, Step s1 H1 s H → RelS K s H → stb s → J.stop xs.length H
  yld : ∀ i s H x H', i < xs.length → Step s1 H1 s H → RelS K s H → stb s → J.yld i H x H' → ∃ lx, xs[i]? = some lx ∧ RV K s H' lx x ∧ Step s H s H' ∧ RelS K s H'
def upI (K : PySem.W.Frag) (s0 : LS) (H0 : Hp) (E : LXS) (t : LTI) : TI := fun σ H R => ∃ σl s Q0 E1, RSt K s H σl σ ∧ RelS K s H ∧ Step s0 H0 s H ∧ (∀ C s', E1 C s' → E C σl s') ∧ t σl s Q0 E1 ∧
  ∀ xs stb s' H' J, Q0 xs stb s' → Step s H s' H' → RelS K s' H' → ItR K J xs stb s' H' → R J H'
def LI (X : Cx) (tg iter : Expr) (t : LTI) : Prop := ∀ s0 H0 E, Takes X (WL X.K s0 H0 E) → PI X tg iter (upI X.K s0 H0 E t)
theorem _root_.L2.PI.imp {X : Cx} {tg e : Expr} {t t' : TI} (h : PI X tg e t) (i : ∀ σ H R, t' σ H R → t σ H R) : PI X tg e t' := ⟨fun pins s σ H R I q => h.run pins s σ H R I (i _ _ _ q)⟩

def lLoop (g : LTG) (tb : LTS) (stb : LS → Prop) (D : LEnds) : List LV → LSt → LS → Prop
  | [], σ, s => stb s ∧ D.nx σ s
  | x :: xs, σ, s => stb s ∧ g x σ s (fun σ2 s2 => tb (D.wlp (lLoop g tb stb D xs)) σ2 s2) (fun C s1 => D.ex C σ s1)
def lFor (it : LTI) (g : LTG) (tb : LTS) : LTS := fun D σ s => it σ s (fun xs stb s1 => lLoop g tb stb D xs σ s1) (fun C s1 => D.ex C σ s1)
theorem lLoop_stb {g : LTG} {tb : LTS} {stb : LS → Prop} {D : LEnds} : ∀ {xs : List LV} {σ : LSt} {s : LS}, lLoop g tb stb D xs σ s → stb s
  | [], _, _, h => h.1
  | _ :: _, _, _, h => h.1
theorem lp_for {tg iter : Expr} {it : LTI} {g : LTG} (hc : X.calm = true) (hi : LI X tg iter it) (hg : LG X tg g) (hb : LPs X sts t) (hs : ∀ x, foldedSetIterable iter X.env x = pure x := by intro _; rfl) :
    LP X (.For tg iter sts [] pos) (lFor it g t) := fun s0 H0 E tk hp =>
  (ps_for hp hc (hi s0 H0 E tk) (hg s0 H0 E tk) (hb s0 H0 E tk hp) hs).imp fun D σ H ⟨σl, s, Dl, hσ, hs, st, h, d⟩ => by
    refine ⟨σl, s, _, _, hσ, hs, st, fun C s' q => d.ex C σl s' q, h, fun xs stb s1 H1 J h st1 hs1 it => ?_⟩
    have d1 := d.mono st1
    refine ⟨fun i m σ' H' => ∃ σl' s', RSt X.K s' H' σl' σ' ∧ RelS X.K s' H' ∧ Step s1 H1 s' H' ∧ m = xs.length - i ∧ i ≤ xs.length ∧ lLoop g t stb Dl (xs.drop i) σl' s', ⟨xs.length, σl, s1, hσ.mono st1, hs1, .refl _ _, by simp, Nat.zero_le _, h⟩, ?_⟩
    rintro i m σ2 H2 ⟨σl2, s2, hσ2, hs2, st2, rfl, hi, h2⟩
    by_cases hlt : i < xs.length
    · rw [List.drop_eq_getElem_cons hlt] at h2
      refine .inr ⟨it.go i s2 H2 hlt st2 hs2 h2.1, fun σ' H' => ∃ σl' s', RSt X.K s' H' σl' σ' ∧ RelS X.K s' H' ∧ Step s1 H1 s' H' ∧ lLoop g t stb Dl (xs.drop (i + 1)) σl' s', fun σ' H' ⟨σl', s', q1, q2, q3, q4⟩ => ⟨xs.length - (i + 1), by omega, σl', s', q1, q2, q3, rfl, hlt, q4⟩, fun x H' y => ?_⟩
      obtain ⟨lx, ex, rx, st3, hs3⟩ := it.yld i s2 H2 x H' hlt st2 hs2 h2.1 y
      rw [List.getElem?_eq_getElem hlt] at ex
      cases ex
      have st23 := st2.trans st3
      refine ⟨_, σl2, s2, _, _, hσ2.mono st3, hs3, (st.trans st1).trans st23, rx, fun C s' q => d.ex C σl2 s' q, h2.2, fun σl4 s4 σ4 H4 q st4 hs4 hσ4 => ?_⟩
      have st24 := st23.trans st4
      refine ⟨σl4, s4, _, hσ4, hs4, (st.trans st1).trans st24, q, ?_⟩
      exact ⟨fun σl5 s5 σ5 H5 w st5 hs5 r5 => ⟨σl5, s5, r5, hs5, st24.trans st5, w⟩, (d1.mono st24).rt, (d1.mono st24).nx, fun σl5 s5 σ5 H5 w st5 hs5 r5 => ⟨σl5, s5, r5, hs5, st24.trans st5, w⟩, d.ex⟩
    · have ei : i = xs.length := by omega
      subst ei
      rw [List.drop_length] at h2
      exact .inl ⟨it.stop s2 H2 st2 hs2 h2.1, (d1.mono st2).nx _ _ _ _ h2.2 (.refl _ _) hs2 hσ2⟩
/-- a loop by a fold: its state after the items -/
theorem lLoop_fold {α : Type} {g : LTG} {tb : LTS} {stb : LS → Prop} {D : LEnds} {mkσ : α → LSt} {mks : α → LS} {f : α → LV → α} {P : α → Prop} : ∀ (xs : List LV) (z : α), P z → (∀ z, P z → stb (mks z)) →
    (∀ z x, P z → x ∈ xs → ∀ N : LSt → LS → Prop, (P (f z x) → N (mkσ (f z x)) (mks (f z x))) → g x (mkσ z) (mks z) (fun σ2 s2 => tb (D.wlp (N)) σ2 s2) (fun C s1 => D.ex C (mkσ z) s1)) →
    (∀ z x, P z → x ∈ xs → P (f z x)) → D.nx (mkσ (xs.foldl f z)) (mks (xs.foldl f z)) → lLoop g tb stb D xs (mkσ z) (mks z)
  | [], z, pz, hst, _, _, hn => ⟨hst z pz, hn⟩
  | x :: xs, z, pz, hst, hs, hp, hn => ⟨hst z pz, hs z x pz (by simp) _ fun p' =>
      lLoop_fold xs (f z x) p' hst (fun z y pz hy => hs z y pz (by simp [hy])) (fun z y pz hy => hp z y pz (by simp [hy])) hn⟩
/-- a loop by an invariant over what is done and what is left -/
theorem lLoop_inv {g : LTG} {tb : LTS} {stb : LS → Prop} {D : LEnds} (I : List LV → List LV → LSt → LS → Prop) {σ : LSt} {s : LS} {xs : List LV} (h0 : I [] xs σ s) (hst : ∀ p r σ s, I p r σ s → stb s)
    (hs : ∀ p x r σ s, p ++ x :: r = xs → I p (x :: r) σ s → g x σ s (fun σ2 s2 => tb (D.wlp (I (p ++ [x]) r)) σ2 s2) (fun C s1 => D.ex C σ s1))
    (mono : ∀ x σ s (N N' : LSt → LS → Prop), (∀ σ s, N σ s → N' σ s) → g x σ s (fun σ2 s2 => tb (D.wlp (N)) σ2 s2) (fun C s1 => D.ex C σ s1) → g x σ s (fun σ2 s2 => tb (D.wlp (N')) σ2 s2) (fun C s1 => D.ex C σ s1))
    (hn : ∀ σ s, I xs [] σ s → D.nx σ s) : lLoop g tb stb D xs σ s := by
  have go : ∀ (r p : List LV) (σ : LSt) (s : LS), p ++ r = xs → I p r σ s → lLoop g tb stb D r σ s := by
    intro r
    induction r with
    | nil =>
      intro p σ s e i
      rw [List.append_nil] at e
      subst e
      exact ⟨hst _ _ _ _ i, hn _ _ i⟩
    | cons x r ih =>
      intro p σ s e i
      exact ⟨hst _ _ _ _ i, mono x σ s _ _ (fun σ' s' q => ih (p ++ [x]) σ' s' (by simp [e]) q) (hs p x r σ s e i)⟩
  exact go xs [] σ s rfl h0
end
end L3

namespace L3
open PySem PySem.Spec L2
section
variable {K : PySem.W.Frag} {s s' : LS} {H H' : Hp}
theorem RelS.ins {a : Addr} {C : Addr} {fs : List (Str × LV)} (r : RelS K s H) (h : s a = some (.ins C fs)) : ∃ dx us, H a = some (.ins C dx us) ∧ RVf K s H fs us := r a _ h
theorem RelS.lst {a : Addr} {xs : List LV} (r : RelS K s H) (h : s a = some (.lst xs)) : ∃ us, H a = some (.lst us) ∧ RVs K s H xs us := r a _ h
theorem RelS.some {a : Addr} {o : LO} (r : RelS K s H) (h : s a = some o) : ∃ u, H a = some u := by
  cases o with
  | lst xs => obtain ⟨us, h, _⟩ := r a _ h; exact ⟨_, h⟩
  | dK xs => obtain ⟨us, h, _⟩ := r a _ h; exact ⟨_, h⟩
  | dT xs => obtain ⟨us, h, _⟩ := r a _ h; exact ⟨_, h⟩
  | ins C xs => obtain ⟨dx, us, h, _⟩ := r a _ h; exact ⟨_, h⟩
  | raw o => exact ⟨o, r a _ h⟩
theorem RelS.free {a : Addr} (r : RelS K s H) (h : H a = none) : s a = none := by
  cases e : s a with
  | none => rfl
  | some o =>
    obtain ⟨u, q⟩ := r.some e
    rw [h] at q
    cases q
/-- a write at an address of the store, or a new one -/
theorem Step.put {a : Addr} {o : LO} {u : HO} (h : s a ≠ none ∨ H a = none) : Step s H (put s a o) (upd H a u) := fun b v hb nb => by
  have ne : b ≠ a := by
    rintro rfl
    rcases h with h | h
    · exact h nb
    · rw [h] at hb; cases hb
  rw [upd_ne ne, put_ne ne]
  exact ⟨⟨v, hb, .refl v⟩, nb⟩
theorem ObjR.mono {a : Addr} {o : LO} (st : Step s H s' H') (k : ∀ u, H a = some u → H' a = some u) (h : ObjR K s H a o) : ObjR K s' H' a o := by
  cases o with
  | lst xs => obtain ⟨us, h, r⟩ := h; exact ⟨us, k _ h, r.mono st⟩
  | dK xs => obtain ⟨us, h, r⟩ := h; exact ⟨us, k _ h, r.mono st⟩
  | dT xs => obtain ⟨us, h, r⟩ := h; exact ⟨us, k _ h, r.mono st⟩
  | ins C xs => obtain ⟨dx, us, h, r⟩ := h; exact ⟨dx, us, k _ h, r.mono st⟩
  | raw o => exact k _ h
theorem RelS.put {a : Addr} {o : LO} {u : HO} (r : RelS K s H) (h : s a ≠ none ∨ H a = none) (n : ObjR K (put s a o) (upd H a u) a o) : RelS K (put s a o) (upd H a u) := fun b v hb => by
  by_cases e : b = a
  · subst e
    rw [put_same] at hb
    cases hb
    exact n
  · rw [put_ne e] at hb
    exact (r b v hb).mono (.put h) fun w q => by rw [upd_ne e]; exact q
/-- forgetting what the store holds at an address -/
theorem Step.del (r : RelS K s H) (a : Addr) : Step s H (del s a) H := fun b v hb nb => ⟨⟨v, hb, .refl v⟩, by unfold L3.del; split <;> first | rfl | exact nb⟩
theorem RelS.del (r : RelS K s H) (a : Addr) : RelS K (del s a) H := fun b v hb => by
  unfold L3.del at hb
  split at hb
  · cases hb
  · exact (r b v hb).mono (.del r a) fun _ q => q
/-- a new frozen object -/
theorem Step.new {a : Addr} {u : HO} (r : RelS K s H) (h : H a = none) : Step s H s (upd H a u) := fun b v hb nb => by
  rw [upd_ne (ne_of_none hb h)]
  exact ⟨⟨v, hb, .refl v⟩, nb⟩
theorem RelS.new {a : Addr} {u : HO} (r : RelS K s H) (h : H a = none) : RelS K s (upd H a u) := fun b v hb =>
  (r b v hb).mono (.new r h) fun w q => by rw [upd_ne (ne_of_none q h)]; exact q
theorem RVs.tupAt {a : Addr} {xs : List LV} {us : List V} (r : RelS K s H) (h : H a = none) (q : RVs K s H xs us) : RV K s (upd H a (.tup us)) (.tup xs) (.ref a) := by
  simp only [RV]
  exact ⟨a, us, rfl, r.free h, upd_same, q.mono (.new r h)⟩
theorem RVs.lstAt {a : Addr} {xs : List LV} {us : List V} (r : RelS K s H) (h : H a = none) (q : RVs K s H xs us) : RV K s (upd H a (.lst us)) (.lst xs) (.ref a) := by
  simp only [RV]
  exact ⟨a, us, rfl, r.free h, upd_same, q.mono (.new r h)⟩
end

section
variable {X : Cx} {e a b c o : Expr} {es : List Expr} {pos : Pos} {ta tb tc te : LTE} {tas : LTA} {tt : LTT} {t u : LTS} {st : Stmt} {sts sts2 : List Stmt}
/-- an expression that makes a new list; what it holds -/
abbrev LTL := LTA
def upL (K : PySem.W.Frag) (s0 : LS) (H0 : Hp) (E : LXS) (t : LTL) : TE := fun σ H Q => ∃ σl s Q0 E1, RSt K s H σl σ ∧ RelS K s H ∧ Step s0 H0 s H ∧ (∀ C s', E1 C s' → E C σl s') ∧ t σl s Q0 E1 ∧
  ∀ xs s' us H', Q0 xs s' → Step s H s' H' → RelS K s' H' → RVs K s' H' xs us → ∀ p, H' p = none → Q (.ref p) (upd H' p (.lst us))
def LL (X : Cx) (e : Expr) (t : LTL) : Prop := ∀ s0 H0 E, Takes X (WL X.K s0 H0 E) → PE X e (upL X.K s0 H0 E t)
def lFz (t : LTL) : LTE := fun σ s Q E => t σ s (fun xs s1 => Q (.lst xs) s1) E
def lNew (t : LTL) : LTE := fun σ s Q E => t σ s (fun xs s1 => ∀ p, s1 p = none → Q (.ref p) (put s1 p (.lst xs))) E
theorem fz_up {K : PySem.W.Frag} {s0 : LS} {H0 : Hp} {E : LXS} {tl : LTL} {σ : St} {H : Hp} {Q : VK} (h : up K s0 H0 E (lFz tl) σ H Q) : upL K s0 H0 E tl σ H Q := by
  obtain ⟨σl, s, Q0, E1, hσ, hs, st, hE, h, k⟩ := h
  exact ⟨σl, s, _, E1, hσ, hs, st, hE, h, fun xs s1 us H1 h st1 hs1 r p np => k _ _ _ _ h (st1.trans (.new hs1 np)) (hs1.new np) (r.lstAt hs1 np)⟩
theorem new_up {K : PySem.W.Frag} {s0 : LS} {H0 : Hp} {E : LXS} {tl : LTL} {σ : St} {H : Hp} {Q : VK} (h : up K s0 H0 E (lNew tl) σ H Q) : upL K s0 H0 E tl σ H Q := by
  obtain ⟨σl, s, Q0, E1, hσ, hs, st, hE, h, k⟩ := h
  exact ⟨σl, s, _, E1, hσ, hs, st, hE, h, fun xs s1 us H1 h st1 hs1 r p np => k _ _ _ _ (h p (hs1.free np)) (st1.trans (.put (.inr np))) (hs1.put (.inr np) ⟨us, upd_same, r.mono (.put (.inr np))⟩) .ref⟩
theorem le_fz {tl : LTL} (h : LL X e tl) : LE X e (lFz tl) := fun s0 H0 E tk => (h s0 H0 E tk).imp fun σ H Q q => fz_up q
theorem le_new {tl : LTL} (h : LL X e tl) : LE X e (lNew tl) := fun s0 H0 E tk => (h s0 H0 E tk).imp fun σ H Q q => new_up q
def lDisp (t : LTA) : LTL := fun σ s Q E => t σ s (fun xs s1 => xs.length ≤ 16777216 ∧ Q xs s1) E
theorem ll_disp (h : LA X es tas) : LL X (.List es pos) (lDisp tas) := fun s0 H0 E tk => (pe_lst (h s0 H0 E tk)).imp fun σ H Q ⟨σl, s, Q0, E1, hσ, hs, st, hE, h, k⟩ =>
  ⟨σl, s, _, E1, hσ, hs, st, hE, h, fun xs s1 us H1 h st1 hs1 r => ⟨by rw [r.length, sizeLine_eq]; exact h.1, fun p np => k _ _ _ _ h.2 st1 hs1 r p np⟩⟩
def lTup (t : LTA) : LTE := fun σ s Q E => t σ s (fun xs s1 => xs.length ≤ 16777216 ∧ Q (.tup xs) s1) E
theorem le_tup {k : Nat} (h : LA X es tas) : LE X (.Tuple es k pos) (lTup tas) := fun s0 H0 E tk => (pe_tup (h s0 H0 E tk)).imp fun σ H Q ⟨σl, s, Q0, E1, hσ, hs, st, hE, h, k⟩ =>
  ⟨σl, s, _, E1, hσ, hs, st, hE, h, fun xs s1 us H1 h st1 hs1 r => ⟨by rw [r.length, sizeLine_eq]; exact h.1, fun p np => k _ _ _ _ h.2 (st1.trans (.new hs1 np)) (hs1.new np) (r.tupAt hs1 np)⟩⟩

/-- the field f of the instance x of the class C -/
def fldAt (C : Addr) (f : Str) (x : LV) (s : LS) (k : LV → Prop) : Prop := match x with
  | .ref a => (match s a with
    | some (.ins D fs) => D = C ∧ (match fs.lookup f with
      | some v => k v
      | none => False)
    | _ => False)
  | .ins D fs => D = C ∧ (match fs.lookup f with
    | some v => k v
    | none => False)
  | _ => False
theorem fldAt_ok {K : PySem.W.Frag} {s : LS} {H : Hp} {C : Addr} {f : Str} {x : LV} {v : V} {k : LV → Prop} (r : RelS K s H) (rx : RV K s H x v) (h : fldAt C f x s k) :
    ∃ a dx us lv w, v = .ref a ∧ H a = some (.ins C dx us) ∧ us.lookup f = some w ∧ RV K s H lv w ∧ k lv := by
  cases x with
  | ref a =>
    simp only [fldAt] at h
    split at h
    · next D fs e =>
      obtain ⟨rfl, h⟩ := h
      split at h
      · next lv el =>
        obtain ⟨dx, us, hh, rf⟩ := r.ins e
        obtain ⟨w, e1, e2⟩ := rf.look el
        exact ⟨a, dx, us, lv, w, rx.ref', hh, e1, e2, h⟩
      · exact h.elim
    · exact h.elim
  | ins D fs =>
    simp only [fldAt] at h
    obtain ⟨rfl, h⟩ := h
    split at h
    · next lv el =>
      simp only [RV] at rx
      obtain ⟨a, dx, us, rfl, _, hh, rf⟩ := rx
      obtain ⟨w, e1, e2⟩ := rf.look el
      exact ⟨a, dx, us, lv, w, rfl, hh, e1, e2, h⟩
    · exact h.elim
  | _ => exact h.elim
def lFld (C : Addr) (f : Str) (ta : LTE) : LTE := fun σ s Q E => ta σ s (fun x s1 => fldAt C f x s1 fun v => Q v s1) E
theorem le_fld {C : Addr} {f : Str} (hc : Cls X.K C) (hn : NoAttr X.K C f) (ha : LE X a ta) (hb : attributeBase a f X.env (eval a X.env) = eval a X.env := by rfl) : LE X (.Attribute a f pos) (lFld C f ta) := fun s0 H0 E tk =>
  (pe_fld (ha s0 H0 E tk) hb).imp fun σ H Q ⟨σl, s, Q0, E1, hσ, hs, st, hE, h, k⟩ => ⟨σl, s, _, E1, hσ, hs, st, hE, h, fun lx s1 x H1 h st1 hs1 rx => by
    obtain ⟨p, dx, us, lv, w, rfl, hh, e1, e2, h⟩ := fldAt_ok hs1 rx h
    exact ⟨p, C, dx, us, w, rfl, hh, hc, hn, e1, k _ _ _ _ h st1 hs1 e2⟩⟩
/-- o.f = e -/
def lSetF (C : Addr) (f : Str) (ta tv : LTE) : LTS := fun D σ s => tv σ s (fun y s1 => ta σ s1 (fun x s2 => match x with
  | .ref a => (match s2 a with
    | some (.ins B fs) => B = C ∧ fs.length < 1000 ∧ D.nx σ (put s2 a (.ins C (putL f y fs)))
    | _ => False)
  | _ => False) (fun C s3 => D.ex C σ s3)) (fun C s3 => D.ex C σ s3)
theorem lp_fld {C : Addr} {f : Str} {pos' : Pos} (hc : Cls X.K C) (hn : NoAttr X.K C f) (ha : LE X a ta) (hv : LE X e te) (hs : swapsWith e (some (.Attribute a f pos')) pos.line X.env = pure false := by rfl) :
    LP X (.Assign [.Attribute a f pos'] e pos) (lSetF C f ta te) := fun s0 H0 E tk hp => (ps_fld (ha s0 H0 E tk) (hv s0 H0 E tk) hs).imp fun D σ H ⟨σl, s, Dl, hσ, hs, st, h, d⟩ =>
  ⟨σl, s, _, _, hσ, hs, st, fun C s' q => d.ex C σl s' q, h, fun ly s1 y H1 h st1 hs1 ry => ⟨σl, s1, _, _, hσ.mono st1, hs1, st.trans st1, fun C s' q => d.ex C σl s' q, h, fun lx s2 x H2 h st2 hs2 rx => by
    cases lx with
    | ref p =>
      have h : (match s2 p with
        | some (.ins B fs) => B = C ∧ fs.length < 1000 ∧ Dl.nx σl (put s2 p (.ins C (putL f ly fs)))
        | _ => False) := h
      split at h
      · next B fs e =>
        obtain ⟨rfl, hl, h⟩ := h
        obtain ⟨dx, us, hh, rf⟩ := hs2.ins e
        have nn : s2 p ≠ none ∨ H2 p = none := .inl (by rw [e]; simp)
        have st3 : Step s2 H2 (put s2 p (.ins B (putL f ly fs))) (upd H2 p (.ins B dx (putF f y us))) := .put nn
        refine ⟨p, B, dx, us, rx.ref', hh, hc, hn, by rw [rf.length]; exact hl, ?_⟩
        refine d.nx _ _ _ _ h ((st1.trans st2).trans st3) (hs2.put nn ⟨dx, _, upd_same, (rf.put f (ry.mono st2)).mono st3⟩) (hσ.mono ((st1.trans st2).trans st3))
      · exact h.elim
    | _ => exact False.elim h⟩⟩

abbrev LSp := List LV → LS → LVK → LX → Prop
def dn (K : PySem.W.Frag) (sp : LSp) : Sp := fun vs H Q E => ∃ lvs s Q0 E0, RVs K s H lvs vs ∧ RelS K s H ∧ sp lvs s Q0 E0 ∧ (∀ lv s' v H', Q0 lv s' → Step s H s' H' → RelS K s' H' → RV K s' H' lv v → Q v H') ∧
  ∀ C s' H', E0 C s' → Step s H s' H' → RelS K s' H' → E (.ref C) none H'
abbrev LFn (P : Program) (w : World) (K : PySem.W.Frag) (mg : Str → Option Value) (base : Heap) (k : Nat) (f : Addr) (fd : FuncData) (ps : List Str) (sp : LSp) : Prop := FnOk P w K mg base (L2.CX P w) k f fd ps (dn K sp)
theorem LFn.imp {P : Program} {w : World} {K : PySem.W.Frag} {mg : Str → Option Value} {base : Heap} {k : Nat} {f : Addr} {fd : FuncData} {ps : List Str} {sp sp' : LSp} (F : LFn P w K mg base k f fd ps sp)
    (h : ∀ vs s Q E, sp' vs s Q E → sp vs s Q E) : LFn P w K mg base k f fd ps sp' := FnOk.imp F fun vs H Q E ⟨lvs, s, Q0, E0, a, b, c, d, e⟩ => ⟨lvs, s, Q0, E0, a, b, h _ _ _ _ c, d, e⟩
/-- what a callee lets out, at our slots -/
theorem dn_call {s0 : LS} {H0 : Hp} {E : LXS} {σ : St} {H : Hp} {Q : VK} {sp : LSp} {K : PySem.W.Frag} {σl : LSt} {s : LS} {lvs : List LV} {vs : List V} {Q0 : LVK} {E1 : LX} (hσ : RSt K s H σl σ) (hs : RelS K s H) (st : Step s0 H0 s H)
    (hE : ∀ C s', E1 C s' → E C σl s') (r : RVs K s H lvs vs) (h : sp lvs s Q0 E1) (k : ∀ lv s' v H', Q0 lv s' → Step s H s' H' → RelS K s' H' → RV K s' H' lv v → Q v H') : dn K sp vs H Q (WE (WL K s0 H0 E) σ) :=
  ⟨lvs, s, Q0, E1, r, hs, h, k, fun C s' H' q st1 hs1 => ⟨C, σl, s', rfl, rfl, hσ.mono st1, hs1, st.trans st1, hE _ _ q⟩⟩
theorem LE.go {s0 : LS} {H0 : Hp} {E : LXS} {σ : St} {H : Hp} {σl : LSt} {s : LS} {Q0 : LVK} {E1 : LX} {pins : List (Addr × Obj)} {si : Shared} (ha : LE X o ta) (tk : Takes X (WL X.K s0 H0 E)) (I : Inv X pins σ H si) (hσ : RSt X.K s H σl σ) (hs : RelS X.K s H)
    (st : Step s0 H0 s H) (hE : ∀ C s', E1 C s' → E C σl s') (h : ta σl s Q0 E1) :
    wpAny (model X.prog X.w) X.A (eval o X.env) (fun u si1 => ∃ x H1, Inv X pins σ H1 si1 ∧ RelV x u ∧ ∃ lx s1, Step s H s1 H1 ∧ RelS X.K s1 H1 ∧ RV X.K s1 H1 lx x ∧ Q0 lx s1) X.xe si :=
  (ha s0 H0 E tk).run pins si σ H (fun x H1 => ∃ lx s1, Step s H s1 H1 ∧ RelS X.K s1 H1 ∧ RV X.K s1 H1 lx x ∧ Q0 lx s1) I ⟨σl, s, Q0, E1, hσ, hs, st, hE, h, fun lx s1 x H1 h st1 hs1 rx => ⟨lx, s1, st1, hs1, rx, h⟩⟩
theorem LA.go {s0 : LS} {H0 : Hp} {E : LXS} {σ : St} {H : Hp} {σl : LSt} {s : LS} {Q0 : List LV → LS → Prop} {E1 : LX} {pins : List (Addr × Obj)} {si : Shared} (ha : LA X es tas) (tk : Takes X (WL X.K s0 H0 E)) (pos : Pos) (I : Inv X pins σ H si) (hσ : RSt X.K s H σl σ) (hs : RelS X.K s H)
    (st : Step s0 H0 s H) (hE : ∀ C s', E1 C s' → E C σl s') (h : tas σl s Q0 E1) :
    wpAny (model X.prog X.w) X.A (spliced (backTo pos (starEach es X.env))) (fun us si1 => ∃ vs H1, Inv X pins σ H1 si1 ∧ Vals vs us ∧ ∃ lvs s1, Step s H s1 H1 ∧ RelS X.K s1 H1 ∧ RVs X.K s1 H1 lvs vs ∧ Q0 lvs s1) X.xe si :=
  (ha s0 H0 E tk).run pos pins si σ H (fun vs H1 => ∃ lvs s1, Step s H s1 H1 ∧ RelS X.K s1 H1 ∧ RVs X.K s1 H1 lvs vs ∧ Q0 lvs s1) I ⟨σl, s, Q0, E1, hσ, hs, st, hE, h, fun lx s1 x H1 h st1 hs1 rx => ⟨lx, s1, st1, hs1, rx, h⟩⟩
def lCall (sp : LSp) (t : LTA) : LTE := fun σ s Q E => t σ s (fun vs s1 => sp vs s1 Q E) E
variable {k : Nat} {f C : Addr} {fd : FuncData} {ps : List Str} {sp : LSp} {x m : Str} {p apos : Pos}
theorem le_call (F : LFn X.prog X.w X.K X.mg X.base k f fd ps sp) (hr : Room k X.A) (hg : Gl X x) (hm : X.mg x = some (.ref f)) (hk : PySem.W.keepIn X.K (.ref f) = true) (hb : Binds X.K fd ps []) (ha : LA X (e :: es) tas)
    (hdb : (x == ("__debug__" : Str)) = false := by decide) (he : starEach (e :: es) X.env = (false, eval e X.env) :: starEach es X.env := by rfl) (hpl : (backTo pos (starEach es X.env)).any (·.1) = false := by rfl) :
    LE X (.Call (.Name x p) (e :: es) [] pos) (lCall sp tas) := fun s0 H0 E tk => (pe_callS F hr hg hm hk hb (fun σ => passAt tk σ) (ha s0 H0 E tk) hdb he hpl).imp fun σ H Q ⟨σl, s, Q0, E1, hσ, hs, st, hE, h, kk⟩ =>
  ⟨σl, s, _, E1, hσ, hs, st, hE, h, fun lvs s1 vs H1 h st1 hs1 r => dn_call (hσ.mono st1) hs1 (st.trans st1) hE r h fun lv s2 v H2 q st2 => kk lv s2 v H2 q (st1.trans st2)⟩
theorem le_call0 (F : LFn X.prog X.w X.K X.mg X.base k f fd ps sp) (hr : Room k X.A) (hg : Gl X x) (hm : X.mg x = some (.ref f)) (hk : PySem.W.keepIn X.K (.ref f) = true) (hb : Binds X.K fd ps [])
    (hdb : (x == ("__debug__" : Str)) = false := by decide) : LE X (.Call (.Name x p) [] [] pos) (lCall sp lNil) := fun s0 H0 E tk => ⟨fun pins s1 σ H Q I ⟨σl, s, Q0, E1, hσ, hs, st, hE, h, kk⟩ =>
  wpAny_Call_Name_kw (ld_glob I hg hm (PySem.W.callWith_K0 I.kIn hk (run_fnS (E := fun _ => WE (WL X.K s0 H0 E) σ) (us := []) F hr hb (passAt tk σ) I .nil (dn_call hσ hs st hE .nil h kk))) hdb)⟩
def methAt (C : Addr) (m : Str) (x : LV) (s : LS) : Prop := match x with
  | .ref a => (match s a with
    | some (.ins B fs) => B = C ∧ fs.lookup m = none
    | _ => False)
  | .ins B fs => B = C ∧ fs.lookup m = none
  | _ => False
def lMeth (C : Addr) (m : Str) (sp : LSp) (ta : LTE) (t : LTA) : LTE := fun σ s Q E => ta σ s (fun x s1 => methAt C m x s1 ∧ t σ s1 (fun vs s2 => sp (x :: vs) s2 Q E) E) E
theorem meth_ok {K : PySem.W.Frag} {s : LS} {H : Hp} {x : LV} {v : V} (r : RelS K s H) (rx : RV K s H x v) (h : methAt C m x s) : ∃ a dx us, v = .ref a ∧ H a = some (.ins C dx us) ∧ us.lookup m = none := by
  cases x with
  | ref a =>
    simp only [methAt] at h
    split at h
    · next B fs e =>
      obtain ⟨rfl, h⟩ := h
      obtain ⟨dx, us, hh, rf⟩ := r.ins e
      exact ⟨a, dx, us, rx.ref', hh, rf.look0 h⟩
    · exact h.elim
  | ins B fs =>
    simp only [methAt] at h
    obtain ⟨rfl, h⟩ := h
    simp only [RV] at rx
    obtain ⟨a, dx, us, rfl, _, hh, rf⟩ := rx
    exact ⟨a, dx, us, rfl, hh, rf.look0 h⟩
  | _ => exact h.elim
theorem le_meth {pl : Sem Bool} (ha : LE X o ta) (c : Cls X.K C) (hm : Meth X.K C m f) (F : LFn X.prog X.w X.K X.mg X.base k f fd ps sp) (hr : Room k X.A) (hb : Binds X.K fd ps []) (hes : LA X (e :: es) tas)
    (hst : starEach (e :: es) X.env = (false, eval e X.env) :: starEach es X.env := by rfl) (hpl : (backTo pos (starEach es X.env)).any (·.1) = false := by rfl)
    (ht : eval (.Call (.Attribute o m apos) (e :: es) [] pos) X.env = (do
      let ov ← eval o X.env
      standAt apos.atName
      let (f, first) ← holding [ov] (getMethod ov m pl)
      callWith pos f first (backTo pos (starEach (e :: es) X.env)) (backToKw pos (keywordEach [] X.env))) := by rfl) : LE X (.Call (.Attribute o m apos) (e :: es) [] pos) (lMeth C m sp ta tas) := fun s0 H0 E tk =>
  ⟨fun pins si σ H Q I ⟨σl, s, Q0, E1, hσ, hs, st, hE, h, kk⟩ => by
    refine PySem.W.methodCall_KW (pl := pl) (thn (ha.go tk I hσ hs st hE h) fun u si1 hx => ?_) ht
    obtain ⟨x, H1, I1, rv, lx, s1, st1, hs1, rx, h⟩ := hx
    obtain ⟨a, dx, us, rfl, hh, l⟩ := meth_ok hs1 rx h.1
    obtain rfl : u = Value.ref a := rv
    refine getmeth_ok I1 hh c hm l ?_
    refine PySem.W.callWith_K (first := [.ref a]) (h₀ := X.base) I.ok.mod.kin hm.kp (thn (hes.go tk pos I1 (hσ.mono st1) hs1 (st.trans st1) hE h.2) fun us si2 hx2 => ?_) hst hpl
    obtain ⟨vs, H2, I2, rvs, lvs, s2, st2, hs2, r, h⟩ := hx2
    refine ⟨I2.kIn, ?_⟩
    have st12 := st1.trans st2
    exact run_fnS (E := fun _ => WE (WL X.K s0 H0 E) σ) (us := .ref a :: us) (vs := .ref a :: vs) F hr hb (passAt tk σ) I2 (.cons rfl rvs) (dn_call (hσ.mono st12) hs2 (st.trans st12) hE (.cons (rx.mono st2) r) h fun lv s3 v H3 q st3 => kk lv s3 v H3 q (st12.trans st3))⟩
theorem le_meth0 {pl : Sem Bool} (ha : LE X o ta) (c : Cls X.K C) (hm : Meth X.K C m f) (F : LFn X.prog X.w X.K X.mg X.base k f fd ps sp) (hr : Room k X.A) (hb : Binds X.K fd ps [])
    (ht : eval (.Call (.Attribute o m apos) [] [] pos) X.env = (do
      let ov ← eval o X.env
      standAt apos.atName
      let (f, first) ← holding [ov] (getMethod ov m pl)
      callWith pos f first (backTo pos (starEach [] X.env)) (backToKw pos (keywordEach [] X.env))) := by rfl) : LE X (.Call (.Attribute o m apos) [] [] pos) (lMeth C m sp ta lNil) := fun s0 H0 E tk =>
  ⟨fun pins si σ H Q I ⟨σl, s, Q0, E1, hσ, hs, st, hE, h, kk⟩ => by
    refine PySem.W.methodCall_KW (pl := pl) (thn (ha.go tk I hσ hs st hE h) fun u si1 hx => ?_) ht
    obtain ⟨x, H1, I1, rv, lx, s1, st1, hs1, rx, h⟩ := hx
    obtain ⟨a, dx, us, rfl, hh, l⟩ := meth_ok hs1 rx h.1
    obtain rfl : u = Value.ref a := rv
    refine getmeth_ok I1 hh c hm l ?_
    exact PySem.W.callWith_K0 (first := [.ref a]) I1.kIn hm.kp (run_fnS (E := fun _ => WE (WL X.K s0 H0 E) σ) (us := [.ref a]) (vs := [.ref a]) F hr hb (passAt tk σ) I1 (.cons rfl .nil)
      (dn_call (hσ.mono st1) hs1 (st.trans st1) hE (.cons rx .nil) h.2 fun lv s3 v H3 q st3 => kk lv s3 v H3 q (st1.trans st3)))⟩
/-- C(..): a new instance in the store, then its __init__ -/
def lMake (C : Addr) (sp : LSp) (t : LTA) : LTE := fun σ s Q E => t σ s (fun vs s1 => ∀ x, s1 x = none → sp (.ref x :: vs) (put s1 x (.ins C [])) (fun v s2 => v = .non ∧ Q (.ref x) s2) E) E
/-- .. frozen behind it -/
def lMakeF (C : Addr) (sp : LSp) (t : LTA) : LTE := fun σ s Q E => t σ s (fun vs s1 => ∀ x, s1 x = none → sp (.ref x :: vs) (put s1 x (.ins C [])) (fun v s2 => v = .non ∧ ∃ fs, s2 x = some (.ins C fs) ∧ Q (.ins C fs) (del s2 x)) E) E
theorem run_makeS {pins : List (Addr × Obj)} {σ : St} {H : Hp} {s : Shared} {Q : VK} {us : List Value} {vs : List V} {spr : Sp} {E : XK} (M : Mk X.K C f) (F : FnOk X.prog X.w X.K X.mg X.base (L2.CX X.prog X.w) k f fd ps spr) (hr : Room (k + 1) X.A) (hb : Binds X.K fd ps [])
    (hx : PassesAt (L2.CX X.prog X.w) X σ E) (I : Inv X pins σ H s) (r : Vals vs us) (h : ∀ x dx, H x = none → H dx = none → dx ≠ x → spr (.ref x :: vs) (upd (upd H dx (.own x)) x (.ins C dx [])) (fun v H2 => v = .non ∧ Q (.ref x) H2) E) :
    wpAny (model X.prog X.w) X.A (call (.ref C) us) (EP X pins σ Q) X.xe s := by
  have q0 := h (s.heap.objs.size + 1) s.heap.objs.size (I.hok.fresh (Nat.le_succ _)) (I.hok.fresh (Nat.le_refl _)) (Nat.ne_of_lt (Nat.lt_succ_self _))
  have J := Inv.made (C := C) I
  have r1 : Vals (V.ref (s.heap.objs.size + 1) :: vs) (Value.ref (s.heap.objs.size + 1) :: us) := .cons rfl r
  have hl : (Value.ref (s.heap.objs.size + 1) :: us).length = ps.length := r1.length.symm.trans (F.len _ _ _ _ q0)
  have bb := hb { s with heap := _ } (Value.ref (s.heap.objs.size + 1) :: us) J.kIn (by rw [List.append_nil]; exact hl)
  rw [List.append_nil] at bb
  refine wpAny_call (make_map (f := f) I.kIn M.makes M.init (beq_iff_eq.mp M.fn) (codeAny_mono (F.run _ X.stack _ _ ⟨Value.ref (s.heap.objs.size + 1) :: us, []⟩ _ _ _ E (hr.make C us []) (J.env0.make C us []) bb r1 q0) fun r s' hq => ?_))
  cases r with
  | error e => exact hx pins _ _ e s' J hq
  | ok fl =>
    cases fl with
    | ret u =>
      obtain ⟨v, H', I3, rv, ev, q3⟩ := J.after hq
      subst ev
      exact ⟨rv, ⟨V.ref (s.heap.objs.size + 1), H', I3, rfl, q3⟩⟩
    | next => exact hq.elim
    | brk => exact hq.elim
    | cont => exact hq.elim
theorem made_step {K : PySem.W.Frag} {s : LS} {H : Hp} {x dx : Addr} (hs : RelS K s H) (nx : H x = none) (nd : H dx = none) (ne : dx ≠ x) : Step s H (put s x (.ins C [])) (upd (upd H dx (.own x)) x (.ins C dx [])) ∧ RelS K (put s x (.ins C [])) (upd (upd H dx (.own x)) x (.ins C dx [])) := by
  have s1 := hs.new (u := .own x) nd
  have n1 : upd H dx (.own x) x = none := by rw [upd_ne (Ne.symm ne)]; exact nx
  exact ⟨(Step.new hs nd).trans (.put (.inr n1)), s1.put (.inr n1) ⟨dx, [], upd_same, by simp only [RVf]⟩⟩
theorem le_make (M : Mk X.K C f) (F : LFn X.prog X.w X.K X.mg X.base k f fd ps sp) (hr : Room (k + 1) X.A) (hg : Gl X x) (hm : X.mg x = some (.ref C)) (hb : Binds X.K fd ps []) (ha : LA X (e :: es) tas)
    (hdb : (x == ("__debug__" : Str)) = false := by decide) (he : starEach (e :: es) X.env = (false, eval e X.env) :: starEach es X.env := by rfl) (hpl : (backTo pos (starEach es X.env)).any (·.1) = false := by rfl) :
    LE X (.Call (.Name x p) (e :: es) [] pos) (lMake C sp tas) := fun s0 H0 E tk => ⟨fun pins si σ H Q I ⟨σl, s, Q0, E1, hσ, hs, st, hE, h, kk⟩ => by
  refine wpAny_Call_Name_kw (ld_glob I hg hm ?_ hdb)
  refine PySem.W.callWith_K (h₀ := X.base) I.ok.mod.kin M.kp (thn (ha.go tk pos I hσ hs st hE h) fun us si1 hx => ?_) he hpl
  obtain ⟨vs, H1, I1, rvs, lvs, s1, st1, hs1, r, h⟩ := hx
  refine ⟨I1.kIn, run_makeS M F hr hb (passAt tk σ) I1 rvs fun y dx ny nd ne => ?_⟩
  obtain ⟨stm, hsm⟩ := made_step (C := C) hs1 ny nd ne
  have st2 := st1.trans stm
  exact dn_call (hσ.mono st2) hsm (st.trans st2) hE (.cons .ref (r.mono stm)) (h y (hs1.free ny)) fun lv s3 v H3 q st3 hs3 rv => ⟨by rw [q.1] at rv; exact rv.non', kk _ s3 _ H3 q.2 (st2.trans st3) hs3 .ref⟩⟩
theorem le_make0 (M : Mk X.K C f) (F : LFn X.prog X.w X.K X.mg X.base k f fd ps sp) (hr : Room (k + 1) X.A) (hg : Gl X x) (hm : X.mg x = some (.ref C)) (hb : Binds X.K fd ps [])
    (hdb : (x == ("__debug__" : Str)) = false := by decide) : LE X (.Call (.Name x p) [] [] pos) (lMake C sp lNil) := fun s0 H0 E tk => ⟨fun pins si σ H Q I ⟨σl, s, Q0, E1, hσ, hs, st, hE, h, kk⟩ => by
  refine wpAny_Call_Name_kw (ld_glob I hg hm ?_ hdb)
  refine PySem.W.callWith_K0 I.kIn M.kp (run_makeS (us := []) M F hr hb (passAt tk σ) I .nil fun y dx ny nd ne => ?_)
  obtain ⟨stm, hsm⟩ := made_step (C := C) hs ny nd ne
  exact dn_call (hσ.mono stm) hsm (st.trans stm) hE (.cons .ref .nil) (h y (hs.free ny)) fun lv s3 v H3 q st3 hs3 rv => ⟨by rw [q.1] at rv; exact rv.non', kk _ s3 _ H3 q.2 (stm.trans st3) hs3 .ref⟩⟩
/-- a value frozen: what it is to the store s1, it is, by value, to the store s2, that holds less -/
def Frz (x : LV) (s1 : LS) (y : LV) (s2 : LS) : Prop := ∀ K H v, RelS K s1 H → RV K s1 H x v → RV K s2 H y v ∧ RelS K s2 H ∧ Step s1 H s2 H
def lFrz (t : LTE) : LTE := fun σ s Q E => t σ s (fun x s1 => ∃ y s2, Frz x s1 y s2 ∧ Q y s2) E
theorem le_frz (h : LE X e te) : LE X e (lFrz te) := fun s0 H0 E tk => (h s0 H0 E tk).imp fun σ H Q ⟨σl, s, Q0, E1, hσ, hs, st, hE, h, k⟩ => ⟨σl, s, _, E1, hσ, hs, st, hE, h, fun lx s1 x H1 ⟨y, s2, fz, h⟩ st1 hs1 rx => by
  obtain ⟨a, b, c⟩ := fz _ _ _ hs1 rx
  exact k _ _ _ _ h (st1.trans c) b a⟩
theorem Frz.refl (x : LV) (s : LS) : Frz x s x s := fun _ H _ hs r => ⟨r, hs, .refl s H⟩
/-- less is held -/
def Sub (s2 s1 : LS) : Prop := ∀ a, s2 a = none ∨ s2 a = s1 a
theorem Sub.step {s1 s2 : LS} {H : Hp} (h : Sub s2 s1) : Step s1 H s2 H := fun a o e n => ⟨⟨o, e, .refl o⟩, by
  rcases h a with h | h
  · exact h
  · rw [h]; exact n⟩
theorem Sub.rel {K : PySem.W.Frag} {s1 s2 : LS} {H : Hp} (h : Sub s2 s1) (r : RelS K s1 H) : RelS K s2 H := fun a o e => by
  rcases h a with q | q
  · rw [q] at e; cases e
  · rw [q] at e
    exact (r a o e).mono h.step fun _ z => z
theorem Frz.sub {x : LV} {s1 s2 : LS} (h : Sub s2 s1) : Frz x s1 x s2 := fun _ H _ hs r => ⟨r.mono h.step, h.rel hs, h.step⟩
theorem Frz.lst {a : Addr} {xs : List LV} {s1 s2 : LS} (e : s1 a = some (.lst xs)) (n : s2 a = none) (h : Sub s2 s1) : Frz (.ref a) s1 (.lst xs) s2 := fun K H v hs r => by
  obtain ⟨us, hh, q⟩ := hs.lst e
  refine ⟨?_, h.rel hs, h.step⟩
  simp only [RV]
  exact ⟨a, us, r.ref', n, hh, q.mono h.step⟩
theorem Frz.ins {a C : Addr} {fs : List (Str × LV)} {s1 s2 : LS} (e : s1 a = some (.ins C fs)) (n : s2 a = none) (h : Sub s2 s1) : Frz (.ref a) s1 (.ins C fs) s2 := fun K H v hs r => by
  obtain ⟨dx, us, hh, q⟩ := hs.ins e
  refine ⟨?_, h.rel hs, h.step⟩
  simp only [RV]
  exact ⟨a, dx, us, r.ref', n, hh, q.mono h.step⟩
theorem Frz.dT {a : Addr} {kvs : List (List Key × LV)} {s1 s2 : LS} (e : s1 a = some (.dT kvs)) (n : s2 a = none) (h : Sub s2 s1) : Frz (.ref a) s1 (.dT kvs) s2 := fun K H v hs r => by
  obtain ⟨us, hh, q⟩ := hs a _ e
  refine ⟨?_, h.rel hs, h.step⟩
  simp only [RV]
  exact ⟨a, us, _, r.ref', n, hh, .inl rfl, q.mono h.step⟩
end
end L3

namespace L3
open PySem PySem.Spec L2
/-- some value: then k of it -/
def opt {α : Type} (o : Option α) (k : α → Prop) : Prop := match o with
  | some v => k v
  | none => False
theorem opt_ok {α : Type} {o : Option α} {k : α → Prop} (h : opt o k) : ∃ v, o = some v ∧ k v := by
  cases o with
  | none => exact h.elim
  | some v => exact ⟨v, rfl, h⟩
section
variable {X : Cx} {K : PySem.W.Frag} {s : LS} {H : Hp}
def rl2 (C : Int → Int → Prop) (g : Int → Int → LV) : LR2 := fun x y s Q => match x, y with
  | .int i, .int j => C i j ∧ Q (g i j) s
  | _, _ => False
def rl2' (g : Int → Int → LV) : LR2 := fun x y s Q => match x, y with
  | .int i, .int j => Q (g i j) s
  | _, _ => False
theorem up2_I {C : Int → Int → Prop} {g : Int → Int → V} {gl : Int → Int → LV} (hg : ∀ K s H i j, RV K s H (gl i j) (g i j)) : Up2 K (rI C g) (rl2 C gl) := fun x y s H lx ly Q0 Q hs rx ry h k => by
  cases lx <;> try exact False.elim h
  cases ly <;> try exact False.elim h
  exact ⟨_, _, rx.int', ry.int', h.1, k _ _ _ _ h.2 (.refl _ _) hs (hg _ _ _ _ _)⟩
theorem up2_I0 {g : Int → Int → V} {gl : Int → Int → LV} (hg : ∀ K s H i j, RV K s H (gl i j) (g i j)) : Up2 K (rI0 g) (rl2' gl) := fun x y s H lx ly Q0 Q hs rx ry h k => by
  cases lx <;> try exact False.elim h
  cases ly <;> try exact False.elim h
  exact ⟨_, _, rx.int', ry.int', k _ _ _ _ h (.refl _ _) hs (hg _ _ _ _ _)⟩
variable {a b e : Expr} {pos : Pos} {ta tb : LTE}
abbrev rSubI : LR2 := rl2' fun i j => .int (i - j)
abbrev rMulI : LR2 := rl2 CMul fun i j => .int (i * j)
abbrev rDivI : LR2 := rl2 CDiv fun i j => .int (i / j)
abbrev rModI : LR2 := rl2 (fun _ j => 0 < j) fun i j => .int (i % j)
abbrev rPowI : LR2 := rl2 CPow fun i j => .int (i ^ j.toNat)
abbrev rShrI : LR2 := rl2 (fun _ j => 0 ≤ j) fun i j => .int (i / 2 ^ j.toNat)
abbrev rAndI : LR2 := rl2' fun i j => .int (Builtin.bitAnd i j)
abbrev rXorI : LR2 := rl2' fun i j => .int (Builtin.bitXor i j)
theorem le_sub (ha : LE X a ta) (hb : LE X b tb) : LE X (.BinOp a .Sub b pos) (lOp rSubI ta tb) := le_op op_sub (up2_I0 fun _ _ _ _ _ => .int) ha hb
theorem le_mul (ha : LE X a ta) (hb : LE X b tb) : LE X (.BinOp a .Mult b pos) (lOp rMulI ta tb) := le_op op_mul (up2_I fun _ _ _ _ _ => .int) ha hb
theorem le_div (ha : LE X a ta) (hb : LE X b tb) : LE X (.BinOp a .FloorDiv b pos) (lOp rDivI ta tb) := le_op op_fdiv (up2_I fun _ _ _ _ _ => .int) ha hb
theorem le_mod (ha : LE X a ta) (hb : LE X b tb) : LE X (.BinOp a .Mod b pos) (lOp rModI ta tb) := le_op op_mod (up2_I fun _ _ _ _ _ => .int) ha hb
theorem le_pow (ha : LE X a ta) (hb : LE X b tb) : LE X (.BinOp a .Pow b pos) (lOp rPowI ta tb) := le_op op_pow (up2_I fun _ _ _ _ _ => .int) ha hb
theorem le_shr (ha : LE X a ta) (hb : LE X b tb) : LE X (.BinOp a .RShift b pos) (lOp rShrI ta tb) := le_op op_shr (up2_I fun _ _ _ _ _ => .int) ha hb
theorem le_band (ha : LE X a ta) (hb : LE X b tb) : LE X (.BinOp a .BitAnd b pos) (lOp rAndI ta tb) := le_op op_and (up2_I0 fun _ _ _ _ _ => .int) ha hb
theorem le_bxor (ha : LE X a ta) (hb : LE X b tb) : LE X (.BinOp a .BitXor b pos) (lOp rXorI ta tb) := le_op op_xor (up2_I0 fun _ _ _ _ _ => .int) ha hb
def rNegI : LR1 := fun x s Q => match x with
  | .int i => Q (.int (-i)) s
  | _ => False
theorem le_neg (ha : LE X a ta) : LE X (.UnaryOp .USub a pos) (lUn rNegI ta) := le_un un_neg (fun x s H lx Q0 Q hs rx h k => by
  cases lx <;> try exact False.elim h
  exact ⟨_, rx.int', k _ _ _ _ h (.refl _ _) hs .int⟩) ha
def rAddL : LR2 := fun x y s Q => match x, y with
  | .int i, .int j => Q (.int (i + j)) s
  | .str i, .str j => i.length + j.length ≤ 16777216 ∧ Q (.str (i ++ j)) s
  | _, _ => False
theorem OpR.or2 {f : Value → Value → Sem Value} {r r' : R2} (h : OpR X f r) (h' : OpR X f r') : OpR X f (fun x y H Q => r x y H Q ∨ r' x y H Q) := h.or h'
theorem le_add (ha : LE X a ta) (hb : LE X b tb) : LE X (.BinOp a .Add b pos) (lOp rAddL ta tb) := le_op (op_add.or op_add_str) (fun x y s H lx ly Q0 Q hs rx ry h k => by
  cases lx <;> try exact False.elim h
  · cases ly <;> try exact False.elim h
    exact .inl ⟨_, _, rx.int', ry.int', k _ _ _ _ h (.refl _ _) hs .int⟩
  · cases ly <;> try exact False.elim h
    exact .inr ⟨_, _, rx.str', ry.str', by rw [sizeLine_eq]; exact h.1, k _ _ _ _ h.2 (.refl _ _) hs .str⟩) ha hb
/-- the list that a value is, frozen or in the store -/
def seqL (x : LV) (s : LS) : Option (List LV) := match x with
  | .lst xs => some xs
  | .ref a => (match s a with
    | some (.lst xs) => some xs
    | _ => none)
  | _ => none
theorem seqL_ok {x : LV} {xs : List LV} {v : V} (r : RelS K s H) (rx : RV K s H x v) (h : seqL x s = some xs) : ∃ a us, v = .ref a ∧ H a = some (.lst us) ∧ RVs K s H xs us := by
  cases x with
  | lst ys =>
    cases h
    simp only [RV] at rx
    obtain ⟨a, us, rfl, _, hh, q⟩ := rx
    exact ⟨a, us, rfl, hh, q⟩
  | ref a =>
    simp only [seqL] at h
    split at h
    · next ys e =>
      cases h
      obtain ⟨us, hh, q⟩ := r.lst e
      exact ⟨a, us, rx.ref', hh, q⟩
    · cases h
  | _ => cases h
/-- a new list of two values: r tells its items -/
def UpL2 (K : PySem.W.Frag) (r : R2) (rl : LV → LV → LS → (List LV → LS → Prop) → Prop) : Prop := ∀ x y s H lx ly Q0 Q, RelS K s H → RV K s H lx x → RV K s H ly y → rl lx ly s Q0 →
  (∀ xs s' us H', Q0 xs s' → Step s H s' H' → RelS K s' H' → RVs K s' H' xs us → ∀ p, H' p = none → Q (.ref p) (upd H' p (.lst us))) → r x y H Q
def lOpL (r : LV → LV → LS → (List LV → LS → Prop) → Prop) (ta tb : LTE) : LTL := fun σ s Q E => ta σ s (fun x s1 => tb σ s1 (fun y s2 => r x y s2 Q) E) E
theorem ll_op {op : Operator} {r : R2} {rl : LV → LV → LS → (List LV → LS → Prop) → Prop} (ho : OpR X (binaryOp op) r) (u : UpL2 X.K r rl) (ha : LE X a ta) (hb : LE X b tb) : LL X (.BinOp a op b pos) (lOpL rl ta tb) := fun s0 H0 E tk =>
  (pe_op ho (ha s0 H0 E tk) (hb s0 H0 E tk)).imp fun σ H Q ⟨σl, s, Q0, E1, hσ, hs, st, hE, h, k⟩ => ⟨σl, s, _, E1, hσ, hs, st, hE, h, fun lx s1 x H1 h st1 hs1 rx =>
    ⟨σl, s1, _, E1, hσ.mono st1, hs1, st.trans st1, hE, h, fun ly s2 y H2 h st2 hs2 ry => u x y s2 H2 lx ly Q0 Q hs2 (rx.mono st2) ry h fun xs s3 us H3 q st3 => k xs s3 us H3 q ((st1.trans st2).trans st3)⟩⟩
def rCatL : LV → LV → LS → (List LV → LS → Prop) → Prop := fun x y s Q => opt (seqL x s) fun xs => opt (seqL y s) fun ys => xs.length + ys.length ≤ 16777216 ∧ Q (xs ++ ys) s
theorem ll_cat (ha : LE X a ta) (hb : LE X b tb) : LL X (.BinOp a .Add b pos) (lOpL rCatL ta tb) := ll_op op_cat (fun x y s H lx ly Q0 Q hs rx ry h k => by
  obtain ⟨xs, e1, h⟩ := opt_ok h
  obtain ⟨ys, e2, hl, h⟩ := opt_ok h
  obtain ⟨p, us, rfl, h1, r1⟩ := seqL_ok hs rx e1
  obtain ⟨q, ws, rfl, h2, r2⟩ := seqL_ok hs ry e2
  exact ⟨p, q, us, ws, rfl, rfl, h1, h2, by rw [r1.length, r2.length, sizeLine_eq]; exact hl, fun l hn => k _ _ _ _ h (.refl _ _) hs (r1.append r2) l hn⟩) ha hb
def rRepL : LV → LV → LS → (List LV → LS → Prop) → Prop := fun x y s Q => opt (seqL x s) fun xs => match y with
  | .int k => -(2 ^ 63) ≤ k ∧ k < 2 ^ 63 ∧ xs.length * k.toNat ≤ 16777216 ∧ Q (List.replicate k.toNat xs).flatten s
  | _ => False
theorem RVs.rep {xs : List LV} {us : List V} (h : RVs K s H xs us) : ∀ k : Nat, RVs K s H (List.replicate k xs).flatten (List.replicate k us).flatten
  | 0 => .nil
  | k + 1 => by
    rw [List.replicate_succ, List.replicate_succ, List.flatten_cons, List.flatten_cons]
    exact h.append (RVs.rep h k)
theorem ll_rep (ha : LE X a ta) (hb : LE X b tb) : LL X (.BinOp a .Mult b pos) (lOpL rRepL ta tb) := ll_op op_rep (fun x y s H lx ly Q0 Q hs rx ry h k => by
  obtain ⟨xs, e1, h⟩ := opt_ok h
  obtain ⟨p, us, rfl, h1, r1⟩ := seqL_ok hs rx e1
  cases ly with
  | int n => exact ⟨p, n, us, rfl, ry.int', h1, h.1, h.2.1, by rw [r1.length, sizeLine_eq]; exact h.2.2.1, fun l hn => k _ _ _ _ h.2.2.2 (.refl _ _) hs (r1.rep _) l hn⟩
  | _ => exact False.elim h) ha hb
abbrev rLtI : LR2 := rl2' fun i j => .bl (decide (i < j))
abbrev rLeI : LR2 := rl2' fun i j => .bl (decide (i ≤ j))
abbrev rGtI : LR2 := rl2' fun i j => .bl (decide (j < i))
abbrev rGeI : LR2 := rl2' fun i j => .bl (decide (j ≤ i))
theorem le_lt (ha : LE X a ta) (hb : LE X b tb) : LE X (.Compare a [.Lt] [b] pos) (lOp rLtI ta tb) := le_cmp op_lt (up2_I0 fun _ _ _ _ _ => .bl) ha hb (nomark _)
theorem le_le (ha : LE X a ta) (hb : LE X b tb) : LE X (.Compare a [.LtE] [b] pos) (lOp rLeI ta tb) := le_cmp op_le (up2_I0 fun _ _ _ _ _ => .bl) ha hb (nomark _)
theorem le_gt (ha : LE X a ta) (hb : LE X b tb) : LE X (.Compare a [.Gt] [b] pos) (lOp rGtI ta tb) := le_cmp op_gt (up2_I0 fun _ _ _ _ _ => .bl) ha hb (nomark _)
theorem le_ge (ha : LE X a ta) (hb : LE X b tb) : LE X (.Compare a [.GtE] [b] pos) (lOp rGeI ta tb) := le_cmp op_ge (up2_I0 fun _ _ _ _ _ => .bl) ha hb (nomark _)
theorem lt_lt (ha : LE X a ta) (hb : LE X b tb) : LT X (.Compare a [.Lt] [b] pos) (lB (lOp rLtI ta tb)) := lt_cmp op_lt (up2_I0 fun _ _ _ _ _ => .bl) ha hb (nomark _)
theorem lt_le (ha : LE X a ta) (hb : LE X b tb) : LT X (.Compare a [.LtE] [b] pos) (lB (lOp rLeI ta tb)) := lt_cmp op_le (up2_I0 fun _ _ _ _ _ => .bl) ha hb (nomark _)
theorem lt_gt (ha : LE X a ta) (hb : LE X b tb) : LT X (.Compare a [.Gt] [b] pos) (lB (lOp rGtI ta tb)) := lt_cmp op_gt (up2_I0 fun _ _ _ _ _ => .bl) ha hb (nomark _)
theorem lt_ge (ha : LE X a ta) (hb : LE X b tb) : LT X (.Compare a [.GtE] [b] pos) (lB (lOp rGeI ta tb)) := lt_cmp op_ge (up2_I0 fun _ _ _ _ _ => .bl) ha hb (nomark _)
mutual
/-- the value is the data d, read through the store -/
def Isd (s : LS) : PyData → LV → Prop
  | .none, x => x = .non
  | .bool b, x => x = .bl b
  | .int i, x => x = .int i
  | .str z, x => x = .str z
  | .list ds, x => (∃ xs, x = .lst xs ∧ Isds s ds xs) ∨ ∃ a xs, x = .ref a ∧ s a = some (.lst xs) ∧ Isds s ds xs
  | .tuple ds, x => ∃ xs, x = .tup xs ∧ Isds s ds xs
  | .dict _, _ => False
def Isds (s : LS) : List PyData → List LV → Prop
  | [], xs => xs = []
  | d :: ds, xs => ∃ y r, xs = y :: r ∧ Isd s d y ∧ Isds s ds r
end
mutual
theorem Isd.dp (hs : RelS K s H) : ∀ {d : PyData} {x : LV} {v : V}, Isd s d x → RV K s H x v → Dp K H v d
  | .none, _, _, h, r => by simp only [Isd] at h; subst h; rw [r.non']; exact .non
  | .bool b, _, _, h, r => by simp only [Isd] at h; subst h; rw [r.bl']; exact .bl b
  | .int b, _, _, h, r => by simp only [Isd] at h; subst h; rw [r.int']; exact .int b
  | .str b, _, _, h, r => by simp only [Isd] at h; subst h; rw [r.str']; exact .str b
  | .list ds, _, _, h, r => by
    simp only [Isd] at h
    rcases h with ⟨xs, rfl, h⟩ | ⟨a, xs, rfl, e, h⟩
    · simp only [RV] at r
      obtain ⟨a, us, rfl, _, hh, q⟩ := r
      exact .lst (SqL.of hh) (Isds.dp hs h q)
    · obtain ⟨us, hh, q⟩ := hs.lst e
      rw [r.ref']
      exact .lst (SqL.of hh) (Isds.dp hs h q)
  | .tuple ds, _, _, h, r => by
    simp only [Isd] at h
    obtain ⟨xs, rfl, h⟩ := h
    simp only [RV] at r
    obtain ⟨a, us, rfl, _, hh, q⟩ := r
    exact .tup (SqT.of hh) (Isds.dp hs h q)
  | .dict _, _, _, h, _ => by simp only [Isd] at h
theorem Isds.dp (hs : RelS K s H) : ∀ {ds : List PyData} {xs : List LV} {us : List V}, Isds s ds xs → RVs K s H xs us → DpAll K H us ds
  | [], _, _, h, r => by
    simp only [Isds] at h
    subst h
    simp only [RVs] at r
    subst r
    exact .nil
  | d :: ds, _, _, h, r => by
    simp only [Isds] at h
    obtain ⟨y, q, rfl, h1, h2⟩ := h
    simp only [RVs] at r
    obtain ⟨u, w, rfl, r1, r2⟩ := r
    exact .cons (Isd.dp hs h1 r1) (Isds.dp hs h2 r2)
end
def rEqL : LR2 := fun x y s Q => ∃ d e, Isd s d x ∧ Isd s e y ∧ SeqAt.shaped d = true ∧ SeqAt.shaped e = true ∧ Q (.bl (PyData.eqv d e)) s
def rNeL : LR2 := fun x y s Q => ∃ d e, Isd s d x ∧ Isd s e y ∧ SeqAt.shaped d = true ∧ SeqAt.shaped e = true ∧ Q (.bl (!PyData.eqv d e)) s
theorem up_eqL : Up2 K (rEqD K) rEqL := fun x y s H lx ly Q0 Q hs rx ry ⟨d, e, h1, h2, s1, s2, q⟩ k => ⟨d, e, h1.dp hs rx, h2.dp hs ry, s1, s2, k _ _ _ _ q (.refl _ _) hs .bl⟩
theorem up_neL : Up2 K (rNeD K) rNeL := fun x y s H lx ly Q0 Q hs rx ry ⟨d, e, h1, h2, s1, s2, q⟩ k => ⟨d, e, h1.dp hs rx, h2.dp hs ry, s1, s2, k _ _ _ _ q (.refl _ _) hs .bl⟩
theorem le_eqD (hu : X.A.units + 64 < cLine) (ha : LE X a ta) (hb : LE X b tb) : LE X (.Compare a [.Eq] [b] pos) (lOp rEqL ta tb) := le_cmp (op_eqD hu) up_eqL ha hb (nomark _)
theorem le_neD (hu : X.A.units + 64 < cLine) (ha : LE X a ta) (hb : LE X b tb) : LE X (.Compare a [.NotEq] [b] pos) (lOp rNeL ta tb) := le_cmp (op_neD hu) up_neL ha hb (nomark _)
theorem lt_eqD (hu : X.A.units + 64 < cLine) (ha : LE X a ta) (hb : LE X b tb) : LT X (.Compare a [.Eq] [b] pos) (lB (lOp rEqL ta tb)) := lt_cmp (op_eqD hu) up_eqL ha hb (nomark _)
theorem lt_neD (hu : X.A.units + 64 < cLine) (ha : LE X a ta) (hb : LE X b tb) : LT X (.Compare a [.NotEq] [b] pos) (lB (lOp rNeL ta tb)) := lt_cmp (op_neD hu) up_neL ha hb (nomark _)
/-- == of two ints, bools or texts, both of one kind -/
def rEqS : LR2 := fun x y s Q => match x, y with
  | .int i, .int j => Q (.bl (decide (i = j))) s
  | .bl i, .bl j => Q (.bl (decide (i = j))) s
  | .str i, .str j => Q (.bl (decide (i = j))) s
  | _, _ => False
def rNeS : LR2 := fun x y s Q => match x, y with
  | .int i, .int j => Q (.bl (!decide (i = j))) s
  | .bl i, .bl j => Q (.bl (!decide (i = j))) s
  | .str i, .str j => Q (.bl (!decide (i = j))) s
  | _, _ => False
theorem dci {i j : Int} : decide (V.int i = V.int j) = decide (i = j) := by by_cases h : i = j <;> simp [h]
theorem dcb {i j : Bool} : decide (V.bl i = V.bl j) = decide (i = j) := by by_cases h : i = j <;> simp [h]
theorem dcs {i j : Str} : decide (V.str i = V.str j) = decide (i = j) := by by_cases h : i = j <;> simp [h]
theorem up_eqS : Up2 K rEq rEqS := fun x y s H lx ly Q0 Q hs rx ry h k => by
  cases lx <;> cases ly <;> first
    | exact False.elim h
    | (rw [rx.int', ry.int']; exact ⟨rfl, by rw [dci]; exact k _ _ _ _ h (.refl _ _) hs .bl⟩)
    | (rw [rx.bl', ry.bl']; exact ⟨rfl, by rw [dcb]; exact k _ _ _ _ h (.refl _ _) hs .bl⟩)
    | (rw [rx.str', ry.str']; exact ⟨rfl, by rw [dcs]; exact k _ _ _ _ h (.refl _ _) hs .bl⟩)
theorem up_neS : Up2 K rNe rNeS := fun x y s H lx ly Q0 Q hs rx ry h k => by
  cases lx <;> cases ly <;> first
    | exact False.elim h
    | (rw [rx.int', ry.int']; exact ⟨rfl, by rw [dci]; exact k _ _ _ _ h (.refl _ _) hs .bl⟩)
    | (rw [rx.bl', ry.bl']; exact ⟨rfl, by rw [dcb]; exact k _ _ _ _ h (.refl _ _) hs .bl⟩)
    | (rw [rx.str', ry.str']; exact ⟨rfl, by rw [dcs]; exact k _ _ _ _ h (.refl _ _) hs .bl⟩)
theorem le_eq (ha : LE X a ta) (hb : LE X b tb) : LE X (.Compare a [.Eq] [b] pos) (lOp rEqS ta tb) := le_cmp op_eq up_eqS ha hb (nomark _)
theorem le_ne (ha : LE X a ta) (hb : LE X b tb) : LE X (.Compare a [.NotEq] [b] pos) (lOp rNeS ta tb) := le_cmp op_ne up_neS ha hb (nomark _)
theorem lt_eq (ha : LE X a ta) (hb : LE X b tb) : LT X (.Compare a [.Eq] [b] pos) (lB (lOp rEqS ta tb)) := lt_cmp op_eq up_eqS ha hb (nomark _)
theorem lt_ne (ha : LE X a ta) (hb : LE X b tb) : LT X (.Compare a [.NotEq] [b] pos) (lB (lOp rNeS ta tb)) := lt_cmp op_ne up_neS ha hb (nomark _)
/-- is None -/
def rIsNonL : LR2 := fun x y s Q => match y, x with
  | .non, .non => Q (.bl true) s
  | .non, .bl _ => Q (.bl false) s
  | .non, .int _ => Q (.bl false) s
  | .non, .str _ => Q (.bl false) s
  | .non, .ref _ => Q (.bl false) s
  | .non, .tup _ => Q (.bl false) s
  | .non, .lst _ => Q (.bl false) s
  | .non, .dT _ => Q (.bl false) s
  | .non, .ins _ _ => Q (.bl false) s
  | _, _ => False
def rNotNonL : LR2 := fun x y s Q => rIsNonL x y s fun v s' => match v with
  | .bl c => Q (.bl (!c)) s'
  | _ => False
theorem isNon_ok {x y : LV} {v w : V} {Q : LVK} (rx : RV K s H x v) (ry : RV K s H y w) (h : rIsNonL x y s Q) : w = .non ∧ Q (.bl (decide (v = .non))) s := by
  cases y <;> try exact False.elim h
  refine ⟨ry.non', ?_⟩
  cases x with
  | non => rw [rx.non']; exact h
  | bl b => rw [rx.bl']; exact h
  | int b => rw [rx.int']; exact h
  | str b => rw [rx.str']; exact h
  | ref b => rw [rx.ref']; exact h
  | tup xs => simp only [RV] at rx; obtain ⟨a, us, rfl, _⟩ := rx; exact h
  | lst xs => simp only [RV] at rx; obtain ⟨a, us, rfl, _⟩ := rx; exact h
  | dT xs => simp only [RV] at rx; obtain ⟨a, us, o, rfl, _⟩ := rx; exact h
  | ins C xs => simp only [RV] at rx; obtain ⟨a, dx, us, rfl, _⟩ := rx; exact h
  | _ => exact False.elim h
theorem up_isN : Up2 K (fun x y H Q => y = .non ∧ Q (.bl (decide (x = .non))) H) rIsNonL := fun x y s H lx ly Q0 Q hs rx ry h k => by
  obtain ⟨e, q⟩ := isNon_ok rx ry h
  exact ⟨e, k _ _ _ _ q (.refl _ _) hs .bl⟩
theorem up_notN : Up2 K (fun x y H Q => y = .non ∧ Q (.bl (!decide (x = .non))) H) rNotNonL := fun x y s H lx ly Q0 Q hs rx ry h k => by
  obtain ⟨e, q⟩ := isNon_ok rx ry h
  exact ⟨e, k _ _ _ _ q (.refl _ _) hs .bl⟩
theorem le_isN (ha : LE X a ta) (hb : LE X b tb) : LE X (.Compare a [.Is] [b] pos) (lOp rIsNonL ta tb) := le_cmp op_isN up_isN ha hb (nomark _)
theorem le_notN (ha : LE X a ta) (hb : LE X b tb) : LE X (.Compare a [.IsNot] [b] pos) (lOp rNotNonL ta tb) := le_cmp op_notN up_notN ha hb (nomark _)
theorem lt_isN (ha : LE X a ta) (hb : LE X b tb) : LT X (.Compare a [.Is] [b] pos) (lB (lOp rIsNonL ta tb)) := lt_cmp op_isN up_isN ha hb (nomark _)
theorem lt_notN (ha : LE X a ta) (hb : LE X b tb) : LT X (.Compare a [.IsNot] [b] pos) (lB (lOp rNotNonL ta tb)) := lt_cmp op_notN up_notN ha hb (nomark _)
/-- x in a list of ints, by places -/
def rInL (neg : Bool) : LR2 := fun x y s Q => opt (seqL y s) fun xs => ∃ d ds, Isd s d x ∧ Isds s ds xs ∧ SeqAt.shaped d = true ∧ SeqAt.shaped (.list ds) = true ∧ Q (.bl (neg.xor (ds.any fun z => PyData.eqv z d))) s
theorem up_inL : Up2 K (rInD K) (rInL false) := fun x y s H lx ly Q0 Q hs rx ry h k => by
  obtain ⟨xs, e, d, ds, h1, h2, s1, s2, q⟩ := opt_ok h
  obtain ⟨p, us, rfl, hh, r⟩ := seqL_ok hs ry e
  rw [Bool.false_xor] at q
  exact ⟨d, ds, h1.dp hs rx, .lst (SqL.of hh) (h2.dp hs r), s1, s2, k _ _ _ _ q (.refl _ _) hs .bl⟩
theorem up_ninL : Up2 K (rNotInD K) (rInL true) := fun x y s H lx ly Q0 Q hs rx ry h k => by
  obtain ⟨xs, e, d, ds, h1, h2, s1, s2, q⟩ := opt_ok h
  obtain ⟨p, us, rfl, hh, r⟩ := seqL_ok hs ry e
  rw [Bool.true_xor] at q
  exact ⟨d, ds, h1.dp hs rx, .lst (SqL.of hh) (h2.dp hs r), s1, s2, k _ _ _ _ q (.refl _ _) hs .bl⟩
theorem le_inL (hu : X.A.units + 65 < cLine) (ha : LE X a ta) (hb : LE X b tb) (hm : behindInMarks .In b = false) : LE X (.Compare a [.In] [b] pos) (lOp (rInL false) ta tb) := le_cmp (op_inD hu) up_inL ha hb hm
theorem le_ninL (hu : X.A.units + 65 < cLine) (ha : LE X a ta) (hb : LE X b tb) (hm : behindInMarks .NotIn b = false) : LE X (.Compare a [.NotIn] [b] pos) (lOp (rInL true) ta tb) := le_cmp (op_notInD hu) up_ninL ha hb hm
theorem lt_inL (hu : X.A.units + 65 < cLine) (ha : LE X a ta) (hb : LE X b tb) (hm : behindInMarks .In b = false) : LT X (.Compare a [.In] [b] pos) (lB (lOp (rInL false) ta tb)) := lt_cmp (op_inD hu) up_inL ha hb hm
theorem lt_ninL (hu : X.A.units + 65 < cLine) (ha : LE X a ta) (hb : LE X b tb) (hm : behindInMarks .NotIn b = false) : LT X (.Compare a [.NotIn] [b] pos) (lB (lOp (rInL true) ta tb)) := lt_cmp (op_notInD hu) up_ninL ha hb hm
/-- x in a dict whose keys are tuples -/
def keyL : LV → Option Key
  | .int i => some (.inl i)
  | .str z => some (.inr z)
  | _ => none
def keysL : List LV → Option (List Key)
  | [] => some []
  | x :: xs => (keyL x).bind fun k => (keysL xs).map (k :: ·)
theorem keysL_ok : ∀ {xs : List LV} {ks : List Key} {us : List V}, keysL xs = some ks → RVs K s H xs us → us = ks.map kV
  | [], _, _, e, r => by
    simp only [RVs] at r
    subst r
    cases e
    rfl
  | x :: xs, _, _, e, r => by
    simp only [RVs] at r
    obtain ⟨u, w, rfl, r1, r2⟩ := r
    unfold keysL at e
    obtain ⟨k, ek, e⟩ := Option.bind_eq_some_iff.mp e
    obtain ⟨ks, eks, rfl⟩ := Option.map_eq_some_iff.mp e
    rw [keysL_ok eks r2]
    cases x with
    | int i => cases ek; rw [r1.int']; rfl
    | str z => cases ek; rw [r1.str']; rfl
    | _ => cases ek
/-- the dict with tuple keys that a value is -/
def dicT (x : LV) (s : LS) : Option (List (List Key × LV)) := match x with
  | .dT kvs => some kvs
  | .ref a => (match s a with
    | some (.dT kvs) => some kvs
    | _ => none)
  | _ => none
theorem dicT_ok {x : LV} {kvs : List (List Key × LV)} {v : V} (r : RelS K s H) (rx : RV K s H x v) (h : dicT x s = some kvs) : ∃ a us o, v = .ref a ∧ H a = some o ∧ isD us o ∧ RVk K s H kvs us := by
  cases x with
  | dT ys =>
    cases h
    simp only [RV] at rx
    obtain ⟨a, us, o, rfl, _, hh, d, q⟩ := rx
    exact ⟨a, us, o, rfl, hh, d, q⟩
  | ref a =>
    simp only [dicT] at h
    split at h
    · next ys e =>
      cases h
      obtain ⟨us, hh, q⟩ := r a _ e
      exact ⟨a, us, _, rx.ref', hh, .inl rfl, q⟩
    · cases h
  | _ => cases h
theorem isD.rd {a : Addr} {us : List (List Key × V)} {o : HO} (h : H a = some o) (d : isD us o) : Rd H a (.dT us) := by
  rcases d with rfl | ⟨ob, rfl⟩
  · exact .inl h
  · exact .inr ⟨ob, h⟩
theorem RVk.val : ∀ {kvs : List (List Key × LV)} {us : List (List Key × V)} (k : List Key), RVk K s H kvs us → match valL kvs k with
    | some x => ∃ v, valV us k = some v ∧ RV K s H x v
    | none => valV us k = none
  | [], _, k, h => by simp only [RVk] at h; subst h; rfl
  | (j, x) :: kvs, _, k, h => by
    simp only [RVk] at h
    obtain ⟨u, r, rfl, h1, h2⟩ := h
    by_cases e : j = k
    · simp only [valL, if_pos e]
      exact ⟨u, valV_pos e, h1⟩
    · simp only [valL, if_neg e]
      rw [valV_neg (p := (j, u)) e]
      exact RVk.val k h2
/-- the dict with plain keys that stands in the store -/
def dicK (x : LV) (s : LS) : Option (List (Key × LV)) := match x with
  | .ref a => (match s a with
    | some (.dK kvs) => some kvs
    | _ => none)
  | _ => none
theorem dicK_ok {x : LV} {kvs : List (Key × LV)} {v : V} (r : RelS K s H) (rx : RV K s H x v) (h : dicK x s = some kvs) : ∃ a us, x = .ref a ∧ v = .ref a ∧ H a = some (.dK us) ∧ RVd K s H kvs us := by
  cases x with
  | ref a =>
    simp only [dicK] at h
    split at h
    · next ys e =>
      cases h
      obtain ⟨us, hh, q⟩ := r a _ e
      exact ⟨a, us, rfl, rx.ref', hh, q⟩
    · cases h
  | _ => cases h
theorem RVd.val : ∀ {kvs : List (Key × LV)} {us : List (Key × V)} (k : Key), RVd K s H kvs us → match valL kvs k with
    | some x => ∃ v, valV us k = some v ∧ RV K s H x v
    | none => valV us k = none
  | [], _, k, h => by cases h; rfl
  | (j, x) :: kvs, _, k, h => by
    obtain ⟨u, r, rfl, h1, h2⟩ := h
    by_cases e : j = k
    · simp only [valL, if_pos e]
      exact ⟨u, valV_pos e, h1⟩
    · simp only [valL, if_neg e]
      rw [valV_neg (p := (j, u)) e]
      exact RVd.val k h2
end
end L3

namespace L3
open PySem PySem.Spec L2
section
variable {X : Cx} {K : PySem.W.Frag} {s : LS} {H : Hp} {a b e o : Expr} {es : List Expr} {pos : Pos} {ta tb te : LTE} {tas : LTA}
def rIxD : R2 := fun x y H Q => ∃ a v, x = .ref a ∧ DGet H a y (some v) ∧ Q v H
theorem ix_dict (hu : X.A.units + 1 < cLine) : IxR X rIxD := by
  intro value slice pins s σ H x y v u Q I rx ry h hs
  obtain ⟨a, w, rfl, g, q⟩ := h
  cases rx
  exact PyProof.Rows.tail_any (dict_typeIs I g) PySem.F.slot_dict_getitem.lookup (d_getItem hu I g ry fun w' s' I' rw' => ⟨w, H, I', rw', q⟩) hs
def seqT : LV → Option (List LV)
  | .tup xs => some xs
  | _ => none
def rIxL : LR2 := fun x y s Q => match y with
  | .int i => (match x with
    | .lst xs => opt (atI xs i) fun v => Q v s
    | .tup xs => opt (atI xs i) fun v => Q v s
    | .scr ns => opt (atI ns i) fun n => Q (.int n) s
    | .str z => z.length ≤ 16777216 ∧ opt (atI z.cps.toList i) fun c => Q (.str ⟨#[c]⟩) s
    | .ref a => (match s a with
      | some (.lst xs) => opt (atI xs i) fun v => Q v s
      | some (.dK kvs) => opt (valL kvs (.inl i)) fun v => Q v s
      | _ => False)
    | _ => False)
  | .str z => opt (dicK x s) fun kvs => opt (valL kvs (.inr z)) fun v => Q v s
  | .tup ks => opt (dicT x s) fun kvs => opt (keysL ks) fun k => opt (valL kvs k) fun v => Q v s
  | _ => False
theorem RVs.atI {xs : List LV} {us : List V} {i : Int} {x : LV} (r : RVs K s H xs us) (h : L2.atI xs i = some x) : ∃ u, L2.atI us i = some u ∧ RV K s H x u := by
  unfold L2.atI at h ⊢
  rw [r.length]
  obtain ⟨j, e1, e2⟩ := Option.bind_eq_some_iff.mp h
  obtain ⟨u, e3, e4⟩ := r.get e2
  exact ⟨u, by rw [e1]; exact e3, e4⟩
theorem atI_map {α β : Type} (f : α → β) (xs : List α) (i : Int) : L2.atI (xs.map f) i = (L2.atI xs i).map f := by
  unfold L2.atI
  rw [List.length_map]
  cases ixN xs.length i with
  | none => rfl
  | some j => simp
theorem up_ix : Up2 K (fun x y H Q => rIx K x y H Q ∨ rIxD x y H Q) rIxL := fun x y s H lx ly Q0 Q hs rx ry h k => by
  cases ly with
  | int i =>
    cases lx with
    | lst xs =>
      obtain ⟨w, e, h⟩ := opt_ok h
      simp only [RV] at rx
      obtain ⟨p, us, rfl, _, hh, r⟩ := rx
      obtain ⟨u, e2, ru⟩ := r.atI e
      exact .inl (.inl ⟨p, us, i, u, rfl, ry.int', SqL.of hh, e2, k _ _ _ _ h (.refl _ _) hs ru⟩)
    | tup xs =>
      obtain ⟨w, e, h⟩ := opt_ok h
      simp only [RV] at rx
      obtain ⟨p, us, rfl, _, hh, r⟩ := rx
      obtain ⟨u, e2, ru⟩ := r.atI e
      exact .inl (.inr (.inl ⟨p, us, i, u, rfl, ry.int', SqT.of hh, e2, k _ _ _ _ h (.refl _ _) hs ru⟩))
    | scr ns =>
      obtain ⟨w, e, h⟩ := opt_ok h
      simp only [RV] at rx
      obtain ⟨p, rfl, hh⟩ := rx
      refine .inl (.inl ⟨p, ns.map V.int, i, .int w, rfl, ry.int', ?_, by rw [atI_map, e]; rfl, k _ _ _ _ h (.refl _ _) hs .int⟩)
      rcases hh with ⟨_, o, hh⟩ | hh
      · exact .inl (.inr ⟨o, hh⟩)
      · exact .inr hh
    | str z =>
      obtain ⟨hl, h⟩ := h
      obtain ⟨w, e, h⟩ := opt_ok h
      exact .inl (.inr (.inr ⟨z, i, w, rx.str', ry.int', by rw [sizeLine_eq]; exact hl, e, k _ _ _ _ h (.refl _ _) hs .str⟩))
    | ref p =>
      simp only [rIxL] at h
      split at h
      · next xs ex =>
        obtain ⟨w, e, h⟩ := opt_ok h
        obtain ⟨us, hh, r⟩ := hs.lst ex
        obtain ⟨u, e2, ru⟩ := r.atI e
        exact .inl (.inl ⟨p, us, i, u, rx.ref', ry.int', SqL.of hh, e2, k _ _ _ _ h (.refl _ _) hs ru⟩)
      · next kvs ex =>
        obtain ⟨w, e, h⟩ := opt_ok h
        obtain ⟨us, hh, r⟩ := hs p _ ex
        have q := r.val (.inl i)
        rw [e] at q
        obtain ⟨u, e2, ru⟩ := q
        refine .inr ⟨p, u, rx.ref', ?_, k _ _ _ _ h (.refl _ _) hs ru⟩
        rw [ry.int', ← e2]
        exact DGet.k (k := .inl i) hh
      · exact h.elim
    | _ => exact False.elim h
  | str z =>
    have h : opt (dicK lx s) (fun kvs => opt (valL kvs (.inr z)) fun v => Q0 v s) := h
    obtain ⟨kvs, ed, h1⟩ := opt_ok h
    obtain ⟨w, e, h2⟩ := opt_ok h1
    obtain ⟨p, us, _, rfl, hh, r⟩ := dicK_ok hs rx ed
    have q := r.val (.inr z)
    rw [e] at q
    obtain ⟨u, e2, ru⟩ := q
    refine .inr ⟨p, u, rfl, ?_, k _ _ _ _ h2 (.refl _ _) hs ru⟩
    rw [ry.str', ← e2]
    exact DGet.k (k := .inr z) hh
  | tup ks =>
    simp only [rIxL] at h
    obtain ⟨kvs, ed, h⟩ := opt_ok h
    obtain ⟨kk, ek, h⟩ := opt_ok h
    obtain ⟨w, e, h⟩ := opt_ok h
    obtain ⟨p, us, ob, rfl, hh, d, r⟩ := dicT_ok hs rx ed
    have q := r.val kk
    rw [e] at q
    obtain ⟨u, e2, ru⟩ := q
    simp only [RV] at ry
    obtain ⟨t, ts, rfl, _, ht, rt⟩ := ry
    rw [keysL_ok ek rt] at ht
    exact .inr ⟨p, u, rfl, .inr ⟨us, kk, t, d.rd hh, rfl, ht, e2.symm⟩, k _ _ _ _ h (.refl _ _) hs ru⟩
  | _ => exact False.elim h
theorem le_item (hu : X.A.units + 1 < cLine) (ha : LE X a ta) (hb : LE X b tb) (hs : PlainIx b := by exact fun _ _ => rfl) : LE X (.Subscript a b pos) (lOp rIxL ta tb) := le_ix (ix_seq.or (ix_dict hu)) up_ix ha hb hs

abbrev LTO := LSt → LS → (Option Int → LS → Prop) → LX → Prop
def upO (K : PySem.W.Frag) (s0 : LS) (H0 : Hp) (E : LXS) (t : LTO) : TO := fun σ H Q => ∃ σl s Q0 E1, RSt K s H σl σ ∧ RelS K s H ∧ Step s0 H0 s H ∧ (∀ C s', E1 C s' → E C σl s') ∧ t σl s Q0 E1 ∧
  ∀ i s' H', Q0 i s' → Step s H s' H' → RelS K s' H' → Q i H'
def LO' (X : Cx) (e : Option Expr) (t : LTO) : Prop := ∀ s0 H0 E, Takes X (WL X.K s0 H0 E) → PO X e (upO X.K s0 H0 E t)
theorem _root_.L2.PO.imp {X : Cx} {e : Option Expr} {t t' : TO} (h : PO X e t) (i : ∀ σ H Q, t' σ H Q → t σ H Q) : PO X e t' := ⟨fun pins s σ H Q I q => h.run pins s σ H Q I (i _ _ _ q)⟩
def lNoP : LTO := fun _ s Q _ => Q none s
def lPart (t : LTE) : LTO := fun σ s Q E => t σ s (fun x s1 => match x with
  | .int i => Q (some i) s1
  | _ => False) E
theorem lo_none : LO' X none lNoP := fun s0 H0 E tk => po_none.imp fun σ H Q ⟨σl, s, Q0, E1, hσ, hs, st, hE, h, k⟩ => k _ _ _ h (.refl _ _) hs
theorem lo_some (h : LE X e te) : LO' X (some e) (lPart te) := fun s0 H0 E tk => (po_some (h s0 H0 E tk)).imp fun σ H Q ⟨σl, s, Q0, E1, hσ, hs, st, hE, h, k⟩ =>
  ⟨σl, s, _, E1, hσ, hs, st, hE, h, fun lx s1 x H1 h st1 hs1 rx => by
    cases lx with
    | int i => exact ⟨i, rx.int', k _ _ _ h st1 hs1⟩
    | _ => exact False.elim h⟩
def cutL (xs : List LV) (lo hi : Option Int) : List LV := (xs.drop (HT.sIx xs.length 0 lo)).take (HT.sIx xs.length xs.length hi - HT.sIx xs.length 0 lo)
/-- the list that is read: the script too -/
def seqR (x : LV) (s : LS) : Option (List LV) := match x with
  | .scr ns => some (ns.map .int)
  | _ => seqL x s
theorem seqR_ok {x : LV} {xs : List LV} {v : V} (r : RelS K s H) (rx : RV K s H x v) (h : seqR x s = some xs) : ∃ a us, v = .ref a ∧ SqL K H a us ∧ RVs K s H xs us := by
  have old : seqL x s = some xs → ∃ a us, v = .ref a ∧ SqL K H a us ∧ RVs K s H xs us := fun h => by
    obtain ⟨a, us, e, hh, q⟩ := seqL_ok r rx h
    exact ⟨a, us, e, SqL.of hh, q⟩
  cases x with
  | scr ns =>
    cases h
    simp only [RV] at rx
    obtain ⟨a, rfl, hh⟩ := rx
    refine ⟨a, _, rfl, ?_, .ints ns⟩
    rcases hh with ⟨_, o, hh⟩ | hh
    · exact .inl (.inr ⟨o, hh⟩)
    · exact .inr hh
  | _ => exact old h
theorem seqR_stay {x : LV} {xs : List LV} {s1 s2 : LS} {H1 H2 : Hp} {v : V} (st : Step s1 H1 s2 H2) (r : RelS K s2 H2) (rx : RV K s1 H1 x v) (h : seqR x s2 = some xs) : ∃ a us, v = .ref a ∧ SqL K H2 a us ∧ RVs K s2 H2 xs us := seqR_ok r (rx.mono st) h
def lSl (te : LTE) (tl th : LTO) : LTL := fun σ s Q E => te σ s (fun x s1 => tl σ s1 (fun lo s2 => th σ s2 (fun hi s3 => opt (seqR x s3) fun xs => Q (cutL xs lo hi) s3) E) E) E
theorem ll_slice {lo hi : Option Expr} {tl th : LTO} {p2 : Pos} (he : LE X e te) (hl : LO' X lo tl) (hh : LO' X hi th) : LL X (.Subscript e (.Slice lo hi none p2) pos) (lSl te tl th) := fun s0 H0 E tk =>
  (pe_slice sl_list (he s0 H0 E tk) (hl s0 H0 E tk) (hh s0 H0 E tk)).imp fun σ H Q ⟨σl, s, Q0, E1, hσ, hs, st, hE, h, k⟩ => ⟨σl, s, _, E1, hσ, hs, st, hE, h, fun lx s1 x H1 h st1 hs1 rx =>
    ⟨σl, s1, _, E1, hσ.mono st1, hs1, st.trans st1, hE, h, fun i s2 H2 h st2 hs2 => ⟨σl, s2, _, E1, hσ.mono (st1.trans st2), hs2, st.trans (st1.trans st2), hE, h, fun j s3 H3 h st3 hs3 => by
      obtain ⟨xs, e, h⟩ := opt_ok h
      obtain ⟨p, us, rfl, hh, r⟩ := seqR_stay (st2.trans st3) hs3 rx e
      refine ⟨p, us, rfl, hh, fun q nq => ?_⟩
      have z := k _ s3 (cutV us i j) H3 h ((st1.trans st2).trans st3) hs3
      refine z ?_ q nq
      unfold cutV cutL
      rw [r.length]
      exact (r.drop _).take _⟩⟩⟩

abbrev LRc := List LV → LS → LVK → Prop
def UpC (K : PySem.W.Frag) (r : List V → Hp → VK → Prop) (rl : LRc) : Prop := ∀ vs s H lvs Q0 Q, RelS K s H → RVs K s H lvs vs → rl lvs s Q0 →
  (∀ lv s' v H', Q0 lv s' → Step s H s' H' → RelS K s' H' → RV K s' H' lv v → Q v H') → r vs H Q
def lCB (r : LRc) (t : LTA) : LTE := fun σ s Q E => t σ s (fun vs s1 => r vs s1 Q) E
variable {x : Str} {p : Pos} {id T : String} {r : List V → Hp → VK → Prop} {rl : LRc}
theorem le_cb (hc : CallR X (.builtin id) r) (u : UpC X.K r rl) (hg : Gl X x) (hm : X.mg x = none) (hv : bootBuiltins x = some (.builtin id)) (ha : LA X (e :: es) tas) (hn : x ≠ "__name__" := by decide) (hdb : (x == ("__debug__" : Str)) = false := by decide)
    (he : starEach (e :: es) X.env = (false, eval e X.env) :: starEach es X.env := by rfl) (hpl : (backTo pos (starEach es X.env)).any (·.1) = false := by rfl) : LE X (.Call (.Name x p) (e :: es) [] pos) (lCB rl tas) := fun s0 H0 E tk =>
  (pe_callB hc hg hm hv (ha s0 H0 E tk) hn hdb he hpl).imp fun σ H Q ⟨σl, s, Q0, E1, hσ, hs, st, hE, h, k⟩ => ⟨σl, s, _, E1, hσ, hs, st, hE, h, fun lvs s1 vs H1 h st1 hs1 r => u vs s1 H1 lvs Q0 Q hs1 r h fun lv s2 v H2 q st2 => k lv s2 v H2 q (st1.trans st2)⟩
theorem le_cty (hc : CallR X (.type T) r) (u : UpC X.K r rl) (hg : Gl X x) (hm : X.mg x = none) (hv : bootBuiltins x = some (.type T)) (ha : LA X (e :: es) tas) (hn : x ≠ "__name__" := by decide) (hdb : (x == ("__debug__" : Str)) = false := by decide)
    (he : starEach (e :: es) X.env = (false, eval e X.env) :: starEach es X.env := by rfl) (hpl : (backTo pos (starEach es X.env)).any (·.1) = false := by rfl) : LE X (.Call (.Name x p) (e :: es) [] pos) (lCB rl tas) := fun s0 H0 E tk =>
  (pe_callTy hc hg hm hv (ha s0 H0 E tk) hn hdb he hpl).imp fun σ H Q ⟨σl, s, Q0, E1, hσ, hs, st, hE, h, k⟩ => ⟨σl, s, _, E1, hσ, hs, st, hE, h, fun lvs s1 vs H1 h st1 hs1 r => u vs s1 H1 lvs Q0 Q hs1 r h fun lv s2 v H2 q st2 => k lv s2 v H2 q (st1.trans st2)⟩
/-- .. that makes a new list -/
def UpCL (K : PySem.W.Frag) (r : List V → Hp → VK → Prop) (rl : List LV → LS → (List LV → LS → Prop) → Prop) : Prop := ∀ vs s H lvs Q0 Q, RelS K s H → RVs K s H lvs vs → rl lvs s Q0 →
  (∀ xs s' us H', Q0 xs s' → Step s H s' H' → RelS K s' H' → RVs K s' H' xs us → ∀ p, H' p = none → Q (.ref p) (upd H' p (.lst us))) → r vs H Q
def lCBL (r : List LV → LS → (List LV → LS → Prop) → Prop) (t : LTA) : LTL := fun σ s Q E => t σ s (fun vs s1 => r vs s1 Q) E
theorem ll_cb {rl : List LV → LS → (List LV → LS → Prop) → Prop} (hc : CallR X (.builtin id) r) (u : UpCL X.K r rl) (hg : Gl X x) (hm : X.mg x = none) (hv : bootBuiltins x = some (.builtin id)) (ha : LA X (e :: es) tas) (hn : x ≠ "__name__" := by decide) (hdb : (x == ("__debug__" : Str)) = false := by decide)
    (he : starEach (e :: es) X.env = (false, eval e X.env) :: starEach es X.env := by rfl) (hpl : (backTo pos (starEach es X.env)).any (·.1) = false := by rfl) : LL X (.Call (.Name x p) (e :: es) [] pos) (lCBL rl tas) := fun s0 H0 E tk =>
  (pe_callB hc hg hm hv (ha s0 H0 E tk) hn hdb he hpl).imp fun σ H Q ⟨σl, s, Q0, E1, hσ, hs, st, hE, h, k⟩ => ⟨σl, s, _, E1, hσ, hs, st, hE, h, fun lvs s1 vs H1 h st1 hs1 r => u vs s1 H1 lvs Q0 Q hs1 r h fun xs s2 us H2 q st2 => k xs s2 us H2 q (st1.trans st2)⟩
theorem ll_cty {rl : List LV → LS → (List LV → LS → Prop) → Prop} (hc : CallR X (.type T) r) (u : UpCL X.K r rl) (hg : Gl X x) (hm : X.mg x = none) (hv : bootBuiltins x = some (.type T)) (ha : LA X (e :: es) tas) (hn : x ≠ "__name__" := by decide) (hdb : (x == ("__debug__" : Str)) = false := by decide)
    (he : starEach (e :: es) X.env = (false, eval e X.env) :: starEach es X.env := by rfl) (hpl : (backTo pos (starEach es X.env)).any (·.1) = false := by rfl) : LL X (.Call (.Name x p) (e :: es) [] pos) (lCBL rl tas) := fun s0 H0 E tk =>
  (pe_callTy hc hg hm hv (ha s0 H0 E tk) hn hdb he hpl).imp fun σ H Q ⟨σl, s, Q0, E1, hσ, hs, st, hE, h, k⟩ => ⟨σl, s, _, E1, hσ, hs, st, hE, h, fun lvs s1 vs H1 h st1 hs1 r => u vs s1 H1 lvs Q0 Q hs1 r h fun xs s2 us H2 q st2 => k xs s2 us H2 q (st1.trans st2)⟩
def lenL (x : LV) (s : LS) : Option Nat := match x with
  | .lst xs => some xs.length
  | .tup xs => some xs.length
  | .scr ns => some ns.length
  | .ref a => (match s a with
    | some (.lst xs) => some xs.length
    | _ => none)
  | _ => none
def rLenL : LRc := fun vs s Q => match vs with
  | [.str z] => z.length ≤ 16777216 ∧ Q (.int z.length) s
  | [x] => opt (lenL x s) fun n => Q (.int (n : Int)) s
  | _ => False
theorem RVs.one {x : LV} {us : List V} (r : RVs K s H [x] us) : ∃ u, us = [u] ∧ RV K s H x u := by
  simp only [RVs] at r
  obtain ⟨u, w, rfl, r1, r2⟩ := r
  exact ⟨u, by rw [r2], r1⟩
theorem RVs.two {x y : LV} {us : List V} (r : RVs K s H [x, y] us) : ∃ u v, us = [u, v] ∧ RV K s H x u ∧ RV K s H y v := by
  simp only [RVs] at r
  obtain ⟨u, w, rfl, r1, v, z, rfl, r2, r3⟩ := r
  exact ⟨u, v, by rw [r3], r1, r2⟩
theorem RVd.length : ∀ {xs : List (Key × LV)} {us : List (Key × V)}, RVd K s H xs us → us.length = xs.length
  | [], _, h => by cases h; rfl
  | (k, x) :: xs, _, h => by
    obtain ⟨u, r, rfl, _, h2⟩ := h
    simp [RVd.length h2]
theorem up_len : UpC K (fun xs H Q => ∃ x n, xs = [x] ∧ LenV K x H n ∧ Q (.int n) H) rLenL := fun vs s H lvs Q0 Q hs r h k => by
  rcases lvs with _ | ⟨x, _ | ⟨y, l⟩⟩
  · exact False.elim h
  rotate_left
  · exact False.elim (by cases x <;> exact h)
  · obtain ⟨u, rfl, r1⟩ := r.one
    clear r
    have r := r1
    clear r1
    cases x with
    | str z => exact ⟨u, z.length, rfl, by rw [r.str']; exact ⟨by rw [sizeLine_eq]; exact h.1, rfl⟩, k _ _ _ _ h.2 (.refl _ _) hs .int⟩
    | lst xs =>
      have h : Q0 (.int (xs.length : Int)) s := h
      simp only [RV] at r
      obtain ⟨a, us, rfl, _, hh, q⟩ := r
      exact ⟨_, us.length, rfl, .inl ⟨us, SqL.of hh, rfl⟩, by rw [q.length]; exact k _ _ _ _ h (.refl _ _) hs .int⟩
    | tup xs =>
      have h : Q0 (.int (xs.length : Int)) s := h
      simp only [RV] at r
      obtain ⟨a, us, rfl, _, hh, q⟩ := r
      exact ⟨_, us.length, rfl, .inr ⟨us, SqT.of hh, rfl⟩, by rw [q.length]; exact k _ _ _ _ h (.refl _ _) hs .int⟩
    | scr ns =>
      have h : Q0 (.int (ns.length : Int)) s := h
      obtain ⟨a, us, rfl, hh, q⟩ := seqR_ok hs r rfl
      exact ⟨_, us.length, rfl, .inl ⟨us, hh, rfl⟩, by rw [q.length, List.length_map]; exact k _ _ _ _ h (.refl _ _) hs .int⟩
    | ref a =>
      simp only [rLenL, lenL] at h
      split at h
      · next xs ex =>
        have h : Q0 (.int (xs.length : Int)) s := h
        obtain ⟨us, hh, q⟩ := hs.lst ex
        exact ⟨_, us.length, rfl, by rw [r.ref']; exact .inl ⟨us, SqL.of hh, rfl⟩, by rw [q.length]; exact k _ _ _ _ h (.refl _ _) hs .int⟩
      · exact h.elim
    | _ => exact False.elim h
theorem le_len (hg : Gl X "len") (hm : X.mg "len" = none) (ha : LA X [e] tas) (he : starEach [e] X.env = (false, eval e X.env) :: starEach [] X.env := by rfl) (hpl : (backTo pos (starEach [] X.env)).any (·.1) = false := by rfl) :
    LE X (.Call (.Name "len" p) [e] [] pos) (lCB rLenL tas) := le_cb call_len up_len hg hm PySem.boot_len ha (by decide) (by decide) he hpl
end
end L3

namespace L3
open PySem PySem.Spec L2
section
variable {X : Cx} {K : PySem.W.Frag} {s : LS} {H : Hp} {a b e o : Expr} {es : List Expr} {pos : Pos} {ta tb te to : LTE} {tas : LTA}
variable {x : Str} {p : Pos}
/-- the type of a value, as isinstance asks it; CT: what is said of an own class -/
def tyAt (CT : Addr → Prop) (x : LV) (s : LS) : Option Value := match x with
  | .non => some (.type "NoneType")
  | .bl _ => some (.type "bool")
  | .int _ => some (.type "int")
  | .str _ => some (.type "str")
  | .lst _ => some (.type "list")
  | .tup _ => some (.type "tuple")
  | .ins C _ => some (.ref C)
  | .ref a => (match s a with
    | some (.lst _) => some (.type "list")
    | some (.dK _) => some (.type "dict")
    | some (.dT _) => some (.type "dict")
    | some (.ins C _) => some (.ref C)
    | _ => none)
  | _ => none
/-- what an own class must say, for isinstance -/
structure InsC (K : PySem.W.Frag) (C : Addr) : Prop where
  cl : Cls K C
  ha : PySem.W.findIn K (.ref C) "__class__" = some (some (.builtin "object.__class__"))
  hn : PySem.W.specialIn K (.builtin "object.__class__") "__get__" = some (some (.builtin "getset_descriptor.__get__"))
  ht : PySem.W.takesIn K (.builtin "object.__class__") = some true
  hm : PySem.W.mroIn K C (.type "object") = some true
def clsVal : LV → Option Value
  | .ref a => some (.ref a)
  | .ty n => some (.type n)
  | _ => none
def rIsiL (K : PySem.W.Frag) : LRc := fun vs s Q => match vs with
  | [x, c] => opt (tyAt (fun _ => True) x s) fun t => opt (clsVal c) fun u => (∀ C, t = .ref C → InsC K C) ∧ ∃ b, PySem.W.kitOne K t u = some b ∧ Q (.bl b) s
  | _ => False
theorem tyAt_ok {x : LV} {v : V} {t : Value} (hs : RelS K s H) (rx : RV K s H x v) (h : tyAt (fun _ => True) x s = some t) (hc : ∀ C, t = .ref C → InsC K C) : TyX K H v t := by
  cases x with
  | non => cases h; rw [rx.non']; exact .base .non
  | bl b => cases h; rw [rx.bl']; exact .base (.bl b)
  | int b => cases h; rw [rx.int']; exact .base (.int b)
  | str b => cases h; rw [rx.str']; exact .base (.str b)
  | lst xs =>
    cases h
    simp only [RV] at rx
    obtain ⟨a, us, rfl, _, hh, _⟩ := rx
    exact .base (.lst hh)
  | tup xs =>
    cases h
    simp only [RV] at rx
    obtain ⟨a, us, rfl, _, hh, _⟩ := rx
    exact .base (.tup hh)
  | ins C fs =>
    cases h
    simp only [RV] at rx
    obtain ⟨a, dx, us, rfl, _, hh, _⟩ := rx
    have c := hc C rfl
    exact .base (.ins hh c.cl c.ha c.hn c.ht c.hm)
  | ref a =>
    rw [rx.ref']
    simp only [tyAt] at h
    split at h
    · next e => cases h; obtain ⟨us, hh, _⟩ := hs a _ e; exact .base (.lst hh)
    · next e => cases h; obtain ⟨us, hh, _⟩ := hs a _ e; exact .base (.dK hh)
    · next e => cases h; obtain ⟨us, hh, _⟩ := hs a _ e; exact .base (.dT hh)
    · next C fs e =>
      cases h
      obtain ⟨dx, us, hh, _⟩ := hs a _ e
      have c := hc C rfl
      exact .base (.ins hh c.cl c.ha c.hn c.ht c.hm)
    · cases h
  | _ => cases h
theorem clsVal_ok {c : LV} {v : V} {u : Value} (rx : RV K s H c v) (h : clsVal c = some u) : ClsV v u := by
  cases c with
  | ref a => cases h; rw [rx.ref']; exact .own a
  | ty n => cases h; simp only [RV] at rx; rw [rx]; exact .ty n
  | _ => cases h
theorem up_isi : UpC K (L2.rIsi K) (rIsiL K) := fun vs s H lvs Q0 Q hs r h k => by
  rcases lvs with _ | ⟨x, _ | ⟨c, _ | ⟨y, l⟩⟩⟩
  · exact False.elim h
  · exact False.elim h
  · obtain ⟨t, e1, h⟩ := opt_ok h
    obtain ⟨u, e2, hc, b, e3, h⟩ := opt_ok h
    obtain ⟨v, w, rfl, r1, r2⟩ := r.two
    exact ⟨v, w, t, u, b, rfl, clsVal_ok r2 e2, tyAt_ok hs r1 e1 hc, e3, k _ _ _ _ h (.refl _ _) hs .bl⟩
  · exact False.elim h
theorem le_isi (hg : Gl X "isinstance") (hm : X.mg "isinstance" = none) (ha : LA X (e :: es) tas) (he : starEach (e :: es) X.env = (false, eval e X.env) :: starEach es X.env := by rfl) (hpl : (backTo pos (starEach es X.env)).any (·.1) = false := by rfl) :
    LE X (.Call (.Name "isinstance" p) (e :: es) [] pos) (lCB (rIsiL X.K) tas) := le_cb call_isi up_isi hg hm (by decide +kernel) ha (by decide) (by decide) he hpl

def rMax2L : LRc := fun vs s Q => match vs with
  | [.int i, .int j] => Q (.int (if j > i then j else i)) s
  | _ => False
def rMin2L : LRc := fun vs s Q => match vs with
  | [.int i, .int j] => Q (.int (if j < i then j else i)) s
  | _ => False
theorem ints2 {lvs : List LV} {k : Int → Int → Prop} (h : match lvs with
  | [.int i, .int j] => k i j
  | _ => False) : ∃ i j, lvs = [.int i, .int j] ∧ k i j := by
  rcases lvs with _ | ⟨x, _ | ⟨c, _ | ⟨y, l⟩⟩⟩
  · exact h.elim
  · exact False.elim (by cases x <;> exact h)
  · cases x <;> cases c <;> first | exact h.elim | exact ⟨_, _, rfl, h⟩
  · exact False.elim (by cases x <;> cases c <;> exact h)
theorem up_max2 : UpC K (fun xs H Q => ∃ i j, xs = [.int i, .int j] ∧ Q (.int (if j > i then j else i)) H) rMax2L := fun vs s H lvs Q0 Q hs r h k => by
  obtain ⟨i, j, rfl, h⟩ := ints2 (k := fun i j => Q0 (.int (if j > i then j else i)) s) h
  obtain ⟨v, w, rfl, r1, r2⟩ := r.two
  exact ⟨i, j, by rw [r1.int', r2.int'], k _ _ _ _ h (.refl _ _) hs .int⟩
theorem up_min2 : UpC K (fun xs H Q => ∃ i j, xs = [.int i, .int j] ∧ Q (.int (if j < i then j else i)) H) rMin2L := fun vs s H lvs Q0 Q hs r h k => by
  obtain ⟨i, j, rfl, h⟩ := ints2 (k := fun i j => Q0 (.int (if j < i then j else i)) s) h
  obtain ⟨v, w, rfl, r1, r2⟩ := r.two
  exact ⟨i, j, by rw [r1.int', r2.int'], k _ _ _ _ h (.refl _ _) hs .int⟩
theorem le_max2 (hc : X.calm = true) (hg : Gl X "max") (hm : X.mg "max" = none) (ha : LA X (e :: es) tas) (he : starEach (e :: es) X.env = (false, eval e X.env) :: starEach es X.env := by rfl) (hpl : (backTo pos (starEach es X.env)).any (·.1) = false := by rfl) :
    LE X (.Call (.Name "max" p) (e :: es) [] pos) (lCB rMax2L tas) := le_cb (call_max2 hc) up_max2 hg hm (by decide +kernel) ha (by decide) (by decide) he hpl
theorem le_min2 (hc : X.calm = true) (hg : Gl X "min") (hm : X.mg "min" = none) (ha : LA X (e :: es) tas) (he : starEach (e :: es) X.env = (false, eval e X.env) :: starEach es X.env := by rfl) (hpl : (backTo pos (starEach es X.env)).any (·.1) = false := by rfl) :
    LE X (.Call (.Name "min" p) (e :: es) [] pos) (lCB rMin2L tas) := le_cb (call_min2 hc) up_min2 hg hm (by decide +kernel) ha (by decide) (by decide) he hpl
def rIntL : LRc := fun vs s Q => match vs with
  | [.int i] => Q (.int i) s
  | [.bl k] => Q (.int (if k then 1 else 0)) s
  | _ => False
theorem up_int1 : UpC K (fun xs H Q => (∃ i, xs = [.int i] ∧ Q (.int i) H) ∨ ∃ k, xs = [.bl k] ∧ Q (.int (if k then 1 else 0)) H) rIntL := fun vs s H lvs Q0 Q hs r h k => by
  rcases lvs with _ | ⟨x, _ | ⟨c, l⟩⟩
  · exact False.elim h
  · obtain ⟨v, rfl, r1⟩ := r.one
    cases x with
    | int i => exact .inl ⟨i, by rw [r1.int'], k _ _ _ _ h (.refl _ _) hs .int⟩
    | bl i => exact .inr ⟨i, by rw [r1.bl'], k _ _ _ _ h (.refl _ _) hs .int⟩
    | _ => exact False.elim h
  · exact False.elim (by cases x <;> exact h)
theorem le_int1 (hg : Gl X "int") (hm : X.mg "int" = none) (ha : LA X (e :: es) tas) (he : starEach (e :: es) X.env = (false, eval e X.env) :: starEach es X.env := by rfl) (hpl : (backTo pos (starEach es X.env)).any (·.1) = false := by rfl) :
    LE X (.Call (.Name "int" p) (e :: es) [] pos) (lCB rIntL tas) := le_cty call_int1 up_int1 hg hm PyProof.Rows.boot_int ha (by decide) (by decide) he hpl

def intsOf : List LV → Option (List Int)
  | [] => some []
  | .int i :: xs => (intsOf xs).map (i :: ·)
  | _ :: _ => none
theorem intsOf_ok : ∀ {xs : List LV} {ns : List Int}, intsOf xs = some ns → xs = ns.map .int
  | [], _, h => by cases h; rfl
  | x :: xs, ns, h => by
    cases x with
    | int i =>
      obtain ⟨r, e, rfl⟩ := Option.map_eq_some_iff.mp (show (intsOf xs).map (i :: ·) = some ns from h)
      rw [intsOf_ok e]
      rfl
    | _ => cases h
theorem intsOf_map (ns : List Int) : intsOf (ns.map .int) = some ns := by
  induction ns with
  | nil => rfl
  | cons n ns ih => simp [intsOf, ih]
def blsOf : List LV → Option (List Bool)
  | [] => some []
  | .bl i :: xs => (blsOf xs).map (i :: ·)
  | _ :: _ => none
theorem blsOf_ok : ∀ {xs : List LV} {ns : List Bool}, blsOf xs = some ns → xs = ns.map .bl
  | [], _, h => by cases h; rfl
  | x :: xs, ns, h => by
    cases x with
    | bl i =>
      obtain ⟨r, e, rfl⟩ := Option.map_eq_some_iff.mp (show (blsOf xs).map (i :: ·) = some ns from h)
      rw [blsOf_ok e]
      rfl
    | _ => cases h
theorem blsOf_map (ns : List Bool) : blsOf (ns.map .bl) = some ns := by
  induction ns with
  | nil => rfl
  | cons n ns ih => simp [blsOf, ih]
theorem RVs.of_bls : ∀ {ns : List Bool} {us : List V}, RVs K s H (ns.map LV.bl) us → us = ns.map V.bl
  | [], _, h => by simpa only [List.map_nil, RVs] using h
  | n :: ns, _, h => by
    simp only [List.map_cons, RVs, RV] at h
    obtain ⟨u, r, rfl, rfl, h2⟩ := h
    rw [RVs.of_bls h2]; rfl
def one1 (vs : List LV) (k : LV → Prop) : Prop := match vs with
  | [x] => k x
  | _ => False
theorem one1_ok {vs : List LV} {k : LV → Prop} (h : one1 vs k) : ∃ x, vs = [x] ∧ k x := by
  rcases vs with _ | ⟨x, _ | ⟨c, l⟩⟩
  · exact h.elim
  · exact ⟨x, rfl, h⟩
  · exact h.elim
/-- sorted of ints -/
def rSrtI : List LV → LS → (List LV → LS → Prop) → Prop := fun vs s Q => one1 vs fun x => opt (seqL x s) fun xs => opt (intsOf xs) fun ns => ∀ ns' : List Int, ns'.Perm ns → ns'.Pairwise (· ≤ ·) → Q (ns'.map .int) s
theorem up_srtI : UpCL K (rSortedI K) rSrtI := fun vs s H lvs Q0 Q hs r h k => by
  obtain ⟨x, rfl, h⟩ := one1_ok h
  obtain ⟨xs, e1, h⟩ := opt_ok h
  obtain ⟨ns, e2, h⟩ := opt_ok h
  obtain ⟨v, rfl, r1⟩ := r.one
  obtain ⟨q, us, rfl, hh, r2⟩ := seqL_ok hs r1 e1
  rw [intsOf_ok e2] at r2
  rw [r2.of_ints] at hh
  exact ⟨q, ns, rfl, SqL.of hh, fun ns' l pm so np => k _ _ _ _ (h ns' pm so) (.refl _ _) hs (.ints ns') l np⟩
theorem ll_sortedI (hg : Gl X "sorted") (hm : X.mg "sorted" = none) (ha : LA X (e :: es) tas) (he : starEach (e :: es) X.env = (false, eval e X.env) :: starEach es X.env := by rfl) (hpl : (backTo pos (starEach es X.env)).any (·.1) = false := by rfl) :
    LL X (.Call (.Name "sorted" p) (e :: es) [] pos) (lCBL rSrtI tas) := ll_cb cr_sortedI up_srtI hg hm (by decide +kernel) ha (by decide) (by decide) he hpl
/-- list of a list, of a tuple -/
def rLstOf : List LV → LS → (List LV → LS → Prop) → Prop := fun vs s Q => one1 vs fun x => match x with
  | .tup xs => Q xs s
  | _ => opt (seqR x s) fun xs => Q xs s
theorem up_lstOf : UpCL K (fun xs H Q => ∃ p ys, xs = [.ref p] ∧ (SqL K H p ys ∨ SqT K H p ys) ∧ ∀ l, H l = none → Q (.ref l) (upd H l (.lst ys))) rLstOf := fun vs s H lvs Q0 Q hs r h k => by
  obtain ⟨x, rfl, h⟩ := one1_ok h
  obtain ⟨v, rfl, r1⟩ := r.one
  have go : opt (seqR x s) (fun xs => Q0 xs s) → ∃ p ys, [v] = [V.ref p] ∧ (SqL K H p ys ∨ SqT K H p ys) ∧ ∀ l, H l = none → Q (.ref l) (upd H l (.lst ys)) := fun h => by
    obtain ⟨xs, e1, h⟩ := opt_ok h
    obtain ⟨q, us, rfl, hh, r2⟩ := seqR_ok hs r1 e1
    exact ⟨q, us, rfl, .inl hh, fun l np => k _ _ _ _ h (.refl _ _) hs r2 l np⟩
  cases x with
  | tup xs =>
    simp only [RV] at r1
    obtain ⟨a, us, rfl, _, hh, q⟩ := r1
    exact ⟨a, us, rfl, .inr (SqT.of hh), fun l np => k _ _ _ _ h (.refl _ _) hs q l np⟩
  | _ => exact go h
theorem ll_list (hg : Gl X "list") (hm : X.mg "list" = none) (ha : LA X (e :: es) tas) (he : starEach (e :: es) X.env = (false, eval e X.env) :: starEach es X.env := by rfl) (hpl : (backTo pos (starEach es X.env)).any (·.1) = false := by rfl) :
    LL X (.Call (.Name "list" p) (e :: es) [] pos) (lCBL rLstOf tas) := ll_cty call_list_of up_lstOf hg hm PyProof.Rows.boot_list ha (by decide) (by decide) he hpl
/-- list(range(a, b)) -/
def rgL (a b : Int) : List LV := (List.range (b - a).toNat).map fun i => LV.int (a + (i : Nat))
theorem RVs.rg (a b : Int) : RVs K s H (rgL a b) (rgV a b) := by
  have e : rgL a b = ((List.range (b - a).toNat).map fun i => a + ((i : Nat) : Int)).map LV.int := by unfold rgL; rw [List.map_map]; rfl
  have e2 : rgV a b = ((List.range (b - a).toNat).map fun i => a + ((i : Nat) : Int)).map V.int := by unfold rgV; rw [List.map_map]; rfl
  rw [e, e2]
  exact .ints _
def lLstRg2 (ta tb : LTE) : LTL := fun σ s Q E => ta σ s (fun x s1 => tb σ s1 (fun y s2 => match x, y with
  | .int i, .int j => RgOk i j ∧ Q (rgL i j) s2
  | _, _ => False) E) E
def lLstRg1 (ta : LTE) : LTL := fun σ s Q E => ta σ s (fun x s1 => match x with
  | .int j => RgOk 0 j ∧ Q (rgL 0 j) s1
  | _ => False) E
theorem ll_listRg2 {p2 pos2 : Pos} (hc : X.calm = true) (hg : Gl X "list") (hm : X.mg "list" = none) (hg2 : Gl X "range") (hm2 : X.mg "range" = none) (ha : LE X a ta) (hb : LE X b tb)
    (n1 : starEach [a, b] X.env = (false, eval a X.env) :: starEach [b] X.env := by rfl) (n2 : starEach [b] X.env = (false, eval b X.env) :: starEach [] X.env := by rfl)
    (na : starEach [.Call (.Name "range" p2) [a, b] [] pos2] X.env = (false, eval (.Call (.Name "range" p2) [a, b] [] pos2) X.env) :: starEach [] X.env := by rfl) (hq : (backTo pos2 (starEach [b] X.env)).any (·.1) = false := by rfl) :
    LL X (.Call (.Name "list" p) [.Call (.Name "range" p2) [a, b] [] pos2] [] pos) (lLstRg2 ta tb) := fun s0 H0 E tk =>
  (pe_listRg hc hg hm (prg_2 hg2 hm2 (ha s0 H0 E tk) (hb s0 H0 E tk) n1 n2 hq) na).imp fun σ H Q ⟨σl, s, Q0, E1, hσ, hs, st, hE, h, k⟩ => ⟨σl, s, _, E1, hσ, hs, st, hE, h, fun lx s1 x H1 h st1 hs1 rx =>
    ⟨σl, s1, _, E1, hσ.mono st1, hs1, st.trans st1, hE, h, fun ly s2 y H2 h st2 hs2 ry => by
      cases lx <;> try exact False.elim h
      cases ly <;> try exact False.elim h
      exact ⟨_, _, rx.int', ry.int', h.1, fun q nq => k _ _ _ _ h.2 (st1.trans st2) hs2 (.rg _ _) q nq⟩⟩⟩
theorem ll_listRg1 {p2 pos2 : Pos} (hc : X.calm = true) (hg : Gl X "list") (hm : X.mg "list" = none) (hg2 : Gl X "range") (hm2 : X.mg "range" = none) (ha : LE X a ta)
    (n1 : starEach [a] X.env = (false, eval a X.env) :: starEach [] X.env := by rfl)
    (na : starEach [.Call (.Name "range" p2) [a] [] pos2] X.env = (false, eval (.Call (.Name "range" p2) [a] [] pos2) X.env) :: starEach [] X.env := by rfl) :
    LL X (.Call (.Name "list" p) [.Call (.Name "range" p2) [a] [] pos2] [] pos) (lLstRg1 ta) := fun s0 H0 E tk =>
  (pe_listRg hc hg hm (prg_1 hg2 hm2 (ha s0 H0 E tk) n1) na).imp fun σ H Q ⟨σl, s, Q0, E1, hσ, hs, st, hE, h, k⟩ => ⟨σl, s, _, E1, hσ, hs, st, hE, h, fun lx s1 x H1 h st1 hs1 rx => by
      cases lx <;> try exact False.elim h
      exact ⟨_, rx.int', h.1, fun q nq => k _ _ _ _ h.2 st1 hs1 (.rg _ _) q nq⟩⟩
def rAllL : LRc := fun vs s Q => one1 vs fun x => opt (seqL x s) fun xs => opt (blsOf xs) fun bs => Q (.bl (bs.all id)) s
def rAnyL : LRc := fun vs s Q => one1 vs fun x => opt (seqL x s) fun xs => opt (blsOf xs) fun bs => Q (.bl (bs.any id)) s
theorem up_all : UpC K (L2.rAll K) rAllL := fun vs s H lvs Q0 Q hs r h k => by
  obtain ⟨x, rfl, h⟩ := one1_ok h
  obtain ⟨xs, e1, h⟩ := opt_ok h
  obtain ⟨ns, e2, h⟩ := opt_ok h
  obtain ⟨v, rfl, r1⟩ := r.one
  obtain ⟨q, us, rfl, hh, r2⟩ := seqL_ok hs r1 e1
  rw [blsOf_ok e2] at r2
  rw [r2.of_bls] at hh
  exact ⟨q, ns, rfl, SqL.of hh, k _ _ _ _ h (.refl _ _) hs .bl⟩
theorem up_any : UpC K (L2.rAny K) rAnyL := fun vs s H lvs Q0 Q hs r h k => by
  obtain ⟨x, rfl, h⟩ := one1_ok h
  obtain ⟨xs, e1, h⟩ := opt_ok h
  obtain ⟨ns, e2, h⟩ := opt_ok h
  obtain ⟨v, rfl, r1⟩ := r.one
  obtain ⟨q, us, rfl, hh, r2⟩ := seqL_ok hs r1 e1
  rw [blsOf_ok e2] at r2
  rw [r2.of_bls] at hh
  exact ⟨q, ns, rfl, SqL.of hh, k _ _ _ _ h (.refl _ _) hs .bl⟩
theorem le_all (hc : X.calm = true) (hg : Gl X "all") (hm : X.mg "all" = none) (ha : LA X (e :: es) tas) (he : starEach (e :: es) X.env = (false, eval e X.env) :: starEach es X.env := by rfl) (hpl : (backTo pos (starEach es X.env)).any (·.1) = false := by rfl) :
    LE X (.Call (.Name "all" p) (e :: es) [] pos) (lCB rAllL tas) := le_cb (cr_all hc) up_all hg hm (by decide +kernel) ha (by decide) (by decide) he hpl
theorem le_any (hc : X.calm = true) (hg : Gl X "any") (hm : X.mg "any" = none) (ha : LA X (e :: es) tas) (he : starEach (e :: es) X.env = (false, eval e X.env) :: starEach es X.env := by rfl) (hpl : (backTo pos (starEach es X.env)).any (·.1) = false := by rfl) :
    LE X (.Call (.Name "any" p) (e :: es) [] pos) (lCB rAnyL tas) := le_cb (cr_any hc) up_any hg hm (by decide +kernel) ha (by decide) (by decide) he hpl
/-- max, min of a list of ints -/
def rMaxL : LRc := fun vs s Q => one1 vs fun x => opt (seqL x s) fun xs => opt (intsOf xs) fun ns => 0 < ns.length ∧ ∀ m, m ∈ ns → (∀ y, y ∈ ns → y ≤ m) → Q (.int m) s
def rMinL : LRc := fun vs s Q => one1 vs fun x => opt (seqL x s) fun xs => opt (intsOf xs) fun ns => 0 < ns.length ∧ ∀ m, m ∈ ns → (∀ y, y ∈ ns → m ≤ y) → Q (.int m) s
theorem up_max : UpC K (L2.rMax K) rMaxL := fun vs s H lvs Q0 Q hs r h k => by
  obtain ⟨x, rfl, h⟩ := one1_ok h
  obtain ⟨xs, e1, h⟩ := opt_ok h
  obtain ⟨ns, e2, h0, h⟩ := opt_ok h
  obtain ⟨v, rfl, r1⟩ := r.one
  obtain ⟨q, us, rfl, hh, r2⟩ := seqL_ok hs r1 e1
  rw [intsOf_ok e2] at r2
  rw [r2.of_ints] at hh
  exact ⟨q, ns, rfl, SqL.of hh, h0, fun m hm hle => k _ _ _ _ (h m hm hle) (.refl _ _) hs .int⟩
theorem up_min : UpC K (L2.rMin K) rMinL := fun vs s H lvs Q0 Q hs r h k => by
  obtain ⟨x, rfl, h⟩ := one1_ok h
  obtain ⟨xs, e1, h⟩ := opt_ok h
  obtain ⟨ns, e2, h0, h⟩ := opt_ok h
  obtain ⟨v, rfl, r1⟩ := r.one
  obtain ⟨q, us, rfl, hh, r2⟩ := seqL_ok hs r1 e1
  rw [intsOf_ok e2] at r2
  rw [r2.of_ints] at hh
  exact ⟨q, ns, rfl, SqL.of hh, h0, fun m hm hle => k _ _ _ _ (h m hm hle) (.refl _ _) hs .int⟩
theorem le_max (hc : X.calm = true) (hg : Gl X "max") (hm : X.mg "max" = none) (ha : LA X (e :: es) tas) (he : starEach (e :: es) X.env = (false, eval e X.env) :: starEach es X.env := by rfl) (hpl : (backTo pos (starEach es X.env)).any (·.1) = false := by rfl) :
    LE X (.Call (.Name "max" p) (e :: es) [] pos) (lCB rMaxL tas) := le_cb (cr_max hc) up_max hg hm (by decide +kernel) ha (by decide) (by decide) he hpl
theorem le_min (hc : X.calm = true) (hg : Gl X "min") (hm : X.mg "min" = none) (ha : LA X (e :: es) tas) (he : starEach (e :: es) X.env = (false, eval e X.env) :: starEach es X.env := by rfl) (hpl : (backTo pos (starEach es X.env)).any (·.1) = false := by rfl) :
    LE X (.Call (.Name "min" p) (e :: es) [] pos) (lCB rMinL tas) := le_cb (cr_min hc) up_min hg hm (by decide +kernel) ha (by decide) (by decide) he hpl

abbrev LRm := LV → List LV → LS → LVK → Prop
def UpM (K : PySem.W.Frag) (r : V → List V → Hp → VK → Prop) (rl : LRm) : Prop := ∀ x vs s H lx lvs Q0 Q, RelS K s H → RV K s H lx x → RVs K s H lvs vs → rl lx lvs s Q0 →
  (∀ lv s' v H', Q0 lv s' → Step s H s' H' → RelS K s' H' → RV K s' H' lv v → Q v H') → r x vs H Q
def lBML (r : LRm) (to : LTE) (t : LTA) : LTE := fun σ s Q E => to σ s (fun x s1 => (seqL x s1).isSome = true ∧ t σ s1 (fun vs s2 => r x vs s2 Q) E) E
variable {name : Str} {apos cpos : Pos} {id : String} {r : V → List V → Hp → VK → Prop} {rl : LRm}
theorem isSeq_ty {x : LV} {v : V} (hs : RelS K s H) (rx : RV K s H x v) (h : (seqL x s).isSome = true) : tyV K "list" v H := by
  obtain ⟨xs, e⟩ := Option.isSome_iff_exists.mp h
  obtain ⟨a, us, rfl, hh, _⟩ := seqL_ok hs rx e
  exact .inl ⟨rfl, us, SqL.of hh⟩
theorem le_bml (slot : Slot "list" name id) (hty : typeOf (.builtin id) = pure (.type "method_descriptor")) (hm : MtR X id r) (u : UpM X.K r rl) (ho : LE X o to) (ha : LA X (e :: es) tas)
    (hbase : attributeBase o name X.env (eval o X.env) = eval o X.env := by rfl)
    (hfew : ((backTo cpos (starEach (e :: es) X.env)).all (fun x => !x.1) && (backToKw cpos (keywordEach [] X.env)).all (fun x => x.1.isSome)
      && decide ((e :: es).length + ([] : List Keyword).length + (if ([] : List Keyword).isEmpty then 0 else 1) < 30)) = true := by rfl)
    (hline : (apos.endLine == cpos.line) = true := by rfl) (hs : starEach (e :: es) X.env = (false, eval e X.env) :: starEach es X.env := by rfl) (hplain : (backTo cpos (starEach es X.env)).any (·.1) = false := by rfl) :
    LE X (.Call (.Attribute o name apos) (e :: es) [] cpos) (lBML rl to tas) := fun s0 H0 E tk => (pe_bm PySem.F.plainAttrs_list slot hty hm (ho s0 H0 E tk) (ha s0 H0 E tk) hbase hfew hline hs hplain).imp fun σ H Q ⟨σl, s, Q0, E1, hσ, hs, st, hE, h, k⟩ =>
  ⟨σl, s, _, E1, hσ, hs, st, hE, h, fun lx s1 x H1 h st1 hs1 rx => ⟨isSeq_ty hs1 rx h.1, σl, s1, _, E1, hσ.mono st1, hs1, st.trans st1, hE, h.2, fun lvs s2 vs H2 h st2 hs2 rs => u x vs s2 H2 lx lvs Q0 Q hs2 (rx.mono st2) rs h fun lv s3 v H3 q st3 => k lv s3 v H3 q ((st1.trans st2).trans st3)⟩⟩
theorem le_bml0 (slot : Slot "list" name id) (hty : typeOf (.builtin id) = pure (.type "method_descriptor")) (hm : MtR X id r) (u : UpM X.K r rl) (ho : LE X o to)
    (hbase : attributeBase o name X.env (eval o X.env) = eval o X.env := by rfl) (hline : (apos.endLine == cpos.line) = true := by rfl) :
    LE X (.Call (.Attribute o name apos) [] [] cpos) (lBML rl to lNil) := fun s0 H0 E tk => (pe_bm0 PySem.F.plainAttrs_list slot hty hm (ho s0 H0 E tk) hbase hline).imp fun σ H Q ⟨σl, s, Q0, E1, hσ, hs, st, hE, h, k⟩ =>
  ⟨σl, s, _, E1, hσ, hs, st, hE, h, fun lx s1 x H1 h st1 hs1 rx => ⟨isSeq_ty hs1 rx h.1, u x [] s1 H1 lx [] Q0 Q hs1 rx .nil h.2 fun lv s3 v H3 q st3 => k lv s3 v H3 q (st1.trans st3)⟩⟩
/-- the list in the store at a -/
def atL (x : LV) (s : LS) (k : Addr → List LV → Prop) : Prop := match x with
  | .ref a => (match s a with
    | some (.lst xs) => k a xs
    | _ => False)
  | _ => False
theorem atL_ok {x : LV} {s : LS} {k : Addr → List LV → Prop} (h : atL x s k) : ∃ a xs, x = .ref a ∧ s a = some (.lst xs) ∧ k a xs := by
  cases x with
  | ref a =>
    simp only [atL] at h
    split at h
    · next xs e => exact ⟨a, xs, rfl, e, h⟩
    · exact h.elim
  | _ => exact h.elim
def rAppL : LRm := fun x vs s Q => one1 vs fun y => atL x s fun a xs => xs.length < 16777216 ∧ Q .non (put s a (.lst (xs ++ [y])))
theorem up_app : UpM K rAppend rAppL := fun x vs s H lx lvs Q0 Q hs rx rs h k => by
  obtain ⟨y, rfl, h⟩ := one1_ok h
  obtain ⟨a, xs, rfl, e, hl, h⟩ := atL_ok h
  obtain ⟨v, rfl, r1⟩ := rs.one
  obtain ⟨us, hh, q⟩ := hs.lst e
  have nn : s a ≠ none ∨ H a = none := .inl (by rw [e]; simp)
  exact ⟨a, us, v, rx.ref', rfl, hh, by rw [q.length, sizeLine_eq]; exact hl, k _ _ _ _ h (.put nn) (hs.put nn ⟨_, upd_same, (q.append (.cons r1 .nil)).mono (.put nn)⟩) .non⟩
theorem le_append (ho : LE X o to) (ha : LA X (e :: es) tas)
    (hbase : attributeBase o "append" X.env (eval o X.env) = eval o X.env := by rfl)
    (hfew : ((backTo cpos (starEach (e :: es) X.env)).all (fun x => !x.1) && (backToKw cpos (keywordEach [] X.env)).all (fun x => x.1.isSome)
      && decide ((e :: es).length + ([] : List Keyword).length + (if ([] : List Keyword).isEmpty then 0 else 1) < 30)) = true := by rfl)
    (hline : (apos.endLine == cpos.line) = true := by rfl) (hs : starEach (e :: es) X.env = (false, eval e X.env) :: starEach es X.env := by rfl) (hplain : (backTo cpos (starEach es X.env)).any (·.1) = false := by rfl) :
    LE X (.Call (.Attribute o "append" apos) (e :: es) [] cpos) (lBML rAppL to tas) := le_bml PySem.F.slot_list_append PySem.F.type_list_append mt_append up_app ho ha hbase hfew hline hs hplain
def rClrL : LRm := fun x vs s Q => vs = [] ∧ atL x s fun a xs => Q .non (put s a (.lst []))
theorem up_clear : UpM K rClear rClrL := fun x vs s H lx lvs Q0 Q hs rx rs ⟨h0, h⟩ k => by
  subst h0
  obtain ⟨a, xs, rfl, e, h⟩ := atL_ok h
  simp only [RVs] at rs
  obtain ⟨us, hh, q⟩ := hs.lst e
  have nn : s a ≠ none ∨ H a = none := .inl (by rw [e]; simp)
  exact ⟨a, us, rx.ref', rs, hh, k _ _ _ _ h (.put nn) (hs.put nn ⟨_, upd_same, .nil⟩) .non⟩
theorem le_clear (ho : LE X o to) (hbase : attributeBase o "clear" X.env (eval o X.env) = eval o X.env := by rfl) (hline : (apos.endLine == cpos.line) = true := by rfl) :
    LE X (.Call (.Attribute o "clear" apos) [] [] cpos) (lBML rClrL to lNil) := le_bml0 PySem.F.slot_list_clear PySem.F.type_list_clear mt_clear up_clear ho hbase hline
def rPopL : LRm := fun x vs s Q => vs = [] ∧ atL x s fun a xs => opt (xs[xs.length - 1]?) fun y => Q y (put s a (.lst xs.dropLast))
theorem RVs.dropLast {xs : List LV} {us : List V} (h : RVs K s H xs us) : RVs K s H xs.dropLast us.dropLast := by
  rw [List.dropLast_eq_take, List.dropLast_eq_take, h.length]
  exact h.take _
theorem up_pop : UpM K rPop rPopL := fun x vs s H lx lvs Q0 Q hs rx rs ⟨h0, h⟩ k => by
  subst h0
  obtain ⟨a, xs, rfl, e, h⟩ := atL_ok h
  obtain ⟨y, ey, h⟩ := opt_ok h
  simp only [RVs] at rs
  obtain ⟨us, hh, q⟩ := hs.lst e
  obtain ⟨u, eu, ru⟩ := q.get ey
  have nn : s a ≠ none ∨ H a = none := .inl (by rw [e]; simp)
  exact ⟨a, us, u, rx.ref', rs, hh, by rw [q.length]; exact eu, k _ _ _ _ h (.put nn) (hs.put nn ⟨_, upd_same, q.dropLast.mono (.put nn)⟩) (ru.mono (.put nn))⟩
theorem le_pop (ho : LE X o to) (hbase : attributeBase o "pop" X.env (eval o X.env) = eval o X.env := by rfl) (hline : (apos.endLine == cpos.line) = true := by rfl) :
    LE X (.Call (.Attribute o "pop" apos) [] [] cpos) (lBML rPopL to lNil) := le_bml0 PySem.F.slot_list_pop PySem.F.type_list_pop mt_pop up_pop ho hbase hline
def rExtL : LRm := fun x vs s Q => one1 vs fun y => opt (seqL y s) fun ys => atL x s fun a xs => xs.length + ys.length ≤ 16777216 ∧ Q .non (put s a (.lst (xs ++ ys)))
theorem up_ext : UpM K rExtend rExtL := fun x vs s H lx lvs Q0 Q hs rx rs h k => by
  obtain ⟨y, rfl, h⟩ := one1_ok h
  obtain ⟨ys, e2, h⟩ := opt_ok h
  obtain ⟨a, xs, rfl, e, hl, h⟩ := atL_ok h
  obtain ⟨v, rfl, r1⟩ := rs.one
  obtain ⟨us, hh, q⟩ := hs.lst e
  obtain ⟨b, ws, rfl, hh2, q2⟩ := seqL_ok hs r1 e2
  have nn : s a ≠ none ∨ H a = none := .inl (by rw [e]; simp)
  exact ⟨a, b, us, ws, rx.ref', rfl, hh, hh2, by rw [q.length, q2.length, sizeLine_eq]; exact hl, k _ _ _ _ h (.put nn) (hs.put nn ⟨_, upd_same, (q.append q2).mono (.put nn)⟩) .non⟩
theorem le_extend (ho : LE X o to) (ha : LA X (e :: es) tas)
    (hbase : attributeBase o "extend" X.env (eval o X.env) = eval o X.env := by rfl)
    (hfew : ((backTo cpos (starEach (e :: es) X.env)).all (fun x => !x.1) && (backToKw cpos (keywordEach [] X.env)).all (fun x => x.1.isSome)
      && decide ((e :: es).length + ([] : List Keyword).length + (if ([] : List Keyword).isEmpty then 0 else 1) < 30)) = true := by rfl)
    (hline : (apos.endLine == cpos.line) = true := by rfl) (hs : starEach (e :: es) X.env = (false, eval e X.env) :: starEach es X.env := by rfl) (hplain : (backTo cpos (starEach es X.env)).any (·.1) = false := by rfl) :
    LE X (.Call (.Attribute o "extend" apos) (e :: es) [] cpos) (lBML rExtL to tas) := le_bml PySem.F.slot_list_extend PySem.F.type_list_extend mt_extend up_ext ho ha hbase hfew hline hs hplain
end
end L3

namespace L3
open PySem PySem.Spec L2
section
variable {X : Cx} {K : PySem.W.Frag} {s : LS} {H : Hp} {a b e o i : Expr} {es : List Expr} {pos : Pos} {ta tb te to ti : LTE} {tas : LTA}
variable {x : Str} {p : Pos}
theorem set_dict (hu : X.A.units + 1 < cLine) : PSet X (fun o i v H Q => ∃ a H', o = .ref a ∧ DPut H a i v H' ∧ Q H') := by
  intro pins s σ H o i v ov iv u Q I ro ri rv h
  obtain ⟨a, H', rfl, g, q⟩ := h
  cases ro
  exact d_setItem hu I g ri rv fun s' I' => ⟨H', I', q⟩
theorem PSet.or {t t' : TSet} (h : PSet X t) (h' : PSet X t') : PSet X (fun o i v H Q => t o i v H Q ∨ t' o i v H Q) := by
  intro pins s σ H o i v ov iv u Q I ro ri rv q
  rcases q with q | q
  · exact h pins s σ H o i v ov iv u Q I ro ri rv q
  · exact h' pins s σ H o i v ov iv u Q I ro ri rv q
def rSetL (x y v : LV) (s : LS) (Q : LS → Prop) : Prop := match x with
  | .ref a => (match s a, y with
    | some (.lst xs), .int k => opt (ixN xs.length k) fun j => Q (put s a (.lst (xs.set j v)))
    | some (.dK kvs), .int k => kvs.length < 16777216 ∧ Q (put s a (.dK (putD kvs (.inl k) v)))
    | some (.dK kvs), .str k => kvs.length < 16777216 ∧ Q (put s a (.dK (putD kvs (.inr k) v)))
    | some (.dT kvs), .tup ks => opt (keysL ks) fun k => kvs.length < 16777216 ∧ Q (put s a (.dT (putD kvs k v)))
    | _, _ => False)
  | _ => False
theorem RVd.any : ∀ {kvs : List (Key × LV)} {us : List (Key × V)} (k : Key), RVd K s H kvs us → (us.any fun p => decide (p.1 = k)) = (kvs.any fun p => decide (p.1 = k))
  | [], _, _, h => by cases h; rfl
  | (j, y) :: kvs, _, k, h => by
    obtain ⟨u, r, rfl, _, h2⟩ := h
    simp only [List.any_cons, RVd.any k h2]
theorem RVd.map : ∀ {kvs : List (Key × LV)} {us : List (Key × V)} (k : Key) {x : LV} {v : V}, RVd K s H kvs us → RV K s H x v → RVd K s H (kvs.map fun p => if p.1 = k then (p.1, x) else p) (us.map fun p => if p.1 = k then (p.1, v) else p)
  | [], _, _, _, _, h, _ => by cases h; rfl
  | (j, y) :: kvs, _, k, x, v, h, g => by
    obtain ⟨u, r, rfl, h1, h2⟩ := h
    simp only [List.map_cons]
    by_cases e : j = k
    · simp only [if_pos e]; exact ⟨v, _, rfl, g, RVd.map k h2 g⟩
    · simp only [if_neg e]; exact ⟨u, _, rfl, h1, RVd.map k h2 g⟩
theorem RVd.snoc : ∀ {kvs : List (Key × LV)} {us : List (Key × V)} (k : Key) {x : LV} {v : V}, RVd K s H kvs us → RV K s H x v → RVd K s H (kvs ++ [(k, x)]) (us ++ [(k, v)])
  | [], _, _, _, v, h, g => by cases h; exact ⟨v, [], rfl, g, rfl⟩
  | (j, y) :: kvs, _, k, x, v, h, g => by
    obtain ⟨u, r, rfl, h1, h2⟩ := h
    exact ⟨u, _, rfl, h1, RVd.snoc k h2 g⟩
theorem RVd.put {kvs : List (Key × LV)} {us : List (Key × V)} (k : Key) {x : LV} {v : V} (h : RVd K s H kvs us) (g : RV K s H x v) : RVd K s H (putD kvs k x) (putK us k v) := by
  unfold putD putK
  rw [h.any k]
  split
  · exact h.map k g
  · exact h.snoc k g
theorem RVk.any : ∀ {kvs : List (List Key × LV)} {us : List (List Key × V)} (k : List Key), RVk K s H kvs us → (us.any fun p => decide (p.1 = k)) = (kvs.any fun p => decide (p.1 = k))
  | [], _, _, h => by simp only [RVk] at h; subst h; rfl
  | (j, y) :: kvs, _, k, h => by
    simp only [RVk] at h
    obtain ⟨u, r, rfl, _, h2⟩ := h
    simp only [List.any_cons, RVk.any k h2]
theorem RVk.map : ∀ {kvs : List (List Key × LV)} {us : List (List Key × V)} (k : List Key) {x : LV} {v : V}, RVk K s H kvs us → RV K s H x v → RVk K s H (kvs.map fun p => if p.1 = k then (p.1, x) else p) (us.map fun p => if p.1 = k then (p.1, v) else p)
  | [], _, _, _, _, h, _ => by simp only [RVk] at h; subst h; simp only [List.map_nil, RVk]
  | (j, y) :: kvs, _, k, x, v, h, g => by
    simp only [RVk] at h
    obtain ⟨u, r, rfl, h1, h2⟩ := h
    simp only [List.map_cons]
    by_cases e : j = k
    · simp only [if_pos e, RVk]; exact ⟨v, _, rfl, g, RVk.map k h2 g⟩
    · simp only [if_neg e, RVk]; exact ⟨u, _, rfl, h1, RVk.map k h2 g⟩
theorem RVk.snoc : ∀ {kvs : List (List Key × LV)} {us : List (List Key × V)} (k : List Key) {x : LV} {v : V}, RVk K s H kvs us → RV K s H x v → RVk K s H (kvs ++ [(k, x)]) (us ++ [(k, v)])
  | [], _, _, _, v, h, g => by simp only [RVk] at h; subst h; simp only [List.nil_append, RVk]; exact ⟨v, [], rfl, g, rfl⟩
  | (j, y) :: kvs, _, k, x, v, h, g => by
    simp only [RVk] at h
    obtain ⟨u, r, rfl, h1, h2⟩ := h
    simp only [List.cons_append, RVk]
    exact ⟨u, _, rfl, h1, RVk.snoc k h2 g⟩
theorem RVk.put {kvs : List (List Key × LV)} {us : List (List Key × V)} (k : List Key) {x : LV} {v : V} (h : RVk K s H kvs us) (g : RV K s H x v) : RVk K s H (putD kvs k x) (putK us k v) := by
  unfold putD putK
  rw [h.any k]
  split
  · exact h.map k g
  · exact h.snoc k g
theorem up_set {x y v : V} {lx ly lv : LV} {Q0 : LS → Prop} {Q : Hp → Prop} (hs : RelS K s H) (rx : RV K s H lx x) (ry : RV K s H ly y) (rv : RV K s H lv v) (h : rSetL lx ly lv s Q0) (k : ∀ s' H', Q0 s' → Step s H s' H' → RelS K s' H' → Q H') :
    L2.rSetL x y v H Q ∨ ∃ a H', x = .ref a ∧ DPut H a y v H' ∧ Q H' := by
  cases lx with
  | ref a =>
    simp only [rSetL] at h
    split at h
    · next xs n e =>
      obtain ⟨j, ej, h⟩ := opt_ok h
      obtain ⟨us, hh, q⟩ := hs.lst e
      have nn : s a ≠ none ∨ H a = none := .inl (by rw [e]; simp)
      exact .inl ⟨a, us, n, j, rx.ref', ry.int', hh, by rw [q.length]; exact ej, k _ _ h (.put nn) (hs.put nn ⟨_, upd_same, (q.set j rv).mono (.put nn)⟩)⟩
    · next kvs n e =>
      obtain ⟨us, hh, q⟩ := hs a _ e
      have nn : s a ≠ none ∨ H a = none := .inl (by rw [e]; simp)
      refine .inr ⟨a, _, rx.ref', ?_, k _ _ h.2 (.put nn) (hs.put nn ⟨_, upd_same, (q.put (.inl n) rv).mono (.put nn)⟩)⟩
      rw [ry.int']
      exact DPut.k (k := .inl n) hh (by rw [q.length, sizeLine_eq]; exact h.1)
    · next kvs n e =>
      obtain ⟨us, hh, q⟩ := hs a _ e
      have nn : s a ≠ none ∨ H a = none := .inl (by rw [e]; simp)
      refine .inr ⟨a, _, rx.ref', ?_, k _ _ h.2 (.put nn) (hs.put nn ⟨_, upd_same, (q.put (.inr n) rv).mono (.put nn)⟩)⟩
      rw [ry.str']
      exact DPut.k (k := .inr n) hh (by rw [q.length, sizeLine_eq]; exact h.1)
    · next kvs ks e =>
      obtain ⟨kk, ek, hl, h⟩ := opt_ok h
      obtain ⟨us, hh, q⟩ := hs a _ e
      have nn : s a ≠ none ∨ H a = none := .inl (by rw [e]; simp)
      simp only [RV] at ry
      obtain ⟨t, ts, rfl, _, ht, rt⟩ := ry
      rw [keysL_ok ek rt] at ht
      exact .inr ⟨a, _, rx.ref', DPut.t hh ht (by rw [q.length, sizeLine_eq]; exact hl), k _ _ h (.put nn) (hs.put nn ⟨_, upd_same, (q.put kk rv).mono (.put nn)⟩)⟩
    · exact h.elim
  | _ => exact False.elim h
def lgSub (to ti : LTE) : LTG := fun v σ s Q E => to σ s (fun o s1 => ti σ s1 (fun i s2 => rSetL o i v s2 fun s3 => Q σ s3) E) E
theorem lg_sub (hu : X.A.units + 1 < cLine) (ho : LE X o to) (hi : LE X i ti) (ha : ∀ v, assign (.Subscript o i pos) X.env v = (do
      let ov ← holding [v] (eval o X.env)
      let iv ← holding [v, ov] (eval i X.env)
      standAt pos
      holding [v, ov, iv] (setItem ov iv v)
      release [v, ov, iv] []) := by intro _; rfl) : LG X (.Subscript o i pos) (lgSub to ti) := fun s0 H0 E tk =>
  (pg_sub (ho s0 H0 E tk) (hi s0 H0 E tk) (PSet.or set_list (set_dict hu)) ha).imp fun v σ H Q ⟨lv, σl, s, Q0, E1, hσ, hs, st, rv, hE, h, k⟩ => ⟨σl, s, _, E1, hσ, hs, st, hE, h, fun lx s1 x H1 h st1 hs1 rx =>
    ⟨σl, s1, _, E1, hσ.mono st1, hs1, st.trans st1, hE, h, fun ly s2 y H2 h st2 hs2 ry => up_set hs2 (rx.mono st2) ry (rv.mono (st1.trans st2)) h fun s3 H3 q st3 hs3 =>
      k _ _ _ _ q ((st1.trans st2).trans st3) hs3 (hσ.mono ((st1.trans st2).trans st3))⟩⟩

def lPairs (P : Addr) : List (Str × LTE) → LSt → LS → (List (Key × LV) → LS → Prop) → LX → Prop
  | [], _, s, Q, _ => Q [] s
  | (k, t) :: r, σ, s, Q, E => t σ s (fun v s1 => lPairs P r σ s1 (fun ps s2 => Q ((.inr k, v) :: ps) s2) E) E
/-- pairs with written texts as keys -/
structure LPP (X : Cx) (pos : Pos) (keys : List (Option Expr)) (values : List Expr) (trs : List (Str × LTE)) : Prop where
  run : ∀ s0 H0 E, Takes X (WL X.K s0 H0 E) → PPs X pos keys values (trs.map fun p => (tC (.str p.1), up X.K s0 H0 E p.2))
theorem lpp_nil : LPP X pos [] [] [] := ⟨fun s0 H0 E tk => pps_nil⟩
theorem lpp_cons {z : Str} {j : Nat} {p2 : Pos} {ks : List (Option Expr)} {vs : List Expr} {trs : List (Str × LTE)} (hv : LE X e te) (hr : LPP X pos ks vs trs) : LPP X pos (some (.Constant (.str z) j p2) :: ks) (e :: vs) ((z, te) :: trs) :=
  ⟨fun s0 H0 E tk => pps_cons pe_str (hv s0 H0 E tk) (hr.run s0 H0 E tk)⟩
def lDisK (trs : List (Str × LTE)) : LTE := fun σ s Q E => ∀ p, s p = none → lPairs p trs σ (put s p (.dK [])) (fun kvs s2 => s2 p = some (.dK []) ∧ kvs.length ≤ 15 ∧ (kvs.map (·.1)).Nodup ∧ Q (.ref p) (put s2 p (.dK kvs))) E
theorem pairs_up {s0 : LS} {H0 : Hp} {E : LXS} {σ : St} {σl : LSt} {E1 : LX} {P : Addr} : ∀ {trs : List (Str × LTE)} {s : LS} {H : Hp} {Q0 : List (Key × LV) → LS → Prop} {Q : List (V × V) → Hp → Prop}, RSt K s H σl σ → RelS K s H → Step s0 H0 s H → (∀ C s', E1 C s' → E C σl s') →
    lPairs P trs σl s Q0 E1 → (∀ kvs s' us H', Q0 kvs s' → Step s H s' H' → RelS K s' H' → RVd K s' H' kvs us → Q (us.map fun p => (kV p.1, p.2)) H') → tPairs (trs.map fun p => (tC (.str p.1), up K s0 H0 E p.2)) σ H Q
  | [], s, H, Q0, Q, hσ, hs, st, hE, h, k => k _ _ [] _ h (.refl _ _) hs rfl
  | (z, t) :: r, s, H, Q0, Q, hσ, hs, st, hE, h, k => by
    refine ⟨σl, s, _, E1, hσ, hs, st, hE, h, fun lv s1 v H1 h st1 hs1 rv => ?_⟩
    exact pairs_up (trs := r) (hσ.mono st1) hs1 (st.trans st1) hE h fun kvs s2 us H2 q st2 hs2 r2 => k _ s2 ((.inr z, v) :: us) H2 q (st1.trans st2) hs2 ⟨v, us, rfl, rv.mono st2, r2⟩
theorem putK_snoc : ∀ {us : List (Key × V)} {k : Key} {v : V}, (∀ p ∈ us, p.1 ≠ k) → putK us k v = us ++ [(k, v)] := fun {us k v} h => by
  unfold putK
  rw [if_neg]
  intro e
  obtain ⟨p, hp, q⟩ := List.any_eq_true.mp e
  exact h p hp (of_decide_eq_true q)
theorem mergeK_app : ∀ (us acc : List (Key × V)), ((acc ++ us).map (·.1)).Nodup → mergeK acc us = acc ++ us
  | [], acc, _ => by simp [mergeK]
  | (k, v) :: us, acc, nd => by
    have e : mergeK acc ((k, v) :: us) = mergeK (putK acc k v) us := rfl
    rw [e, putK_snoc, mergeK_app us (acc ++ [(k, v)]) (by simpa using nd)]
    · simp
    · intro p hp z
      simp only [List.map_append, List.map_cons, List.nodup_append] at nd
      exact nd.2.2 p.1 (List.mem_map.mpr ⟨p, hp, rfl⟩) k (by simp) z
theorem mergeK_nd {us : List (Key × V)} (nd : (us.map (·.1)).Nodup) : mergeK [] us = us := by
  rw [mergeK_app us [] (by simpa using nd)]
  rfl
theorem RVd.keys : ∀ {kvs : List (Key × LV)} {us : List (Key × V)}, RVd K s H kvs us → us.map (·.1) = kvs.map (·.1)
  | [], _, h => by cases h; rfl
  | (j, y) :: kvs, _, h => by
    obtain ⟨u, r, rfl, _, h2⟩ := h
    simp [RVd.keys h2]
theorem le_disK {keys : List (Option Expr)} {values : List Expr} {trs : List (Str × LTE)} (h : LPP X pos keys values trs) (hall : keys.all (·.isSome) = true) (hl : keys.length = values.length) (h0 : keys ≠ []) (h15 : keys.length ≤ 15) :
    LE X (.Dict keys values pos) (lDisK trs) := fun s0 H0 E tk => (pe_disp (h.run s0 H0 E tk) hall hl h0 h15).imp fun σ H Q ⟨σl, s, Q0, E1, hσ, hs, st, hE, h, k⟩ => fun p np => by
  have st1 : Step s H (put s p (.dK [])) (upd H p (.dK [])) := .put (.inr np)
  have hs1 : RelS X.K (put s p (.dK [])) (upd H p (.dK [])) := hs.put (.inr np) ⟨[], upd_same, rfl⟩
  refine pairs_up (hσ.mono st1) hs1 (st.trans st1) hE (h p (hs.free np)) fun kvs s2 us H2 q st2 hs2 r2 => ?_
  obtain ⟨e, hl2, nd, q⟩ := q
  obtain ⟨ws, hh, r0⟩ := hs2 p _ e
  cases r0
  have nn : s2 p ≠ none ∨ H2 p = none := .inl (by rw [e]; simp)
  refine ⟨hh, us, rfl, ?_, ?_⟩
  · rw [r2.length]; exact hl2
  · rw [mergeK_nd (by rw [r2.keys]; exact nd)]
    exact k _ _ _ _ q ((st1.trans st2).trans (.put nn)) (hs2.put nn ⟨us, upd_same, r2.mono (.put nn)⟩) .ref
end
end L3

namespace L3
open PySem PySem.Spec L2
section
variable {X : Cx} {K : PySem.W.Frag} {s : LS} {H : Hp} {a b e o i : Expr} {es : List Expr} {pos : Pos} {ta tb te to ti : LTE} {tas : LTA} {tg : Expr}
variable {x : Str} {p : Pos}
/-- a list, a tuple, the script: its items; a list in the store stands still -/
def iSeq (te : LTE) : LTI := fun σ s Q E => te σ s (fun x s1 => match x with
  | .ref a => (match s1 a with
    | some (.lst xs) => Q xs (fun s2 => s2 a = some (.lst xs)) s1
    | _ => False)
  | _ => opt (seqR x s1) fun xs => Q xs (fun _ => True) s1) E
def iTupl (te : LTE) : LTI := fun σ s Q E => te σ s (fun x s1 => match x with
  | .tup xs => Q xs (fun _ => True) s1
  | _ => False) E
theorem it_list {J : Addr} {xs : List LV} {stb : LS → Prop} {s1 : LS} {H1 : Hp} (h : ∀ s H, Step s1 H1 s H → RelS K s H → stb s → ∃ us, SqL K H J us ∧ RVs K s H xs us) : ItR K (Itl K J) xs stb s1 H1 where
  go := fun i s H hi st hs b => by
    obtain ⟨us, q, r⟩ := h s H st hs b
    exact ⟨us, us[i]'(by rw [r.length]; exact hi), q, by simp⟩
  stop := fun s H st hs b => by
    obtain ⟨us, q, r⟩ := h s H st hs b
    exact ⟨us, q, by rw [r.length]; exact Nat.le_refl _⟩
  yld := fun i s H x H' hi st hs b y => by
    obtain ⟨us, q, r⟩ := h s H st hs b
    obtain ⟨rfl, y⟩ := y
    obtain ⟨lx, e1, e2⟩ := r.get' (y us q)
    exact ⟨lx, e1, e2, .refl _ _, hs⟩
theorem li_seq (he : LE X e te) : LI X tg e (iSeq te) := fun s0 H0 E tk => (pi_list (he s0 H0 E tk)).imp fun σ H R ⟨σl, s, Q0, E1, hσ, hs, st, hE, h, k⟩ => ⟨σl, s, _, E1, hσ, hs, st, hE, h, fun lx s1 x H1 h st1 hs1 rx => by
  have frozen : opt (seqR lx s1) (fun xs => Q0 xs (fun _ => True) s1) → (∀ s2 xs, seqR lx s1 = some xs → seqR lx s2 = some xs) → ∃ a, x = .ref a ∧ (∃ xs, SqL X.K H1 a xs) ∧ R (Itl X.K a) H1 := fun h same => by
    obtain ⟨xs, e, h⟩ := opt_ok h
    obtain ⟨a, us, rfl, hh, r⟩ := seqR_ok hs1 rx e
    exact ⟨a, rfl, ⟨us, hh⟩, k _ _ _ _ _ h st1 hs1 (it_list fun s2 H2 st2 hs2 _ => by
      obtain ⟨a', us', ea, hh', r'⟩ := seqR_ok hs2 (rx.mono st2) (same s2 xs e)
      cases ea
      exact ⟨us', hh', r'⟩)⟩
  cases lx with
  | ref a =>
    simp only at h
    split at h
    · next xs e =>
      obtain ⟨us, hh, r⟩ := hs1.lst e
      exact ⟨a, rx.ref', ⟨us, SqL.of hh⟩, k _ _ _ _ _ h st1 hs1 (it_list fun s2 H2 st2 hs2 b => by
        obtain ⟨us2, hh2, r2⟩ := hs2.lst b
        exact ⟨us2, SqL.of hh2, r2⟩)⟩
    · exact h.elim
  | lst xs => exact frozen h fun _ _ e => e
  | scr xs => exact frozen h fun _ _ e => e
  | _ => exact False.elim h⟩
theorem li_tup (he : LE X e te) : LI X tg e (iTupl te) := fun s0 H0 E tk => (pi_tup (he s0 H0 E tk)).imp fun σ H R ⟨σl, s, Q0, E1, hσ, hs, st, hE, h, k⟩ => ⟨σl, s, _, E1, hσ, hs, st, hE, h, fun lx s1 x H1 h st1 hs1 rx => by
  cases lx with
  | tup xs =>
    have rx0 := rx
    simp only [RV] at rx
    obtain ⟨a, us, rfl, n, hh, r⟩ := rx
    refine ⟨a, rfl, ⟨us, SqT.of hh⟩, k _ _ _ _ _ h st1 hs1 ?_⟩
    have go : ∀ s2 H2, Step s1 H1 s2 H2 → H2 a = some (.tup us) ∧ RVs X.K s2 H2 xs us := fun s2 H2 st2 => by
      obtain ⟨⟨o', h', q⟩, _⟩ := st2 a _ hh n
      rw [q.tup] at h'
      exact ⟨h', r.mono st2⟩
    refine ⟨fun i s2 H2 hi st2 hs2 _ => ⟨us, us[i]'(by rw [r.length]; exact hi), SqT.of (go s2 H2 st2).1, by simp⟩, fun s2 H2 st2 hs2 _ => ⟨us, SqT.of (go s2 H2 st2).1, by rw [r.length]; exact Nat.le_refl _⟩, fun i s2 H2 y H3 hi st2 hs2 _ hy => ?_⟩
    obtain ⟨rfl, hy⟩ := hy
    obtain ⟨lx, e1, e2⟩ := (go s2 _ st2).2.get' (hy us (SqT.of (go s2 _ st2).1))
    exact ⟨lx, e1, e2, .refl _ _, hs2⟩
  | _ => exact False.elim h⟩
/-- range -/
theorem rgL_get {lo hi : Int} {i : Nat} (h : i < (hi - lo).toNat) : (rgL lo hi)[i]? = some (.int (lo + (i : Nat))) := by
  unfold rgL
  simp [h]
theorem rgL_len {lo hi : Int} : (rgL lo hi).length = (hi - lo).toNat := by unfold rgL; simp
theorem it_range {lo hi : Int} {s1 : LS} {H1 : Hp} : ItR K (Itr lo (hi - lo).toNat) (rgL lo hi) (fun _ => True) s1 H1 where
  go := fun i s H h _ _ _ => by rw [rgL_len] at h; exact h
  stop := fun s H _ _ _ => by rw [rgL_len]; exact Nat.le_refl _
  yld := fun i s H x H' h st hs _ y => by
    rw [rgL_len] at h
    obtain ⟨rfl, rfl⟩ := y
    exact ⟨_, rgL_get h, .int, .refl _ _, hs⟩
def isInt (x : LV) (k : Int → Prop) : Prop := match x with
  | .int i => k i
  | _ => False
theorem isInt_ok {x : LV} {k : Int → Prop} (h : isInt x k) : ∃ i, x = .int i ∧ k i := by
  cases x <;> first | exact ⟨_, rfl, h⟩ | exact h.elim
def two2 (vs : List LV) (k : LV → LV → Prop) : Prop := match vs with
  | [x, y] => k x y
  | _ => False
theorem two2_ok {vs : List LV} {k : LV → LV → Prop} (h : two2 vs k) : ∃ x y, vs = [x, y] ∧ k x y := by
  rcases vs with _ | ⟨x, _ | ⟨c, _ | ⟨d, l⟩⟩⟩
  · exact h.elim
  · exact h.elim
  · exact ⟨x, c, rfl, h⟩
  · exact h.elim
def iRg1 (ta : LTA) : LTI := fun σ s Q E => ta σ s (fun vs s1 => one1 vs fun x => isInt x fun j => -(2 ^ 62) ≤ j ∧ j < 2 ^ 62 ∧ Q (rgL 0 j) (fun _ => True) s1) E
def iRg2 (ta : LTA) : LTI := fun σ s Q E => ta σ s (fun vs s1 => two2 vs fun x y => isInt x fun i => isInt y fun j => (-(2 ^ 62) ≤ i ∧ i < 2 ^ 62 ∧ -(2 ^ 62) ≤ j ∧ j < 2 ^ 62) ∧ Q (rgL i j) (fun _ => True) s1) E
theorem li_range1 (hg : Gl X "range") (hm : X.mg "range" = none) (ha : LA X [a] tas) (hs : starEach [a] X.env = [(false, eval a X.env)] := by rfl) : LI X tg (.Call (.Name "range" p) [a] [] pos) (iRg1 tas) := fun s0 H0 E tk =>
  (pi_range1 hg hm (ha s0 H0 E tk) hs).imp fun σ H R ⟨σl, s, Q0, E1, hσ, hs, st, hE, h, k⟩ => ⟨σl, s, _, E1, hσ, hs, st, hE, h, fun lvs s1 vs H1 h st1 hs1 rs => by
    obtain ⟨lx, rfl, h⟩ := one1_ok h
    obtain ⟨j, rfl, h1, h2, h⟩ := isInt_ok h
    obtain ⟨v, rfl, r⟩ := rs.one
    exact ⟨j, by rw [r.int'], h1, h2, k _ _ _ _ _ h st1 hs1 (by have q := it_range (K := X.K) (lo := 0) (hi := j) (s1 := s1) (H1 := H1); rw [Int.sub_zero] at q; exact q)⟩⟩
theorem li_range2 (hg : Gl X "range") (hm : X.mg "range" = none) (ha : LA X [a, b] tas) (hs : starEach [a, b] X.env = [(false, eval a X.env), (false, eval b X.env)] := by rfl) (hs2 : starEach [b] X.env = [(false, eval b X.env)] := by rfl) :
    LI X tg (.Call (.Name "range" p) [a, b] [] pos) (iRg2 tas) := fun s0 H0 E tk =>
  (pi_range2 hg hm (ha s0 H0 E tk) hs hs2).imp fun σ H R ⟨σl, s, Q0, E1, hσ, hs, st, hE, h, k⟩ => ⟨σl, s, _, E1, hσ, hs, st, hE, h, fun lvs s1 vs H1 h st1 hs1 rs => by
    obtain ⟨lx, ly, rfl, h⟩ := two2_ok h
    obtain ⟨i, rfl, h⟩ := isInt_ok h
    obtain ⟨j, rfl, hb, h⟩ := isInt_ok h
    obtain ⟨v, w, rfl, r1, r2⟩ := rs.two
    exact ⟨i, j, by rw [r1.int', r2.int'], hb, k _ _ _ _ _ h st1 hs1 it_range⟩⟩
/-- enumerate, zip: new pairs -/
theorem it_pairs {J : It} {xs ys : List LV} {n : Nat} {stb : LS → Prop} {s1 : LS} {H1 : Hp} (hn : n = min xs.length ys.length)
    (hg : ∀ i s H, i < n → Step s1 H1 s H → RelS K s H → stb s → J.go i H) (hst : ∀ s H, Step s1 H1 s H → RelS K s H → stb s → J.stop n H)
    (hy : ∀ i s H v H', i < n → Step s1 H1 s H → RelS K s H → stb s → J.yld i H v H' → ∃ T x y lx ly, v = .ref T ∧ H T = none ∧ H' = upd H T (.tup [x, y]) ∧ xs[i]? = some lx ∧ ys[i]? = some ly ∧ RV K s H lx x ∧ RV K s H ly y) :
    ItR K J ((xs.zip ys).map fun p => .tup [p.1, p.2]) stb s1 H1 := by
  have hl : ((xs.zip ys).map fun p => LV.tup [p.1, p.2]).length = n := by rw [List.length_map, List.length_zip, hn]
  refine ⟨fun i s H h => hg i s H (by omega), fun s H => by rw [hl]; exact hst s H, fun i s H x H' h st hs b y => ?_⟩
  obtain ⟨T, x, y, lx, ly, rfl, nT, rfl, e1, e2, r1, r2⟩ := hy i s H x H' (by omega) st hs b y
  refine ⟨.tup [lx, ly], ?_, RVs.tupAt hs nT (.cons r1 (.cons r2 .nil)), .new hs nT, hs.new nT⟩
  rw [List.getElem?_map, List.getElem?_zip_eq_some (z := (lx, ly)) |>.mpr ⟨e1, e2⟩]
  rfl
def stbOf (x : LV) (xs : List LV) : LS → Prop := match x with
  | .ref a => fun s => s a = some (.lst xs)
  | _ => fun _ => True
theorem seq_later {lx : LV} {xs : List LV} {s1 s2 : LS} {H1 H2 : Hp} {v : V} (rx : RV K s1 H1 lx v) (hs1 : RelS K s1 H1) (e : seqR lx s1 = some xs) (st : Step s1 H1 s2 H2) (hs2 : RelS K s2 H2) (b : stbOf lx xs s2) :
    ∃ a us, v = .ref a ∧ SqL K H2 a us ∧ RVs K s2 H2 xs us := by
  cases lx with
  | ref a =>
    obtain ⟨us, hh, r⟩ := hs2.lst b
    exact ⟨a, us, rx.ref', SqL.of hh, r⟩
  | lst ys => exact seqR_ok hs2 (rx.mono st) e
  | scr ys => exact seqR_ok hs2 (rx.mono st) e
  | _ => cases e
def iEnumL (ta : LTA) : LTI := fun σ s Q E => ta σ s (fun vs s1 => one1 vs fun x => opt (seqR x s1) fun xs => Q ((rgL 0 xs.length).zip xs |>.map fun p => .tup [p.1, p.2]) (stbOf x xs) s1) E
def iZipL (ta : LTA) : LTI := fun σ s Q E => ta σ s (fun vs s1 => two2 vs fun x y => opt (seqR x s1) fun xs => opt (seqR y s1) fun ys => Q ((xs.zip ys).map fun p => .tup [p.1, p.2]) (fun s2 => stbOf x xs s2 ∧ stbOf y ys s2) s1) E
theorem li_enum {elts : List Expr} {kk : Nat} {tpos : Pos} (hg : Gl X "enumerate") (hm : X.mg "enumerate" = none) (ha : LA X [a] tas) (hs : starEach [a] X.env = [(false, eval a X.env)] := by rfl) :
    LI X (.Tuple elts kk tpos) (.Call (.Name "enumerate" p) [a] [] pos) (iEnumL tas) := fun s0 H0 E tk =>
  (pi_enum hg hm (ha s0 H0 E tk) hs).imp fun σ H R ⟨σl, s, Q0, E1, hσ, hs, st, hE, h, k⟩ => ⟨σl, s, _, E1, hσ, hs, st, hE, h, fun lvs s1 vs H1 h st1 hs1 rs => by
    obtain ⟨lx, rfl, h⟩ := one1_ok h
    obtain ⟨xs, e, h⟩ := opt_ok h
    obtain ⟨v, rfl, rx⟩ := rs.one
    obtain ⟨q, us, rfl, hh, r⟩ := seqR_ok hs1 rx e
    refine ⟨q, us, rfl, hh, k _ _ _ _ _ h st1 hs1 (it_pairs (n := xs.length) (by rw [rgL_len]; omega) (fun i s2 H2 hi st2 hs2 b => ?_) (fun s2 H2 st2 hs2 b => ?_) fun i s2 H2 v H' hi st2 hs2 b y => ?_)⟩
    · obtain ⟨q', us', eq, hh', r'⟩ := seq_later rx hs1 e st2 hs2 b
      cases eq
      exact ⟨us', us'[i]'(by rw [r'.length]; exact hi), hh', by simp⟩
    · obtain ⟨q', us', eq, hh', r'⟩ := seq_later rx hs1 e st2 hs2 b
      cases eq
      exact ⟨us', hh', by rw [r'.length]; exact Nat.le_refl _⟩
    · obtain ⟨q', us', eq, hh', r'⟩ := seq_later rx hs1 e st2 hs2 b
      cases eq
      obtain ⟨T, x, rfl, nT, rfl, hx⟩ := y
      obtain ⟨lx, e1, e2⟩ := r'.get' (hx us' hh')
      exact ⟨T, .int (i : Nat), x, .int ((i : Nat) : Int), lx, rfl, nT, rfl, by rw [rgL_get (by omega), Int.zero_add], e1, .int, e2⟩⟩
theorem li_zip {elts : List Expr} {kk : Nat} {tpos : Pos} (hg : Gl X "zip") (hm : X.mg "zip" = none) (ha : LA X [a, b] tas) (hs : starEach [a, b] X.env = (false, eval a X.env) :: starEach [b] X.env := by rfl) (hpl : (backTo pos (starEach [b] X.env)).any (·.1) = false := by rfl) :
    LI X (.Tuple elts kk tpos) (.Call (.Name "zip" p) [a, b] [] pos) (iZipL tas) := fun s0 H0 E tk =>
  (pi_zip hg hm (ha s0 H0 E tk) hs hpl).imp fun σ H R ⟨σl, s, Q0, E1, hσ, hs, st, hE, h, k⟩ => ⟨σl, s, _, E1, hσ, hs, st, hE, h, fun lvs s1 vs H1 h st1 hs1 rs => by
    obtain ⟨lx, ly, rfl, h⟩ := two2_ok h
    obtain ⟨xs, e1, h⟩ := opt_ok h
    obtain ⟨ys, e2, h⟩ := opt_ok h
    obtain ⟨v, w, rfl, rx, ry⟩ := rs.two
    obtain ⟨q, us, rfl, hh, r⟩ := seqR_ok hs1 rx e1
    obtain ⟨q2, us2, rfl, hh2, r2⟩ := seqR_ok hs1 ry e2
    refine ⟨q, q2, us, us2, rfl, hh, hh2, k _ _ _ _ _ h st1 hs1 (it_pairs (n := min xs.length ys.length) rfl (fun i s2 H2 hi st2 hs2 b => ?_) (fun s2 H2 st2 hs2 b => ?_) fun i s2 H2 v H' hi st2 hs2 b y => ?_)⟩
    · obtain ⟨q', us', eq, hh', r'⟩ := seq_later rx hs1 e1 st2 hs2 b.1
      cases eq
      obtain ⟨q', us2', eq, hh2', r2'⟩ := seq_later ry hs1 e2 st2 hs2 b.2
      cases eq
      exact ⟨us', us2', us'[i]'(by rw [r'.length]; omega), us2'[i]'(by rw [r2'.length]; omega), hh', hh2', by simp, by simp⟩
    · obtain ⟨q', us', eq, hh', r'⟩ := seq_later rx hs1 e1 st2 hs2 b.1
      cases eq
      obtain ⟨q', us2', eq, hh2', r2'⟩ := seq_later ry hs1 e2 st2 hs2 b.2
      cases eq
      exact ⟨us', us2', hh', hh2', by rw [r'.length, r2'.length]; omega⟩
    · obtain ⟨q', us', eq, hh', r'⟩ := seq_later rx hs1 e1 st2 hs2 b.1
      cases eq
      obtain ⟨q', us2', eq, hh2', r2'⟩ := seq_later ry hs1 e2 st2 hs2 b.2
      cases eq
      obtain ⟨T, x, z, rfl, nT, rfl, hx, hz⟩ := y
      obtain ⟨lx, f1, f2⟩ := r'.get' (hx us' hh')
      obtain ⟨lz, g1, g2⟩ := r2'.get' (hz us2' hh2')
      exact ⟨T, x, z, lx, lz, rfl, nT, rfl, f1, g1, f2, g2⟩⟩

/-- targets of a comprehension: a name, names; the slots is are its own -/
inductive CTg : Type where
  | one (i : Nat)
  | many (is : List Nat)
def CTg.real (K : PySem.W.Frag) : CTg → TG
  | .one i => gName i
  | .many is => gTup K is.length (gNames is)
def CTg.lift : CTg → LTG
  | .one i => lgName i
  | .many is => lgTup is
def CTg.slots : CTg → List Nat
  | .one i => [i]
  | .many is => is
def lwipe (σ : LSt) : List Nat → LSt
  | [] => σ
  | v :: vs => (lwipe σ vs).set v none
theorem RSt.wipe {σl : LSt} {σ : St} (h : RSt K s H σl σ) : ∀ vs : List Nat, RSt K s H (lwipe σl vs) (L2.wipe σ vs)
  | [] => h
  | v :: vs => (RSt.wipe h vs).setN v none
theorem wipe_set {σ : St} {i : Nat} {v : Option V} : ∀ {vs : List Nat}, i ∈ vs → L2.wipe (σ.set i v) vs = L2.wipe σ vs
  | w :: vs, h => by
    simp only [L2.wipe]
    have com : ∀ (vs : List Nat), L2.wipe (σ.set i v) vs = (L2.wipe σ vs).set i v ∨ L2.wipe (σ.set i v) vs = L2.wipe σ vs := by
      intro vs
      induction vs with
      | nil => exact .inl rfl
      | cons w vs ih =>
        simp only [L2.wipe]
        rcases ih with ih | ih
        · rw [ih]
          by_cases e : i = w
          · subst e; right; rw [List.set_set]
          · left; rw [List.set_comm _ _ e]
        · right; rw [ih]
    rcases com vs with e | e
    · rw [e]
      by_cases q : i = w
      · subst q; rw [List.set_set]
      · rcases List.mem_cons.mp h with z | z
        · exact absurd z q
        · have := wipe_set (σ := σ) (v := v) z
          rw [← e, this]
    · rw [e]
theorem wipe_idem {σ : St} {vs : List Nat} : ∀ {ws : List Nat}, (∀ i ∈ ws, i ∈ vs) → L2.wipe (L2.wipe σ ws) vs = L2.wipe σ vs
  | [], _ => rfl
  | w :: ws, h => by
    show L2.wipe ((L2.wipe σ ws).set w none) vs = _
    rw [wipe_set (h w (by simp)), wipe_idem fun i hi => h i (by simp [hi])]
/-- a heap without what stands at an address -/
def cutH (H : Hp) (D : Addr) : Hp := fun b => if b = D then none else H b
theorem cutH_same {D : Addr} : cutH H D D = none := by unfold cutH; rw [if_pos rfl]
theorem cutH_ne {D b : Addr} (h : b ≠ D) : cutH H D b = H b := by unfold cutH; rw [if_neg h]
theorem cutH_upd {D : Addr} {u : HO} (h : H D = some u) : upd (cutH H D) D u = H := by
  funext b
  by_cases e : b = D
  · subst e; rw [upd_same, h]
  · rw [upd_ne e, cutH_ne e]
theorem cutH_step {D : Addr} {o : LO} (e : s D = some o) : Step s H (del s D) (cutH H D) := fun b u hb nb => by
  have ne : b ≠ D := by rintro rfl; rw [e] at nb; cases nb
  rw [cutH_ne ne]
  exact ⟨⟨u, hb, .refl u⟩, by unfold L3.del; rw [if_neg ne]; exact nb⟩
theorem cutH_rel {D : Addr} {o : LO} (hs : RelS K s H) (e : s D = some o) : RelS K (del s D) (cutH H D) := fun b v hb => by
  by_cases q : b = D
  · subst q; unfold L3.del at hb; rw [if_pos rfl] at hb; cases hb
  · unfold L3.del at hb
    rw [if_neg q] at hb
    exact (hs b v hb).mono (cutH_step e) fun u z => by rw [cutH_ne q]; exact z
theorem gNames_wipe {Q : St → Hp → Prop} {vs : List Nat} : ∀ {is : List Nat} {us : List V} {σ : St}, (∀ i ∈ is, i ∈ vs) → gNames is us σ H Q → gNames is us σ H (fun σ2 H2 => L2.wipe σ2 vs = L2.wipe σ vs ∧ Q σ2 H2)
  | [], _, _, _, ⟨e, q⟩ => ⟨e, rfl, q⟩
  | i :: is, _, σ, hm, ⟨v, r, e, q⟩ => by
    refine ⟨v, r, e, ?_⟩
    have z := gNames_wipe (is := is) (us := r) (σ := σ.set i (some v)) (vs := vs) (fun j hj => hm j (by simp [hj])) q
    rw [wipe_set (hm i (by simp))] at z
    exact z
theorem ctg_wipe {g : CTg} {v : V} {σ : St} {Q : St → Hp → Prop} {vs : List Nat} (hm : ∀ i ∈ g.slots, i ∈ vs) (h : g.real K v σ H Q) : g.real K v σ H (fun σ2 H2 => L2.wipe σ2 vs = L2.wipe σ vs ∧ Q σ2 H2) := by
  cases g with
  | one i => exact ⟨wipe_set (hm i (by simp [CTg.slots])), h⟩
  | many is =>
    obtain ⟨a, xs, e, h1, h2, h⟩ := h
    exact ⟨a, xs, e, h1, h2, gNames_wipe hm h⟩
/-- the target's reading -/
theorem ctg_up {g : CTg} {lv : LV} {v : V} {σl : LSt} {σ : St} {Q0 : LSt → LS → Prop} {Q : St → Hp → Prop} {E : LX} (hσ : RSt K s H σl σ) (hs : RelS K s H) (rv : RV K s H lv v) (h : g.lift lv σl s Q0 E) (k : ∀ σl' σ', Q0 σl' s → RSt K s H σl' σ' → Q σ' H) : g.real K v σ H Q := by
  cases g with
  | one i => exact k _ _ h (hσ.set i rv)
  | many is =>
    cases lv with
    | tup xs =>
      simp only [CTg.lift, lgTup] at h
      simp only [RV] at rv
      obtain ⟨a, us, rfl, n, hh, r⟩ := rv
      split at h
      · next σ' e => exact ⟨a, us, rfl, SqT.of hh, by rw [r.length, lSets_len e], gNames_ok hσ r e fun σ2 q => k _ _ h q⟩
      · exact h.elim
    | _ => exact False.elim h
def noX : LXS := fun _ _ _ => False
theorem takes_no {X : Cx} {K : PySem.W.Frag} {s0 : LS} {H0 : Hp} : Takes X (WL K s0 H0 noX) := fun u s' x => by
  obtain ⟨_, _, _, _, _, _, _, _, _, _, _, _, _, _, _, _, w⟩ := x
  obtain ⟨_, _, _, _, _, _, _, _, z⟩ := w
  exact z.elim
def lYes : LTT := fun _ s Q _ => Q true s
/-- the loop of a comprehension whose list stands at D -/
def lcLoop (D : Addr) (g : CTg) (tt : LTT) (te : LTE) (stb : LS → Prop) (σw : LSt) (Q : List LV → LS → Prop) : List LV → LS → Prop
  | [], s => stb s ∧ match s D with
    | some (.lst acc) => Q acc (del s D)
    | _ => False
  | x :: xs, s => stb s ∧ g.lift x σw s (fun σ2 s2 => tt σ2 s2 (fun b s3 => (b = true → te σ2 s3 (fun y s4 => match s4 D with
      | some (.lst acc) => acc.length < 16777216 ∧ lcLoop D g tt te stb σw Q xs (put s4 D (.lst (acc ++ [y])))
      | _ => False) fun _ _ => False) ∧ (b = false → lcLoop D g tt te stb σw Q xs s3)) fun _ _ => False) fun _ _ => False
def lLc (it : LTI) (g : CTg) (tt : LTT) (te : LTE) (vs : List Nat) : LTL := fun σ s Q E => it σ s (fun xs stb s1 => ∀ D, s1 D = none → lcLoop D g tt te stb (lwipe σ vs) Q xs (put s1 D (.lst []))) E
def LTs (X : Cx) (ifs : List Expr) (t : LTT) : Prop := ∀ s0 H0 E, Takes X (WL X.K s0 H0 E) → PTs X ifs (upT X.K s0 H0 E t)
theorem lts_nil : LTs X [] lYes := fun s0 H0 E tk => ⟨fun pins si σ H Q I ⟨σl, s, Q0, E1, hσ, hs, st, hE, h, k⟩ => pts_nil.run pins si σ H Q I (k _ _ _ h (.refl _ _) hs)⟩
theorem lts_one {c : Expr} {t : LTT} (h : LT X c t) : LTs X [c] t := fun s0 H0 E tk => pts_one (h s0 H0 E tk)
theorem lcLoop_stb {D : Addr} {g : CTg} {tt : LTT} {te : LTE} {stb : LS → Prop} {σw : LSt} {Q : List LV → LS → Prop} : ∀ {xs : List LV} {s : LS}, lcLoop D g tt te stb σw Q xs s → stb s
  | [], _, h => h.1
  | _ :: _, _, h => h.1
theorem lc_imp {it : LTI} {g : CTg} {tt : LTT} {te : LTE} {own : List (Str × Nat)} {s0 : LS} {H0 : Hp} {E : LXS} (hm : ∀ i ∈ g.slots, i ∈ own.map (·.2)) : ∀ σ H Q, upL X.K s0 H0 E (lLc it g tt te (own.map (·.2))) σ H Q →
    tLc (upI X.K s0 H0 E it) (g.real X.K) (upT X.K s0 H0 noX tt) (up X.K s0 H0 noX te) (own.map (·.2)) σ H Q :=
  fun σ H Q ⟨σl, s, Q0, E1, hσ, hs, st, hE, h, k⟩ => by
    refine ⟨σl, s, _, E1, hσ, hs, st, hE, h, fun xs stb s1 H1 J h st1 hs1 itr => fun D nD => ?_⟩
    have hD := hs1.free nD
    have st2 : Step s1 H1 (put s1 D (.lst [])) (upd H1 D (.lst [])) := .put (.inr nD)
    have hs2 : RelS X.K (put s1 D (.lst [])) (upd H1 D (.lst [])) := hs1.put (.inr nD) ⟨[], upd_same, .nil⟩
    refine ⟨fun i m H' => ∃ s', RelS X.K s' H' ∧ Step s1 H1 s' H' ∧ m = xs.length - i ∧ i ≤ xs.length ∧ lcLoop D g tt te stb (lwipe σl (own.map (·.2))) Q0 (xs.drop i) s', ⟨xs.length, _, hs2, st2, by simp, Nat.zero_le _, h D hD⟩, ?_⟩
    rintro i m H3 ⟨s3, hs3, st3, rfl, hi, h3⟩
    have st13 := st1.trans st3
    by_cases hlt : i < xs.length
    · rw [List.drop_eq_getElem_cons hlt] at h3
      refine .inr ⟨itr.go i s3 H3 hlt st3 hs3 h3.1, fun H' => ∃ s', RelS X.K s' H' ∧ Step s1 H1 s' H' ∧ lcLoop D g tt te stb (lwipe σl (own.map (·.2))) Q0 (xs.drop (i + 1)) s', fun H' ⟨s', q1, q2, q3⟩ => ⟨xs.length - (i + 1), by omega, s', q1, q2, rfl, hlt, q3⟩, fun x H4 y => ?_⟩
      obtain ⟨lx, ex, rx, st4, hs4⟩ := itr.yld i s3 H3 x H4 hlt st3 hs3 h3.1 y
      rw [List.getElem?_eq_getElem hlt] at ex
      cases ex
      have st14 := st13.trans st4
      rw [← wipe_idem (σ := σ) (vs := own.map (·.2)) (ws := own.map (·.2)) fun i hi => hi]
      have wi : ∀ Q, g.real X.K x (L2.wipe σ (own.map (·.2))) H4 Q → g.real X.K x (L2.wipe (L2.wipe σ (own.map (·.2))) (own.map (·.2))) H4 Q := fun Q h => by rw [wipe_idem fun i hi => hi]; exact h
      refine wi _ (ctg_wipe hm (ctg_up ((hσ.mono st14).wipe _) hs4 rx h3.2 fun σl5 σ5 h5 hσ5 => ?_))
      refine ⟨σl5, s3, _, _, hσ5, hs4, (st.trans st14), fun C s' z => z, h5, fun b s6 H6 h6 st6 hs6 => ?_⟩
      have st46 := st4.trans st6
      cases b with
      | true =>
        refine iteT ⟨σl5, s6, _, _, hσ5.mono st6, hs6, (st.trans st14).trans st6, fun C s' z => z, h6.1 rfl, fun ly s7 y H7 h7 st7 hs7 ry => ?_⟩
        have st17 := (st3.trans st46).trans st7
        split at h7
        · next acc eD =>
          obtain ⟨us, hh, r⟩ := hs7.lst eD
          have nn : s7 D ≠ none ∨ H7 D = none := .inl (by rw [eD]; simp)
          exact ⟨us, hh, by rw [r.length, sizeLine_eq]; exact h7.1, put s7 D (.lst (acc ++ [ly])), hs7.put nn ⟨_, upd_same, (r.append (.cons ry .nil)).mono (.put nn)⟩, st17.trans (.put nn), h7.2⟩
        · exact h7.elim
      | false => exact iteF ⟨s6, hs6, st3.trans st46, h6.2 rfl⟩
    · have ei : i = xs.length := by omega
      subst ei
      rw [List.drop_length] at h3
      obtain ⟨b3, h3⟩ := h3
      refine .inl ⟨itr.stop s3 H3 st3 hs3 b3, ?_⟩
      split at h3
      · next acc eD =>
        obtain ⟨us, hh, r⟩ := hs3.lst eD
        have stc : Step s3 H3 (del s3 D) (cutH H3 D) := cutH_step eD
        have z := k acc (del s3 D) us (cutH H3 D) h3 (st13.trans stc) (cutH_rel hs3 eD) (r.mono stc) D cutH_same
        rw [cutH_upd hh] at z
        exact z
      · exact h3.elim
theorem ll_lc {elt iter : Expr} {ifs : List Expr} {scope : Scope} {own : List (Str × Nat)} {it : LTI} {g : CTg} {tt : LTT} {te : LTE} (hc : X.calm = true) (hN : X.N.Nodup) (hi : LI X tg iter it) (ok : BlkOk X.N X.env.scope scope own) (hm : ∀ i ∈ g.slots, i ∈ own.map (·.2))
    (hg : ∀ (s : Shared) (H : Hp) (C : Addr) (cl : List (Str × Addr)) (fp : List Addr), PG (X.blk s H scope (compEnvC scope cl C X.env) fp) tg (g.real X.K)) (ht : ∀ (s : Shared) (H : Hp) (C : Addr) (cl : List (Str × Addr)) (fp : List Addr), LTs (X.blk s H scope (compEnvC scope cl C X.env) fp) ifs tt)
    (he : ∀ (s : Shared) (H : Hp) (C : Addr) (cl : List (Str × Addr)) (fp : List Addr), LE (X.blk s H scope (compEnvC scope cl C X.env) fp) elt te) (hs : ∀ x, foldedSetIterable iter X.env x = pure x := by intro _; rfl) :
    LL X (.ListComp elt [⟨tg, iter, ifs, 0⟩] scope pos) (lLc it g tt te (own.map (·.2))) := fun s0 H0 E tk =>
  (pe_lc (g := g.real X.K) (tt := upT X.K s0 H0 noX tt) (te := up X.K s0 H0 noX te) hc hN (hi s0 H0 E tk) ok hg (fun s H C cl fp => ht s H C cl fp s0 H0 noX takes_no) (fun s H C cl fp => he s H C cl fp s0 H0 noX takes_no) hs).imp (lc_imp hm)
/-- name = [..] -/
theorem lp_setLcF {i : Nat} {y : Str} {py : Pos} {elt iter : Expr} {ifs : List Expr} {scope : Scope} {own : List (Str × Nat)} {spos : Pos} {it : LTI} {g : CTg} {tt : LTT} {te : LTE} (hc : X.calm = true) (hN : X.N.Nodup) (hy : X.N[i]? = some y) (hyl : X.env.scope.names.lookup y = some .local)
    (hi : LI X tg iter it) (ok : BlkOk X.N X.env.scope scope own) (hm : ∀ i ∈ g.slots, i ∈ own.map (·.2))
    (hg : ∀ (s : Shared) (H : Hp) (C : Addr) (cl : List (Str × Addr)) (fp : List Addr), PG (X.blk s H scope (compEnvC scope cl C X.env) fp) tg (g.real X.K)) (ht : ∀ (s : Shared) (H : Hp) (C : Addr) (cl : List (Str × Addr)) (fp : List Addr), LTs (X.blk s H scope (compEnvC scope cl C X.env) fp) ifs tt)
    (he : ∀ (s : Shared) (H : Hp) (C : Addr) (cl : List (Str × Addr)) (fp : List Addr), LE (X.blk s H scope (compEnvC scope cl C X.env) fp) elt te)
    (hsw : swapsWith (.ListComp elt [⟨tg, iter, ifs, 0⟩] scope pos) (some (.Name y py)) spos.line X.env = pure true) (hs : ∀ x, foldedSetIterable iter X.env x = pure x := by intro _; rfl) :
    LP X (.Assign [.Name y py] (.ListComp elt [⟨tg, iter, ifs, 0⟩] scope pos) spos) (lAsg (lFz (lLc it g tt te (own.map (·.2)))) (lgName i)) := fun s0 H0 E tk hp =>
  (ps_setLc (g := g.real X.K) (tt := upT X.K s0 H0 noX tt) (te := up X.K s0 H0 noX te) hc hN hy hyl hsw (hi s0 H0 E tk) ok hg (fun s H C cl fp => ht s H C cl fp s0 H0 noX takes_no) (fun s H C cl fp => he s H C cl fp s0 H0 noX takes_no) hs).imp fun D σ H ⟨σl, s, Dl, hσ, hs, st, h, d⟩ =>
    lc_imp hm σ H _ (fz_up ⟨σl, s, _, _, hσ, hs, st, fun C s' q => d.ex C σl s' q, h, fun lx s1 x H1 h st1 hs1 rx => d.nx _ _ _ _ h st1 hs1 ((hσ.mono st1).set i rx)⟩)
theorem lp_setLcN {i : Nat} {y : Str} {py : Pos} {elt iter : Expr} {ifs : List Expr} {scope : Scope} {own : List (Str × Nat)} {spos : Pos} {it : LTI} {g : CTg} {tt : LTT} {te : LTE} (hc : X.calm = true) (hN : X.N.Nodup) (hy : X.N[i]? = some y) (hyl : X.env.scope.names.lookup y = some .local)
    (hi : LI X tg iter it) (ok : BlkOk X.N X.env.scope scope own) (hm : ∀ i ∈ g.slots, i ∈ own.map (·.2))
    (hg : ∀ (s : Shared) (H : Hp) (C : Addr) (cl : List (Str × Addr)) (fp : List Addr), PG (X.blk s H scope (compEnvC scope cl C X.env) fp) tg (g.real X.K)) (ht : ∀ (s : Shared) (H : Hp) (C : Addr) (cl : List (Str × Addr)) (fp : List Addr), LTs (X.blk s H scope (compEnvC scope cl C X.env) fp) ifs tt)
    (he : ∀ (s : Shared) (H : Hp) (C : Addr) (cl : List (Str × Addr)) (fp : List Addr), LE (X.blk s H scope (compEnvC scope cl C X.env) fp) elt te)
    (hsw : swapsWith (.ListComp elt [⟨tg, iter, ifs, 0⟩] scope pos) (some (.Name y py)) spos.line X.env = pure true) (hs : ∀ x, foldedSetIterable iter X.env x = pure x := by intro _; rfl) :
    LP X (.Assign [.Name y py] (.ListComp elt [⟨tg, iter, ifs, 0⟩] scope pos) spos) (lAsg (lNew (lLc it g tt te (own.map (·.2)))) (lgName i)) := fun s0 H0 E tk hp =>
  (ps_setLc (g := g.real X.K) (tt := upT X.K s0 H0 noX tt) (te := up X.K s0 H0 noX te) hc hN hy hyl hsw (hi s0 H0 E tk) ok hg (fun s H C cl fp => ht s H C cl fp s0 H0 noX takes_no) (fun s H C cl fp => he s H C cl fp s0 H0 noX takes_no) hs).imp fun D σ H ⟨σl, s, Dl, hσ, hs, st, h, d⟩ =>
    lc_imp hm σ H _ (new_up ⟨σl, s, _, _, hσ, hs, st, fun C s' q => d.ex C σl s' q, h, fun lx s1 x H1 h st1 hs1 rx => d.nx _ _ _ _ h st1 hs1 ((hσ.mono st1).set i rx)⟩)
end
end L3

namespace L3
open PySem PySem.Spec L2
section
variable {X : Cx} {K : PySem.W.Frag} {s : LS} {H : Hp} {a b e o i : Expr} {es : List Expr} {pos : Pos} {ta tb te to ti : LTE} {tas : LTA} {tg : Expr}
variable {x m : Str} {p p2 pos2 : Pos} {j : Nat} {C : Addr}
/-- what is known of an own exception class -/
structure ExK (K : PySem.W.Frag) (mg : Str → Option Value) (x : Str) (C : Addr) : Prop where
  xP : PySem.W.excIn K C [.type "ValueError", .type "Exception", .type "BaseException", .type "object"] "ValueError.__new__" = true
  gP : mg x = some (.ref C)
  kP : PySem.W.keepIn K (.ref C) = true
  bP : PySem.W.subIn K (.ref C) (.type "BaseException") = some true
  tP : PySem.W.typeIn K (.ref C) = some (.type "type")
def lRaise (C : Addr) : LTS := fun D σ s => D.ex C σ s
theorem lp_raise (T : ExK X.K X.mg x C) (hc : X.calm = true) (hg : Gl X x) (hdb : (x == ("__debug__" : Str)) = false := by decide) : LP X (.Raise (some (.Call (.Name x p) [.Constant (.str m) j p2] [] pos)) none pos2) (lRaise C) := fun s0 H0 E tk hp =>
  (ps_raise hc tk (pmk_own PySem.F.excBase_ValueError T.xP T.gP T.kP (raises_own T.bP T.tP) hg hdb)).imp fun D σ H ⟨σl, s, Dl, hσ, hs, st, h, d⟩ => ⟨C, σl, s, rfl, rfl, hσ, hs, st, d.ex _ _ _ h⟩
def lTryX (K : PySem.W.Frag) (c : Value) (tb : LTS) (ts : Addr → LTS) : LTS := fun D σ s => tb (D.wex fun C σ' s' => ∃ b, PySem.W.exmOne K (.ref C) c = some b ∧ (b = true → ts C (D.wex noX) σ' s') ∧ (b = false → D.ex C σ' s')) σ s
theorem DnE.noX {E : LXS} {Dl : LEnds} {D : Ends} (d : DnE K E s H Dl D) : DnE K L3.noX s H (Dl.wex L3.noX) D := ⟨d.nx, d.rt, d.bk, d.ct, fun _ _ _ h => h⟩
variable {body suite : List Stmt} {b₀ : Stmt} {np pos' : Pos} {c : Value} {tbd : LTS} {ts : Addr → LTS}
theorem lp_try_only (hs' : X.stack = X.env :: X.outer) (hf : X.env.frame = some X.env.locals) (hc : Names X x c)
    (hb : ∀ (pn : List (Addr × Obj)) (xe : Value → Shared → Prop), LPs (X.tr pn xe) body tbd)
    (hsu : ∀ (a : Addr) (oe : Obj) (C : Addr) (pn : List (Addr × Obj)), Zc (.ref C) none oe → (∃ vs, oe.data = .fields vs) → LPs (X.suite a ((a, oe) :: pn)) (b₀ :: suite) (ts C)) :
    LP X (.Try body [.ExceptHandler (some (.Name x np)) none (b₀ :: suite) pos'] [] [] pos) (lTryX X.K c tbd ts) := fun s0 H0 E tk hp => by
  refine (ps_try_only (tb := fun W D σ H => ∃ s1 H1 E', (∀ cls d σ H, WL X.K s1 H1 E' cls d σ H → W cls d σ H) ∧ upS X.K s1 H1 E' tbd D σ H)
    (ts := fun a cls d D σ H => ∃ C s1 H1, cls = .ref C ∧ d = none ∧ upS X.K s1 H1 noX (ts C) D σ H) hs' hf hc tk (fun W pn xe tk' po => ⟨fun pins si σ H D I ⟨s1, H1, E', hw, h⟩ => ?_⟩) (fun a oe cls d pn hz hv => ⟨fun pins si σ H D I ⟨C, s1, H1, e1, e2, h⟩ => ?_⟩)).imp ?_
  · exact (hb pn xe s1 H1 E' (tk'.imp hw) po).run pins si σ H D I h
  · subst e1 e2
    exact (hsu a oe C pn hz hv s1 H1 noX takes_no PassesOwn.never).run pins si σ H D I h
  · intro D σ H ⟨σl, s, Dl, hσ, hs, st, h, d⟩
    refine ⟨s, H, fun C σ' s' => ∃ b, PySem.W.exmOne X.K (.ref C) c = some b ∧ (b = true → ts C (Dl.wex noX) σ' s') ∧ (b = false → Dl.ex C σ' s'), fun cls dd σ' H' ⟨C, σl', s', e1, e2, hσ', hs1, st1, b, eb, h1, h2⟩ => ?_, σl, s, _, hσ, hs, .refl _ _, h, ⟨d.nx, d.rt, d.bk, d.ct, fun _ _ _ q => q⟩⟩
    subst e1 e2
    refine ⟨b, eb, fun q a na => ⟨C, s', H', rfl, rfl, σl', s', _, hσ', hs1, .refl _ _, h1 q, (d.mono st1).noX⟩, fun q => ⟨C, σl', s', rfl, rfl, hσ', hs1, st.trans st1, d.ex _ _ _ (h2 q)⟩⟩
/-- except x as n: the exception lies at slot i meanwhile -/
def lTryAs (K : PySem.W.Frag) (c : Value) (i : Nat) (tb : LTS) (ts : Addr → Addr → LTS) : LTS := fun D σ s => tb (D.wex fun C σ' s' => ∃ b, PySem.W.exmOne K (.ref C) c = some b ∧
  (b = true → ∀ a, ts a C { nx := fun σ' s' => D.nx (σ'.set i none) s', rt := D.rt, bk := fun σ' s' => D.bk (σ'.set i none) s', ct := fun σ' s' => D.ct (σ'.set i none) s', ex := noX } (σ'.set i (some (.ref a))) s') ∧ (b = false → D.ex C σ' s')) σ s
theorem lp_try_as {n : Str} {i : Nat} {ts : Addr → Addr → LTS} (hs' : X.stack = X.env :: X.outer) (hf : X.env.frame = some X.env.locals) (hN : X.N.Nodup) (hi : X.N[i]? = some n) (hln : X.env.kindOf n = some .local) (hc : Names X x c)
    (hb : ∀ (pn : List (Addr × Obj)) (xe : Value → Shared → Prop), LPs (X.tr pn xe) body tbd)
    (hsu : ∀ (a : Addr) (oe : Obj) (C : Addr) (pn : List (Addr × Obj)), Zc (.ref C) none oe → (∃ vs, oe.data = .fields vs) → LPs (X.suite a ((a, oe) :: pn)) (b₀ :: suite) (ts a C)) :
    LP X (.Try body [.ExceptHandler (some (.Name x np)) (some n) (b₀ :: suite) pos'] [] [] pos) (lTryAs X.K c i tbd ts) := fun s0 H0 E tk hp => by
  refine (ps_try_as (tb := fun W D σ H => ∃ s1 H1 E', (∀ cls d σ H, WL X.K s1 H1 E' cls d σ H → W cls d σ H) ∧ upS X.K s1 H1 E' tbd D σ H)
    (ts := fun a cls d D σ H => ∃ C s1 H1, cls = .ref C ∧ d = none ∧ upS X.K s1 H1 noX (ts a C) D σ H) hs' hf hN hi hln hc tk (fun W pn xe tk' po => ⟨fun pins si σ H D I ⟨s1, H1, E', hw, h⟩ => ?_⟩) (fun a oe cls d pn hz hv => ⟨fun pins si σ H D I ⟨C, s1, H1, e1, e2, h⟩ => ?_⟩)).imp ?_
  · exact (hb pn xe s1 H1 E' (tk'.imp hw) po).run pins si σ H D I h
  · subst e1 e2
    exact (hsu a oe C pn hz hv s1 H1 noX takes_no PassesOwn.never).run pins si σ H D I h
  · intro D σ H ⟨σl, s, Dl, hσ, hs, st, h, d⟩
    refine ⟨s, H, fun C σ' s' => ∃ b, PySem.W.exmOne X.K (.ref C) c = some b ∧
      (b = true → ∀ a, ts a C { nx := fun σ' s' => Dl.nx (σ'.set i none) s', rt := Dl.rt, bk := fun σ' s' => Dl.bk (σ'.set i none) s', ct := fun σ' s' => Dl.ct (σ'.set i none) s', ex := noX } (σ'.set i (some (.ref a))) s') ∧ (b = false → Dl.ex C σ' s'), fun cls dd σ' H' ⟨C, σl', s', e1, e2, hσ', hs1, st1, b, eb, h1, h2⟩ => ?_, σl, s, _, hσ, hs, .refl _ _, h, ⟨d.nx, d.rt, d.bk, d.ct, fun _ _ _ q => q⟩⟩
    subst e1 e2
    have d1 := d.mono st1
    refine ⟨b, eb, fun q a na => ⟨C, s', H', rfl, rfl, _, s', _, hσ'.set i .ref, hs1, .refl _ _, h1 q a, ⟨?_, d1.rt, ?_, ?_, fun _ _ _ z => z⟩⟩, fun q => ⟨C, σl', s', rfl, rfl, hσ', hs1, st.trans st1, d.ex _ _ _ (h2 q)⟩⟩
    · exact fun σ2 s2 σr H2 z st2 hs2 r2 => d1.nx _ _ _ _ z st2 hs2 (r2.setN i none)
    · exact fun σ2 s2 σr H2 z st2 hs2 r2 => d1.bk _ _ _ _ z st2 hs2 (r2.setN i none)
    · exact fun σ2 s2 σr H2 z st2 hs2 r2 => d1.ct _ _ _ _ z st2 hs2 (r2.setN i none)
/-- isinstance(e, c) of the exception in hand -/
def rIsEL (K : PySem.W.Frag) (a C : Addr) : LRc := fun vs s Q => two2 vs fun x c => x = .ref a ∧ ExcC K C ∧ opt (clsVal c) fun u => ∃ b, PySem.W.kitOne K (.ref C) u = some b ∧ Q (.bl b) s
theorem le_isE {a C : Addr} {oe : Obj} {pn : List (Addr × Obj)} (hz : Zc (.ref C) none oe) (hf : ∃ vs, oe.data = .fields vs) (hg : Gl (X.suite a ((a, oe) :: pn)) "isinstance") (hm : X.mg "isinstance" = none) (ha : LA (X.suite a ((a, oe) :: pn)) (e :: es) tas)
    (he : starEach (e :: es) (X.suite a ((a, oe) :: pn)).env = (false, eval e (X.suite a ((a, oe) :: pn)).env) :: starEach es (X.suite a ((a, oe) :: pn)).env := by rfl) (hpl : (backTo pos (starEach es (X.suite a ((a, oe) :: pn)).env)).any (·.1) = false := by rfl) :
    LE (X.suite a ((a, oe) :: pn)) (.Call (.Name "isinstance" p) (e :: es) [] pos) (lCB (rIsEL X.K a C) tas) :=
  le_cb (r := fun vs H Q => ExcC X.K C ∧ rIsE X.K C a vs H Q) (fun pins si σ H xs us Q I r ⟨hC, q⟩ => call_isE hC hz hf pins si σ H xs us Q I r q) (fun vs s H lvs Q0 Q hs r h k => by
    obtain ⟨lx, lc, rfl, e0, hC, h1⟩ := two2_ok h
    obtain ⟨u, e1, b, e2, h2⟩ := opt_ok h1
    obtain ⟨v, w, rfl, r1, r2⟩ := r.two
    rw [e0] at r1
    exact ⟨hC, w, u, b, by rw [r1.ref'], fun u' ru => (clsVal_ok r2 e1).eq ru, e2, k _ _ _ _ h2 (.refl _ _) hs .bl⟩) hg hm (by decide +kernel) ha (by decide) (by decide) he hpl

def clsAt (x : LV) (s : LS) (k : Addr → List (Str × LV) → Prop) : Prop := match x with
  | .ref a => (match s a with
    | some (.ins B fs) => k B fs
    | _ => False)
  | .ins B fs => k B fs
  | _ => False
theorem clsAt_ok {x : LV} {v : V} {k : Addr → List (Str × LV) → Prop} (r : RelS K s H) (rx : RV K s H x v) (h : clsAt x s k) : ∃ a dx us B fs, v = .ref a ∧ H a = some (.ins B dx us) ∧ RVf K s H fs us ∧ k B fs := by
  cases x with
  | ref a =>
    simp only [clsAt] at h
    split at h
    · next B fs e =>
      obtain ⟨dx, us, hh, rf⟩ := r.ins e
      exact ⟨a, dx, us, B, fs, rx.ref', hh, rf, h⟩
    · exact h.elim
  | ins B fs =>
    simp only [RV] at rx
    obtain ⟨a, dx, us, rfl, _, hh, rf⟩ := rx
    exact ⟨a, dx, us, B, fs, rfl, hh, rf, h⟩
  | _ => exact h.elim
def lMethD (m : Str) (Tb : Addr → LSp → Prop) (ta : LTE) (t : LTA) : LTE := fun σ s Q E => ta σ s (fun x s1 => clsAt x s1 fun B fs => fs.lookup m = none ∧ ∃ sp, Tb B sp ∧ t σ s1 (fun vs s2 => sp (x :: vs) s2 Q E) E) E
/-- what the classes of the table have as m -/
def MethT (X : Cx) (m : Str) (Tb : Addr → LSp → Prop) : Prop := ∀ C sp, Tb C sp → Cls X.K C ∧ ∃ f fd ps k, Meth X.K C m f ∧ LFn X.prog X.w X.K X.mg X.base k f fd ps sp ∧ Room k X.A ∧ Binds X.K fd ps []
variable {apos : Pos} {Tb : Addr → LSp → Prop}
theorem le_methD {pl : Sem Bool} (ha : LE X o ta) (hT : MethT X m Tb) (hes : LA X (e :: es) tas)
    (hst : starEach (e :: es) X.env = (false, eval e X.env) :: starEach es X.env := by rfl) (hpl : (backTo pos (starEach es X.env)).any (·.1) = false := by rfl)
    (ht : eval (.Call (.Attribute o m apos) (e :: es) [] pos) X.env = (do
      let ov ← eval o X.env
      standAt apos.atName
      let (f, first) ← holding [ov] (getMethod ov m pl)
      callWith pos f first (backTo pos (starEach (e :: es) X.env)) (backToKw pos (keywordEach [] X.env))) := by rfl) : LE X (.Call (.Attribute o m apos) (e :: es) [] pos) (lMethD m Tb ta tas) := fun s0 H0 E tk =>
  ⟨fun pins si σ H Q I ⟨σl, s, Q0, E1, hσ, hs, st, hE, h, kk⟩ => by
    refine PySem.W.methodCall_KW (pl := pl) (thn (ha.go tk I hσ hs st hE h) fun u si1 hx => ?_) ht
    obtain ⟨x, H1, I1, rv, lx, s1, st1, hs1, rx, h⟩ := hx
    obtain ⟨a, dx, us, B, fs, rfl, hh, rf, l, sp, tb, h⟩ := clsAt_ok hs1 rx h
    obtain ⟨c, f, fd, ps, k, hm, F, hr, hb⟩ := hT B sp tb
    obtain rfl : u = Value.ref a := rv
    refine getmeth_ok I1 hh c hm (rf.look0 l) ?_
    refine PySem.W.callWith_K (first := [.ref a]) (h₀ := X.base) I.ok.mod.kin hm.kp (thn (hes.go tk pos I1 (hσ.mono st1) hs1 (st.trans st1) hE h) fun us si2 hx2 => ?_) hst hpl
    obtain ⟨vs, H2, I2, rvs, lvs, s2, st2, hs2, r, h⟩ := hx2
    refine ⟨I2.kIn, ?_⟩
    have st12 := st1.trans st2
    exact run_fnS (E := fun _ => WE (WL X.K s0 H0 E) σ) (us := .ref a :: us) (vs := .ref a :: vs) F hr hb (passAt tk σ) I2 (.cons rfl rvs) (dn_call (hσ.mono st12) hs2 (st.trans st12) hE (.cons (rx.mono st2) r) h fun lv s3 v H3 q st3 => kk lv s3 v H3 q (st12.trans st3))⟩
theorem le_methD0 {pl : Sem Bool} (ha : LE X o ta) (hT : MethT X m Tb)
    (ht : eval (.Call (.Attribute o m apos) [] [] pos) X.env = (do
      let ov ← eval o X.env
      standAt apos.atName
      let (f, first) ← holding [ov] (getMethod ov m pl)
      callWith pos f first (backTo pos (starEach [] X.env)) (backToKw pos (keywordEach [] X.env))) := by rfl) : LE X (.Call (.Attribute o m apos) [] [] pos) (lMethD m Tb ta lNil) := fun s0 H0 E tk =>
  ⟨fun pins si σ H Q I ⟨σl, s, Q0, E1, hσ, hs, st, hE, h, kk⟩ => by
    refine PySem.W.methodCall_KW (pl := pl) (thn (ha.go tk I hσ hs st hE h) fun u si1 hx => ?_) ht
    obtain ⟨x, H1, I1, rv, lx, s1, st1, hs1, rx, h⟩ := hx
    obtain ⟨a, dx, us, B, fs, rfl, hh, rf, l, sp, tb, h⟩ := clsAt_ok hs1 rx h
    obtain ⟨c, f, fd, ps, k, hm, F, hr, hb⟩ := hT B sp tb
    obtain rfl : u = Value.ref a := rv
    refine getmeth_ok I1 hh c hm (rf.look0 l) ?_
    exact PySem.W.callWith_K0 (first := [.ref a]) I1.kIn hm.kp (run_fnS (E := fun _ => WE (WL X.K s0 H0 E) σ) (us := [.ref a]) (vs := [.ref a]) F hr hb (passAt tk σ) I1 (.cons rfl .nil)
      (dn_call (hσ.mono st1) hs1 (st.trans st1) hE (.cons rx .nil) h fun lv s3 v H3 q st3 => kk lv s3 v H3 q (st1.trans st3)))⟩
end

def lstart (N : List Str) (vs : List LV) : LSt := vs.map some ++ List.replicate (N.length - vs.length) none
/-- a def's ends; what is handed back may be frozen, what the store holds forgotten -/
def lEnds (Q : LVK) (E : LX) : LEnds := ⟨fun _ s' => ∃ s2, Sub s2 s' ∧ Q .non s2, fun lv s' => ∃ y s2, Frz lv s' y s2 ∧ Q y s2, fun _ _ => False, fun _ _ => False, fun C _ s' => ∃ s2, Sub s2 s' ∧ E C s2⟩
theorem Sub.refl (s : LS) : Sub s s := fun _ => .inr rfl
section
variable {P : Program} {w : World} {K : PySem.W.Frag} {mg : Str → Option Value} {base : Heap}
theorem _root_.L2.Fun.okL {x qual : Str} {st : Stmt} {f : Addr} {fd : FuncData} {N ps : List Str} {k : Nat} {sp : LSp} (F : Fun K x qual st f fd) (S : FnScope N ps (defScope st)) (len : ∀ vs s Q E, sp vs s Q E → vs.length = ps.length)
    (hbody : ∀ (cdv : Value) (A : Around) (outer : List Env) (si : Shared) (H : Hp) (E : XK), Room k (A.deeper (PyProof.Rows.envOfC qual (defScope st) si.heap.objs.size f cdv)) →
      ∃ t, LPs (cxOf (L2.CX P w) P w K mg base N qual (defScope st) f cdv A outer si H E) (defBody st) t ∧ ∀ vs s Q E, sp vs s Q E → t (lEnds Q E) (lstart N vs) s) : LFn P w K mg base (k + 1) f fd ps sp := by
  refine F.okX S (fun vs H Q E ⟨lvs, s, Q0, E0, r, _, h, _⟩ => by rw [r.length]; exact len _ _ _ _ h) fun cdv A outer si H vs Q E hr h => ?_
  obtain ⟨lvs, s, Q0, E0, r, hs, h, kq, ke⟩ := h
  obtain ⟨t, ht, hb⟩ := hbody cdv A outer si H E hr
  have tk := takes_of (X := cxOf (L2.CX P w) P w K mg base N qual (defScope st) f cdv A outer si H E) (E := E) rfl rfl rfl rfl
  refine ⟨upS K s H (fun C σl s' => ∃ s2, Sub s2 s' ∧ E0 C s2) t, ht s H _ (tk.imp fun cls d σ H' w => ?_) (passes_of rfl), ?_⟩
  · obtain ⟨C, σl, s', rfl, rfl, _, hs', st', s2, sb, q⟩ := w
    exact ke C s2 H' q (st'.trans sb.step) (sb.rel hs')
  · refine ⟨lstart N lvs, s, lEnds Q0 E0, ?_, hs, .refl _ _, hb lvs s Q0 E0 h, ⟨fun σl s' σ H' ⟨s2, sb, q⟩ st' hs' _ => kq .non s2 .non H' q (st'.trans sb.step) (sb.rel hs') .non, fun lv s' v H' ⟨y, s2, fz, q⟩ st' hs' rv => ?_, fun _ _ _ _ z => z.elim, fun _ _ _ _ z => z.elim, fun _ _ _ z => z⟩⟩
    · show RSt K s H (lstart N lvs) (start N vs)
      unfold lstart
      have e : start N vs = vs.map some ++ List.replicate (N.length - vs.length) none := rfl
      rw [e, r.length]
      exact (RSt.vals r).append (.nones _)
    · obtain ⟨a, b, c⟩ := fz K H' v hs' rv
      exact kq y s2 v H' q (st'.trans c) b a
end
end L3

namespace L3
open PySem PySem.Spec L2
structure MkN (K : PySem.W.Frag) (C : Addr) : Prop where
  makes : PySem.W.makesIn K C = true
  init : PySem.W.findIn K (.ref C) "__init__" = some (some (.builtin "object.__init__"))
  kp : PySem.W.keepIn K (.ref C) = true
def lMakeN (C : Addr) : LTE := fun σ s Q E => ∀ x, s x = none → Q (.ref x) (put s x (.ins C []))
section
variable {X : Cx} {C : Addr} {x : Str} {p pos : Pos}
theorem le_makeN (M : MkN X.K C) (hg : Gl X x) (hm : X.mg x = some (.ref C)) (hdb : (x == ("__debug__" : Str)) = false := by decide) :
    LE X (.Call (.Name x p) [] [] pos) (lMakeN C) := fun s0 H0 E tk => ⟨fun pins si σ H Q I ⟨σl, s, Q0, E1, hσ, hs, st, hE, h, kk⟩ => by
  refine wpAny_Call_Name_kw (ld_glob I hg hm ?_ hdb)
  refine PySem.W.callWith_K0 I.kIn M.kp ?_
  have ny := I.hok.fresh (a := si.heap.objs.size + 1) (Nat.le_succ _)
  have nd := I.hok.fresh (a := si.heap.objs.size) (Nat.le_refl _)
  have J := Inv.made (C := C) I
  obtain ⟨stm, hsm⟩ := made_step (C := C) hs ny nd (Nat.ne_of_lt (Nat.lt_succ_self _))
  have q := kk _ _ _ _ (h _ (hs.free ny)) stm hsm .ref
  have Y := PySem.W.makes_of (M := model X.prog X.w) I.kIn M.makes
  refine wpAny_call (make_map0 I.kIn M.makes M.init (fun self => PySem.W.Looks.of_pure (PySem.W.oi_bind self)) ?_)
  have hobj : ((si.heap.push PySem.W.emptyDict).push (PySem.W.instObj C si.heap.objs.size)).get? (si.heap.objs.size + 1) = some (PySem.W.instObj C si.heap.objs.size) := by
    have := Heap.get?_push_size (si.heap.push PySem.W.emptyDict) (o := PySem.W.instObj C si.heap.objs.size) rfl
    rwa [Heap.size_push] at this
  have t1 : PySem.W.Looks (model X.prog X.w) ((si.heap.push PySem.W.emptyDict).push (PySem.W.instObj C si.heap.objs.size)) (typeOf (.ref (si.heap.objs.size + 1))) (.ref C) := (PySem.W.Looks.ld hobj).andThen .now
  have t2 : PySem.W.Looks (model X.prog X.w) ((si.heap.push PySem.W.emptyDict).push (PySem.W.instObj C si.heap.objs.size)) (isInstance (.ref (si.heap.objs.size + 1)) (.type "object")) true := t1.andThen (Y.top.keeps fun b o e => Heap.get?_push_of_some _ (Heap.get?_push_of_some _ e))
  refine PySem.codeAny_call_builtin PySem.W.oi_plain PySem.W.entry_oi (@PySem.W.check_slot (model X.prog X.w) _ _ _ "object.__init__" "object" "__init__" (.ref (si.heap.objs.size + 1)) [] [] _ PySem.W.oi_kind PySem.W.oi_split t2 (PySem.W.oi_args (.ref (si.heap.objs.size + 1))) ?_)
  rw [PySem.W.oi_run]
  exact wpAny_pure (And.intro rfl ⟨V.ref (si.heap.objs.size + 1), _, J, rfl, q⟩)⟩
end
end L3

namespace L3
open PySem PySem.Spec L2
@[simp] theorem lC_ap (v : LV) (σ_ : LSt) (s : LS) (Q : LVK) (E_ : LX) : lC v σ_ s Q E_ = (Q v s) := rfl
@[simp] theorem lOp_ap (r : LR2) (ta tb : LTE) (σ : LSt) (s : LS) (Q : LVK) (E : LX) : lOp r ta tb σ s Q E = (ta σ s (fun x s1 => tb σ s1 (fun y s2 => r x y s2 Q) E) E) := rfl
@[simp] theorem lUn_ap (r : LR1) (ta : LTE) (σ : LSt) (s : LS) (Q : LVK) (E : LX) : lUn r ta σ s Q E = (ta σ s (fun x s1 => r x s1 Q) E) := rfl
@[simp] theorem lB_ap (t : LTE) (σ : LSt) (s : LS) (Q : Bool → LS → Prop) (E : LX) : lB t σ s Q E = (t σ s (fun x s1 => isBl x fun c => Q c s1) E) := rfl
@[simp] theorem lAnd_ap (t u : LTT) (σ : LSt) (s : LS) (Q : Bool → LS → Prop) (E : LX) : lAnd t u σ s Q E = (t σ s (fun c s1 => (c = true → u σ s1 Q E) ∧ (c = false → Q false s1)) E) := rfl
@[simp] theorem lOr_ap (t u : LTT) (σ : LSt) (s : LS) (Q : Bool → LS → Prop) (E : LX) : lOr t u σ s Q E = (t σ s (fun c s1 => (c = true → Q true s1) ∧ (c = false → u σ s1 Q E)) E) := rfl
@[simp] theorem lNot_ap (t : LTT) (σ : LSt) (s : LS) (Q : Bool → LS → Prop) (E : LX) : lNot t σ s Q E = (t σ s (fun c s1 => Q (!c) s1) E) := rfl
@[simp] theorem lAndV_ap (ta tb : LTE) (σ : LSt) (s : LS) (Q : LVK) (E : LX) : lAndV ta tb σ s Q E = (lB ta σ s (fun c s1 => (c = true → tb σ s1 Q E) ∧ (c = false → Q (.bl false) s1)) E) := rfl
@[simp] theorem lOrV_ap (ta tb : LTE) (σ : LSt) (s : LS) (Q : LVK) (E : LX) : lOrV ta tb σ s Q E = (lB ta σ s (fun c s1 => (c = true → Q (.bl true) s1) ∧ (c = false → tb σ s1 Q E)) E) := rfl
@[simp] theorem lNotV_ap (ta : LTE) (σ : LSt) (s : LS) (Q : LVK) (E : LX) : lNotV ta σ s Q E = (lB ta σ s (fun c s1 => Q (.bl (!c)) s1) E) := rfl
@[simp] theorem lCutT_ap (t : LTT) (σ : LSt) (s : LS) (Q : Bool → LS → Prop) (E : LX) : lCutT t σ s Q E = (∃ b, t σ s (fun b' s' => b' = b ∧ s' = s) E ∧ Q b s) := rfl
@[simp] theorem lCutE_ap (t : LTE) (σ : LSt) (s : LS) (Q : LVK) (E : LX) : lCutE t σ s Q E = (∃ v, t σ s (fun v' s' => v' = v ∧ s' = s) E ∧ Q v s) := rfl
@[simp] theorem lNil_ap  (σ_ : LSt) (s : LS) (Q : List LV → LS → Prop) (E_ : LX) : lNil  σ_ s Q E_ = (Q [] s) := rfl
@[simp] theorem lCons_ap (t : LTE) (u : LTA) (σ : LSt) (s : LS) (Q : List LV → LS → Prop) (E : LX) : lCons t u σ s Q E = (t σ s (fun x s1 => u σ s1 (fun xs s2 => Q (x :: xs) s2) E) E) := rfl
@[simp] theorem lNext_ap  (D : LEnds) (σ : LSt) (s : LS) : lNext  D σ s = (D.nx σ s) := rfl
@[simp] theorem lSeq_ap (t u : LTS) (D : LEnds) (σ : LSt) (s : LS) : lSeq t u D σ s = (t (D.wnx (u D)) σ s) := rfl
@[simp] theorem lBreak_ap  (D : LEnds) (σ : LSt) (s : LS) : lBreak  D σ s = (D.bk σ s) := rfl
@[simp] theorem lCont_ap  (D : LEnds) (σ : LSt) (s : LS) : lCont  D σ s = (D.ct σ s) := rfl
@[simp] theorem lDrop_ap (te : LTE) (D : LEnds) (σ : LSt) (s : LS) : lDrop te D σ s = (te σ s (fun _ s1 => D.nx σ s1) (fun C s1 => D.ex C σ s1)) := rfl
@[simp] theorem lRet_ap (te : LTE) (D : LEnds) (σ : LSt) (s : LS) : lRet te D σ s = (te σ s D.rt (fun C s1 => D.ex C σ s1)) := rfl
@[simp] theorem lRetN_ap  (D : LEnds) (σ_ : LSt) (s : LS) : lRetN  D σ_ s = (D.rt .non s) := rfl
@[simp] theorem lIf_ap (c : LTT) (t u : LTS) (D : LEnds) (σ : LSt) (s : LS) : lIf c t u D σ s = (c σ s (fun b s1 => (b = true → t D σ s1) ∧ (b = false → u D σ s1)) (fun C s1 => D.ex C σ s1)) := rfl
@[simp] theorem lCut_ap (t : LTS) (D : LEnds) (σ : LSt) (s : LS) : lCut t D σ s = (∃ R : LSt → LS → Prop, t (D.wnx R) σ s ∧ ∀ σ' s', R σ' s' → D.nx σ' s') := rfl
@[simp] theorem lNever_ap  (D_ : LEnds) (σ_ : LSt) (s_ : LS) : lNever  D_ σ_ s_ = (False) := rfl
@[simp] theorem lgName_ap (i : Nat) (v : LV) (σ : LSt) (s : LS) (Q : LSt → LS → Prop) (E_ : LX) : lgName i v σ s Q E_ = (Q (σ.set i (some v)) s) := rfl
@[simp] theorem lAsg_ap (te : LTE) (g : LTG) (D : LEnds) (σ : LSt) (s : LS) : lAsg te g D σ s = (te σ s (fun x s1 => g x σ s1 D.nx (fun C s2 => D.ex C σ s2)) (fun C s1 => D.ex C σ s1)) := rfl
@[simp] theorem lFor_ap (it : LTI) (g : LTG) (tb : LTS) (D : LEnds) (σ : LSt) (s : LS) : lFor it g tb D σ s = (it σ s (fun xs stb s1 => lLoop g tb stb D xs σ s1) (fun C s1 => D.ex C σ s1)) := rfl
@[simp] theorem lFz_ap (t : LTL) (σ : LSt) (s : LS) (Q : LVK) (E : LX) : lFz t σ s Q E = (t σ s (fun xs s1 => Q (.lst xs) s1) E) := rfl
@[simp] theorem lNew_ap (t : LTL) (σ : LSt) (s : LS) (Q : LVK) (E : LX) : lNew t σ s Q E = (t σ s (fun xs s1 => ∀ p, s1 p = none → Q (.ref p) (put s1 p (.lst xs))) E) := rfl
@[simp] theorem lDisp_ap (t : LTA) (σ : LSt) (s : LS) (Q : List LV → LS → Prop) (E : LX) : lDisp t σ s Q E = (t σ s (fun xs s1 => xs.length ≤ 16777216 ∧ Q xs s1) E) := rfl
@[simp] theorem lTup_ap (t : LTA) (σ : LSt) (s : LS) (Q : LVK) (E : LX) : lTup t σ s Q E = (t σ s (fun xs s1 => xs.length ≤ 16777216 ∧ Q (.tup xs) s1) E) := rfl
@[simp] theorem lFld_ap (C : Addr) (f : Str) (ta : LTE) (σ : LSt) (s : LS) (Q : LVK) (E : LX) : lFld C f ta σ s Q E = (ta σ s (fun x s1 => fldAt C f x s1 fun v => Q v s1) E) := rfl
@[simp] theorem lSetF_ap (C : Addr) (f : Str) (ta tv : LTE) (D : LEnds) (σ : LSt) (s : LS) : lSetF C f ta tv D σ s = (tv σ s (fun y s1 => ta σ s1 (fun x s2 => match x with
  | .ref a => (match s2 a with
    | some (.ins B fs) => B = C ∧ fs.length < 1000 ∧ D.nx σ (put s2 a (.ins C (putL f y fs)))
    | _ => False)
  | _ => False) (fun C s3 => D.ex C σ s3)) (fun C s3 => D.ex C σ s3)) := rfl
@[simp] theorem lCall_ap (sp : LSp) (t : LTA) (σ : LSt) (s : LS) (Q : LVK) (E : LX) : lCall sp t σ s Q E = (t σ s (fun vs s1 => sp vs s1 Q E) E) := rfl
@[simp] theorem lMeth_ap (C : Addr) (m : Str) (sp : LSp) (ta : LTE) (t : LTA) (σ : LSt) (s : LS) (Q : LVK) (E : LX) : lMeth C m sp ta t σ s Q E = (ta σ s (fun x s1 => methAt C m x s1 ∧ t σ s1 (fun vs s2 => sp (x :: vs) s2 Q E) E) E) := rfl
@[simp] theorem lMake_ap (C : Addr) (sp : LSp) (t : LTA) (σ : LSt) (s : LS) (Q : LVK) (E : LX) : lMake C sp t σ s Q E = (t σ s (fun vs s1 => ∀ x, s1 x = none → sp (.ref x :: vs) (put s1 x (.ins C [])) (fun v s2 => v = .non ∧ Q (.ref x) s2) E) E) := rfl
@[simp] theorem lMakeF_ap (C : Addr) (sp : LSp) (t : LTA) (σ : LSt) (s : LS) (Q : LVK) (E : LX) : lMakeF C sp t σ s Q E = (t σ s (fun vs s1 => ∀ x, s1 x = none → sp (.ref x :: vs) (put s1 x (.ins C [])) (fun v s2 => v = .non ∧ ∃ fs, s2 x = some (.ins C fs) ∧ Q (.ins C fs) (del s2 x)) E) E) := rfl
@[simp] theorem lFrz_ap (t : LTE) (σ : LSt) (s : LS) (Q : LVK) (E : LX) : lFrz t σ s Q E = (t σ s (fun x s1 => ∃ y s2, Frz x s1 y s2 ∧ Q y s2) E) := rfl
@[simp] theorem lOpL_ap (r : LV → LV → LS → (List LV → LS → Prop) → Prop) (ta tb : LTE) (σ : LSt) (s : LS) (Q : List LV → LS → Prop) (E : LX) : lOpL r ta tb σ s Q E = (ta σ s (fun x s1 => tb σ s1 (fun y s2 => r x y s2 Q) E) E) := rfl
@[simp] theorem lNoP_ap  (σ_ : LSt) (s : LS) (Q : Option Int → LS → Prop) (E_ : LX) : lNoP  σ_ s Q E_ = (Q none s) := rfl
@[simp] theorem lPart_ap (t : LTE) (σ : LSt) (s : LS) (Q : Option Int → LS → Prop) (E : LX) : lPart t σ s Q E = (t σ s (fun x s1 => match x with
  | .int i => Q (some i) s1
  | _ => False) E) := rfl
@[simp] theorem lSl_ap (te : LTE) (tl th : LTO) (σ : LSt) (s : LS) (Q : List LV → LS → Prop) (E : LX) : lSl te tl th σ s Q E = (te σ s (fun x s1 => tl σ s1 (fun lo s2 => th σ s2 (fun hi s3 => opt (seqR x s3) fun xs => Q (cutL xs lo hi) s3) E) E) E) := rfl
@[simp] theorem lCB_ap (r : LRc) (t : LTA) (σ : LSt) (s : LS) (Q : LVK) (E : LX) : lCB r t σ s Q E = (t σ s (fun vs s1 => r vs s1 Q) E) := rfl
@[simp] theorem lCBL_ap (r : List LV → LS → (List LV → LS → Prop) → Prop) (t : LTA) (σ : LSt) (s : LS) (Q : List LV → LS → Prop) (E : LX) : lCBL r t σ s Q E = (t σ s (fun vs s1 => r vs s1 Q) E) := rfl
@[simp] theorem lLstRg2_ap (ta tb : LTE) (σ : LSt) (s : LS) (Q : List LV → LS → Prop) (E : LX) : lLstRg2 ta tb σ s Q E = (ta σ s (fun x s1 => tb σ s1 (fun y s2 => match x, y with
  | .int i, .int j => RgOk i j ∧ Q (rgL i j) s2
  | _, _ => False) E) E) := rfl
@[simp] theorem lLstRg1_ap (ta : LTE) (σ : LSt) (s : LS) (Q : List LV → LS → Prop) (E : LX) : lLstRg1 ta σ s Q E = (ta σ s (fun x s1 => match x with
  | .int j => RgOk 0 j ∧ Q (rgL 0 j) s1
  | _ => False) E) := rfl
@[simp] theorem rAllL_ap  (vs : List LV) (s : LS) (Q : LVK) : rAllL  vs s Q = (one1 vs fun x => opt (seqL x s) fun xs => opt (blsOf xs) fun bs => Q (.bl (bs.all id)) s) := rfl
@[simp] theorem rAnyL_ap  (vs : List LV) (s : LS) (Q : LVK) : rAnyL  vs s Q = (one1 vs fun x => opt (seqL x s) fun xs => opt (blsOf xs) fun bs => Q (.bl (bs.any id)) s) := rfl
@[simp] theorem rMaxL_ap  (vs : List LV) (s : LS) (Q : LVK) : rMaxL  vs s Q = (one1 vs fun x => opt (seqL x s) fun xs => opt (intsOf xs) fun ns => 0 < ns.length ∧ ∀ m, m ∈ ns → (∀ y, y ∈ ns → y ≤ m) → Q (.int m) s) := rfl
@[simp] theorem rMinL_ap  (vs : List LV) (s : LS) (Q : LVK) : rMinL  vs s Q = (one1 vs fun x => opt (seqL x s) fun xs => opt (intsOf xs) fun ns => 0 < ns.length ∧ ∀ m, m ∈ ns → (∀ y, y ∈ ns → m ≤ y) → Q (.int m) s) := rfl
@[simp] theorem lBML_ap (r : LRm) (to : LTE) (t : LTA) (σ : LSt) (s : LS) (Q : LVK) (E : LX) : lBML r to t σ s Q E = (to σ s (fun x s1 => (seqL x s1).isSome = true ∧ t σ s1 (fun vs s2 => r x vs s2 Q) E) E) := rfl
@[simp] theorem rAppL_ap  (x : LV) (vs : List LV) (s : LS) (Q : LVK) : rAppL  x vs s Q = (one1 vs fun y => atL x s fun a xs => xs.length < 16777216 ∧ Q .non (put s a (.lst (xs ++ [y])))) := rfl
@[simp] theorem rClrL_ap  (x : LV) (vs : List LV) (s : LS) (Q : LVK) : rClrL  x vs s Q = (vs = [] ∧ atL x s fun a xs => Q .non (put s a (.lst []))) := rfl
@[simp] theorem rPopL_ap  (x : LV) (vs : List LV) (s : LS) (Q : LVK) : rPopL  x vs s Q = (vs = [] ∧ atL x s fun a xs => opt (xs[xs.length - 1]?) fun y => Q y (put s a (.lst xs.dropLast))) := rfl
@[simp] theorem rExtL_ap  (x : LV) (vs : List LV) (s : LS) (Q : LVK) : rExtL  x vs s Q = (one1 vs fun y => opt (seqL y s) fun ys => atL x s fun a xs => xs.length + ys.length ≤ 16777216 ∧ Q .non (put s a (.lst (xs ++ ys)))) := rfl
@[simp] theorem lgSub_ap (to ti : LTE) (v : LV) (σ : LSt) (s : LS) (Q : LSt → LS → Prop) (E : LX) : lgSub to ti v σ s Q E = (to σ s (fun o s1 => ti σ s1 (fun i s2 => rSetL o i v s2 fun s3 => Q σ s3) E) E) := rfl
@[simp] theorem lDisK_ap (trs : List (Str × LTE)) (σ : LSt) (s : LS) (Q : LVK) (E : LX) : lDisK trs σ s Q E = (∀ p, s p = none → lPairs p trs σ (put s p (.dK [])) (fun kvs s2 => s2 p = some (.dK []) ∧ kvs.length ≤ 15 ∧ (kvs.map (·.1)).Nodup ∧ Q (.ref p) (put s2 p (.dK kvs))) E) := rfl
@[simp] theorem iSeq_ap (te : LTE) (σ : LSt) (s : LS) (Q : List LV → (LS → Prop) → LS → Prop) (E : LX) : iSeq te σ s Q E = (te σ s (fun x s1 => match x with
  | .ref a => (match s1 a with
    | some (.lst xs) => Q xs (fun s2 => s2 a = some (.lst xs)) s1
    | _ => False)
  | _ => opt (seqR x s1) fun xs => Q xs (fun _ => True) s1) E) := rfl
@[simp] theorem iTupl_ap (te : LTE) (σ : LSt) (s : LS) (Q : List LV → (LS → Prop) → LS → Prop) (E : LX) : iTupl te σ s Q E = (te σ s (fun x s1 => match x with
  | .tup xs => Q xs (fun _ => True) s1
  | _ => False) E) := rfl
@[simp] theorem iRg1_ap (ta : LTA) (σ : LSt) (s : LS) (Q : List LV → (LS → Prop) → LS → Prop) (E : LX) : iRg1 ta σ s Q E = (ta σ s (fun vs s1 => one1 vs fun x => isInt x fun j => -(2 ^ 62) ≤ j ∧ j < 2 ^ 62 ∧ Q (rgL 0 j) (fun _ => True) s1) E) := rfl
@[simp] theorem iRg2_ap (ta : LTA) (σ : LSt) (s : LS) (Q : List LV → (LS → Prop) → LS → Prop) (E : LX) : iRg2 ta σ s Q E = (ta σ s (fun vs s1 => two2 vs fun x y => isInt x fun i => isInt y fun j => (-(2 ^ 62) ≤ i ∧ i < 2 ^ 62 ∧ -(2 ^ 62) ≤ j ∧ j < 2 ^ 62) ∧ Q (rgL i j) (fun _ => True) s1) E) := rfl
@[simp] theorem iEnumL_ap (ta : LTA) (σ : LSt) (s : LS) (Q : List LV → (LS → Prop) → LS → Prop) (E : LX) : iEnumL ta σ s Q E = (ta σ s (fun vs s1 => one1 vs fun x => opt (seqR x s1) fun xs => Q ((rgL 0 xs.length).zip xs |>.map fun p => .tup [p.1, p.2]) (stbOf x xs) s1) E) := rfl
@[simp] theorem iZipL_ap (ta : LTA) (σ : LSt) (s : LS) (Q : List LV → (LS → Prop) → LS → Prop) (E : LX) : iZipL ta σ s Q E = (ta σ s (fun vs s1 => two2 vs fun x y => opt (seqR x s1) fun xs => opt (seqR y s1) fun ys => Q ((xs.zip ys).map fun p => .tup [p.1, p.2]) (fun s2 => stbOf x xs s2 ∧ stbOf y ys s2) s1) E) := rfl
@[simp] theorem lYes_ap  (σ_ : LSt) (s : LS) (Q : Bool → LS → Prop) (E_ : LX) : lYes  σ_ s Q E_ = (Q true s) := rfl
@[simp] theorem lLc_ap (it : LTI) (g : CTg) (tt : LTT) (te : LTE) (vs : List Nat) (σ : LSt) (s : LS) (Q : List LV → LS → Prop) (E : LX) : lLc it g tt te vs σ s Q E = (it σ s (fun xs stb s1 => ∀ D, s1 D = none → lcLoop D g tt te stb (lwipe σ vs) Q xs (put s1 D (.lst []))) E) := rfl
@[simp] theorem lRaise_ap (C : Addr) (D : LEnds) (σ : LSt) (s : LS) : lRaise C D σ s = (D.ex C σ s) := rfl
@[simp] theorem lTryX_ap (K : PySem.W.Frag) (c : Value) (tb : LTS) (ts : Addr → LTS) (D : LEnds) (σ : LSt) (s : LS) : lTryX K c tb ts D σ s = (tb (D.wex fun C σ' s' => ∃ b, PySem.W.exmOne K (.ref C) c = some b ∧ (b = true → ts C (D.wex noX) σ' s') ∧ (b = false → D.ex C σ' s')) σ s) := rfl
@[simp] theorem lTryAs_ap (K : PySem.W.Frag) (c : Value) (i : Nat) (tb : LTS) (ts : Addr → Addr → LTS) (D : LEnds) (σ : LSt) (s : LS) : lTryAs K c i tb ts D σ s = (tb (D.wex fun C σ' s' => ∃ b, PySem.W.exmOne K (.ref C) c = some b ∧
  (b = true → ∀ a, ts a C { nx := fun σ' s' => D.nx (σ'.set i none) s', rt := D.rt, bk := fun σ' s' => D.bk (σ'.set i none) s', ct := fun σ' s' => D.ct (σ'.set i none) s', ex := noX } (σ'.set i (some (.ref a))) s') ∧ (b = false → D.ex C σ' s')) σ s) := rfl
@[simp] theorem rIsEL_ap (K : PySem.W.Frag) (a C : Addr) (vs : List LV) (s : LS) (Q : LVK) : rIsEL K a C vs s Q = (two2 vs fun x c => x = .ref a ∧ ExcC K C ∧ opt (clsVal c) fun u => ∃ b, PySem.W.kitOne K (.ref C) u = some b ∧ Q (.bl b) s) := rfl
@[simp] theorem lMethD_ap (m : Str) (Tb : Addr → LSp → Prop) (ta : LTE) (t : LTA) (σ : LSt) (s : LS) (Q : LVK) (E : LX) : lMethD m Tb ta t σ s Q E = (ta σ s (fun x s1 => clsAt x s1 fun B fs => fs.lookup m = none ∧ ∃ sp, Tb B sp ∧ t σ s1 (fun vs s2 => sp (x :: vs) s2 Q E) E) E) := rfl
@[simp] theorem lMakeN_ap (C : Addr) (σ : LSt) (s : LS) (Q : LVK) (E : LX) : lMakeN C σ s Q E = (∀ x, s x = none → Q (.ref x) (put s x (.ins C []))) := rfl

@[simp] theorem lVar_ap (i : Nat) (σ : LSt) (s : LS) (Q : LVK) (E : LX) : lVar i σ s Q E = (match σ[i]? with
  | some (some v) => Q v s
  | _ => False) := rfl
@[simp] theorem isBl_bl (c : Bool) (k : Bool → Prop) : isBl (.bl c) k = k c := rfl
@[simp] theorem opt_some {α : Type} (v : α) (k : α → Prop) : opt (some v) k = k v := rfl
@[simp] theorem one1_ap (v : LV) (k : LV → Prop) : one1 [v] k = k v := rfl
@[simp] theorem two2_ap (v w : LV) (k : LV → LV → Prop) : two2 [v, w] k = k v w := rfl
@[simp] theorem isInt_ap (i : Int) (k : Int → Prop) : isInt (.int i) k = k i := rfl
@[simp] theorem rl2_ap (C : Int → Int → Prop) (g : Int → Int → LV) (i j : Int) (s : LS) (Q : LVK) : rl2 C g (.int i) (.int j) s Q = (C i j ∧ Q (g i j) s) := rfl
@[simp] theorem rl2'_ap (g : Int → Int → LV) (i j : Int) (s : LS) (Q : LVK) : rl2' g (.int i) (.int j) s Q = Q (g i j) s := rfl
@[simp] theorem rNegI_ap (i : Int) (s : LS) (Q : LVK) : rNegI (.int i) s Q = Q (.int (-i)) s := rfl
@[simp] theorem rAddL_int (i j : Int) (s : LS) (Q : LVK) : rAddL (.int i) (.int j) s Q = Q (.int (i + j)) s := rfl
@[simp] theorem rAddL_str (i j : Str) (s : LS) (Q : LVK) : rAddL (.str i) (.str j) s Q = (i.length + j.length ≤ 16777216 ∧ Q (.str (i ++ j)) s) := rfl
@[simp] theorem rCatL_ap (x y : LV) (s : LS) (Q : List LV → LS → Prop) : rCatL x y s Q = (opt (seqL x s) fun xs => opt (seqL y s) fun ys => xs.length + ys.length ≤ 16777216 ∧ Q (xs ++ ys) s) := rfl
@[simp] theorem rRepL_ap (x : LV) (k : Int) (s : LS) (Q : List LV → LS → Prop) : rRepL x (.int k) s Q = (opt (seqL x s) fun xs => -(2 ^ 63) ≤ k ∧ k < 2 ^ 63 ∧ xs.length * k.toNat ≤ 16777216 ∧ Q (List.replicate k.toNat xs).flatten s) := rfl
@[simp] theorem seqL_lst (xs : List LV) (s : LS) : seqL (.lst xs) s = some xs := rfl
@[simp] theorem seqL_ref (a : Addr) (s : LS) : seqL (.ref a) s = (match s a with
    | some (.lst xs) => some xs
    | _ => none) := rfl
@[simp] theorem seqR_lst (xs : List LV) (s : LS) : seqR (.lst xs) s = some xs := rfl
@[simp] theorem seqR_scr (ns : List Int) (s : LS) : seqR (.scr ns) s = some (ns.map .int) := rfl
@[simp] theorem seqR_ref (a : Addr) (s : LS) : seqR (.ref a) s = (match s a with
    | some (.lst xs) => some xs
    | _ => none) := rfl
@[simp] theorem lenL_lst (xs : List LV) (s : LS) : lenL (.lst xs) s = some xs.length := rfl
@[simp] theorem lenL_tup (xs : List LV) (s : LS) : lenL (.tup xs) s = some xs.length := rfl
@[simp] theorem lenL_scr (xs : List Int) (s : LS) : lenL (.scr xs) s = some xs.length := rfl
@[simp] theorem lenL_ref (a : Addr) (s : LS) : lenL (.ref a) s = (match s a with
    | some (.lst xs) => some xs.length
    | _ => none) := rfl
@[simp] theorem rLenL_str (z : Str) (s : LS) (Q : LVK) : rLenL [.str z] s Q = (z.length ≤ 16777216 ∧ Q (.int z.length) s) := rfl
@[simp] theorem rLenL_lst (xs : List LV) (s : LS) (Q : LVK) : rLenL [.lst xs] s Q = Q (.int (xs.length : Int)) s := rfl
@[simp] theorem rLenL_tup (xs : List LV) (s : LS) (Q : LVK) : rLenL [.tup xs] s Q = Q (.int (xs.length : Int)) s := rfl
@[simp] theorem rLenL_scr (xs : List Int) (s : LS) (Q : LVK) : rLenL [.scr xs] s Q = Q (.int (xs.length : Int)) s := rfl
@[simp] theorem rLenL_ref (a : Addr) (s : LS) (Q : LVK) : rLenL [.ref a] s Q = opt (lenL (.ref a) s) fun n => Q (.int (n : Int)) s := rfl
@[simp] theorem rEqS_int (i j : Int) (s : LS) (Q : LVK) : rEqS (.int i) (.int j) s Q = Q (.bl (decide (i = j))) s := rfl
@[simp] theorem rEqS_bl (i j : Bool) (s : LS) (Q : LVK) : rEqS (.bl i) (.bl j) s Q = Q (.bl (decide (i = j))) s := rfl
@[simp] theorem rEqS_str (i j : Str) (s : LS) (Q : LVK) : rEqS (.str i) (.str j) s Q = Q (.bl (decide (i = j))) s := rfl
@[simp] theorem rNeS_int (i j : Int) (s : LS) (Q : LVK) : rNeS (.int i) (.int j) s Q = Q (.bl (!decide (i = j))) s := rfl
@[simp] theorem rNeS_bl (i j : Bool) (s : LS) (Q : LVK) : rNeS (.bl i) (.bl j) s Q = Q (.bl (!decide (i = j))) s := rfl
@[simp] theorem rNeS_str (i j : Str) (s : LS) (Q : LVK) : rNeS (.str i) (.str j) s Q = Q (.bl (!decide (i = j))) s := rfl
section
variable (s : LS) (Q : LVK)
@[simp] theorem rIsN_non : rIsNonL .non .non s Q = Q (.bl true) s := rfl
@[simp] theorem rIsN_bl (b : Bool) : rIsNonL (.bl b) .non s Q = Q (.bl false) s := rfl
@[simp] theorem rIsN_int (b : Int) : rIsNonL (.int b) .non s Q = Q (.bl false) s := rfl
@[simp] theorem rIsN_str (b : Str) : rIsNonL (.str b) .non s Q = Q (.bl false) s := rfl
@[simp] theorem rIsN_ref (b : Addr) : rIsNonL (.ref b) .non s Q = Q (.bl false) s := rfl
@[simp] theorem rIsN_tup (b : List LV) : rIsNonL (.tup b) .non s Q = Q (.bl false) s := rfl
@[simp] theorem rIsN_lst (b : List LV) : rIsNonL (.lst b) .non s Q = Q (.bl false) s := rfl
@[simp] theorem rIsN_dT (b : List (List Key × LV)) : rIsNonL (.dT b) .non s Q = Q (.bl false) s := rfl
@[simp] theorem rNotN_ap (x y : LV) : rNotNonL x y s Q = rIsNonL x y s fun v s' => match v with
  | .bl c => Q (.bl (!c)) s'
  | _ => False := rfl
@[simp] theorem rIx_lst (xs : List LV) (i : Int) : rIxL (.lst xs) (.int i) s Q = opt (atI xs i) fun v => Q v s := rfl
@[simp] theorem rIx_tup (xs : List LV) (i : Int) : rIxL (.tup xs) (.int i) s Q = opt (atI xs i) fun v => Q v s := rfl
@[simp] theorem rIx_scr (xs : List Int) (i : Int) : rIxL (.scr xs) (.int i) s Q = opt (atI xs i) fun v => Q (.int v) s := rfl
@[simp] theorem rIx_str (z : Str) (i : Int) : rIxL (.str z) (.int i) s Q = (z.length ≤ 16777216 ∧ opt (atI z.cps.toList i) fun c => Q (.str ⟨#[c]⟩) s) := rfl
@[simp] theorem rIx_ref (a : Addr) (i : Int) : rIxL (.ref a) (.int i) s Q = (match s a with
      | some (.lst xs) => opt (atI xs i) fun v => Q v s
      | some (.dK kvs) => opt (valL kvs (.inl i)) fun v => Q v s
      | _ => False) := rfl
@[simp] theorem rIx_key (x : LV) (z : Str) : rIxL x (.str z) s Q = opt (dicK x s) fun kvs => opt (valL kvs (.inr z)) fun v => Q v s := rfl
@[simp] theorem rIx_dT (x : LV) (ks : List LV) : rIxL x (.tup ks) s Q = opt (dicT x s) fun kvs => opt (keysL ks) fun k => opt (valL kvs k) fun v => Q v s := rfl
@[simp] theorem dicK_ref (a : Addr) : dicK (.ref a) s = (match s a with
    | some (.dK kvs) => some kvs
    | _ => none) := rfl
@[simp] theorem dicT_ref (a : Addr) : dicT (.ref a) s = (match s a with
    | some (.dT kvs) => some kvs
    | _ => none) := rfl
@[simp] theorem dicT_dT (kvs : List (List Key × LV)) : dicT (.dT kvs) s = some kvs := rfl
@[simp] theorem atL_ref (a : Addr) (k : Addr → List LV → Prop) : atL (.ref a) s k = (match s a with
    | some (.lst xs) => k a xs
    | _ => False) := rfl
@[simp] theorem keyL_int (i : Int) : keyL (.int i) = some (.inl i) := rfl
@[simp] theorem keyL_str (i : Str) : keyL (.str i) = some (.inr i) := rfl
@[simp] theorem keysL_nil : keysL [] = some [] := rfl
@[simp] theorem keysL_cons (x : LV) (xs : List LV) : keysL (x :: xs) = (keyL x).bind fun k => (keysL xs).map (k :: ·) := rfl
@[simp] theorem fld_ref (C : Addr) (f : Str) (a : Addr) (k : LV → Prop) : fldAt C f (.ref a) s k = (match s a with
    | some (.ins D fs) => D = C ∧ (match fs.lookup f with
      | some v => k v
      | none => False)
    | _ => False) := rfl
@[simp] theorem fld_ins (C D : Addr) (f : Str) (fs : List (Str × LV)) (k : LV → Prop) : fldAt C f (.ins D fs) s k = (D = C ∧ (match fs.lookup f with
    | some v => k v
    | none => False)) := rfl
@[simp] theorem meth_ref (C : Addr) (f : Str) (a : Addr) : methAt C f (.ref a) s = (match s a with
    | some (.ins B fs) => B = C ∧ fs.lookup f = none
    | _ => False) := rfl
@[simp] theorem meth_ins (C D : Addr) (f : Str) (fs : List (Str × LV)) : methAt C f (.ins D fs) s = (D = C ∧ fs.lookup f = none) := rfl
@[simp] theorem clsAt_ref (a : Addr) (k : Addr → List (Str × LV) → Prop) : clsAt (.ref a) s k = (match s a with
    | some (.ins B fs) => k B fs
    | _ => False) := rfl
@[simp] theorem clsAt_ins (C : Addr) (fs : List (Str × LV)) (k : Addr → List (Str × LV) → Prop) : clsAt (.ins C fs) s k = k C fs := rfl
@[simp] theorem rLst_lst (xs : List LV) (Q : List LV → LS → Prop) : rLstOf [.lst xs] s Q = Q xs s := rfl
@[simp] theorem rLst_tup (xs : List LV) (Q : List LV → LS → Prop) : rLstOf [.tup xs] s Q = Q xs s := rfl
@[simp] theorem rLst_scr (xs : List Int) (Q : List LV → LS → Prop) : rLstOf [.scr xs] s Q = Q (xs.map .int) s := rfl
@[simp] theorem rLst_ref (a : Addr) (Q : List LV → LS → Prop) : rLstOf [.ref a] s Q = opt (seqL (.ref a) s) fun xs => Q xs s := rfl
@[simp] theorem rSrtI_ap (vs : List LV) (Q : List LV → LS → Prop) : rSrtI vs s Q = one1 vs fun x => opt (seqL x s) fun xs => opt (intsOf xs) fun ns => ∀ ns' : List Int, ns'.Perm ns → ns'.Pairwise (· ≤ ·) → Q (ns'.map .int) s := rfl
@[simp] theorem rMax2_ap (i j : Int) : rMax2L [.int i, .int j] s Q = Q (.int (if j > i then j else i)) s := rfl
@[simp] theorem rMin2_ap (i j : Int) : rMin2L [.int i, .int j] s Q = Q (.int (if j < i then j else i)) s := rfl
@[simp] theorem rInt_int (i : Int) : rIntL [.int i] s Q = Q (.int i) s := rfl
@[simp] theorem rInt_bl (k : Bool) : rIntL [.bl k] s Q = Q (.int (if k then 1 else 0)) s := rfl
@[simp] theorem rIsi_ap (K : PySem.W.Frag) (x c : LV) : rIsiL K [x, c] s Q = opt (tyAt (fun _ => True) x s) fun t => opt (clsVal c) fun u => (∀ C, t = .ref C → InsC K C) ∧ ∃ b, PySem.W.kitOne K t u = some b ∧ Q (.bl b) s := rfl
@[simp] theorem clsVal_ref (a : Addr) : clsVal (.ref a) = some (.ref a) := rfl
@[simp] theorem clsVal_ty (n : String) : clsVal (.ty n) = some (.type n) := rfl
@[simp] theorem tyAt_non (CT : Addr → Prop) : tyAt CT .non s = some (.type "NoneType") := rfl
@[simp] theorem tyAt_bl (CT : Addr → Prop) (b : Bool) : tyAt CT (.bl b) s = some (.type "bool") := rfl
@[simp] theorem tyAt_int (CT : Addr → Prop) (b : Int) : tyAt CT (.int b) s = some (.type "int") := rfl
@[simp] theorem tyAt_str (CT : Addr → Prop) (b : Str) : tyAt CT (.str b) s = some (.type "str") := rfl
@[simp] theorem tyAt_lst (CT : Addr → Prop) (b : List LV) : tyAt CT (.lst b) s = some (.type "list") := rfl
@[simp] theorem tyAt_tup (CT : Addr → Prop) (b : List LV) : tyAt CT (.tup b) s = some (.type "tuple") := rfl
@[simp] theorem tyAt_ins (CT : Addr → Prop) (C : Addr) (b : List (Str × LV)) : tyAt CT (.ins C b) s = some (.ref C) := rfl
@[simp] theorem tyAt_ref (CT : Addr → Prop) (a : Addr) : tyAt CT (.ref a) s = (match s a with
    | some (.lst _) => some (.type "list")
    | some (.dK _) => some (.type "dict")
    | some (.dT _) => some (.type "dict")
    | some (.ins C _) => some (.ref C)
    | _ => none) := rfl
@[simp] theorem stbOf_ref (a : Addr) (xs : List LV) : stbOf (.ref a) xs s = (s a = some (.lst xs)) := rfl
@[simp] theorem stbOf_lst (ys xs : List LV) : stbOf (.lst ys) xs s = True := rfl
@[simp] theorem stbOf_scr (ys : List Int) (xs : List LV) : stbOf (.scr ys) xs s = True := rfl
@[simp] theorem stbOf_tup (ys xs : List LV) : stbOf (.tup ys) xs s = True := rfl
@[simp] theorem rSet_ap (a : Addr) (y v : LV) (Q : LS → Prop) : rSetL (.ref a) y v s Q = (match s a, y with
    | some (.lst xs), .int k => opt (ixN xs.length k) fun j => Q (put s a (.lst (xs.set j v)))
    | some (.dK kvs), .int k => kvs.length < 16777216 ∧ Q (put s a (.dK (putD kvs (.inl k) v)))
    | some (.dK kvs), .str k => kvs.length < 16777216 ∧ Q (put s a (.dK (putD kvs (.inr k) v)))
    | some (.dT kvs), .tup ks => opt (keysL ks) fun k => kvs.length < 16777216 ∧ Q (put s a (.dT (putD kvs k v)))
    | _, _ => False) := rfl
@[simp] theorem put_same' (a : Addr) (o : LO) : put s a o a = some o := put_same
@[simp] theorem lift_one (i : Nat) : CTg.lift (.one i) = lgName i := rfl
@[simp] theorem lift_many (is : List Nat) : CTg.lift (.many is) = lgTup is := rfl
@[simp] theorem slots_one (i : Nat) : CTg.slots (.one i) = [i] := rfl
@[simp] theorem slots_many (is : List Nat) : CTg.slots (.many is) = is := rfl
@[simp] theorem lwipe_nil (σ : LSt) : lwipe σ [] = σ := rfl
@[simp] theorem lwipe_cons (σ : LSt) (v : Nat) (vs : List Nat) : lwipe σ (v :: vs) = (lwipe σ vs).set v none := rfl
@[simp] theorem lSets_nil (σ : LSt) : lSets [] [] σ = some σ := rfl
@[simp] theorem lSets_cons (i : Nat) (is : List Nat) (v : LV) (vs : List LV) (σ : LSt) : lSets (i :: is) (v :: vs) σ = lSets is vs (σ.set i (some v)) := rfl
@[simp] theorem lgTup_ap (is : List Nat) (xs : List LV) (σ : LSt) (Q : LSt → LS → Prop) (E : LX) : lgTup is (.tup xs) σ s Q E = opt (lSets is xs σ) fun σ' => Q σ' s := by
  simp only [lgTup, opt]
  cases lSets is xs σ <;> rfl
@[simp] theorem lPairs_nil (P : Addr) (σ : LSt) (Q : List (Key × LV) → LS → Prop) (E : LX) : lPairs P [] σ s Q E = Q [] s := rfl
@[simp] theorem lPairs_cons (P : Addr) (k : Str) (t : LTE) (r : List (Str × LTE)) (σ : LSt) (Q : List (Key × LV) → LS → Prop) (E : LX) : lPairs P ((k, t) :: r) σ s Q E = t σ s (fun v s1 => lPairs P r σ s1 (fun ps s2 => Q ((.inr k, v) :: ps) s2) E) E := rfl
end
@[simp] theorem cxOf_K {CX : CXT} {P : Program} {w : World} {K : PySem.W.Frag} {mg : Str → Option Value} {base : Heap} {N : List Str} {qual : Str} {sc : Scope} {f : Addr} {cdv : Value} {A : Around} {outer : List Env} {si : Shared} {H : Hp} {E : XK} : (cxOf CX P w K mg base N qual sc f cdv A outer si H E).K = K := rfl
@[simp] theorem lstart_ap (N : List Str) (vs : List LV) : lstart N vs = vs.map some ++ List.replicate (N.length - vs.length) none := rfl
end L3

namespace L3
open PySem PySem.Spec L2
section
variable {X : Cx} {K : PySem.W.Frag} {s : LS} {H : Hp} {a b e o i : Expr} {es : List Expr} {pos : Pos} {ta tb te to ti t t' : LTE} {tas : LTA}
variable {k : Nat} {f C : Addr} {fd : FuncData} {ps : List Str} {sp : LSp} {x m : Str} {p apos : Pos}
theorem LE.imp (h : LE X e t) (hi : ∀ σ s Q E, t' σ s Q E → t σ s Q E) : LE X e t' := fun s0 H0 E tk => (h s0 H0 E tk).imp fun σ H Q ⟨σl, s, Q0, E1, hσ, hs, st, hE, h, k⟩ => ⟨σl, s, Q0, E1, hσ, hs, st, hE, hi _ _ _ _ h, k⟩
theorem Sub.put {s s' : LS} {x : Addr} {o : LO} (h : Sub s s') (n : s x = none) : Sub s (put s' x o) := fun a => by
  unfold L3.put
  by_cases e : a = x
  · subst e; exact .inl n
  · rw [if_neg e]; exact h a
theorem Sub.trans {s s' s2 : LS} (h : Sub s s') (h' : Sub s' s2) : Sub s s2 := fun a => by
  rcases h a with q | q
  · exact .inl q
  · rcases h' a with r | r
    · exact .inl (by rw [q, r])
    · exact .inr (by rw [q, r])
theorem Sub.free {s s' : LS} {x : Addr} (h : Sub s s') (n : s' x = none) : s x = none := by
  rcases h x with q | q
  · exact q
  · rw [q, n]
theorem Sub.del {s s' : LS} {x : Addr} (h : Sub s s') : Sub (del s x) s' := fun a => by
  unfold L3.del
  by_cases e : a = x
  · exact .inl (if_pos e)
  · rw [if_neg e]; exact h a
theorem sub_put {s : LS} {x : Addr} {o : LO} (n : s x = none) : Sub s (put s x o) := (Sub.refl s).put n
theorem sub_del {s : LS} {x : Addr} : Sub (del s x) s := (Sub.refl s).del
theorem fin {Q : LVK} {x : LV} {s' s2 : LS} (h : Sub s2 s') (q : Q x s2) : ∃ y s2, Frz x s' y s2 ∧ Q y s2 := ⟨x, s2, .sub h, q⟩
theorem fin_lst {Q : LVK} {r : Addr} {xs : List LV} {s' s2 : LS} (e : s' r = some (.lst xs)) (n : s2 r = none) (h : Sub s2 s') (q : Q (.lst xs) s2) : ∃ y s2, Frz (.ref r) s' y s2 ∧ Q y s2 := ⟨_, s2, .lst e n h, q⟩
theorem fin_dT {Q : LVK} {r : Addr} {xs : List (List Key × LV)} {s' s2 : LS} (e : s' r = some (.dT xs)) (n : s2 r = none) (h : Sub s2 s') (q : Q (.dT xs) s2) : ∃ y s2, Frz (.ref r) s' y s2 ∧ Q y s2 := ⟨_, s2, .dT e n h, q⟩
theorem fin_ins {Q : LVK} {r C : Addr} {xs : List (Str × LV)} {s' s2 : LS} (e : s' r = some (.ins C xs)) (n : s2 r = none) (h : Sub s2 s') (q : Q (.ins C xs) s2) : ∃ y s2, Frz (.ref r) s' y s2 ∧ Q y s2 := ⟨_, s2, .ins e n h, q⟩
theorem put_inj {s : LS} {x : Addr} {o o' : LO} : put s x o = put s x o' ↔ o = o' := by
  constructor
  · intro h
    have := congrFun h x
    rw [put_same, put_same] at this
    exact Option.some.inj this
  · intro h; rw [h]
/-- C() frozen at once -/
def lMakeNF (C : Addr) : LTE := fun _ s Q _ => Q (.ins C []) s
theorem le_makeNF (M : MkN X.K C) (hg : Gl X x) (hm : X.mg x = some (.ref C)) (hdb : (x == ("__debug__" : Str)) = false := by decide) : LE X (.Call (.Name x p) [] [] pos) (lMakeNF C) :=
  (le_frz (le_makeN M hg hm hdb)).imp fun σ s Q E h y hy => ⟨_, s, .ins put_same hy (sub_put hy), h⟩
/-- C(..) frozen once its __init__ has ended -/
def lMakeZ (C : Addr) (sp : LSp) (t : LTA) : LTE := fun σ s Q E => t σ s (fun vs s1 => ∀ x, s1 x = none → sp (.ref x :: vs) (put s1 x (.ins C [])) (fun v s2 => v = .non ∧ ∃ fs, s2 = put s1 x (.ins C fs) ∧ Q (.ins C fs) s1) (fun c s2 => s2 = put s1 x (.ins C []) ∧ E c s1)) E
theorem dn_callS {s0 : LS} {H0 : Hp} {E : LXS} {σ : St} {H : Hp} {Q : VK} {sp : LSp} {K : PySem.W.Frag} {σl : LSt} {s sR : LS} {HR : Hp} {lvs : List LV} {vs : List V} {Q0 : LVK} {E1 : LX} (hσ : RSt K sR HR σl σ) (hs : RelS K s H) (st : Step s0 H0 sR HR) (stR : Step sR HR s H)
    (hE : ∀ C s', E1 C s' → Sub sR s' ∧ E C σl sR) (r : RVs K s H lvs vs) (h : sp lvs s Q0 E1) (k : ∀ lv s' v H', Q0 lv s' → Step s H s' H' → RelS K s' H' → RV K s' H' lv v → Q v H') : dn K sp vs H Q (WE (WL K s0 H0 E) σ) :=
  ⟨lvs, s, Q0, E1, r, hs, h, k, fun C s' H' q st1 hs1 => by
    obtain ⟨sb, q'⟩ := hE C s' q
    have st2 := (stR.trans st1).trans sb.step
    exact ⟨C, σl, sR, rfl, rfl, hσ.mono st2, sb.rel hs1, st.trans st2, q'⟩⟩
theorem le_makeZ (M : Mk X.K C f) (F : LFn X.prog X.w X.K X.mg X.base k f fd ps sp) (hr : Room (k + 1) X.A) (hg : Gl X x) (hm : X.mg x = some (.ref C)) (hb : Binds X.K fd ps []) (ha : LA X (e :: es) tas)
    (hdb : (x == ("__debug__" : Str)) = false := by decide) (he : starEach (e :: es) X.env = (false, eval e X.env) :: starEach es X.env := by rfl) (hpl : (backTo pos (starEach es X.env)).any (·.1) = false := by rfl) :
    LE X (.Call (.Name x p) (e :: es) [] pos) (lMakeZ C sp tas) := fun s0 H0 E tk => ⟨fun pins si σ H Q I ⟨σl, s, Q0, E1, hσ, hs, st, hE, h, kk⟩ => by
  refine wpAny_Call_Name_kw (ld_glob I hg hm ?_ hdb)
  refine PySem.W.callWith_K (h₀ := X.base) I.ok.mod.kin M.kp (thn (ha.go tk pos I hσ hs st hE h) fun us si1 hx => ?_) he hpl
  obtain ⟨vs, H1, I1, rvs, lvs, s1, st1, hs1, r, h⟩ := hx
  refine ⟨I1.kIn, run_makeS M F hr hb (passAt tk σ) I1 rvs fun y dx ny nd ne => ?_⟩
  obtain ⟨stm, hsm⟩ := made_step (C := C) hs1 ny nd ne
  have n1 : upd H1 dx (.own y) y = none := by rw [upd_ne (Ne.symm ne)]; exact ny
  have st2 := st1.trans stm
  have sb : Sub s1 (put s1 y (.ins C [])) := sub_put (hs1.free ny)
  have r2 := r.mono stm
  refine dn_callS (sR := s1) (HR := H1) (s := put s1 y (.ins C [])) (hσ.mono st1) hsm (st.trans st1) stm (fun C' s' q => ⟨by rw [q.1]; exact sb, hE _ _ q.2⟩) (.cons .ref r2) (h y (hs1.free ny)) fun lv s3 v H3 q st3 hs3 rv => ?_
  · obtain ⟨rfl, fs, rfl, q⟩ := q
    refine ⟨rv.non', ?_⟩
    have z := Frz.ins (s1 := put s1 y (.ins C fs)) (s2 := s1) (a := y) put_same (hs1.free ny) (sub_put (hs1.free ny)) X.K H3 (.ref y) hs3 .ref
    exact kk _ s1 _ H3 q (st2.trans (st3.trans z.2.2)) z.2.1 z.1⟩
end
end L3

namespace L3
open PySem PySem.Spec L2
mutual
def datV : LV → Option PyData
  | .non => some .none
  | .bl b => some (.bool b)
  | .int i => some (.int i)
  | .str z => some (.str z)
  | .lst xs => (datVs xs).map .list
  | .tup xs => (datVs xs).map .tuple
  | _ => none
def datVs : List LV → Option (List PyData)
  | [] => some []
  | x :: xs => (datV x).bind fun d => (datVs xs).map (d :: ·)
end
mutual
theorem isd_of_dat {s : LS} : ∀ {x : LV} {d : PyData}, datV x = some d → Isd s d x
  | .non, d, h => by simp only [datV, Option.some.injEq] at h; subst h; simp only [Isd]
  | .bl b, d, h => by simp only [datV, Option.some.injEq] at h; subst h; simp only [Isd]
  | .int b, d, h => by simp only [datV, Option.some.injEq] at h; subst h; simp only [Isd]
  | .str b, d, h => by simp only [datV, Option.some.injEq] at h; subst h; simp only [Isd]
  | .lst xs, d, h => by
    simp only [datV, Option.map_eq_some_iff] at h
    obtain ⟨ds, h, rfl⟩ := h
    simp only [Isd]
    exact .inl ⟨xs, rfl, isds_of_dat h⟩
  | .tup xs, d, h => by
    simp only [datV, Option.map_eq_some_iff] at h
    obtain ⟨ds, h, rfl⟩ := h
    simp only [Isd]
    exact ⟨xs, rfl, isds_of_dat h⟩
  | .ty _, _, h => by simp only [datV] at h; cases h
  | .ref _, _, h => by simp only [datV] at h; cases h
  | .scr _, _, h => by simp only [datV] at h; cases h
  | .dT _, _, h => by simp only [datV] at h; cases h
  | .ins _ _, _, h => by simp only [datV] at h; cases h
theorem isds_of_dat {s : LS} : ∀ {xs : List LV} {ds : List PyData}, datVs xs = some ds → Isds s ds xs
  | [], ds, h => by simp only [datVs, Option.some.injEq] at h; subst h; simp only [Isds]
  | x :: xs, ds, h => by
    simp only [datVs, Option.bind_eq_some_iff, Option.map_eq_some_iff] at h
    obtain ⟨d, h1, ds', h2, rfl⟩ := h
    simp only [Isds]
    exact ⟨x, xs, rfl, isd_of_dat h1, isds_of_dat h2⟩
end
def dat (s : LS) (x : LV) : Option PyData := match x with
  | .ref a => (match s a with
    | some (.lst xs) => (datVs xs).map .list
    | _ => none)
  | x => datV x
theorem isd_dat {s : LS} {x : LV} {d : PyData} (h : dat s x = some d) : Isd s d x := by
  cases x with
  | ref a =>
    simp only [dat] at h
    split at h
    · next xs e =>
      simp only [Option.map_eq_some_iff] at h
      obtain ⟨ds, h, rfl⟩ := h
      simp only [Isd]
      exact .inr ⟨a, xs, rfl, e, isds_of_dat h⟩
    · cases h
  | _ => exact isd_of_dat h
@[simp] theorem dat_non (s : LS) : dat s .non = some .none := by simp only [dat, datV]
@[simp] theorem dat_bl (s : LS) (b : Bool) : dat s (.bl b) = some (.bool b) := by simp only [dat, datV]
@[simp] theorem dat_int (s : LS) (b : Int) : dat s (.int b) = some (.int b) := by simp only [dat, datV]
@[simp] theorem dat_str (s : LS) (b : Str) : dat s (.str b) = some (.str b) := by simp only [dat, datV]
@[simp] theorem dat_lst (s : LS) (xs : List LV) : dat s (.lst xs) = (datVs xs).map .list := by simp only [dat, datV]
@[simp] theorem dat_tup (s : LS) (xs : List LV) : dat s (.tup xs) = (datVs xs).map .tuple := by simp only [dat, datV]
@[simp] theorem dat_ref (s : LS) (a : Addr) : dat s (.ref a) = (match s a with
    | some (.lst xs) => (datVs xs).map .list
    | _ => none) := rfl
@[simp] theorem datV_non : datV .non = some .none := by simp only [datV]
@[simp] theorem datV_bl (b : Bool) : datV (.bl b) = some (.bool b) := by simp only [datV]
@[simp] theorem datV_int (b : Int) : datV (.int b) = some (.int b) := by simp only [datV]
@[simp] theorem datV_str (b : Str) : datV (.str b) = some (.str b) := by simp only [datV]
@[simp] theorem datV_lst (xs : List LV) : datV (.lst xs) = (datVs xs).map .list := by simp only [datV]
@[simp] theorem datV_tup (xs : List LV) : datV (.tup xs) = (datVs xs).map .tuple := by simp only [datV]
@[simp] theorem datVs_nil : datVs [] = some [] := by simp only [datVs]
@[simp] theorem datVs_cons (x : LV) (xs : List LV) : datVs (x :: xs) = (datV x).bind fun d => (datVs xs).map (d :: ·) := by simp only [datVs]
def rEqV (neg : Bool) : LR2 := fun x y s Q => opt (dat s x) fun d => opt (dat s y) fun e => (SeqAt.shaped d = true ∧ SeqAt.shaped e = true) ∧ Q (.bl (neg.xor (PyData.eqv d e))) s
@[simp] theorem rEqV_ap (neg : Bool) (x y : LV) (s : LS) (Q : LVK) : rEqV neg x y s Q = (opt (dat s x) fun d => opt (dat s y) fun e => (SeqAt.shaped d = true ∧ SeqAt.shaped e = true) ∧ Q (.bl (neg.xor (PyData.eqv d e))) s) := rfl
theorem eqV_L {x y : LV} {s : LS} {Q : LVK} (h : rEqV false x y s Q) : rEqL x y s Q := by
  obtain ⟨d, h1, h⟩ := opt_ok h
  obtain ⟨e, h2, ⟨h3, h4⟩, h⟩ := opt_ok h
  exact ⟨d, e, isd_dat h1, isd_dat h2, h3, h4, by simpa using h⟩
theorem neV_L {x y : LV} {s : LS} {Q : LVK} (h : rEqV true x y s Q) : rNeL x y s Q := by
  obtain ⟨d, h1, h⟩ := opt_ok h
  obtain ⟨e, h2, ⟨h3, h4⟩, h⟩ := opt_ok h
  exact ⟨d, e, isd_dat h1, isd_dat h2, h3, h4, by simpa using h⟩
def rInV (neg : Bool) : LR2 := fun x y s Q => opt (seqL y s) fun xs => opt (dat s x) fun d => opt (datVs xs) fun ds => (SeqAt.shaped d = true ∧ SeqAt.shaped (.list ds) = true) ∧ Q (.bl (neg.xor (ds.any fun z => PyData.eqv z d))) s
@[simp] theorem rInV_ap (neg : Bool) (x y : LV) (s : LS) (Q : LVK) : rInV neg x y s Q = (opt (seqL y s) fun xs => opt (dat s x) fun d => opt (datVs xs) fun ds => (SeqAt.shaped d = true ∧ SeqAt.shaped (.list ds) = true) ∧ Q (.bl (neg.xor (ds.any fun z => PyData.eqv z d))) s) := rfl
theorem inV_L {neg : Bool} {x y : LV} {s : LS} {Q : LVK} (h : rInV neg x y s Q) : rInL neg x y s Q := by
  obtain ⟨xs, e, h⟩ := opt_ok h
  obtain ⟨d, h1, h⟩ := opt_ok h
  obtain ⟨ds, h2, ⟨h3, h4⟩, h⟩ := opt_ok h
  show opt (seqL y s) _
  rw [e]
  exact ⟨d, ds, isd_dat h1, isds_of_dat h2, h3, h4, h⟩
section
variable {X : Cx} {K : PySem.W.Frag} {s : LS} {H : Hp} {a b : Expr} {pos : Pos} {ta tb : LTE}
theorem Up2.imp {K : PySem.W.Frag} {r : R2} {rl rl' : LR2} (u : Up2 K r rl) (h : ∀ x y s Q, rl' x y s Q → rl x y s Q) : Up2 K r rl' := fun x y s H lx ly Q0 Q hs rx ry q k => u x y s H lx ly Q0 Q hs rx ry (h _ _ _ _ q) k
theorem le_eqV (hu : X.A.units + 64 < cLine) (ha : LE X a ta) (hb : LE X b tb) : LE X (.Compare a [.Eq] [b] pos) (lOp (rEqV false) ta tb) := le_cmp (op_eqD hu) (up_eqL.imp fun _ _ _ _ => eqV_L) ha hb (nomark _)
theorem le_neV (hu : X.A.units + 64 < cLine) (ha : LE X a ta) (hb : LE X b tb) : LE X (.Compare a [.NotEq] [b] pos) (lOp (rEqV true) ta tb) := le_cmp (op_neD hu) (up_neL.imp fun _ _ _ _ => neV_L) ha hb (nomark _)
theorem lt_eqV (hu : X.A.units + 64 < cLine) (ha : LE X a ta) (hb : LE X b tb) : LT X (.Compare a [.Eq] [b] pos) (lB (lOp (rEqV false) ta tb)) := lt_cmp (op_eqD hu) (up_eqL.imp fun _ _ _ _ => eqV_L) ha hb (nomark _)
theorem lt_neV (hu : X.A.units + 64 < cLine) (ha : LE X a ta) (hb : LE X b tb) : LT X (.Compare a [.NotEq] [b] pos) (lB (lOp (rEqV true) ta tb)) := lt_cmp (op_neD hu) (up_neL.imp fun _ _ _ _ => neV_L) ha hb (nomark _)
theorem le_inV (hu : X.A.units + 65 < cLine) (ha : LE X a ta) (hb : LE X b tb) (hm : behindInMarks .In b = false) : LE X (.Compare a [.In] [b] pos) (lOp (rInV false) ta tb) := le_cmp (op_inD hu) (up_inL.imp fun _ _ _ _ => inV_L) ha hb hm
theorem le_ninV (hu : X.A.units + 65 < cLine) (ha : LE X a ta) (hb : LE X b tb) (hm : behindInMarks .NotIn b = false) : LE X (.Compare a [.NotIn] [b] pos) (lOp (rInV true) ta tb) := le_cmp (op_notInD hu) (up_ninL.imp fun _ _ _ _ => inV_L) ha hb hm
theorem lt_inV (hu : X.A.units + 65 < cLine) (ha : LE X a ta) (hb : LE X b tb) (hm : behindInMarks .In b = false) : LT X (.Compare a [.In] [b] pos) (lB (lOp (rInV false) ta tb)) := lt_cmp (op_inD hu) (up_inL.imp fun _ _ _ _ => inV_L) ha hb hm
theorem lt_ninV (hu : X.A.units + 65 < cLine) (ha : LE X a ta) (hb : LE X b tb) (hm : behindInMarks .NotIn b = false) : LT X (.Compare a [.NotIn] [b] pos) (lB (lOp (rInV true) ta tb)) := lt_cmp (op_notInD hu) (up_ninL.imp fun _ _ _ _ => inV_L) ha hb hm
end
class Cod (α : Type) where
  enc : α → LV
  den : α → PyData
  datV : ∀ a, L3.datV (enc a) = some (den a)
  can : ∀ a, (den a).canLay0 = true
  dep : Nat
  hdep : ∀ a, (den a).depth ≤ dep
  eqv : ∀ a b, PyData.eqv (den a) (den b) = true ↔ a = b
variable {α β : Type}
def encs [Cod α] (xs : List α) : List LV := xs.map Cod.enc
theorem datVs_enc [Cod α] : ∀ xs : List α, datVs (xs.map Cod.enc) = some (xs.map Cod.den)
  | [] => by simp
  | x :: xs => by simp only [List.map_cons, datVs_cons, Cod.datV, datVs_enc xs, Option.bind_some, Option.map_some]
theorem can_all [Cod α] : ∀ xs : List α, PyData.canLayAll0 (xs.map Cod.den) = true
  | [] => by simp [PyData.canLayAll0]
  | x :: xs => by simp only [List.map_cons, PyData.canLayAll0, Cod.can, can_all xs, Bool.and_true]
theorem dep_all [Cod α] : ∀ xs : List α, PyData.depthAll (xs.map Cod.den) ≤ Cod.dep α
  | [] => by simp [PyData.depthAll]
  | x :: xs => by
    simp only [List.map_cons, PyData.depthAll]
    exact Nat.max_le.mpr ⟨Cod.hdep x, dep_all xs⟩
theorem eqv_all [Cod α] : ∀ xs ys : List α, PyData.eqvAll (xs.map Cod.den) (ys.map Cod.den) = true ↔ xs = ys
  | [], [] => by simp [PyData.eqvAll]
  | [], _ :: _ => by simp [PyData.eqvAll]
  | _ :: _, [] => by simp [PyData.eqvAll]
  | x :: xs, y :: ys => by simp only [List.map_cons, PyData.eqvAll, Bool.and_eq_true, Cod.eqv, eqv_all xs ys, List.cons.injEq]
instance : Cod Int := ⟨.int, .int, fun _ => by simp, fun _ => by simp [PyData.canLay0], 0, fun _ => by simp [PyData.depth], fun a b => by simp [PyData.eqv]⟩
instance : Cod Bool := ⟨.bl, .bool, fun _ => by simp, fun _ => by simp [PyData.canLay0], 0, fun _ => by simp [PyData.depth], fun a b => by simp [PyData.eqv]⟩
instance [Cod α] : Cod (List α) := ⟨fun xs => .lst (xs.map Cod.enc), fun xs => .list (xs.map Cod.den), fun xs => by simp [datVs_enc], fun xs => by simp only [PyData.canLay0]; exact can_all xs, Cod.dep α + 1, fun xs => by
  simp only [PyData.depth]; exact Nat.succ_le_succ (dep_all xs), fun a b => by simp only [PyData.eqv]; exact eqv_all a b⟩
instance [Cod α] [Cod β] : Cod (α × β) := ⟨fun p => .tup [Cod.enc p.1, Cod.enc p.2], fun p => .tuple [Cod.den p.1, Cod.den p.2], fun p => by simp [Cod.datV], fun p => by simp [PyData.canLay0, PyData.canLayAll0, Cod.can], max (Cod.dep α) (Cod.dep β) + 1, fun p => by
  simp only [PyData.depth, PyData.depthAll]
  have := Cod.hdep p.1
  have := Cod.hdep p.2
  omega, fun a b => by
  simp only [PyData.eqv, PyData.eqvAll, Bool.and_true, Bool.and_eq_true, Cod.eqv, Prod.ext_iff]⟩
/-- a letter's name -/
structure Nm where
  hand : Int
  place : Int
  k : Int
deriving DecidableEq, Repr
def nmL (n : Nm) : LV := .tup [.int n.hand, .int n.place, .int n.k]
def nmD (n : Nm) : PyData := .tuple [.int n.hand, .int n.place, .int n.k]
instance : Cod Nm := ⟨nmL, nmD, fun p => by simp [nmL, nmD], fun p => by simp [nmD, PyData.canLay0, PyData.canLayAll0], 1, fun p => by simp [nmD, PyData.depth, PyData.depthAll], fun a b => by
  cases a; cases b; simp [nmD, PyData.eqv, PyData.eqvAll]⟩
instance [Cod α] : Cod (Option α) where
  enc := fun o => match o with
    | none => .non
    | some a => .tup [Cod.enc a]
  den := fun o => match o with
    | none => .none
    | some a => .tuple [Cod.den a]
  datV := fun o => by cases o <;> simp [Cod.datV]
  can := fun o => by cases o <;> simp [PyData.canLay0, PyData.canLayAll0, Cod.can]
  dep := Cod.dep α + 1
  hdep := fun o => by
    cases o with
    | none => simp [PyData.depth]
    | some a =>
      simp only [PyData.depth, PyData.depthAll]
      have := Cod.hdep a
      omega
  eqv := fun a b => by cases a <;> cases b <;> simp [PyData.eqv, PyData.eqvAll, Cod.eqv]
theorem shaped_cod [Cod α] (h : Cod.dep α ≤ 64) (a : α) : SeqAt.shaped (Cod.den a) = true := by
  unfold SeqAt.shaped
  rw [Cod.can, Bool.true_and]
  exact decide_eq_true (Nat.le_trans (Cod.hdep a) h)
theorem eqv_cod [Cod α] [DecidableEq α] (a b : α) : PyData.eqv (Cod.den a) (Cod.den b) = decide (a = b) := by
  by_cases h : a = b
  · rw [decide_eq_true h]; exact (Cod.eqv a b).mpr h
  · rw [decide_eq_false h]
    cases e : PyData.eqv (Cod.den a) (Cod.den b) with
    | false => rfl
    | true => exact absurd ((Cod.eqv a b).mp e) h
/-- the value at hand is the coded a -/
def Den [Cod α] (s : LS) (x : LV) (a : α) : Prop := dat s x = some (Cod.den a)
theorem den_enc [Cod α] (s : LS) (a : α) : Den s (Cod.enc a) a := by
  have h := Cod.datV a
  unfold Den dat
  cases e : Cod.enc a with
  | ref p => rw [e] at h; simp only [L3.datV] at h; cases h
  | _ => rw [e] at h; exact h
theorem den_ref [Cod α] {s : LS} {r : Addr} {xs : List α} (h : s r = some (.lst (xs.map Cod.enc))) : Den s (.ref r) xs := by
  unfold Den
  rw [dat_ref, h]
  simp only [datVs_enc, Option.map_some]
  rfl
theorem rEqV_den [Cod α] [DecidableEq α] {neg : Bool} {x y : LV} {s : LS} {Q : LVK} {a b : α} (hd : Cod.dep α ≤ 64) (hx : Den s x a) (hy : Den s y b) : rEqV neg x y s Q = Q (.bl (neg.xor (decide (a = b)))) s := by
  rw [rEqV_ap, hx, hy, opt_some, opt_some, shaped_cod hd, shaped_cod hd, eqv_cod]
  simp
theorem any_cod [Cod α] [DecidableEq α] (xs : List α) (a : α) : ((xs.map Cod.den).any fun z => PyData.eqv z (Cod.den a)) = decide (a ∈ xs) := by
  induction xs with
  | nil => simp
  | cons x xs ih => rw [List.map_cons, List.any_cons, ih, eqv_cod]; simp [eq_comm]
theorem rInV_den [Cod α] [DecidableEq α] {neg : Bool} {x y : LV} {s : LS} {Q : LVK} {a : α} {b : List α} (hd : Cod.dep α < 64) (hx : Den s x a) (hy : seqL y s = some (b.map Cod.enc)) : rInV neg x y s Q = Q (.bl (neg.xor (decide (a ∈ b)))) s := by
  rw [rInV_ap, hx, hy, opt_some, opt_some, datVs_enc, opt_some, shaped_cod (Nat.le_of_lt hd), show SeqAt.shaped (.list (b.map Cod.den)) = true from shaped_cod (α := List α) hd b, any_cod]
  simp
end L3
namespace L3
theorem ifD {P A B : Prop} [Decidable P] (h1 : P → A) (h2 : ¬P → B) : (decide P = true → A) ∧ (decide P = false → B) := ⟨fun h => h1 (of_decide_eq_true h), fun h => h2 (of_decide_eq_false h)⟩
theorem ifN {P A B : Prop} [Decidable P] (h1 : ¬P → A) (h2 : P → B) : ((!decide P) = true → A) ∧ ((!decide P) = false → B) := ⟨fun h => h1 (by simpa using h), fun h => h2 (by simpa using h)⟩
theorem ifT {c : Bool} {A B : Prop} (e : c = true) (h : A) : (c = true → A) ∧ (c = false → B) := ⟨fun _ => h, fun q => by rw [e] at q; cases q⟩
theorem ifF {c : Bool} {A B : Prop} (e : c = false) (h : B) : (c = true → A) ∧ (c = false → B) := ⟨fun q => (by rw [e] at q; cases q), fun _ => h⟩
theorem ifB {c : Bool} {A B : Prop} (h1 : c = true → A) (h2 : c = false → B) : (c = true → A) ∧ (c = false → B) := ⟨h1, h2⟩
end L3

namespace L3
open PySem PySem.Spec L2
variable {α : Type} {g : LTG} {tb : LTS} {stb : LS → Prop} {D : LEnds}
theorem lLoop_map (enc : α → LV) (I : List α → List α → LSt → LS → Prop) {xs : List α} {σ : LSt} {s : LS} (h0 : I [] xs σ s) (hst : ∀ p r σ s, I p r σ s → stb s)
    (hs : ∀ p x r σ s N, xs = p ++ x :: r → I p (x :: r) σ s → (∀ σ' s', I (p ++ [x]) r σ' s' → N σ' s') → g (enc x) σ s (fun σ2 s2 => tb (D.wlp N) σ2 s2) (fun C s1 => D.ex C σ s1))
    (hn : ∀ σ s, I xs [] σ s → D.nx σ s) : lLoop g tb stb D (xs.map enc) σ s := by
  have go : ∀ (r p : List α) (σ : LSt) (s : LS), xs = p ++ r → I p r σ s → lLoop g tb stb D (r.map enc) σ s := by
    intro r
    induction r with
    | nil =>
      intro p σ s e i
      rw [List.append_nil] at e
      subst e
      exact ⟨hst _ _ _ _ i, hn _ _ i⟩
    | cons x r ih =>
      intro p σ s e i
      exact ⟨hst _ _ _ _ i, hs p x r σ s _ e i fun σ' s' q => ih (p ++ [x]) σ' s' (by simp [e]) q⟩
  exact go xs [] σ s rfl h0
/-- .. over a range: what holds ahead of the turn i -/
theorem lLoop_rg {a b : Int} (I : Nat → LSt → LS → Prop) {σ : LSt} {s : LS} (h0 : I 0 σ s) (hst : ∀ i σ s, I i σ s → stb s)
    (hs : ∀ i σ s N, i < (b - a).toNat → I i σ s → (∀ σ' s', I (i + 1) σ' s' → N σ' s') → g (.int (a + (i : Nat))) σ s (fun σ2 s2 => tb (D.wlp N) σ2 s2) (fun C s1 => D.ex C σ s1))
    (hn : ∀ σ s, I (b - a).toNat σ s → D.nx σ s) : lLoop g tb stb D (rgL a b) σ s := by
  refine lLoop_map (fun i : Nat => LV.int (a + (i : Nat))) (fun p r σ s => I p.length σ s) h0 (fun p r σ s => hst _ _ _) ?_ ?_
  · intro p x r σ s N e i k
    have hl : p.length + (r.length + 1) = (b - a).toNat := by
      have := congrArg List.length e
      simpa using this.symm
    have hx : x = p.length := by
      have := congrArg (fun l : List Nat => l[p.length]?) e
      simp at this
      rw [List.getElem?_range (by omega)] at this
      simpa using this.symm
    subst hx
    refine hs p.length σ s N (by omega) i fun σ' s' q => k σ' s' ?_
    simpa using q
  · intro σ s i
    refine hn σ s ?_
    simpa using i
/-- what was held is held still -/
def Ext (s s' : LS) : Prop := ∀ a o, s a = some o → s' a = some o
theorem Ext.refl (s : LS) : Ext s s := fun _ _ h => h
theorem Ext.trans {s s' s2 : LS} (h : Ext s s') (h' : Ext s' s2) : Ext s s2 := fun a o e => h' a o (h a o e)
theorem Ext.put {s s' : LS} {x : Addr} {o : LO} (h : Ext s s') (n : s x = none) : Ext s (put s' x o) := fun a o' e => by
  have ne : a ≠ x := by rintro rfl; rw [n] at e; cases e
  rw [put_ne ne]
  exact h a o' e
theorem Ext.sub {s s' : LS} (h : Ext s s') : Sub s s' := fun a => by
  cases e : s a with
  | none => exact .inl rfl
  | some o => exact .inr (h a o e).symm
theorem ext_put {s : LS} {x : Addr} {o : LO} (n : s x = none) : Ext s (put s x o) := (Ext.refl s).put n
theorem lc_pure {enc : α → LV} {Da : Addr} {gc : CTg} {tt : LTT} {te : LTE} {σw : LSt} {Q : List LV → LS → Prop} {s : LS} {xs : List α} (hD : s Da = none) (p : α → Bool) (f : α → LV) (hst : ∀ s', Ext s s' → stb s') (hlen : xs.length ≤ 16777216)
    (hs : ∀ x ∈ xs, ∀ s' (Y : LV → LS → Prop) (N : LS → Prop), Ext s s' → (p x = true → Y (f x) s') → (p x = false → N s') →
      gc.lift (enc x) σw s' (fun σ2 s2 => tt σ2 s2 (fun b s3 => (b = true → te σ2 s3 Y fun _ _ => False) ∧ (b = false → N s3)) fun _ _ => False) fun _ _ => False)
    (hQ : Q ((xs.filter p).map f) s) : lcLoop Da gc tt te stb σw Q (xs.map enc) (put s Da (.lst [])) := by
  have go : ∀ (r q : List α), xs = q ++ r → lcLoop Da gc tt te stb σw Q (r.map enc) (put s Da (.lst ((q.filter p).map f))) := by
    intro r
    induction r with
    | nil =>
      intro q e
      rw [List.append_nil] at e
      subst e
      refine ⟨hst _ (ext_put hD), ?_⟩
      rw [put_same]
      show Q _ (del (put s Da _) Da)
      have : del (put s Da (.lst ((xs.filter p).map f))) Da = s := by
        funext b
        unfold del put
        by_cases h : b = Da
        · rw [if_pos h, h, hD]
        · rw [if_neg h, if_neg h]
      rw [this]
      exact hQ
    | cons x r ih =>
      intro q e
      refine ⟨hst _ (ext_put hD), ?_⟩
      have hl : ((q.filter p).map f).length < 16777216 := by
        have h1 := List.length_filter_le p q
        have h2 := congrArg List.length e
        simp at h2
        rw [List.length_map]
        omega
      have z := ih (q ++ [x]) (by simp [e])
      refine hs x (by simp [e]) _ _ _ (ext_put hD) (fun hp => ?_) (fun hp => ?_)
      · show match put s Da _ Da with | some (.lst acc) => _ | _ => False
        rw [put_same]
        refine ⟨hl, ?_⟩
        rw [put_put]
        simpa [List.filter_append, hp] using z
      · simpa [List.filter_append, hp] using z
  exact go xs [] rfl
end L3

namespace L3
open PySem PySem.Spec L2
def spTrue : LSp := fun vs s Q E => ∃ ns : List Int, ns.length ≤ 63 ∧ vs = [.scr ns] ∧ Q (.bl true) s
theorem law_starts {K : PySem.W.Frag} (H : Hp) (a : Addr) (ns : List Int) (hl : ns.length ≤ 63) (hO : Only H) (hS : SqL K H a (ns.map V.int)) : dn K spTrue [.ref a] H (fun v _ => v = .bl true) fun _ _ _ => False := by
  refine ⟨[.scr ns], fun _ => none, fun v _ => v = .bl true, fun _ _ => False, ?_, fun a o e => by (cases e), ⟨ns, hl, rfl, rfl⟩, fun lv s' v H' q _ _ r => ?_, fun _ _ _ q => q.elim⟩
  · simp only [RVs]
    refine ⟨_, _, rfl, ?_, rfl⟩
    simp only [RV]
    refine ⟨a, rfl, ?_⟩
    rcases hS with (h | ⟨o, h⟩) | ⟨o, its, n, h⟩
    · rcases hO a with z | ⟨o, xs, z⟩
      · rw [z] at h; cases h
      · rw [z] at h; cases h
    · exact .inl ⟨rfl, o, h⟩
    · exact .inr ⟨o, its, n, h⟩
  · subst q
    simpa only [RV] using r
theorem law_ends {P : Program} {w : World} (H : Hp) (s : Shared) (e : Value) (s' : Shared) (h : L2.CX P w [] H s (fun _ _ _ => False) e s') : False := by
  obtain ⟨_, _, _, _, _, _, _, _, _, _, _, _, z⟩ := h
  exact z
theorem kit_ref {K : PySem.W.Frag} {C D : Addr} {b : Bool} (hd : PySem.W.hasDictIn K C = true) (ht : PySem.W.typeIn K (.ref C) = some (.type "type")) (h0 : PySem.W.subIn K (.ref C) (.ref C) = some true) (h : PySem.W.subIn K (.ref D) (.ref C) = some b) : PySem.W.kitOne K (.ref D) (.ref C) = some b := by
  obtain ⟨cd, hc, _⟩ := PySem.W.any_some hd
  have e2 : ((PySem.W.clsIn K C).isSome && PySem.W.typeIn K (.ref C) == some (.type "type")) = true := by rw [hc, ht] <;> rfl
  show (if (Value.ref D == Value.ref C) = true then some true else (if ((PySem.W.clsIn K C).isSome && PySem.W.typeIn K (.ref C) == some (.type "type")) = true then PySem.W.subIn K (.ref D) (.ref C) else none)) = some b
  rw [if_pos e2]
  by_cases e : D = C
  · subst e
    rw [h0] at h
    rw [if_pos (by simp), h]
  · rw [if_neg (by intro q; exact e (by simpa using q))]
    exact h
theorem kit_rty {K : PySem.W.Frag} {D : Addr} {T : String} {b : Bool} (hT : PySem.W.kitMeta T = true) (h : PySem.W.subIn K (.ref D) (.type T) = some b) : PySem.W.kitOne K (.ref D) (.type T) = some b := by
  show (if (Value.ref D == Value.type T) = true then some true else (if PySem.W.kitMeta T = true then PySem.W.subIn K (.ref D) (.type T) else none)) = some b
  rw [if_neg (by intro q; cases q), if_pos hT]
  exact h
theorem kit_tyr {K : PySem.W.Frag} {C : Addr} {T : String} {b : Bool} (hd : PySem.W.hasDictIn K C = true) (ht : PySem.W.typeIn K (.ref C) = some (.type "type")) (h : PySem.W.subIn K (.type T) (.ref C) = some b) : PySem.W.kitOne K (.type T) (.ref C) = some b := by
  obtain ⟨cd, hc, _⟩ := PySem.W.any_some hd
  have e2 : ((PySem.W.clsIn K C).isSome && PySem.W.typeIn K (.ref C) == some (.type "type")) = true := by rw [hc, ht] <;> rfl
  show (if (Value.type T == Value.ref C) = true then some true else (if ((PySem.W.clsIn K C).isSome && PySem.W.typeIn K (.ref C) == some (.type "type")) = true then PySem.W.subIn K (.type T) (.ref C) else none)) = some b
  rw [if_pos e2, if_neg (by intro q; cases q)]
  exact h
theorem cutL_to (xs : List LV) (k : Nat) : cutL xs none (some (k : Int)) = xs.take k := by
  unfold cutL
  rw [HT.sIx_none, HT.sIx_nat, List.drop_zero, Nat.sub_zero]
  by_cases h : k ≤ xs.length
  · rw [Nat.min_eq_left h]
  · rw [Nat.min_eq_right (by omega), List.take_of_length_le (Nat.le_refl _), List.take_of_length_le (by omega)]
theorem cutL_from (xs : List LV) (k : Nat) : cutL xs (some (k : Int)) none = xs.drop k := by
  unfold cutL
  rw [HT.sIx_none, HT.sIx_nat]
  by_cases h : k ≤ xs.length
  · rw [Nat.min_eq_left h, List.take_of_length_le (by simp)]
  · rw [Nat.min_eq_right (by omega), List.drop_length, List.take_nil, List.drop_of_length_le (by omega)]
end L3
namespace L3
open PySem PySem.Spec L2
theorem putL_nil {f : Str} {v : LV} : putL f v [] = [(f, v)] := rfl
theorem putL_cons {f g : Str} {v u : LV} {r : List (Str × LV)} : putL f v ((g, u) :: r) = if g = f then (g, v) :: r else (g, u) :: putL f v r := rfl
theorem seqL_cases {x : LV} {s : LS} {xs : List LV} (h : seqL x s = some xs) : x = .lst xs ∨ ∃ a, x = .ref a ∧ s a = some (.lst xs) := by
  cases x with
  | lst ys => exact .inl (by rw [seqL_lst] at h; rw [Option.some.inj h])
  | ref a =>
    rw [seqL_ref] at h
    split at h
    · next ys e => exact .inr ⟨a, rfl, by rw [e, Option.some.inj h]⟩
    · cases h
  | _ => exact absurd h (by simp [seqL])
theorem hu65 {k : Nat} {A : Around} (hr : Room k A) : A.units + 65 < cLine := by have := hr.un; omega
end L3

namespace L3
open PySem PySem.Spec L2
def pairL (p : Int × Int) : LV := .tup [.int p.1, .int p.2]
def pairD (p : Int × Int) : PyData := .tuple [.int p.1, .int p.2]
theorem dv_ints (xs : List Int) : datVs (xs.map LV.int) = some (xs.map PyData.int) := datVs_enc (α := Int) xs
theorem dv_bls (xs : List Bool) : datVs (xs.map LV.bl) = some (xs.map PyData.bool) := datVs_enc (α := Bool) xs
theorem dv_nms (xs : List Nm) : datVs (xs.map nmL) = some (xs.map nmD) := datVs_enc (α := Nm) xs
theorem dv_prs (xs : List (Int × Int)) : datVs (xs.map pairL) = some (xs.map pairD) := datVs_enc (α := Int × Int) xs
theorem dv_nm (n : Nm) : datV (nmL n) = some (nmD n) := by simp [nmL, nmD]
theorem dt_nm (s : LS) (n : Nm) : dat s (nmL n) = some (nmD n) := by simp [nmL, nmD]
theorem dt_pr (s : LS) (n : Int × Int) : dat s (pairL n) = some (pairD n) := by simp [pairL, pairD]
theorem dv_pr (n : Int × Int) : datV (pairL n) = some (pairD n) := by simp [pairL, pairD]
theorem sh_int (i : Int) : SeqAt.shaped (.int i) = true := shaped_cod (α := Int) (by decide) i
theorem sh_bl (i : Bool) : SeqAt.shaped (.bool i) = true := shaped_cod (α := Bool) (by decide) i
theorem sh_none : SeqAt.shaped .none = true := by decide
theorem sh_ints (xs : List Int) : SeqAt.shaped (.list (xs.map .int)) = true := shaped_cod (α := List Int) (by decide) xs
theorem sh_bls (xs : List Bool) : SeqAt.shaped (.list (xs.map .bool)) = true := shaped_cod (α := List Bool) (by decide) xs
theorem sh_nm (i : Nm) : SeqAt.shaped (nmD i) = true := shaped_cod (α := Nm) (by decide) i
theorem sh_nms (xs : List Nm) : SeqAt.shaped (.list (xs.map nmD)) = true := shaped_cod (α := List Nm) (by decide) xs
theorem sh_pr (i : Int × Int) : SeqAt.shaped (pairD i) = true := shaped_cod (α := Int × Int) (by decide) i
theorem sh_prs (xs : List (Int × Int)) : SeqAt.shaped (.list (xs.map pairD)) = true := shaped_cod (α := List (Int × Int)) (by decide) xs
theorem anyI (xs : List Int) (a : Int) : ((xs.map PyData.int).any fun z => PyData.eqv z (.int a)) = decide (a ∈ xs) := (any_cod xs a).trans (decide_eq_decide.mpr Iff.rfl)
theorem anyN (xs : List Nm) (a : Nm) : ((xs.map nmD).any fun z => PyData.eqv z (nmD a)) = decide (a ∈ xs) := (any_cod xs a).trans (decide_eq_decide.mpr Iff.rfl)
theorem anyP (xs : List (Int × Int)) (a : Int × Int) : ((xs.map pairD).any fun z => PyData.eqv z (pairD a)) = decide (a ∈ xs) := (any_cod xs a).trans (decide_eq_decide.mpr Iff.rfl)
theorem eqv_int (a b : Int) : PyData.eqv (.int a) (.int b) = decide (a = b) := eqv_cod a b
theorem eqv_bl (a b : Bool) : PyData.eqv (.bool a) (.bool b) = decide (a = b) := eqv_cod a b
theorem eqv_ints (a b : List Int) : PyData.eqv (.list (a.map .int)) (.list (b.map .int)) = decide (a = b) := eqv_cod a b
theorem eqv_bls (a b : List Bool) : PyData.eqv (.list (a.map .bool)) (.list (b.map .bool)) = decide (a = b) := eqv_cod a b
theorem eqv_nms (a b : List Nm) : PyData.eqv (.list (a.map nmD)) (.list (b.map nmD)) = decide (a = b) := eqv_cod a b
theorem eqv_prs (a b : List (Int × Int)) : PyData.eqv (.list (a.map pairD)) (.list (b.map pairD)) = decide (a = b) := eqv_cod a b
theorem eqv_nm (a b : Nm) : PyData.eqv (nmD a) (nmD b) = decide (a = b) := eqv_cod a b
theorem eqv_pr (a b : Int × Int) : PyData.eqv (pairD a) (pairD b) = decide (a = b) := eqv_cod a b
theorem ifNX {P A B : Prop} [Decidable P] (h1 : ¬P → A) (h2 : P → B) : ((true ^^ decide P) = true → A) ∧ ((true ^^ decide P) = false → B) := ⟨fun h => h1 (by simpa using h), fun h => h2 (by simpa using h)⟩
theorem ifDX {P A B : Prop} [Decidable P] (h1 : P → A) (h2 : ¬P → B) : ((false ^^ decide P) = true → A) ∧ ((false ^^ decide P) = false → B) := ⟨fun h => h1 (by simpa using h), fun h => h2 (by simpa using h)⟩
theorem iOr {P : Prop} [Decidable P] {A B : Prop} (h1 : P → A) (h2 : ¬P → B) : (decide P = true → A) ∧ (decide P = false → B) := ifD h1 h2
theorem atI_mem {α β : Type} {xs : List α} {i : Int} {v : α} (f : α → β) (h0 : 0 ≤ i) (h : xs[i.toNat]? = some v) : atI (xs.map f) i = some (f v) := by
  obtain ⟨k, rfl⟩ := Int.eq_ofNat_of_zero_le h0
  exact atI_nat (by rw [List.getElem?_map, show xs[k]? = some v from by simpa using h]; rfl)
theorem atI_memV {β : Type} {xs : List β} {i : Int} {v : β} (h0 : 0 ≤ i) (h : xs[i.toNat]? = some v) : atI xs i = some v := by
  obtain ⟨k, rfl⟩ := Int.eq_ofNat_of_zero_le h0
  exact atI_nat (by simpa using h)
theorem ifTT {A B : Prop} (h : A) : (true = true → A) ∧ (true = false → B) := ifT rfl h
theorem ifFF {A B : Prop} (h : B) : (false = true → A) ∧ (false = false → B) := ifF rfl h
theorem lc_map {α : Type} {stb : LS → Prop} {enc : α → LV} {Da : Addr} {gc : CTg} {te : LTE} {σw : LSt} {Q : List LV → LS → Prop} {s : LS} {xs : List α} (hD : s Da = none) (f : α → LV) (hst : ∀ s', Ext s s' → stb s') (hlen : xs.length ≤ 16777216)
    (hs : ∀ x ∈ xs, ∀ s' (Y : LV → LS → Prop), Ext s s' → Y (f x) s' → gc.lift (enc x) σw s' (fun σ2 s2 => te σ2 s2 Y fun _ _ => False) fun _ _ => False)
    (hm : ∀ x σ s' (Y Y' : LSt → LS → Prop), (∀ σ s, Y σ s → Y' σ s) → gc.lift (enc x) σ s' Y (fun _ _ => False) → gc.lift (enc x) σ s' Y' fun _ _ => False)
    (hQ : Q (xs.map f) s) : lcLoop Da gc lYes te stb σw Q (xs.map enc) (put s Da (.lst [])) := by
  refine lc_pure hD (fun _ => true) f hst hlen (fun x hx s' Y N e hY _ => ?_) ?_
  · exact hm x _ _ _ _ (fun σ s2 h => ⟨fun _ => h, fun q => by cases q⟩) (hs x hx s' Y e (hY rfl))
  · have e : xs.filter (fun _ => true) = xs := List.filter_eq_self.mpr fun _ _ => rfl
    rw [e]
    exact hQ
theorem lc_map1 {α : Type} {stb : LS → Prop} {enc : α → LV} {Da : Addr} {i : Nat} {te : LTE} {σw : LSt} {Q : List LV → LS → Prop} {s : LS} {xs : List α} (hD : s Da = none) (f : α → LV) (hst : ∀ s', Ext s s' → stb s') (hlen : xs.length ≤ 16777216)
    (hs : ∀ x ∈ xs, ∀ s' (Y : LV → LS → Prop), Ext s s' → Y (f x) s' → te (σw.set i (some (enc x))) s' Y fun _ _ => False)
    (hQ : Q (xs.map f) s) : lcLoop Da (.one i) lYes te stb σw Q (xs.map enc) (put s Da (.lst [])) :=
  lc_map hD f hst hlen (fun x hx s' Y e hY => hs x hx s' Y e hY) (fun x σ s' Y Y' h q => h _ _ q) hQ
theorem ifTr {A B : Prop} (h : A) : (True → A) ∧ (False → B) := ⟨fun _ => h, fun q => q.elim⟩
theorem ifFr {A B : Prop} (h : B) : (False → A) ∧ (True → B) := ⟨fun q => q.elim, fun _ => h⟩
theorem ifnT {A B : Prop} (h : B) : ((!true) = true → A) ∧ ((!true) = false → B) := ⟨fun q => (by cases q), fun _ => h⟩
theorem ifnF {A B : Prop} (h : A) : ((!false) = true → A) ∧ ((!false) = false → B) := ⟨fun _ => h, fun q => (by cases q)⟩
theorem decF {h : Decidable False} : @decide False h = false := decide_eq_false fun q => q
theorem decT {h : Decidable True} : @decide True h = true := decide_eq_true True.intro
theorem blsOf_const {α : Type} (xs : List α) (b : Bool) : blsOf (xs.map fun _ => LV.bl b) = some (xs.map fun _ => b) := by
  induction xs with
  | nil => rfl
  | cons x xs ih => show (blsOf (xs.map fun _ => LV.bl b)).map (b :: ·) = _; rw [ih]; rfl
theorem blsOf_fn {α : Type} (xs : List α) (f : α → Bool) : blsOf (xs.map fun x => LV.bl (f x)) = some (xs.map f) := by
  induction xs with
  | nil => rfl
  | cons x xs ih => show (blsOf (xs.map fun x => LV.bl (f x))).map (f x :: ·) = _; rw [ih]; rfl
theorem all_const {α : Type} (xs : List α) : ((xs.map fun _ => true).all id) = true := by simp
theorem sh_nil : SeqAt.shaped (.list []) = true := by decide
theorem eqv_nil {α : Type} (f : α → PyData) (xs : List α) : PyData.eqv (.list (xs.map f)) (.list []) = xs.isEmpty := by
  cases xs <;> simp [PyData.eqv, PyData.eqvAll]
end L3


namespace Law
open PySem PySem.Spec L2 L3
def topS (i : Nat) : Stmt := PySem.Challenge.pw_backline_k03_thrown_away.main.body.getD i (.Pass ⟨0, 0, 0, 0⟩)
abbrev s_Event_init : Stmt := inClass (topS 8) 0
abbrev s_Thread_init : Stmt := inClass (topS 9) 0
abbrev s_Thread_here : Stmt := inClass (topS 9) 1
abbrev s_Thread_events : Stmt := inClass (topS 9) 2
abbrev s_Thread_do : Stmt := inClass (topS 9) 3
abbrev s_Thread_write : Stmt := inClass (topS 9) 4
abbrev s_Thread_points : Stmt := inClass (topS 9) 5
abbrev s_Thread_state_at : Stmt := inClass (topS 9) 6
abbrev s_Thread_cut : Stmt := inClass (topS 9) 7
abbrev s_Thread_throw_ahead : Stmt := inClass (topS 9) 8
abbrev s_Habit_writes_events : Stmt := inClass (topS 11) 0
abbrev s_Habit_piled_up : Stmt := inClass (topS 11) 1
abbrev s_Each_writes_events : Stmt := inClass (topS 13) 0
abbrev s_Each_piled_up : Stmt := inClass (topS 13) 1
abbrev s_Bundle_init : Stmt := inClass (topS 14) 0
abbrev s_Bundle_writes_events : Stmt := inClass (topS 14) 1
abbrev s_Bundle_piled_up : Stmt := inClass (topS 14) 2
abbrev s_law_cell_at : Stmt := topS 16
abbrev s_law_mixed : Stmt := topS 17
abbrev s_law_habit : Stmt := topS 18
abbrev s_law_made : Stmt := topS 19
abbrev s_law_begun : Stmt := topS 20
abbrev s_law_done : Stmt := topS 21
abbrev s_law_down : Stmt := topS 22
abbrev s_law_wrote : Stmt := topS 23
abbrev s_law_points : Stmt := topS 24
abbrev s_law_event : Stmt := topS 25
abbrev s_law_whole : Stmt := topS 26
abbrev s_law_refused : Stmt := topS 27
abbrev s_law_states_right : Stmt := topS 28
abbrev s_law_right : Stmt := topS 29
abbrev s_law_cut : Stmt := topS 30
abbrev s_law_told : Stmt := topS 31
abbrev s_law_cut_right : Stmt := topS 32
abbrev s_law_thrown : Stmt := topS 33
abbrev s_law : Stmt := topS 34
theorem sc_Event_init : FnScope ["self", "used", "state", "sent", "said"] ["self", "used", "state", "sent", "said"] (defScope s_Event_init) := ⟨rfl, rfl, rfl, by decide +kernel, rfl, by decide +kernel, by decide +kernel⟩
theorem sc_Thread_init : FnScope ["self", "start", "habit"] ["self", "start", "habit"] (defScope s_Thread_init) := ⟨rfl, rfl, rfl, by decide +kernel, rfl, by decide +kernel, by decide +kernel⟩
theorem sc_Thread_here : FnScope ["self"] ["self"] (defScope s_Thread_here) := ⟨rfl, rfl, rfl, by decide +kernel, rfl, by decide +kernel, by decide +kernel⟩
theorem sc_Thread_events : FnScope ["self"] ["self"] (defScope s_Thread_events) := ⟨rfl, rfl, rfl, by decide +kernel, rfl, by decide +kernel, by decide +kernel⟩
theorem sc_Thread_do : FnScope ["self", "event"] ["self", "event"] (defScope s_Thread_do) := ⟨rfl, rfl, rfl, by decide +kernel, rfl, by decide +kernel, by decide +kernel⟩
theorem sc_Thread_write : FnScope ["self"] ["self"] (defScope s_Thread_write) := ⟨rfl, rfl, rfl, by decide +kernel, rfl, by decide +kernel, by decide +kernel⟩
theorem sc_Thread_points : FnScope ["self"] ["self"] (defScope s_Thread_points) := ⟨rfl, rfl, rfl, by decide +kernel, rfl, by decide +kernel, by decide +kernel⟩
theorem sc_Thread_state_at : FnScope ["self", "place"] ["self", "place"] (defScope s_Thread_state_at) := ⟨rfl, rfl, rfl, by decide +kernel, rfl, by decide +kernel, by decide +kernel⟩
theorem sc_Thread_cut : FnScope ["self", "place", "stands", "one"] ["self", "place", "stands"] (defScope s_Thread_cut) := ⟨rfl, rfl, rfl, by decide +kernel, rfl, by decide +kernel, by decide +kernel⟩
theorem sc_Thread_throw_ahead : FnScope ["self", "place", "early", "one"] ["self", "place"] (defScope s_Thread_throw_ahead) := ⟨rfl, rfl, rfl, by decide +kernel, rfl, by decide +kernel, by decide +kernel⟩
theorem sc_Habit_writes_events : FnScope ["self"] ["self"] (defScope s_Habit_writes_events) := ⟨rfl, rfl, rfl, by decide +kernel, rfl, by decide +kernel, by decide +kernel⟩
theorem sc_Habit_piled_up : FnScope ["self", "pile"] ["self", "pile"] (defScope s_Habit_piled_up) := ⟨rfl, rfl, rfl, by decide +kernel, rfl, by decide +kernel, by decide +kernel⟩
theorem sc_Each_writes_events : FnScope ["self"] ["self"] (defScope s_Each_writes_events) := ⟨rfl, rfl, rfl, by decide +kernel, rfl, by decide +kernel, by decide +kernel⟩
theorem sc_Each_piled_up : FnScope ["self", "pile"] ["self", "pile"] (defScope s_Each_piled_up) := ⟨rfl, rfl, rfl, by decide +kernel, rfl, by decide +kernel, by decide +kernel⟩
theorem sc_Bundle_init : FnScope ["self", "size"] ["self", "size"] (defScope s_Bundle_init) := ⟨rfl, rfl, rfl, by decide +kernel, rfl, by decide +kernel, by decide +kernel⟩
theorem sc_Bundle_writes_events : FnScope ["self"] ["self"] (defScope s_Bundle_writes_events) := ⟨rfl, rfl, rfl, by decide +kernel, rfl, by decide +kernel, by decide +kernel⟩
theorem sc_Bundle_piled_up : FnScope ["self", "pile"] ["self", "pile"] (defScope s_Bundle_piled_up) := ⟨rfl, rfl, rfl, by decide +kernel, rfl, by decide +kernel, by decide +kernel⟩
theorem sc_law_cell_at : FnScope ["_law_script", "_law_k"] ["_law_script", "_law_k"] (defScope s_law_cell_at) := ⟨rfl, rfl, rfl, by decide +kernel, rfl, by decide +kernel, by decide +kernel⟩
theorem sc_law_mixed : FnScope ["_law_cell", "_law_k", "_law_number"] ["_law_cell", "_law_k"] (defScope s_law_mixed) := ⟨rfl, rfl, rfl, by decide +kernel, rfl, by decide +kernel, by decide +kernel⟩
theorem sc_law_habit : FnScope ["_law_cell"] ["_law_cell"] (defScope s_law_habit) := ⟨rfl, rfl, rfl, by decide +kernel, rfl, by decide +kernel, by decide +kernel⟩
theorem sc_law_made : FnScope ["_law_habit_here"] ["_law_habit_here"] (defScope s_law_made) := ⟨rfl, rfl, rfl, by decide +kernel, rfl, by decide +kernel, by decide +kernel⟩
theorem sc_law_begun : FnScope ["_law_start"] ["_law_start"] (defScope s_law_begun) := ⟨rfl, rfl, rfl, by decide +kernel, rfl, by decide +kernel, by decide +kernel⟩
theorem sc_law_done : FnScope ["_law_model", "_law_habit_here", "_law_state"] ["_law_model", "_law_habit_here", "_law_state"] (defScope s_law_done) := ⟨rfl, rfl, rfl, by decide +kernel, rfl, by decide +kernel, by decide +kernel⟩
theorem sc_law_down : FnScope ["_law_model", "_law_place"] ["_law_model"] (defScope s_law_down) := ⟨rfl, rfl, rfl, by decide +kernel, rfl, by decide +kernel, by decide +kernel⟩
theorem sc_law_wrote : FnScope ["_law_model", "_law_habit_here", "_law_here"] ["_law_model", "_law_habit_here"] (defScope s_law_wrote) := ⟨rfl, rfl, rfl, by decide +kernel, rfl, by decide +kernel, by decide +kernel⟩
theorem sc_law_points : FnScope ["_law_model", "_law_found", "_law_one", "_law_place"] ["_law_model"] (defScope s_law_points) := ⟨rfl, rfl, rfl, by decide +kernel, rfl, by decide +kernel, by decide +kernel⟩
theorem sc_law_event : FnScope ["_law_cell", "_law_k", "_law_number", "_law_used", "_law_state", "_law_sent", "_law_j"] ["_law_cell", "_law_k"] (defScope s_law_event) := ⟨rfl, rfl, rfl, by decide +kernel, rfl, by decide +kernel, by decide +kernel⟩
theorem sc_law_whole : FnScope ["_law_found"] ["_law_found"] (defScope s_law_whole) := ⟨rfl, rfl, rfl, by decide +kernel, rfl, by decide +kernel, by decide +kernel⟩
theorem sc_law_refused : FnScope ["_law_thread", "_law_place", "e", "_law_others"] ["_law_thread", "_law_place"] (defScope s_law_refused) := ⟨rfl, rfl, rfl, by decide +kernel, rfl, by decide +kernel, by decide +kernel⟩
theorem sc_law_states_right : FnScope ["_law_thread", "_law_model", "_law_due", "_law_here", "_law_place"] ["_law_thread", "_law_model", "_law_due"] (defScope s_law_states_right) := ⟨rfl, rfl, rfl, by decide +kernel, rfl, by decide +kernel, by decide +kernel⟩
theorem sc_law_right : FnScope ["_law_thread", "_law_model", "_law_here", "_law_due", "_law_points_here", "_law_place"] ["_law_thread", "_law_model"] (defScope s_law_right) := ⟨rfl, rfl, rfl, by decide +kernel, rfl, by decide +kernel, by decide +kernel⟩
theorem sc_law_cut : FnScope ["_law_model", "_law_place", "_law_one"] ["_law_model", "_law_place"] (defScope s_law_cut) := ⟨rfl, rfl, rfl, by decide +kernel, rfl, by decide +kernel, by decide +kernel⟩
theorem sc_law_told : FnScope ["_law_thread", "_law_place", "_law_stands"] ["_law_thread", "_law_place", "_law_stands"] (defScope s_law_told) := ⟨rfl, rfl, rfl, by decide +kernel, rfl, by decide +kernel, by decide +kernel⟩
theorem sc_law_cut_right : FnScope ["_law_thread", "_law_model", "_law_number", "_law_here", "_law_points_here", "_law_place", "_law_stands", "_law_may"] ["_law_thread", "_law_model", "_law_number"] (defScope s_law_cut_right) := ⟨rfl, rfl, rfl, by decide +kernel, rfl, by decide +kernel, by decide +kernel⟩
theorem sc_law_thrown : FnScope ["_law_thread", "_law_model", "_law_place", "_law_before", "_law_early", "_law_one", "_law_points_here"] ["_law_thread", "_law_model", "_law_place"] (defScope s_law_thrown) := ⟨rfl, rfl, rfl, by decide +kernel, rfl, by decide +kernel, by decide +kernel⟩
theorem sc_law : FnScope ["_law_script", "_law_habit_here", "_law_start", "_law_thread", "_law_model", "_law_k", "_law_number", "_law_here", "_law_one"] ["_law_script"] (defScope s_law) := ⟨rfl, rfl, rfl, by decide +kernel, rfl, by decide +kernel, by decide +kernel⟩
structure Ad where
  c_Event : Addr
  c_Thread : Addr
  c_Habit : Addr
  c_Never : Addr
  c_Each : Addr
  c_Bundle : Addr
  c_WeaveError : Addr
  c_NoSize : Addr
  c_NoPoint : Addr
  c_NoHand : Addr
  c_NoLetter : Addr
  c_NoText : Addr
  f_Event_init : Addr
  f_Thread_init : Addr
  f_Thread_here : Addr
  f_Thread_events : Addr
  f_Thread_do : Addr
  f_Thread_write : Addr
  f_Thread_points : Addr
  f_Thread_state_at : Addr
  f_Thread_cut : Addr
  f_Thread_throw_ahead : Addr
  f_Habit_writes_events : Addr
  f_Habit_piled_up : Addr
  f_Each_writes_events : Addr
  f_Each_piled_up : Addr
  f_Bundle_init : Addr
  f_Bundle_writes_events : Addr
  f_Bundle_piled_up : Addr
  f_law_cell_at : Addr
  f_law_mixed : Addr
  f_law_habit : Addr
  f_law_made : Addr
  f_law_begun : Addr
  f_law_done : Addr
  f_law_down : Addr
  f_law_wrote : Addr
  f_law_points : Addr
  f_law_event : Addr
  f_law_whole : Addr
  f_law_refused : Addr
  f_law_states_right : Addr
  f_law_right : Addr
  f_law_cut : Addr
  f_law_told : Addr
  f_law_cut_right : Addr
  f_law_thrown : Addr
  f_law : Addr
structure Fd where
  d_Event_init : FuncData
  d_Thread_init : FuncData
  d_Thread_here : FuncData
  d_Thread_events : FuncData
  d_Thread_do : FuncData
  d_Thread_write : FuncData
  d_Thread_points : FuncData
  d_Thread_state_at : FuncData
  d_Thread_cut : FuncData
  d_Thread_throw_ahead : FuncData
  d_Habit_writes_events : FuncData
  d_Habit_piled_up : FuncData
  d_Each_writes_events : FuncData
  d_Each_piled_up : FuncData
  d_Bundle_init : FuncData
  d_Bundle_writes_events : FuncData
  d_Bundle_piled_up : FuncData
  d_law_cell_at : FuncData
  d_law_mixed : FuncData
  d_law_habit : FuncData
  d_law_made : FuncData
  d_law_begun : FuncData
  d_law_done : FuncData
  d_law_down : FuncData
  d_law_wrote : FuncData
  d_law_points : FuncData
  d_law_event : FuncData
  d_law_whole : FuncData
  d_law_refused : FuncData
  d_law_states_right : FuncData
  d_law_right : FuncData
  d_law_cut : FuncData
  d_law_told : FuncData
  d_law_cut_right : FuncData
  d_law_thrown : FuncData
  d_law : FuncData
structure Txt (K : PySem.W.Frag) (mg : Str → Option Value) (A : Ad) (D : Fd) : Prop where
  F_Event_init : Fun K "__init__" "Event.__init__" s_Event_init A.f_Event_init D.d_Event_init
  q_Event_init : Binds K D.d_Event_init ["self", "used", "state", "sent", "said"] []
  F_Thread_init : Fun K "__init__" "Thread.__init__" s_Thread_init A.f_Thread_init D.d_Thread_init
  q_Thread_init : Binds K D.d_Thread_init ["self", "start", "habit"] []
  F_Thread_here : Fun K "here" "Thread.here" s_Thread_here A.f_Thread_here D.d_Thread_here
  q_Thread_here : Binds K D.d_Thread_here ["self"] []
  F_Thread_events : Fun K "events" "Thread.events" s_Thread_events A.f_Thread_events D.d_Thread_events
  q_Thread_events : Binds K D.d_Thread_events ["self"] []
  F_Thread_do : Fun K "do" "Thread.do" s_Thread_do A.f_Thread_do D.d_Thread_do
  q_Thread_do : Binds K D.d_Thread_do ["self", "event"] []
  F_Thread_write : Fun K "write" "Thread.write" s_Thread_write A.f_Thread_write D.d_Thread_write
  q_Thread_write : Binds K D.d_Thread_write ["self"] []
  F_Thread_points : Fun K "points" "Thread.points" s_Thread_points A.f_Thread_points D.d_Thread_points
  q_Thread_points : Binds K D.d_Thread_points ["self"] []
  F_Thread_state_at : Fun K "state_at" "Thread.state_at" s_Thread_state_at A.f_Thread_state_at D.d_Thread_state_at
  q_Thread_state_at : Binds K D.d_Thread_state_at ["self", "place"] []
  F_Thread_cut : Fun K "cut" "Thread.cut" s_Thread_cut A.f_Thread_cut D.d_Thread_cut
  q_Thread_cut : Binds K D.d_Thread_cut ["self", "place", "stands"] []
  F_Thread_throw_ahead : Fun K "throw_ahead" "Thread.throw_ahead" s_Thread_throw_ahead A.f_Thread_throw_ahead D.d_Thread_throw_ahead
  q_Thread_throw_ahead : Binds K D.d_Thread_throw_ahead ["self", "place"] []
  F_Habit_writes_events : Fun K "writes_events" "Habit.writes_events" s_Habit_writes_events A.f_Habit_writes_events D.d_Habit_writes_events
  q_Habit_writes_events : Binds K D.d_Habit_writes_events ["self"] []
  F_Habit_piled_up : Fun K "piled_up" "Habit.piled_up" s_Habit_piled_up A.f_Habit_piled_up D.d_Habit_piled_up
  q_Habit_piled_up : Binds K D.d_Habit_piled_up ["self", "pile"] []
  F_Each_writes_events : Fun K "writes_events" "Each.writes_events" s_Each_writes_events A.f_Each_writes_events D.d_Each_writes_events
  q_Each_writes_events : Binds K D.d_Each_writes_events ["self"] []
  F_Each_piled_up : Fun K "piled_up" "Each.piled_up" s_Each_piled_up A.f_Each_piled_up D.d_Each_piled_up
  q_Each_piled_up : Binds K D.d_Each_piled_up ["self", "pile"] []
  F_Bundle_init : Fun K "__init__" "Bundle.__init__" s_Bundle_init A.f_Bundle_init D.d_Bundle_init
  q_Bundle_init : Binds K D.d_Bundle_init ["self", "size"] []
  F_Bundle_writes_events : Fun K "writes_events" "Bundle.writes_events" s_Bundle_writes_events A.f_Bundle_writes_events D.d_Bundle_writes_events
  q_Bundle_writes_events : Binds K D.d_Bundle_writes_events ["self"] []
  F_Bundle_piled_up : Fun K "piled_up" "Bundle.piled_up" s_Bundle_piled_up A.f_Bundle_piled_up D.d_Bundle_piled_up
  q_Bundle_piled_up : Binds K D.d_Bundle_piled_up ["self", "pile"] []
  F_law_cell_at : Fun K "_law_cell_at" "_law_cell_at" s_law_cell_at A.f_law_cell_at D.d_law_cell_at
  q_law_cell_at : Binds K D.d_law_cell_at ["_law_script", "_law_k"] []
  m_law_cell_at : mg "_law_cell_at" = some (.ref A.f_law_cell_at)
  k_law_cell_at : PySem.W.keepIn K (.ref A.f_law_cell_at) = true
  F_law_mixed : Fun K "_law_mixed" "_law_mixed" s_law_mixed A.f_law_mixed D.d_law_mixed
  q_law_mixed : Binds K D.d_law_mixed ["_law_cell", "_law_k"] []
  m_law_mixed : mg "_law_mixed" = some (.ref A.f_law_mixed)
  k_law_mixed : PySem.W.keepIn K (.ref A.f_law_mixed) = true
  F_law_habit : Fun K "_law_habit" "_law_habit" s_law_habit A.f_law_habit D.d_law_habit
  q_law_habit : Binds K D.d_law_habit ["_law_cell"] []
  m_law_habit : mg "_law_habit" = some (.ref A.f_law_habit)
  k_law_habit : PySem.W.keepIn K (.ref A.f_law_habit) = true
  F_law_made : Fun K "_law_made" "_law_made" s_law_made A.f_law_made D.d_law_made
  q_law_made : Binds K D.d_law_made ["_law_habit_here"] []
  m_law_made : mg "_law_made" = some (.ref A.f_law_made)
  k_law_made : PySem.W.keepIn K (.ref A.f_law_made) = true
  F_law_begun : Fun K "_law_begun" "_law_begun" s_law_begun A.f_law_begun D.d_law_begun
  q_law_begun : Binds K D.d_law_begun ["_law_start"] []
  m_law_begun : mg "_law_begun" = some (.ref A.f_law_begun)
  k_law_begun : PySem.W.keepIn K (.ref A.f_law_begun) = true
  F_law_done : Fun K "_law_done" "_law_done" s_law_done A.f_law_done D.d_law_done
  q_law_done : Binds K D.d_law_done ["_law_model", "_law_habit_here", "_law_state"] []
  m_law_done : mg "_law_done" = some (.ref A.f_law_done)
  k_law_done : PySem.W.keepIn K (.ref A.f_law_done) = true
  F_law_down : Fun K "_law_down" "_law_down" s_law_down A.f_law_down D.d_law_down
  q_law_down : Binds K D.d_law_down ["_law_model"] []
  m_law_down : mg "_law_down" = some (.ref A.f_law_down)
  k_law_down : PySem.W.keepIn K (.ref A.f_law_down) = true
  F_law_wrote : Fun K "_law_wrote" "_law_wrote" s_law_wrote A.f_law_wrote D.d_law_wrote
  q_law_wrote : Binds K D.d_law_wrote ["_law_model", "_law_habit_here"] []
  m_law_wrote : mg "_law_wrote" = some (.ref A.f_law_wrote)
  k_law_wrote : PySem.W.keepIn K (.ref A.f_law_wrote) = true
  F_law_points : Fun K "_law_points" "_law_points" s_law_points A.f_law_points D.d_law_points
  q_law_points : Binds K D.d_law_points ["_law_model"] []
  m_law_points : mg "_law_points" = some (.ref A.f_law_points)
  k_law_points : PySem.W.keepIn K (.ref A.f_law_points) = true
  F_law_event : Fun K "_law_event" "_law_event" s_law_event A.f_law_event D.d_law_event
  q_law_event : Binds K D.d_law_event ["_law_cell", "_law_k"] []
  m_law_event : mg "_law_event" = some (.ref A.f_law_event)
  k_law_event : PySem.W.keepIn K (.ref A.f_law_event) = true
  F_law_whole : Fun K "_law_whole" "_law_whole" s_law_whole A.f_law_whole D.d_law_whole
  q_law_whole : Binds K D.d_law_whole ["_law_found"] []
  m_law_whole : mg "_law_whole" = some (.ref A.f_law_whole)
  k_law_whole : PySem.W.keepIn K (.ref A.f_law_whole) = true
  F_law_refused : Fun K "_law_refused" "_law_refused" s_law_refused A.f_law_refused D.d_law_refused
  q_law_refused : Binds K D.d_law_refused ["_law_thread", "_law_place"] []
  m_law_refused : mg "_law_refused" = some (.ref A.f_law_refused)
  k_law_refused : PySem.W.keepIn K (.ref A.f_law_refused) = true
  F_law_states_right : Fun K "_law_states_right" "_law_states_right" s_law_states_right A.f_law_states_right D.d_law_states_right
  q_law_states_right : Binds K D.d_law_states_right ["_law_thread", "_law_model", "_law_due"] []
  m_law_states_right : mg "_law_states_right" = some (.ref A.f_law_states_right)
  k_law_states_right : PySem.W.keepIn K (.ref A.f_law_states_right) = true
  F_law_right : Fun K "_law_right" "_law_right" s_law_right A.f_law_right D.d_law_right
  q_law_right : Binds K D.d_law_right ["_law_thread", "_law_model"] []
  m_law_right : mg "_law_right" = some (.ref A.f_law_right)
  k_law_right : PySem.W.keepIn K (.ref A.f_law_right) = true
  F_law_cut : Fun K "_law_cut" "_law_cut" s_law_cut A.f_law_cut D.d_law_cut
  q_law_cut : Binds K D.d_law_cut ["_law_model", "_law_place"] []
  m_law_cut : mg "_law_cut" = some (.ref A.f_law_cut)
  k_law_cut : PySem.W.keepIn K (.ref A.f_law_cut) = true
  F_law_told : Fun K "_law_told" "_law_told" s_law_told A.f_law_told D.d_law_told
  q_law_told : Binds K D.d_law_told ["_law_thread", "_law_place", "_law_stands"] []
  m_law_told : mg "_law_told" = some (.ref A.f_law_told)
  k_law_told : PySem.W.keepIn K (.ref A.f_law_told) = true
  F_law_cut_right : Fun K "_law_cut_right" "_law_cut_right" s_law_cut_right A.f_law_cut_right D.d_law_cut_right
  q_law_cut_right : Binds K D.d_law_cut_right ["_law_thread", "_law_model", "_law_number"] []
  m_law_cut_right : mg "_law_cut_right" = some (.ref A.f_law_cut_right)
  k_law_cut_right : PySem.W.keepIn K (.ref A.f_law_cut_right) = true
  F_law_thrown : Fun K "_law_thrown" "_law_thrown" s_law_thrown A.f_law_thrown D.d_law_thrown
  q_law_thrown : Binds K D.d_law_thrown ["_law_thread", "_law_model", "_law_place"] []
  m_law_thrown : mg "_law_thrown" = some (.ref A.f_law_thrown)
  k_law_thrown : PySem.W.keepIn K (.ref A.f_law_thrown) = true
  F_law : Fun K "law" "law" s_law A.f_law D.d_law
  q_law : Binds K D.d_law ["_law_script"] []
  m_law : mg "law" = some (.ref A.f_law)
  k_law : PySem.W.keepIn K (.ref A.f_law) = true
  cl_Event : Cls K A.c_Event
  in_Event : InsC K A.c_Event
  m_Event : mg "Event" = some (.ref A.c_Event)
  mk_Event : Mk K A.c_Event A.f_Event_init
  cl_Thread : Cls K A.c_Thread
  in_Thread : InsC K A.c_Thread
  m_Thread : mg "Thread" = some (.ref A.c_Thread)
  mk_Thread : Mk K A.c_Thread A.f_Thread_init
  cl_Habit : Cls K A.c_Habit
  in_Habit : InsC K A.c_Habit
  m_Habit : mg "Habit" = some (.ref A.c_Habit)
  mkn_Habit : MkN K A.c_Habit
  cl_Never : Cls K A.c_Never
  in_Never : InsC K A.c_Never
  m_Never : mg "Never" = some (.ref A.c_Never)
  mkn_Never : MkN K A.c_Never
  cl_Each : Cls K A.c_Each
  in_Each : InsC K A.c_Each
  m_Each : mg "Each" = some (.ref A.c_Each)
  mkn_Each : MkN K A.c_Each
  cl_Bundle : Cls K A.c_Bundle
  in_Bundle : InsC K A.c_Bundle
  m_Bundle : mg "Bundle" = some (.ref A.c_Bundle)
  mk_Bundle : Mk K A.c_Bundle A.f_Bundle_init
  mt_Thread_here : Meth K A.c_Thread "here" A.f_Thread_here
  mt_Thread_events : Meth K A.c_Thread "events" A.f_Thread_events
  mt_Thread_do : Meth K A.c_Thread "do" A.f_Thread_do
  mt_Thread_write : Meth K A.c_Thread "write" A.f_Thread_write
  mt_Thread_points : Meth K A.c_Thread "points" A.f_Thread_points
  mt_Thread_state_at : Meth K A.c_Thread "state_at" A.f_Thread_state_at
  mt_Thread_cut : Meth K A.c_Thread "cut" A.f_Thread_cut
  mt_Thread_throw_ahead : Meth K A.c_Thread "throw_ahead" A.f_Thread_throw_ahead
  mt_Habit_writes_events : Meth K A.c_Habit "writes_events" A.f_Habit_writes_events
  mt_Habit_piled_up : Meth K A.c_Habit "piled_up" A.f_Habit_piled_up
  mt_Never_writes_events : Meth K A.c_Never "writes_events" A.f_Habit_writes_events
  mt_Never_piled_up : Meth K A.c_Never "piled_up" A.f_Habit_piled_up
  mt_Each_writes_events : Meth K A.c_Each "writes_events" A.f_Each_writes_events
  mt_Each_piled_up : Meth K A.c_Each "piled_up" A.f_Each_piled_up
  mt_Bundle_writes_events : Meth K A.c_Bundle "writes_events" A.f_Bundle_writes_events
  mt_Bundle_piled_up : Meth K A.c_Bundle "piled_up" A.f_Bundle_piled_up
  n_Bundle_size : NoAttr K A.c_Bundle "size"
  n_Event_said : NoAttr K A.c_Event "said"
  n_Event_sent : NoAttr K A.c_Event "sent"
  n_Event_state : NoAttr K A.c_Event "state"
  n_Event_used : NoAttr K A.c_Event "used"
  n_Thread_done : NoAttr K A.c_Thread "done"
  n_Thread_habit : NoAttr K A.c_Thread "habit"
  n_Thread_pile : NoAttr K A.c_Thread "pile"
  n_Thread_start : NoAttr K A.c_Thread "start"
  n_Thread_writings : NoAttr K A.c_Thread "writings"
  b_ValueError : mg "ValueError" = none
  b_all : mg "all" = none
  b_bool : mg "bool" = none
  b_int : mg "int" = none
  b_isinstance : mg "isinstance" = none
  b_len : mg "len" = none
  b_list : mg "list" = none
  b_max : mg "max" = none
  b_range : mg "range" = none
  b_sorted : mg "sorted" = none
  x_WeaveError : ExK K mg "WeaveError" A.c_WeaveError
  e_WeaveError : ExcC K A.c_WeaveError
  x_NoSize : ExK K mg "NoSize" A.c_NoSize
  e_NoSize : ExcC K A.c_NoSize
  x_NoPoint : ExK K mg "NoPoint" A.c_NoPoint
  e_NoPoint : ExcC K A.c_NoPoint
  x_NoHand : ExK K mg "NoHand" A.c_NoHand
  e_NoHand : ExcC K A.c_NoHand
  x_NoLetter : ExK K mg "NoLetter" A.c_NoLetter
  e_NoLetter : ExcC K A.c_NoLetter
  x_NoText : ExK K mg "NoText" A.c_NoText
  e_NoText : ExcC K A.c_NoText
  nd_Never_Each : A.c_Never ≠ A.c_Each
  nd_Never_Bundle : A.c_Never ≠ A.c_Bundle
  nd_Each_Bundle : A.c_Each ≠ A.c_Bundle
  xm_NoPoint_WeaveError : PySem.W.exmOne K (.ref A.c_NoPoint) (.ref A.c_WeaveError) = some true
  xm_NoPoint_NoPoint : PySem.W.exmOne K (.ref A.c_NoPoint) (.ref A.c_NoPoint) = some true
  kt_int_int : PySem.W.kitOne K (.type "int") (.type "int") = some true
  kt_int_bool : PySem.W.kitOne K (.type "int") (.type "bool") = some false
  kt_list_list : PySem.W.kitOne K (.type "list") (.type "list") = some true
  kt_NoPoint_NoSize : PySem.W.kitOne K (.ref A.c_NoPoint) (.ref A.c_NoSize) = some false
  kt_NoPoint_NoHand : PySem.W.kitOne K (.ref A.c_NoPoint) (.ref A.c_NoHand) = some false
  kt_NoPoint_NoLetter : PySem.W.kitOne K (.ref A.c_NoPoint) (.ref A.c_NoLetter) = some false
  kt_NoPoint_NoText : PySem.W.kitOne K (.ref A.c_NoPoint) (.ref A.c_NoText) = some false
  kt_NoPoint_NoPoint : PySem.W.kitOne K (.ref A.c_NoPoint) (.ref A.c_NoPoint) = some true
  kt_NoPoint_ValueError : PySem.W.kitOne K (.ref A.c_NoPoint) (.type "ValueError") = some true
/-- which addresses a deed may have touched: those of F; those of F' are F's or new -/
def Own (F F' : List Addr) (s s' : LS) : Prop := ∀ a, a ∉ F → s a ≠ none → s' a = s a ∧ a ∉ F'
theorem Own.refl (F : List Addr) (s : LS) : Own F F s s := fun a n _ => ⟨rfl, n⟩
theorem Own.trans {F F1 F2 : List Addr} {s s1 s2 : LS} (h : Own F F1 s s1) (h' : Own F1 F2 s1 s2) : Own F F2 s s2 := fun a n e => by
  obtain ⟨e1, n1⟩ := h a n e
  obtain ⟨e2, n2⟩ := h' a n1 (by rw [e1]; exact e)
  exact ⟨e2.trans e1, n2⟩
theorem Own.at {F F' : List Addr} {s s' : LS} (h : Own F F' s s') {a : Addr} {o : LO} (n : a ∉ F) (e : s a = some o) : s' a = some o := by
  rw [(h a n (by rw [e]; simp)).1, e]
theorem Own.out {F F' : List Addr} {s s' : LS} (h : Own F F' s s') {a : Addr} {o : LO} (n : a ∉ F) (e : s a = some o) : a ∉ F' := (h a n (by rw [e]; simp)).2
theorem Own.ext {F' : List Addr} {s s' : LS} (h : Own [] F' s s') : Ext s s' := fun a o e => h.at (by simp) e
theorem own_of {F F' : List Addr} {s s' : LS} (h : ∀ a, a ∉ F → s a ≠ none → s' a = s a) (hn : ∀ a ∈ F', a ∈ F ∨ s a = none) : Own F F' s s' := fun a n e => ⟨h a n e, fun m => (hn a m).elim n e⟩
theorem put_none {s : LS} {x p : Addr} {o : LO} (h : put s x o p = none) : p ≠ x ∧ s p = none := by
  unfold put at h
  split at h
  · cases h
  · next n => exact ⟨n, h⟩
structure Ev where
  used : Option Nm
  state : Int
  sent : List (Int × Int)
  said : List Int
deriving DecidableEq
def usedL : Option Nm → LV
  | none => .non
  | some n => nmL n
def evL (A : Ad) (e : Ev) : LV := .ins A.c_Event [("used", usedL e.used), ("state", .int e.state), ("sent", .lst (e.sent.map pairL)), ("said", .lst (e.said.map .int))]
inductive Hb where
  | never | each | bundle (n : Int)
deriving DecidableEq
def Hb.piled : Hb → Int → Int
  | .never, p => p + 1
  | .each, _ => 0
  | .bundle n, p => if p + 1 ≥ n then 0 else p + 1
def Hb.writes : Hb → Bool
  | .never => false
  | .each => true
  | .bundle _ => true
def hbC (A : Ad) : Hb → Addr
  | .never => A.c_Never
  | .each => A.c_Each
  | .bundle _ => A.c_Bundle
def hbF : Hb → List (Str × LV)
  | .never => []
  | .each => []
  | .bundle n => [("size", .int n)]
def hbL (A : Ad) (h : Hb) : LV := .ins (hbC A h) (hbF h)
structure Th where
  start : Int
  hab : Hb
  done : List Ev
  wr : List Int
  pile : Int
def Th.here (t : Th) : Int := t.done.length
def Th.points (t : Th) : List Int := if t.hab.writes then (List.range ((t.here - t.pile + 1) - t.wr.headD 0).toNat).map fun i => t.wr.headD 0 + (i : Nat) else t.wr
def Th.do (t : Th) (e : Ev) : Th := { t with done := t.done ++ [e], pile := t.hab.piled t.pile }
def Th.write (t : Th) : Th := { t with wr := if t.here ∈ t.wr then t.wr else t.wr ++ [t.here], pile := if t.hab.writes then 0 else t.pile }
structure Th.Ok (t : Th) : Prop where
  ne : t.wr ≠ []
  asc : t.wr.Pairwise (· < ·)
  rng : ∀ q ∈ t.wr, 0 ≤ q ∧ q ≤ t.here
  pile : t.hab.writes = true → 0 ≤ t.pile ∧ ∀ q ∈ t.wr, q ≤ t.here - t.pile
theorem Th.Ok.head {t : Th} (h : t.Ok) : t.wr.headD 0 ∈ t.wr := by
  have := h.ne
  cases e : t.wr with
  | nil => exact absurd e this
  | cons a r => simp
theorem Th.Ok.pt {t : Th} (h : t.Ok) {q : Int} (hq : q ∈ t.points) : 0 ≤ q ∧ q ≤ t.here := by
  unfold Th.points at hq
  have h0 := h.rng _ h.head
  split at hq
  · next hw =>
    have hp := (h.pile hw).1
    simp only [List.mem_map, List.mem_range] at hq
    obtain ⟨i, hi, rfl⟩ := hq
    omega
  · exact h.rng q hq
theorem Th.Ok.do {t : Th} (h : t.Ok) (e : Ev) (hb : ∀ n, t.hab = .bundle n → 1 ≤ n) : (t.do e).Ok := by
  have hh : (t.do e).here = t.here + 1 := by simp [Th.do, Th.here]
  refine ⟨h.ne, h.asc, fun q hq => ?_, fun hw => ?_⟩
  · have := h.rng q hq
    omega
  · have hp := h.pile hw
    have hd : ∀ q ∈ (t.do e).wr, q ≤ t.here - t.pile := hp.2
    show 0 ≤ t.hab.piled t.pile ∧ ∀ q ∈ (t.do e).wr, q ≤ (t.do e).here - t.hab.piled t.pile
    have hq0 : ∀ q ∈ (t.do e).wr, q ≤ t.here := fun q hq => (h.rng q hq).2
    cases e1 : t.hab with
    | never => rw [show (t.do e).hab = t.hab from rfl, e1] at hw; cases hw
    | each =>
      refine ⟨Int.le_refl 0, fun q hq => ?_⟩
      have := hq0 q hq
      show q ≤ (t.do e).here - 0
      omega
    | bundle n =>
      simp only [Hb.piled]
      split
      · exact ⟨Int.le_refl 0, fun q hq => by have := hq0 q hq; omega⟩
      · exact ⟨by omega, fun q hq => by have := hd q hq; omega⟩
theorem Th.Ok.write {t : Th} (h : t.Ok) : t.write.Ok := by
  have hh : t.write.here = t.here := rfl
  have h0 : (0 : Int) ≤ t.here := by unfold Th.here; omega
  have hr : ∀ q ∈ t.write.wr, 0 ≤ q ∧ q ≤ t.here := fun q hq => by
    simp only [Th.write] at hq
    split at hq
    · exact h.rng q hq
    · rw [List.mem_append] at hq
      rcases hq with hq | hq
      · exact h.rng q hq
      · rw [List.mem_singleton.mp hq]; omega
  refine ⟨?_, ?_, hr, fun hw => ?_⟩
  · simp only [Th.write]
    split
    · exact h.ne
    · simp
  · simp only [Th.write]
    split
    · exact h.asc
    · next hn =>
      rw [List.pairwise_append]
      refine ⟨h.asc, by simp, fun a ha b hb => ?_⟩
      rw [List.mem_singleton.mp hb]
      have := (h.rng a ha).2
      have hne : a ≠ t.here := by rintro rfl; exact hn ha
      omega
  · have e : t.write.pile = 0 := by
      have hw' : t.hab.writes = true := hw
      show (if t.hab.writes = true then 0 else t.pile) = 0
      rw [if_pos hw']
    rw [e, hh]
    exact ⟨Int.le_refl 0, fun q hq => by have := (hr q hq).2; omega⟩
def Th.states (t : Th) : List Int := t.start :: t.done.map Ev.state
def thF (A : Ad) (st : Int) (h : Hb) (d w : Addr) (p : Int) : List (Str × LV) := [("start", .int st), ("habit", hbL A h), ("done", .ref d), ("writings", .ref w), ("pile", .int p)]
/-- the thread t lies at x, its lists at d and w -/
structure IsTh (A : Ad) (s : LS) (x : Addr) (t : Th) (d w : Addr) : Prop where
  hx : s x = some (.ins A.c_Thread (thF A t.start t.hab d w t.pile))
  hd : s d = some (.lst (t.done.map (evL A)))
  hw : s w = some (.lst (t.wr.map .int))
  ne : d ≠ w
section
variable {A : Ad} {s s' : LS} {x d w : Addr} {t : Th}
theorem IsTh.xd (h : IsTh A s x t d w) : x ≠ d := by rintro rfl; have := h.hx.symm.trans h.hd; cases this
theorem IsTh.xw (h : IsTh A s x t d w) : x ≠ w := by rintro rfl; have := h.hx.symm.trans h.hw; cases this
theorem IsTh.own {F F' : List Addr} (h : IsTh A s x t d w) (o : Own F F' s s') (n1 : x ∉ F) (n2 : d ∉ F) (n3 : w ∉ F) : IsTh A s' x t d w := ⟨o.at n1 h.hx, o.at n2 h.hd, o.at n3 h.hw, h.ne⟩
theorem IsTh.ext (h : IsTh A s x t d w) (o : Ext s s') : IsTh A s' x t d w := ⟨o _ _ h.hx, o _ _ h.hd, o _ _ h.hw, h.ne⟩
end
section
variable {P : Program} {w : World} {K : PySem.W.Frag} {mg : Str → Option Value} {base : Heap} {A : Ad} {D : Fd}
def spEvent (A : Ad) : LSp := fun vs s Q E => ∃ (x : Addr) (e : Ev) (se sa : LV), vs = [.ref x, usedL e.used, .int e.state, se, sa] ∧ seqL se s = some (e.sent.map pairL) ∧ seqL sa s = some (e.said.map .int) ∧ s x = some (.ins A.c_Event []) ∧
  Q .non (put s x (.ins A.c_Event [("used", usedL e.used), ("state", .int e.state), ("sent", .lst (e.sent.map pairL)), ("said", .lst (e.said.map .int))]))
theorem ok_Event_init (T : Txt K mg A D) : LFn P w K mg base 1 A.f_Event_init D.d_Event_init ["self", "used", "state", "sent", "said"] (spEvent A) := by
  refine T.F_Event_init.okL sc_Event_init (fun vs s Q E ⟨x, e, se, sa, h, _⟩ => by rw [h]; rfl) (fun cdv A' outer si H E hr => ⟨_, (lps_cons (lp_fld T.cl_Event T.n_Event_used (lv 0) (lv 1))
    (lps_cons (lp_fld T.cl_Event T.n_Event_state (lv 0) (lv 2))
    (lps_cons (lp_fld T.cl_Event T.n_Event_sent (lv 0) (le_fz (ll_list rfl T.b_list (la_cons (lv 3) la_nil))))
    (lps_one (lp_fld T.cl_Event T.n_Event_said (lv 0) (le_fz (ll_list rfl T.b_list (la_cons (lv 4) la_nil)))))))), fun vs s Q E h => ?_⟩)
  obtain ⟨x, e, se, sa, rfl, h1, h2, hx, h⟩ := h
  rcases seqL_cases h1 with rfl | ⟨a, rfl, ha⟩ <;> rcases seqL_cases h2 with rfl | ⟨b, rfl, hb⟩
  · ((conv => whnf); repeat ((first | with_reducible refine ifTT ?_ | with_reducible refine ifFF ?_ | with_reducible refine ifnT ?_ | with_reducible refine ifnF ?_ | with_reducible refine ifTr ?_ | with_reducible refine ifFr ?_ | (refine And.intro (by first | with_reducible rfl | with_reducible exact ⟨rfl, rfl⟩ | decide | omega | (dsimp only; decide) | (dsimp only; omega) | (unfold CDiv; omega) | (unfold CPow; decide) | (unfold CMul; omega) | (simp only [List.length_cons, List.length_nil]; omega) | (simp only [Option.isSome_some]; done) | (simp only [meth_ref, put_same', seqL_ref, hx]; first | done | exact ⟨rfl, rfl⟩ | exact ⟨trivial, rfl⟩ | rfl)) ?_) | (simp (decide := true) only [put_same', put_put, decF, decT, Bool.not_true, Bool.not_false, putL_nil, putL_cons, if_true, if_false, seqR_ref, seqL_ref, lenL_ref, dicK_ref, dicT_ref, dat_ref, dat_non, dat_bl, dat_int, dat_str, dat_lst, dat_tup, datV_non, datV_bl, datV_int, datV_str, datV_lst, datV_tup, datVs_nil, datVs_cons, tyAt_ref, opt_some, Option.map_some, Option.bind_some, dv_ints, dv_bls, dv_nms, dv_prs, dv_nm, dt_nm, dt_pr, dv_pr, sh_int, sh_bl, sh_none, sh_nil, eqv_nil, sh_ints, sh_bls, sh_nm, sh_nms, sh_pr, sh_prs, anyI, anyN, anyP, eqv_int, eqv_bl, eqv_ints, eqv_bls, eqv_nms, eqv_prs, eqv_nm, eqv_pr, hx])); conv => whnf))
    exact ⟨_, .refl _, h⟩
  · have nb : b ≠ x := by rintro rfl; rw [hx] at hb; cases hb
    ((conv => whnf); repeat ((first | with_reducible refine ifTT ?_ | with_reducible refine ifFF ?_ | with_reducible refine ifnT ?_ | with_reducible refine ifnF ?_ | with_reducible refine ifTr ?_ | with_reducible refine ifFr ?_ | (refine And.intro (by first | with_reducible rfl | with_reducible exact ⟨rfl, rfl⟩ | decide | omega | (dsimp only; decide) | (dsimp only; omega) | (unfold CDiv; omega) | (unfold CPow; decide) | (unfold CMul; omega) | (simp only [List.length_cons, List.length_nil]; omega) | (simp only [Option.isSome_some]; done) | (simp only [meth_ref, put_same', seqL_ref, hx, hb, put_ne nb]; first | done | exact ⟨rfl, rfl⟩ | exact ⟨trivial, rfl⟩ | rfl)) ?_) | (simp (decide := true) only [put_same', put_put, decF, decT, Bool.not_true, Bool.not_false, putL_nil, putL_cons, if_true, if_false, seqR_ref, seqL_ref, lenL_ref, dicK_ref, dicT_ref, dat_ref, dat_non, dat_bl, dat_int, dat_str, dat_lst, dat_tup, datV_non, datV_bl, datV_int, datV_str, datV_lst, datV_tup, datVs_nil, datVs_cons, tyAt_ref, opt_some, Option.map_some, Option.bind_some, dv_ints, dv_bls, dv_nms, dv_prs, dv_nm, dt_nm, dt_pr, dv_pr, sh_int, sh_bl, sh_none, sh_nil, eqv_nil, sh_ints, sh_bls, sh_nm, sh_nms, sh_pr, sh_prs, anyI, anyN, anyP, eqv_int, eqv_bl, eqv_ints, eqv_bls, eqv_nms, eqv_prs, eqv_nm, eqv_pr, hx, hb, put_ne nb])); conv => whnf))
    exact ⟨_, .refl _, h⟩
  · have na : a ≠ x := by rintro rfl; rw [hx] at ha; cases ha
    ((conv => whnf); repeat ((first | with_reducible refine ifTT ?_ | with_reducible refine ifFF ?_ | with_reducible refine ifnT ?_ | with_reducible refine ifnF ?_ | with_reducible refine ifTr ?_ | with_reducible refine ifFr ?_ | (refine And.intro (by first | with_reducible rfl | with_reducible exact ⟨rfl, rfl⟩ | decide | omega | (dsimp only; decide) | (dsimp only; omega) | (unfold CDiv; omega) | (unfold CPow; decide) | (unfold CMul; omega) | (simp only [List.length_cons, List.length_nil]; omega) | (simp only [Option.isSome_some]; done) | (simp only [meth_ref, put_same', seqL_ref, hx, ha, put_ne na]; first | done | exact ⟨rfl, rfl⟩ | exact ⟨trivial, rfl⟩ | rfl)) ?_) | (simp (decide := true) only [put_same', put_put, decF, decT, Bool.not_true, Bool.not_false, putL_nil, putL_cons, if_true, if_false, seqR_ref, seqL_ref, lenL_ref, dicK_ref, dicT_ref, dat_ref, dat_non, dat_bl, dat_int, dat_str, dat_lst, dat_tup, datV_non, datV_bl, datV_int, datV_str, datV_lst, datV_tup, datVs_nil, datVs_cons, tyAt_ref, opt_some, Option.map_some, Option.bind_some, dv_ints, dv_bls, dv_nms, dv_prs, dv_nm, dt_nm, dt_pr, dv_pr, sh_int, sh_bl, sh_none, sh_nil, eqv_nil, sh_ints, sh_bls, sh_nm, sh_nms, sh_pr, sh_prs, anyI, anyN, anyP, eqv_int, eqv_bl, eqv_ints, eqv_bls, eqv_nms, eqv_prs, eqv_nm, eqv_pr, hx, ha, put_ne na])); conv => whnf))
    exact ⟨_, .refl _, h⟩
  · have na : a ≠ x := by rintro rfl; rw [hx] at ha; cases ha
    have nb : b ≠ x := by rintro rfl; rw [hx] at hb; cases hb
    ((conv => whnf); repeat ((first | with_reducible refine ifTT ?_ | with_reducible refine ifFF ?_ | with_reducible refine ifnT ?_ | with_reducible refine ifnF ?_ | with_reducible refine ifTr ?_ | with_reducible refine ifFr ?_ | (refine And.intro (by first | with_reducible rfl | with_reducible exact ⟨rfl, rfl⟩ | decide | omega | (dsimp only; decide) | (dsimp only; omega) | (unfold CDiv; omega) | (unfold CPow; decide) | (unfold CMul; omega) | (simp only [List.length_cons, List.length_nil]; omega) | (simp only [Option.isSome_some]; done) | (simp only [meth_ref, put_same', seqL_ref, hx, ha, hb, put_ne na, put_ne nb]; first | done | exact ⟨rfl, rfl⟩ | exact ⟨trivial, rfl⟩ | rfl)) ?_) | (simp (decide := true) only [put_same', put_put, decF, decT, Bool.not_true, Bool.not_false, putL_nil, putL_cons, if_true, if_false, seqR_ref, seqL_ref, lenL_ref, dicK_ref, dicT_ref, dat_ref, dat_non, dat_bl, dat_int, dat_str, dat_lst, dat_tup, datV_non, datV_bl, datV_int, datV_str, datV_lst, datV_tup, datVs_nil, datVs_cons, tyAt_ref, opt_some, Option.map_some, Option.bind_some, dv_ints, dv_bls, dv_nms, dv_prs, dv_nm, dt_nm, dt_pr, dv_pr, sh_int, sh_bl, sh_none, sh_nil, eqv_nil, sh_ints, sh_bls, sh_nm, sh_nms, sh_pr, sh_prs, anyI, anyN, anyP, eqv_int, eqv_bl, eqv_ints, eqv_bls, eqv_nms, eqv_prs, eqv_nm, eqv_pr, hx, ha, hb, put_ne na, put_ne nb])); conv => whnf))
    exact ⟨_, .refl _, h⟩
def spInit (A : Ad) : LSp := fun vs s Q E => ∃ x n, vs = [.ref x, .int n] ∧ s x = some (.ins A.c_Bundle []) ∧ (n < 1 ∨ 20 < n → E A.c_NoSize s) ∧ (1 ≤ n ∧ n ≤ 20 → Q .non (put s x (.ins A.c_Bundle [("size", .int n)])))
theorem ok_Bundle_init (T : Txt K mg A D) : LFn P w K mg base 1 A.f_Bundle_init D.d_Bundle_init ["self", "size"] (spInit A) := by
  refine T.F_Bundle_init.okL sc_Bundle_init (fun vs s Q E ⟨x, n, h, _⟩ => by rw [h]; rfl) (fun cdv A' outer si H E hr => ⟨_, (lps_cons (lp_if (LW.lt (lw_or (lt_lt (lv 1) le_int) (lw_or1 (lt_gt (lv 1) le_int)))) (lps_one (lp_raise T.x_NoSize rfl rfl)) lps_nil)
    (lps_one (lp_fld T.cl_Bundle T.n_Bundle_size (lv 0) (lv 1)))), fun vs s Q E h => ?_⟩)
  obtain ⟨x, n, rfl, hx, h1, h2⟩ := h
  ((conv => whnf); repeat ((first | with_reducible refine ifTT ?_ | with_reducible refine ifFF ?_ | with_reducible refine ifnT ?_ | with_reducible refine ifnF ?_ | with_reducible refine ifTr ?_ | with_reducible refine ifFr ?_ | refine And.intro (by first | with_reducible rfl | with_reducible exact ⟨rfl, rfl⟩ | decide | omega | (dsimp only; decide) | (dsimp only; omega) | (unfold CDiv; omega) | (unfold CPow; decide) | (unfold CMul; omega) | (simp only [List.length_cons, List.length_nil]; omega)) ?_); conv => whnf))
  refine ifD (fun h => ?_) (fun h => ?_)
  · ((conv => whnf); repeat ((first | with_reducible refine ifTT ?_ | with_reducible refine ifFF ?_ | with_reducible refine ifnT ?_ | with_reducible refine ifnF ?_ | with_reducible refine ifTr ?_ | with_reducible refine ifFr ?_ | refine And.intro (by first | with_reducible rfl | with_reducible exact ⟨rfl, rfl⟩ | decide | omega | (dsimp only; decide) | (dsimp only; omega) | (unfold CDiv; omega) | (unfold CPow; decide) | (unfold CMul; omega) | (simp only [List.length_cons, List.length_nil]; omega)) ?_); conv => whnf))
    exact ⟨s, .refl s, h1 (.inl h)⟩
  · ((conv => whnf); repeat ((first | with_reducible refine ifTT ?_ | with_reducible refine ifFF ?_ | with_reducible refine ifnT ?_ | with_reducible refine ifnF ?_ | with_reducible refine ifTr ?_ | with_reducible refine ifFr ?_ | refine And.intro (by first | with_reducible rfl | with_reducible exact ⟨rfl, rfl⟩ | decide | omega | (dsimp only; decide) | (dsimp only; omega) | (unfold CDiv; omega) | (unfold CPow; decide) | (unfold CMul; omega) | (simp only [List.length_cons, List.length_nil]; omega)) ?_); conv => whnf))
    refine ifD (fun h' => ?_) (fun h' => ?_)
    · ((conv => whnf); repeat ((first | with_reducible refine ifTT ?_ | with_reducible refine ifFF ?_ | with_reducible refine ifnT ?_ | with_reducible refine ifnF ?_ | with_reducible refine ifTr ?_ | with_reducible refine ifFr ?_ | refine And.intro (by first | with_reducible rfl | with_reducible exact ⟨rfl, rfl⟩ | decide | omega | (dsimp only; decide) | (dsimp only; omega) | (unfold CDiv; omega) | (unfold CPow; decide) | (unfold CMul; omega) | (simp only [List.length_cons, List.length_nil]; omega)) ?_); conv => whnf))
      exact ⟨s, .refl s, h1 (.inr h')⟩
    · ((conv => whnf); repeat ((first | with_reducible refine ifTT ?_ | with_reducible refine ifFF ?_ | with_reducible refine ifnT ?_ | with_reducible refine ifnF ?_ | with_reducible refine ifTr ?_ | with_reducible refine ifFr ?_ | (refine And.intro (by first | with_reducible rfl | with_reducible exact ⟨rfl, rfl⟩ | decide | omega | (dsimp only; decide) | (dsimp only; omega) | (unfold CDiv; omega) | (unfold CPow; decide) | (unfold CMul; omega) | (simp only [List.length_cons, List.length_nil]; omega) | (simp only [Option.isSome_some]; done) | (simp only [meth_ref, put_same', seqL_ref, hx]; first | done | exact ⟨rfl, rfl⟩ | exact ⟨trivial, rfl⟩ | rfl)) ?_) | (simp (decide := true) only [put_same', put_put, decF, decT, Bool.not_true, Bool.not_false, putL_nil, putL_cons, if_true, if_false, seqR_ref, seqL_ref, lenL_ref, dicK_ref, dicT_ref, dat_ref, dat_non, dat_bl, dat_int, dat_str, dat_lst, dat_tup, datV_non, datV_bl, datV_int, datV_str, datV_lst, datV_tup, datVs_nil, datVs_cons, tyAt_ref, opt_some, Option.map_some, Option.bind_some, dv_ints, dv_bls, dv_nms, dv_prs, dv_nm, dt_nm, dt_pr, dv_pr, sh_int, sh_bl, sh_none, sh_nil, eqv_nil, sh_ints, sh_bls, sh_nm, sh_nms, sh_pr, sh_prs, anyI, anyN, anyP, eqv_int, eqv_bl, eqv_ints, eqv_bls, eqv_nms, eqv_prs, eqv_nm, eqv_pr, hx])); conv => whnf))
      exact ⟨_, .refl _, h2 ⟨by omega, by omega⟩⟩
def spHere (A : Ad) : LSp := fun vs s Q E => ∃ x t d w, vs = [.ref x] ∧ IsTh A s x t d w ∧ Q (.int t.here) s
theorem ok_Thread_here (T : Txt K mg A D) : LFn P w K mg base 1 A.f_Thread_here D.d_Thread_here ["self"] (spHere A) := by
  refine T.F_Thread_here.okL sc_Thread_here (fun vs s Q E ⟨x, t, d, w, h, _⟩ => by rw [h]; rfl) (fun cdv A' outer si H E hr => ⟨_, (lps_one (lp_ret (le_len rfl T.b_len (la_cons (le_fld T.cl_Thread T.n_Thread_done (lv 0)) la_nil)))), fun vs s Q E h => ?_⟩)
  obtain ⟨x, t, d, w, rfl, ht, h⟩ := h
  ((conv => whnf); repeat ((first | with_reducible refine ifTT ?_ | with_reducible refine ifFF ?_ | with_reducible refine ifnT ?_ | with_reducible refine ifnF ?_ | with_reducible refine ifTr ?_ | with_reducible refine ifFr ?_ | (refine And.intro (by first | with_reducible rfl | with_reducible exact ⟨rfl, rfl⟩ | decide | omega | (dsimp only; decide) | (dsimp only; omega) | (unfold CDiv; omega) | (unfold CPow; decide) | (unfold CMul; omega) | (simp only [List.length_cons, List.length_nil]; omega) | (simp only [Option.isSome_some]; done) | (simp only [meth_ref, put_same', seqL_ref, ht.hx, ht.hd, thF]; first | done | exact ⟨rfl, rfl⟩ | exact ⟨trivial, rfl⟩ | rfl)) ?_) | (simp (decide := true) only [put_same', put_put, decF, decT, Bool.not_true, Bool.not_false, putL_nil, putL_cons, if_true, if_false, seqR_ref, seqL_ref, lenL_ref, dicK_ref, dicT_ref, dat_ref, dat_non, dat_bl, dat_int, dat_str, dat_lst, dat_tup, datV_non, datV_bl, datV_int, datV_str, datV_lst, datV_tup, datVs_nil, datVs_cons, tyAt_ref, opt_some, Option.map_some, Option.bind_some, dv_ints, dv_bls, dv_nms, dv_prs, dv_nm, dt_nm, dt_pr, dv_pr, sh_int, sh_bl, sh_none, sh_nil, eqv_nil, sh_ints, sh_bls, sh_nm, sh_nms, sh_pr, sh_prs, anyI, anyN, anyP, eqv_int, eqv_bl, eqv_ints, eqv_bls, eqv_nms, eqv_prs, eqv_nm, eqv_pr, ht.hx, ht.hd, thF])); conv => whnf))
  rw [List.length_map]
  exact fin (.refl _) h
/-- a list told anew -/
def tells (l : List LV) (s : LS) (Q : LVK) : Prop := ∀ p, s p = none → Q (.ref p) (put s p (.lst l))
def spEvents (A : Ad) : LSp := fun vs s Q E => ∃ x t d w, vs = [.ref x] ∧ IsTh A s x t d w ∧ tells (t.done.map (evL A)) s Q
theorem ok_Thread_events (T : Txt K mg A D) : LFn P w K mg base 1 A.f_Thread_events D.d_Thread_events ["self"] (spEvents A) := by
  refine T.F_Thread_events.okL sc_Thread_events (fun vs s Q E ⟨x, t, d, w, h, _⟩ => by rw [h]; rfl) (fun cdv A' outer si H E hr => ⟨_, (lps_one (lp_ret (le_new (ll_list rfl T.b_list (la_cons (le_fld T.cl_Thread T.n_Thread_done (lv 0)) la_nil))))), fun vs s Q E h => ?_⟩)
  obtain ⟨x, t, d, w, rfl, ht, h⟩ := h
  ((conv => whnf); repeat ((first | with_reducible refine ifTT ?_ | with_reducible refine ifFF ?_ | with_reducible refine ifnT ?_ | with_reducible refine ifnF ?_ | with_reducible refine ifTr ?_ | with_reducible refine ifFr ?_ | (refine And.intro (by first | with_reducible rfl | with_reducible exact ⟨rfl, rfl⟩ | decide | omega | (dsimp only; decide) | (dsimp only; omega) | (unfold CDiv; omega) | (unfold CPow; decide) | (unfold CMul; omega) | (simp only [List.length_cons, List.length_nil]; omega) | (simp only [Option.isSome_some]; done) | (simp only [meth_ref, put_same', seqL_ref, ht.hx, ht.hd, thF]; first | done | exact ⟨rfl, rfl⟩ | exact ⟨trivial, rfl⟩ | rfl)) ?_) | (simp (decide := true) only [put_same', put_put, decF, decT, Bool.not_true, Bool.not_false, putL_nil, putL_cons, if_true, if_false, seqR_ref, seqL_ref, lenL_ref, dicK_ref, dicT_ref, dat_ref, dat_non, dat_bl, dat_int, dat_str, dat_lst, dat_tup, datV_non, datV_bl, datV_int, datV_str, datV_lst, datV_tup, datVs_nil, datVs_cons, tyAt_ref, opt_some, Option.map_some, Option.bind_some, dv_ints, dv_bls, dv_nms, dv_prs, dv_nm, dt_nm, dt_pr, dv_pr, sh_int, sh_bl, sh_none, sh_nil, eqv_nil, sh_ints, sh_bls, sh_nm, sh_nms, sh_pr, sh_prs, anyI, anyN, anyP, eqv_int, eqv_bl, eqv_ints, eqv_bls, eqv_nms, eqv_prs, eqv_nm, eqv_pr, ht.hx, ht.hd, thF])); conv => whnf))
  exact fun p hp => fin (.refl _) (h p hp)
def spThread (A : Ad) : LSp := fun vs s Q E => ∃ x st h, vs = [.ref x, .int st, hbL A h] ∧ s x = some (.ins A.c_Thread []) ∧
  ∀ s' d w, IsTh A s' x ⟨st, h, [], [0], 0⟩ d w → Own [x] [x, d, w] s s' → Q .non s'
theorem ok_Thread_init (T : Txt K mg A D) : LFn P w K mg base 1 A.f_Thread_init D.d_Thread_init ["self", "start", "habit"] (spThread A) := by
  refine T.F_Thread_init.okL sc_Thread_init (fun vs s Q E ⟨x, st, hb, h, _⟩ => by rw [h]; rfl) (fun cdv A' outer si H E hr => ⟨_, (lps_cons (lp_fld T.cl_Thread T.n_Thread_start (lv 0) (lv 1))
    (lps_cons (lp_fld T.cl_Thread T.n_Thread_habit (lv 0) (lv 2))
    (lps_cons (lp_fld T.cl_Thread T.n_Thread_done (lv 0) (le_new (ll_disp la_nil)))
    (lps_cons (lp_fld T.cl_Thread T.n_Thread_writings (lv 0) (le_new (ll_disp (la_cons le_int la_nil))))
    (lps_one (lp_fld T.cl_Thread T.n_Thread_pile (lv 0) le_int)))))), fun vs s Q E h => ?_⟩)
  obtain ⟨x, st, hb, rfl, hx, h⟩ := h
  ((conv => whnf); repeat ((first | with_reducible refine ifTT ?_ | with_reducible refine ifFF ?_ | with_reducible refine ifnT ?_ | with_reducible refine ifnF ?_ | with_reducible refine ifTr ?_ | with_reducible refine ifFr ?_ | (refine And.intro (by first | with_reducible rfl | with_reducible exact ⟨rfl, rfl⟩ | decide | omega | (dsimp only; decide) | (dsimp only; omega) | (unfold CDiv; omega) | (unfold CPow; decide) | (unfold CMul; omega) | (simp only [List.length_cons, List.length_nil]; omega) | (simp only [Option.isSome_some]; done) | (simp only [meth_ref, put_same', seqL_ref, hx]; first | done | exact ⟨rfl, rfl⟩ | exact ⟨trivial, rfl⟩ | rfl)) ?_) | (simp (decide := true) only [put_same', put_put, decF, decT, Bool.not_true, Bool.not_false, putL_nil, putL_cons, if_true, if_false, seqR_ref, seqL_ref, lenL_ref, dicK_ref, dicT_ref, dat_ref, dat_non, dat_bl, dat_int, dat_str, dat_lst, dat_tup, datV_non, datV_bl, datV_int, datV_str, datV_lst, datV_tup, datVs_nil, datVs_cons, tyAt_ref, opt_some, Option.map_some, Option.bind_some, dv_ints, dv_bls, dv_nms, dv_prs, dv_nm, dt_nm, dt_pr, dv_pr, sh_int, sh_bl, sh_none, sh_nil, eqv_nil, sh_ints, sh_bls, sh_nm, sh_nms, sh_pr, sh_prs, anyI, anyN, anyP, eqv_int, eqv_bl, eqv_ints, eqv_bls, eqv_nms, eqv_prs, eqv_nm, eqv_pr, hx])); conv => whnf))
  intro d hd
  obtain ⟨nd, hd⟩ := put_none hd
  ((conv => whnf); repeat ((first | with_reducible refine ifTT ?_ | with_reducible refine ifFF ?_ | with_reducible refine ifnT ?_ | with_reducible refine ifnF ?_ | with_reducible refine ifTr ?_ | with_reducible refine ifFr ?_ | (refine And.intro (by first | with_reducible rfl | with_reducible exact ⟨rfl, rfl⟩ | decide | omega | (dsimp only; decide) | (dsimp only; omega) | (unfold CDiv; omega) | (unfold CPow; decide) | (unfold CMul; omega) | (simp only [List.length_cons, List.length_nil]; omega) | (simp only [Option.isSome_some]; done) | (simp only [meth_ref, put_same', seqL_ref, put_ne (Ne.symm nd)]; first | done | exact ⟨rfl, rfl⟩ | exact ⟨trivial, rfl⟩ | rfl)) ?_) | (simp (decide := true) only [put_same', put_put, decF, decT, Bool.not_true, Bool.not_false, putL_nil, putL_cons, if_true, if_false, seqR_ref, seqL_ref, lenL_ref, dicK_ref, dicT_ref, dat_ref, dat_non, dat_bl, dat_int, dat_str, dat_lst, dat_tup, datV_non, datV_bl, datV_int, datV_str, datV_lst, datV_tup, datVs_nil, datVs_cons, tyAt_ref, opt_some, Option.map_some, Option.bind_some, dv_ints, dv_bls, dv_nms, dv_prs, dv_nm, dt_nm, dt_pr, dv_pr, sh_int, sh_bl, sh_none, sh_nil, eqv_nil, sh_ints, sh_bls, sh_nm, sh_nms, sh_pr, sh_prs, anyI, anyN, anyP, eqv_int, eqv_bl, eqv_ints, eqv_bls, eqv_nms, eqv_prs, eqv_nm, eqv_pr, put_ne (Ne.symm nd)])); conv => whnf))
  intro w hw
  obtain ⟨nw, hw⟩ := put_none hw
  obtain ⟨nwd, hw⟩ := put_none hw
  obtain ⟨_, hw⟩ := put_none hw
  ((conv => whnf); repeat ((first | with_reducible refine ifTT ?_ | with_reducible refine ifFF ?_ | with_reducible refine ifnT ?_ | with_reducible refine ifnF ?_ | with_reducible refine ifTr ?_ | with_reducible refine ifFr ?_ | (refine And.intro (by first | with_reducible rfl | with_reducible exact ⟨rfl, rfl⟩ | decide | omega | (dsimp only; decide) | (dsimp only; omega) | (unfold CDiv; omega) | (unfold CPow; decide) | (unfold CMul; omega) | (simp only [List.length_cons, List.length_nil]; omega) | (simp only [Option.isSome_some]; done) | (simp only [meth_ref, put_same', seqL_ref, put_ne (Ne.symm nw), put_ne (Ne.symm nd), put_ne (Ne.symm nwd)]; first | done | exact ⟨rfl, rfl⟩ | exact ⟨trivial, rfl⟩ | rfl)) ?_) | (simp (decide := true) only [put_same', put_put, decF, decT, Bool.not_true, Bool.not_false, putL_nil, putL_cons, if_true, if_false, seqR_ref, seqL_ref, lenL_ref, dicK_ref, dicT_ref, dat_ref, dat_non, dat_bl, dat_int, dat_str, dat_lst, dat_tup, datV_non, datV_bl, datV_int, datV_str, datV_lst, datV_tup, datVs_nil, datVs_cons, tyAt_ref, opt_some, Option.map_some, Option.bind_some, dv_ints, dv_bls, dv_nms, dv_prs, dv_nm, dt_nm, dt_pr, dv_pr, sh_int, sh_bl, sh_none, sh_nil, eqv_nil, sh_ints, sh_bls, sh_nm, sh_nms, sh_pr, sh_prs, anyI, anyN, anyP, eqv_int, eqv_bl, eqv_ints, eqv_bls, eqv_nms, eqv_prs, eqv_nm, eqv_pr, put_ne (Ne.symm nw), put_ne (Ne.symm nd), put_ne (Ne.symm nwd)])); conv => whnf))
  refine ⟨_, .refl _, h _ d w ⟨?_, ?_, ?_, Ne.symm nwd⟩ ?_⟩
  · simp [put, nd, nw, nwd, thF]
  · simp [put, nd, nw, nwd, Ne.symm nwd]
  · simp [put, nd, nw, nwd]
  · (refine own_of (fun a ha hn => ?_) (by simp_all) ; simp only [put]; (repeat' split) <;> simp_all)
def spDo (A : Ad) : LSp := fun vs s Q E => ∃ x t d w e, vs = [.ref x, evL A e] ∧ IsTh A s x t d w ∧ t.done.length < 16777216 ∧ ∀ s', IsTh A s' x (t.do e) d w → Own [x, d, w] [x, d, w] s s' → Q .non s'
def spPiled (A : Ad) (C : Addr) : LSp := fun vs s Q E => ∃ h p, hbC A h = C ∧ vs = [hbL A h, .int p] ∧ Q (.int (h.piled p)) s
def spWrites (A : Ad) (C : Addr) : LSp := fun vs s Q E => ∃ h, hbC A h = C ∧ vs = [hbL A h] ∧ Q (.bl h.writes) s
/-- the three classes are three -/
structure Hb3 (A : Ad) : Prop where
  ne : A.c_Never ≠ A.c_Each
  nb : A.c_Never ≠ A.c_Bundle
  eb : A.c_Each ≠ A.c_Bundle
theorem hb3 (T : Txt K mg A D) : Hb3 A := ⟨T.nd_Never_Each, T.nd_Never_Bundle, T.nd_Each_Bundle⟩
theorem ok_Habit_piled_up (T : Txt K mg A D) : LFn P w K mg base 1 A.f_Habit_piled_up D.d_Habit_piled_up ["self", "pile"] (spPiled A A.c_Never) := by
  refine T.F_Habit_piled_up.okL sc_Habit_piled_up (fun vs s Q E ⟨_, _, _, h, _⟩ => by rw [h]; rfl) (fun cdv A' outer si H E hr => ⟨_, (lps_one (lp_ret (le_add (lv 1) le_int))), fun vs s Q E h => ?_⟩)
  have h3 := hb3 T
  obtain ⟨h, p, hc, rfl, q⟩ := h
  cases h with
  | never =>
    ((conv => whnf); repeat ((first | with_reducible refine ifTT ?_ | with_reducible refine ifFF ?_ | with_reducible refine ifnT ?_ | with_reducible refine ifnF ?_ | with_reducible refine ifTr ?_ | with_reducible refine ifFr ?_ | refine And.intro (by first | with_reducible rfl | with_reducible exact ⟨rfl, rfl⟩ | decide | omega | (dsimp only; decide) | (dsimp only; omega) | (unfold CDiv; omega) | (unfold CPow; decide) | (unfold CMul; omega) | (simp only [List.length_cons, List.length_nil]; omega)) ?_); conv => whnf))
    exact fin (.refl _) q
  | each => exact absurd hc (Ne.symm h3.ne)
  | bundle n => exact absurd hc (Ne.symm h3.nb)
theorem ok_Each_piled_up (T : Txt K mg A D) : LFn P w K mg base 1 A.f_Each_piled_up D.d_Each_piled_up ["self", "pile"] (spPiled A A.c_Each) := by
  refine T.F_Each_piled_up.okL sc_Each_piled_up (fun vs s Q E ⟨_, _, _, h, _⟩ => by rw [h]; rfl) (fun cdv A' outer si H E hr => ⟨_, (lps_one (lp_ret le_int)), fun vs s Q E h => ?_⟩)
  have h3 := hb3 T
  obtain ⟨h, p, hc, rfl, q⟩ := h
  cases h with
  | never => exact absurd hc h3.ne
  | each =>
    ((conv => whnf); repeat ((first | with_reducible refine ifTT ?_ | with_reducible refine ifFF ?_ | with_reducible refine ifnT ?_ | with_reducible refine ifnF ?_ | with_reducible refine ifTr ?_ | with_reducible refine ifFr ?_ | refine And.intro (by first | with_reducible rfl | with_reducible exact ⟨rfl, rfl⟩ | decide | omega | (dsimp only; decide) | (dsimp only; omega) | (unfold CDiv; omega) | (unfold CPow; decide) | (unfold CMul; omega) | (simp only [List.length_cons, List.length_nil]; omega)) ?_); conv => whnf))
    exact fin (.refl _) q
  | bundle n => exact absurd hc (Ne.symm h3.eb)
theorem ok_Bundle_piled_up (T : Txt K mg A D) : LFn P w K mg base 1 A.f_Bundle_piled_up D.d_Bundle_piled_up ["self", "pile"] (spPiled A A.c_Bundle) := by
  refine T.F_Bundle_piled_up.okL sc_Bundle_piled_up (fun vs s Q E ⟨_, _, _, h, _⟩ => by rw [h]; rfl) (fun cdv A' outer si H E hr => ⟨_, (lps_cons (lp_if (lt_ge (le_add (lv 1) le_int) (le_fld T.cl_Bundle T.n_Bundle_size (lv 0))) (lps_one (lp_ret le_int)) lps_nil)
    (lps_one (lp_ret (le_add (lv 1) le_int)))), fun vs s Q E h => ?_⟩)
  have h3 := hb3 T
  obtain ⟨h, p, hc, rfl, q⟩ := h
  cases h with
  | never => exact absurd hc h3.nb
  | each => exact absurd hc h3.eb
  | bundle n =>
    ((conv => whnf); repeat ((first | with_reducible refine ifTT ?_ | with_reducible refine ifFF ?_ | with_reducible refine ifnT ?_ | with_reducible refine ifnF ?_ | with_reducible refine ifTr ?_ | with_reducible refine ifFr ?_ | refine And.intro (by first | with_reducible rfl | with_reducible exact ⟨rfl, rfl⟩ | decide | omega | (dsimp only; decide) | (dsimp only; omega) | (unfold CDiv; omega) | (unfold CPow; decide) | (unfold CMul; omega) | (simp only [List.length_cons, List.length_nil]; omega)) ?_); conv => whnf))
    refine ifD (fun hg => ?_) (fun hg => ?_)
    · ((conv => whnf); repeat ((first | with_reducible refine ifTT ?_ | with_reducible refine ifFF ?_ | with_reducible refine ifnT ?_ | with_reducible refine ifnF ?_ | with_reducible refine ifTr ?_ | with_reducible refine ifFr ?_ | refine And.intro (by first | with_reducible rfl | with_reducible exact ⟨rfl, rfl⟩ | decide | omega | (dsimp only; decide) | (dsimp only; omega) | (unfold CDiv; omega) | (unfold CPow; decide) | (unfold CMul; omega) | (simp only [List.length_cons, List.length_nil]; omega)) ?_); conv => whnf))
      exact fin (.refl _) (by simpa [Hb.piled, hg] using q)
    · ((conv => whnf); repeat ((first | with_reducible refine ifTT ?_ | with_reducible refine ifFF ?_ | with_reducible refine ifnT ?_ | with_reducible refine ifnF ?_ | with_reducible refine ifTr ?_ | with_reducible refine ifFr ?_ | refine And.intro (by first | with_reducible rfl | with_reducible exact ⟨rfl, rfl⟩ | decide | omega | (dsimp only; decide) | (dsimp only; omega) | (unfold CDiv; omega) | (unfold CPow; decide) | (unfold CMul; omega) | (simp only [List.length_cons, List.length_nil]; omega)) ?_); conv => whnf))
      exact fin (.refl _) (by simpa [Hb.piled, hg] using q)
theorem ok_Habit_writes_events (T : Txt K mg A D) : LFn P w K mg base 1 A.f_Habit_writes_events D.d_Habit_writes_events ["self"] (spWrites A A.c_Never) := by
  refine T.F_Habit_writes_events.okL sc_Habit_writes_events (fun vs s Q E ⟨_, _, h, _⟩ => by rw [h]; rfl) (fun cdv A' outer si H E hr => ⟨_, (lps_one (lp_ret le_bl)), fun vs s Q E h => ?_⟩)
  have h3 := hb3 T
  obtain ⟨h, hc, rfl, q⟩ := h
  cases h with
  | never =>
    ((conv => whnf); repeat ((first | with_reducible refine ifTT ?_ | with_reducible refine ifFF ?_ | with_reducible refine ifnT ?_ | with_reducible refine ifnF ?_ | with_reducible refine ifTr ?_ | with_reducible refine ifFr ?_ | refine And.intro (by first | with_reducible rfl | with_reducible exact ⟨rfl, rfl⟩ | decide | omega | (dsimp only; decide) | (dsimp only; omega) | (unfold CDiv; omega) | (unfold CPow; decide) | (unfold CMul; omega) | (simp only [List.length_cons, List.length_nil]; omega)) ?_); conv => whnf))
    exact fin (.refl _) q
  | each => exact absurd hc (Ne.symm h3.ne)
  | bundle n => exact absurd hc (Ne.symm h3.nb)
theorem ok_Each_writes_events (T : Txt K mg A D) : LFn P w K mg base 1 A.f_Each_writes_events D.d_Each_writes_events ["self"] (spWrites A A.c_Each) := by
  refine T.F_Each_writes_events.okL sc_Each_writes_events (fun vs s Q E ⟨_, _, h, _⟩ => by rw [h]; rfl) (fun cdv A' outer si H E hr => ⟨_, (lps_one (lp_ret le_bl)), fun vs s Q E h => ?_⟩)
  have h3 := hb3 T
  obtain ⟨h, hc, rfl, q⟩ := h
  cases h with
  | never => exact absurd hc h3.ne
  | each =>
    ((conv => whnf); repeat ((first | with_reducible refine ifTT ?_ | with_reducible refine ifFF ?_ | with_reducible refine ifnT ?_ | with_reducible refine ifnF ?_ | with_reducible refine ifTr ?_ | with_reducible refine ifFr ?_ | refine And.intro (by first | with_reducible rfl | with_reducible exact ⟨rfl, rfl⟩ | decide | omega | (dsimp only; decide) | (dsimp only; omega) | (unfold CDiv; omega) | (unfold CPow; decide) | (unfold CMul; omega) | (simp only [List.length_cons, List.length_nil]; omega)) ?_); conv => whnf))
    exact fin (.refl _) q
  | bundle n => exact absurd hc (Ne.symm h3.eb)
theorem ok_Bundle_writes_events (T : Txt K mg A D) : LFn P w K mg base 1 A.f_Bundle_writes_events D.d_Bundle_writes_events ["self"] (spWrites A A.c_Bundle) := by
  refine T.F_Bundle_writes_events.okL sc_Bundle_writes_events (fun vs s Q E ⟨_, _, h, _⟩ => by rw [h]; rfl) (fun cdv A' outer si H E hr => ⟨_, (lps_one (lp_ret le_bl)), fun vs s Q E h => ?_⟩)
  have h3 := hb3 T
  obtain ⟨h, hc, rfl, q⟩ := h
  cases h with
  | never => exact absurd hc h3.nb
  | each => exact absurd hc h3.eb
  | bundle n =>
    ((conv => whnf); repeat ((first | with_reducible refine ifTT ?_ | with_reducible refine ifFF ?_ | with_reducible refine ifnT ?_ | with_reducible refine ifnF ?_ | with_reducible refine ifTr ?_ | with_reducible refine ifFr ?_ | refine And.intro (by first | with_reducible rfl | with_reducible exact ⟨rfl, rfl⟩ | decide | omega | (dsimp only; decide) | (dsimp only; omega) | (unfold CDiv; omega) | (unfold CPow; decide) | (unfold CMul; omega) | (simp only [List.length_cons, List.length_nil]; omega)) ?_); conv => whnf))
    exact fin (.refl _) q
def tbPiled (A : Ad) (C : Addr) (sp : LSp) : Prop := sp = spPiled A C ∧ (C = A.c_Never ∨ C = A.c_Each ∨ C = A.c_Bundle)
def tbWrites (A : Ad) (C : Addr) (sp : LSp) : Prop := sp = spWrites A C ∧ (C = A.c_Never ∨ C = A.c_Each ∨ C = A.c_Bundle)
theorem tab_piled_up {X : Cx} {A : Ad} {D : Fd} (T : Txt X.K X.mg A D) (hr : Room 1 X.A) : MethT X "piled_up" (tbPiled A) := fun C sp ⟨e, h⟩ => by
  rcases h with rfl | rfl | rfl
  · exact ⟨T.cl_Never, _, _, _, _, T.mt_Never_piled_up, e ▸ ok_Habit_piled_up T, hr.mono (by decide), T.q_Habit_piled_up⟩
  · exact ⟨T.cl_Each, _, _, _, _, T.mt_Each_piled_up, e ▸ ok_Each_piled_up T, hr.mono (by decide), T.q_Each_piled_up⟩
  · exact ⟨T.cl_Bundle, _, _, _, _, T.mt_Bundle_piled_up, e ▸ ok_Bundle_piled_up T, hr.mono (by decide), T.q_Bundle_piled_up⟩
theorem tab_writes_events {X : Cx} {A : Ad} {D : Fd} (T : Txt X.K X.mg A D) (hr : Room 1 X.A) : MethT X "writes_events" (tbWrites A) := fun C sp ⟨e, h⟩ => by
  rcases h with rfl | rfl | rfl
  · exact ⟨T.cl_Never, _, _, _, _, T.mt_Never_writes_events, e ▸ ok_Habit_writes_events T, hr.mono (by decide), T.q_Habit_writes_events⟩
  · exact ⟨T.cl_Each, _, _, _, _, T.mt_Each_writes_events, e ▸ ok_Each_writes_events T, hr.mono (by decide), T.q_Each_writes_events⟩
  · exact ⟨T.cl_Bundle, _, _, _, _, T.mt_Bundle_writes_events, e ▸ ok_Bundle_writes_events T, hr.mono (by decide), T.q_Bundle_writes_events⟩
theorem hb_cls (A : Ad) (h : Hb) : hbC A h = A.c_Never ∨ hbC A h = A.c_Each ∨ hbC A h = A.c_Bundle := by cases h <;> simp [hbC]
theorem hb_no (h : Hb) : List.lookup (("piled_up" : PySem.Str)) (hbF h) = none ∧ List.lookup (("writes_events" : PySem.Str)) (hbF h) = none := by cases h <;> exact ⟨rfl, rfl⟩
theorem ok_Thread_do (T : Txt K mg A D) : LFn P w K mg base 2 A.f_Thread_do D.d_Thread_do ["self", "event"] (spDo A) := by
  refine T.F_Thread_do.okL sc_Thread_do (fun vs s Q E ⟨x, t, d, w, e, h, _⟩ => by rw [h]; rfl) (fun cdv A' outer si H E hr => ⟨_, (lps_cons (lp_expr (le_append (le_fld T.cl_Thread T.n_Thread_done (lv 0)) (la_cons (lv 1) la_nil)))
    (lps_one (lp_fld T.cl_Thread T.n_Thread_pile (lv 0) (le_methD (le_fld T.cl_Thread T.n_Thread_habit (lv 0)) (tab_piled_up T (hr.mono (by decide))) (la_cons (le_fld T.cl_Thread T.n_Thread_pile (lv 0)) la_nil))))), fun vs s Q E h => ?_⟩)
  obtain ⟨x, t, d, w, e, rfl, ht, hl, h⟩ := h
  have hl' : (t.done.map (evL A)).length < 16777216 := by rw [List.length_map]; exact hl
  ((conv => whnf); repeat ((first | with_reducible refine ifTT ?_ | with_reducible refine ifFF ?_ | with_reducible refine ifnT ?_ | with_reducible refine ifnF ?_ | with_reducible refine ifTr ?_ | with_reducible refine ifFr ?_ | (refine And.intro (by first | with_reducible rfl | with_reducible exact ⟨rfl, rfl⟩ | decide | omega | (dsimp only; decide) | (dsimp only; omega) | (unfold CDiv; omega) | (unfold CPow; decide) | (unfold CMul; omega) | (simp only [List.length_cons, List.length_nil]; omega) | (simp only [Option.isSome_some]; done) | (simp only [meth_ref, put_same', seqL_ref, ht.hx, ht.hd, put_ne ht.xd, thF, hbL]; first | done | exact ⟨rfl, rfl⟩ | exact ⟨trivial, rfl⟩ | rfl)) ?_) | (simp (decide := true) only [put_same', put_put, decF, decT, Bool.not_true, Bool.not_false, putL_nil, putL_cons, if_true, if_false, seqR_ref, seqL_ref, lenL_ref, dicK_ref, dicT_ref, dat_ref, dat_non, dat_bl, dat_int, dat_str, dat_lst, dat_tup, datV_non, datV_bl, datV_int, datV_str, datV_lst, datV_tup, datVs_nil, datVs_cons, tyAt_ref, opt_some, Option.map_some, Option.bind_some, dv_ints, dv_bls, dv_nms, dv_prs, dv_nm, dt_nm, dt_pr, dv_pr, sh_int, sh_bl, sh_none, sh_nil, eqv_nil, sh_ints, sh_bls, sh_nm, sh_nms, sh_pr, sh_prs, anyI, anyN, anyP, eqv_int, eqv_bl, eqv_ints, eqv_bls, eqv_nms, eqv_prs, eqv_nm, eqv_pr, ht.hx, ht.hd, put_ne ht.xd, thF, hbL])); conv => whnf))
  refine ⟨(hb_no _).1, _, ⟨rfl, hb_cls A _⟩, ?_⟩
  ((conv => whnf); repeat ((first | with_reducible refine ifTT ?_ | with_reducible refine ifFF ?_ | with_reducible refine ifnT ?_ | with_reducible refine ifnF ?_ | with_reducible refine ifTr ?_ | with_reducible refine ifFr ?_ | (refine And.intro (by first | with_reducible rfl | with_reducible exact ⟨rfl, rfl⟩ | decide | omega | (dsimp only; decide) | (dsimp only; omega) | (unfold CDiv; omega) | (unfold CPow; decide) | (unfold CMul; omega) | (simp only [List.length_cons, List.length_nil]; omega) | (simp only [Option.isSome_some]; done) | (simp only [meth_ref, put_same', seqL_ref, ht.hx, ht.hd, put_ne ht.xd, thF, hbL]; first | done | exact ⟨rfl, rfl⟩ | exact ⟨trivial, rfl⟩ | rfl)) ?_) | (simp (decide := true) only [put_same', put_put, decF, decT, Bool.not_true, Bool.not_false, putL_nil, putL_cons, if_true, if_false, seqR_ref, seqL_ref, lenL_ref, dicK_ref, dicT_ref, dat_ref, dat_non, dat_bl, dat_int, dat_str, dat_lst, dat_tup, datV_non, datV_bl, datV_int, datV_str, datV_lst, datV_tup, datVs_nil, datVs_cons, tyAt_ref, opt_some, Option.map_some, Option.bind_some, dv_ints, dv_bls, dv_nms, dv_prs, dv_nm, dt_nm, dt_pr, dv_pr, sh_int, sh_bl, sh_none, sh_nil, eqv_nil, sh_ints, sh_bls, sh_nm, sh_nms, sh_pr, sh_prs, anyI, anyN, anyP, eqv_int, eqv_bl, eqv_ints, eqv_bls, eqv_nms, eqv_prs, eqv_nm, eqv_pr, ht.hx, ht.hd, put_ne ht.xd, thF, hbL])); conv => whnf))
  refine ⟨t.hab, t.pile, rfl, rfl, ?_⟩
  ((conv => whnf); repeat ((first | with_reducible refine ifTT ?_ | with_reducible refine ifFF ?_ | with_reducible refine ifnT ?_ | with_reducible refine ifnF ?_ | with_reducible refine ifTr ?_ | with_reducible refine ifFr ?_ | (refine And.intro (by first | with_reducible rfl | with_reducible exact ⟨rfl, rfl⟩ | decide | omega | (dsimp only; decide) | (dsimp only; omega) | (unfold CDiv; omega) | (unfold CPow; decide) | (unfold CMul; omega) | (simp only [List.length_cons, List.length_nil]; omega) | (simp only [Option.isSome_some]; done) | (simp only [meth_ref, put_same', seqL_ref, ht.hx, ht.hd, put_ne ht.xd, thF, hbL]; first | done | exact ⟨rfl, rfl⟩ | exact ⟨trivial, rfl⟩ | rfl)) ?_) | (simp (decide := true) only [put_same', put_put, decF, decT, Bool.not_true, Bool.not_false, putL_nil, putL_cons, if_true, if_false, seqR_ref, seqL_ref, lenL_ref, dicK_ref, dicT_ref, dat_ref, dat_non, dat_bl, dat_int, dat_str, dat_lst, dat_tup, datV_non, datV_bl, datV_int, datV_str, datV_lst, datV_tup, datVs_nil, datVs_cons, tyAt_ref, opt_some, Option.map_some, Option.bind_some, dv_ints, dv_bls, dv_nms, dv_prs, dv_nm, dt_nm, dt_pr, dv_pr, sh_int, sh_bl, sh_none, sh_nil, eqv_nil, sh_ints, sh_bls, sh_nm, sh_nms, sh_pr, sh_prs, anyI, anyN, anyP, eqv_int, eqv_bl, eqv_ints, eqv_bls, eqv_nms, eqv_prs, eqv_nm, eqv_pr, ht.hx, ht.hd, put_ne ht.xd, thF, hbL])); conv => whnf))
  refine ⟨_, .refl _, h _ ⟨?_, ?_, ?_, ht.ne⟩ ?_⟩
  · simp [put, thF, Th.do, hbL]
  · simp [put, Ne.symm ht.xd, Th.do]
  · simp [put, Ne.symm ht.xw, Ne.symm ht.ne, Th.do, ht.hw]
  · (refine own_of (fun a ha hn => ?_) (by simp_all) ; simp only [put]; (repeat' split) <;> simp_all)
def spWrite (A : Ad) : LSp := fun vs s Q E => ∃ x t d w, vs = [.ref x] ∧ IsTh A s x t d w ∧ t.wr.length < 16777216 ∧ ∀ s', IsTh A s' x t.write d w → Own [x, d, w] [x, d, w] s s' → Q .non s'
theorem ok_Thread_write (T : Txt K mg A D) : LFn P w K mg base 2 A.f_Thread_write D.d_Thread_write ["self"] (spWrite A) := by
  refine T.F_Thread_write.okL sc_Thread_write (fun vs s Q E ⟨x, t, d, w, h, _⟩ => by rw [h]; rfl) (fun cdv A' outer si H E hr => ⟨_, (lps_cons (lp_cut (lp_if (lt_ninV (hu65 hr) (le_meth0 (lv 0) T.cl_Thread T.mt_Thread_here (ok_Thread_here T) (hr.mono (by decide)) T.q_Thread_here) (le_fld T.cl_Thread T.n_Thread_writings (lv 0)) (by rfl)) (lps_one (lp_expr (le_append (le_fld T.cl_Thread T.n_Thread_writings (lv 0)) (la_cons (le_meth0 (lv 0) T.cl_Thread T.mt_Thread_here (ok_Thread_here T) (hr.mono (by decide)) T.q_Thread_here) la_nil)))) lps_nil))
    (lps_one (lp_if (lt_val (le_methD0 (le_fld T.cl_Thread T.n_Thread_habit (lv 0)) (tab_writes_events T (hr.mono (by decide))))) (lps_one (lp_fld T.cl_Thread T.n_Thread_pile (lv 0) le_int)) lps_nil))), fun vs s Q E h => ?_⟩)
  obtain ⟨x, t, d, w, rfl, ht, hl, h⟩ := h
  conv => whnf
  refine ⟨fun σ' s' => σ' = [some (.ref x)] ∧ IsTh A s' x { t with wr := t.write.wr } d w ∧ Own [x, d, w] [x, d, w] s s', ?_, ?_⟩
  · ((conv => whnf); repeat ((first | with_reducible refine ifTT ?_ | with_reducible refine ifFF ?_ | with_reducible refine ifnT ?_ | with_reducible refine ifnF ?_ | with_reducible refine ifTr ?_ | with_reducible refine ifFr ?_ | (refine And.intro (by first | with_reducible rfl | with_reducible exact ⟨rfl, rfl⟩ | decide | omega | (dsimp only; decide) | (dsimp only; omega) | (unfold CDiv; omega) | (unfold CPow; decide) | (unfold CMul; omega) | (simp only [List.length_cons, List.length_nil]; omega) | (simp only [Option.isSome_some]; done) | (simp only [meth_ref, put_same', seqL_ref, ht.hx, ht.hd, ht.hw, thF]; first | done | exact ⟨rfl, rfl⟩ | exact ⟨trivial, rfl⟩ | rfl)) ?_) | (simp (decide := true) only [put_same', put_put, decF, decT, Bool.not_true, Bool.not_false, putL_nil, putL_cons, if_true, if_false, seqR_ref, seqL_ref, lenL_ref, dicK_ref, dicT_ref, dat_ref, dat_non, dat_bl, dat_int, dat_str, dat_lst, dat_tup, datV_non, datV_bl, datV_int, datV_str, datV_lst, datV_tup, datVs_nil, datVs_cons, tyAt_ref, opt_some, Option.map_some, Option.bind_some, dv_ints, dv_bls, dv_nms, dv_prs, dv_nm, dt_nm, dt_pr, dv_pr, sh_int, sh_bl, sh_none, sh_nil, eqv_nil, sh_ints, sh_bls, sh_nm, sh_nms, sh_pr, sh_prs, anyI, anyN, anyP, eqv_int, eqv_bl, eqv_ints, eqv_bls, eqv_nms, eqv_prs, eqv_nm, eqv_pr, ht.hx, ht.hd, ht.hw, thF])); conv => whnf))
    refine ⟨x, t, d, w, rfl, ht, ?_⟩
    ((conv => whnf); repeat ((first | with_reducible refine ifTT ?_ | with_reducible refine ifFF ?_ | with_reducible refine ifnT ?_ | with_reducible refine ifnF ?_ | with_reducible refine ifTr ?_ | with_reducible refine ifFr ?_ | (refine And.intro (by first | with_reducible rfl | with_reducible exact ⟨rfl, rfl⟩ | decide | omega | (dsimp only; decide) | (dsimp only; omega) | (unfold CDiv; omega) | (unfold CPow; decide) | (unfold CMul; omega) | (simp only [List.length_cons, List.length_nil]; omega) | (simp only [Option.isSome_some]; done) | (simp only [meth_ref, put_same', seqL_ref, ht.hx, ht.hd, ht.hw, thF]; first | done | exact ⟨rfl, rfl⟩ | exact ⟨trivial, rfl⟩ | rfl)) ?_) | (simp (decide := true) only [put_same', put_put, decF, decT, Bool.not_true, Bool.not_false, putL_nil, putL_cons, if_true, if_false, seqR_ref, seqL_ref, lenL_ref, dicK_ref, dicT_ref, dat_ref, dat_non, dat_bl, dat_int, dat_str, dat_lst, dat_tup, datV_non, datV_bl, datV_int, datV_str, datV_lst, datV_tup, datVs_nil, datVs_cons, tyAt_ref, opt_some, Option.map_some, Option.bind_some, dv_ints, dv_bls, dv_nms, dv_prs, dv_nm, dt_nm, dt_pr, dv_pr, sh_int, sh_bl, sh_none, sh_nil, eqv_nil, sh_ints, sh_bls, sh_nm, sh_nms, sh_pr, sh_prs, anyI, anyN, anyP, eqv_int, eqv_bl, eqv_ints, eqv_bls, eqv_nms, eqv_prs, eqv_nm, eqv_pr, ht.hx, ht.hd, ht.hw, thF])); conv => whnf))
    refine ifNX (fun hn => ?_) (fun hn => ?_)
    · ((conv => whnf); repeat ((first | with_reducible refine ifTT ?_ | with_reducible refine ifFF ?_ | with_reducible refine ifnT ?_ | with_reducible refine ifnF ?_ | with_reducible refine ifTr ?_ | with_reducible refine ifFr ?_ | (refine And.intro (by first | with_reducible rfl | with_reducible exact ⟨rfl, rfl⟩ | decide | omega | (dsimp only; decide) | (dsimp only; omega) | (unfold CDiv; omega) | (unfold CPow; decide) | (unfold CMul; omega) | (simp only [List.length_cons, List.length_nil]; omega) | (simp only [Option.isSome_some]; done) | (simp only [meth_ref, put_same', seqL_ref, ht.hx, ht.hd, ht.hw, thF]; first | done | exact ⟨rfl, rfl⟩ | exact ⟨trivial, rfl⟩ | rfl)) ?_) | (simp (decide := true) only [put_same', put_put, decF, decT, Bool.not_true, Bool.not_false, putL_nil, putL_cons, if_true, if_false, seqR_ref, seqL_ref, lenL_ref, dicK_ref, dicT_ref, dat_ref, dat_non, dat_bl, dat_int, dat_str, dat_lst, dat_tup, datV_non, datV_bl, datV_int, datV_str, datV_lst, datV_tup, datVs_nil, datVs_cons, tyAt_ref, opt_some, Option.map_some, Option.bind_some, dv_ints, dv_bls, dv_nms, dv_prs, dv_nm, dt_nm, dt_pr, dv_pr, sh_int, sh_bl, sh_none, sh_nil, eqv_nil, sh_ints, sh_bls, sh_nm, sh_nms, sh_pr, sh_prs, anyI, anyN, anyP, eqv_int, eqv_bl, eqv_ints, eqv_bls, eqv_nms, eqv_prs, eqv_nm, eqv_pr, ht.hx, ht.hd, ht.hw, thF])); conv => whnf))
      refine ⟨x, t, d, w, rfl, ht, ?_⟩
      have hl' : (t.wr.map LV.int).length < 16777216 := by rw [List.length_map]; exact hl
      ((conv => whnf); repeat ((first | with_reducible refine ifTT ?_ | with_reducible refine ifFF ?_ | with_reducible refine ifnT ?_ | with_reducible refine ifnF ?_ | with_reducible refine ifTr ?_ | with_reducible refine ifFr ?_ | (refine And.intro (by first | with_reducible rfl | with_reducible exact ⟨rfl, rfl⟩ | decide | omega | (dsimp only; decide) | (dsimp only; omega) | (unfold CDiv; omega) | (unfold CPow; decide) | (unfold CMul; omega) | (simp only [List.length_cons, List.length_nil]; omega) | (simp only [Option.isSome_some]; done) | (simp only [meth_ref, put_same', seqL_ref, ht.hx, ht.hd, ht.hw, thF]; first | done | exact ⟨rfl, rfl⟩ | exact ⟨trivial, rfl⟩ | rfl)) ?_) | (simp (decide := true) only [put_same', put_put, decF, decT, Bool.not_true, Bool.not_false, putL_nil, putL_cons, if_true, if_false, seqR_ref, seqL_ref, lenL_ref, dicK_ref, dicT_ref, dat_ref, dat_non, dat_bl, dat_int, dat_str, dat_lst, dat_tup, datV_non, datV_bl, datV_int, datV_str, datV_lst, datV_tup, datVs_nil, datVs_cons, tyAt_ref, opt_some, Option.map_some, Option.bind_some, dv_ints, dv_bls, dv_nms, dv_prs, dv_nm, dt_nm, dt_pr, dv_pr, sh_int, sh_bl, sh_none, sh_nil, eqv_nil, sh_ints, sh_bls, sh_nm, sh_nms, sh_pr, sh_prs, anyI, anyN, anyP, eqv_int, eqv_bl, eqv_ints, eqv_bls, eqv_nms, eqv_prs, eqv_nm, eqv_pr, ht.hx, ht.hd, ht.hw, thF])); conv => whnf))
      refine ⟨rfl, ⟨?_, ?_, ?_, ht.ne⟩, ?_⟩
      · simp [put, ht.xw, ht.hx]
      · simp [put, ht.ne, ht.hd]
      · simp [put, Th.write, hn]
      · (refine own_of (fun a ha hn => ?_) (by simp_all) ; simp only [put]; (repeat' split) <;> simp_all)
    · ((conv => whnf); repeat ((first | with_reducible refine ifTT ?_ | with_reducible refine ifFF ?_ | with_reducible refine ifnT ?_ | with_reducible refine ifnF ?_ | with_reducible refine ifTr ?_ | with_reducible refine ifFr ?_ | refine And.intro (by first | with_reducible rfl | with_reducible exact ⟨rfl, rfl⟩ | decide | omega | (dsimp only; decide) | (dsimp only; omega) | (unfold CDiv; omega) | (unfold CPow; decide) | (unfold CMul; omega) | (simp only [List.length_cons, List.length_nil]; omega)) ?_); conv => whnf))
      refine ⟨rfl, ?_, .refl _ _⟩
      have e : t.write.wr = t.wr := by simp [Th.write, hn]
      rw [e]
      exact ht
  · rintro σ' s1 ⟨rfl, h1, o1⟩
    ((conv => whnf); repeat ((first | with_reducible refine ifTT ?_ | with_reducible refine ifFF ?_ | with_reducible refine ifnT ?_ | with_reducible refine ifnF ?_ | with_reducible refine ifTr ?_ | with_reducible refine ifFr ?_ | (refine And.intro (by first | with_reducible rfl | with_reducible exact ⟨rfl, rfl⟩ | decide | omega | (dsimp only; decide) | (dsimp only; omega) | (unfold CDiv; omega) | (unfold CPow; decide) | (unfold CMul; omega) | (simp only [List.length_cons, List.length_nil]; omega) | (simp only [Option.isSome_some]; done) | (simp only [meth_ref, put_same', seqL_ref, h1.hx, thF, hbL]; first | done | exact ⟨rfl, rfl⟩ | exact ⟨trivial, rfl⟩ | rfl)) ?_) | (simp (decide := true) only [put_same', put_put, decF, decT, Bool.not_true, Bool.not_false, putL_nil, putL_cons, if_true, if_false, seqR_ref, seqL_ref, lenL_ref, dicK_ref, dicT_ref, dat_ref, dat_non, dat_bl, dat_int, dat_str, dat_lst, dat_tup, datV_non, datV_bl, datV_int, datV_str, datV_lst, datV_tup, datVs_nil, datVs_cons, tyAt_ref, opt_some, Option.map_some, Option.bind_some, dv_ints, dv_bls, dv_nms, dv_prs, dv_nm, dt_nm, dt_pr, dv_pr, sh_int, sh_bl, sh_none, sh_nil, eqv_nil, sh_ints, sh_bls, sh_nm, sh_nms, sh_pr, sh_prs, anyI, anyN, anyP, eqv_int, eqv_bl, eqv_ints, eqv_bls, eqv_nms, eqv_prs, eqv_nm, eqv_pr, h1.hx, thF, hbL])); conv => whnf))
    refine ⟨(hb_no _).2, _, ⟨rfl, hb_cls A _⟩, ?_⟩
    ((conv => whnf); repeat ((first | with_reducible refine ifTT ?_ | with_reducible refine ifFF ?_ | with_reducible refine ifnT ?_ | with_reducible refine ifnF ?_ | with_reducible refine ifTr ?_ | with_reducible refine ifFr ?_ | (refine And.intro (by first | with_reducible rfl | with_reducible exact ⟨rfl, rfl⟩ | decide | omega | (dsimp only; decide) | (dsimp only; omega) | (unfold CDiv; omega) | (unfold CPow; decide) | (unfold CMul; omega) | (simp only [List.length_cons, List.length_nil]; omega) | (simp only [Option.isSome_some]; done) | (simp only [meth_ref, put_same', seqL_ref, h1.hx, thF, hbL]; first | done | exact ⟨rfl, rfl⟩ | exact ⟨trivial, rfl⟩ | rfl)) ?_) | (simp (decide := true) only [put_same', put_put, decF, decT, Bool.not_true, Bool.not_false, putL_nil, putL_cons, if_true, if_false, seqR_ref, seqL_ref, lenL_ref, dicK_ref, dicT_ref, dat_ref, dat_non, dat_bl, dat_int, dat_str, dat_lst, dat_tup, datV_non, datV_bl, datV_int, datV_str, datV_lst, datV_tup, datVs_nil, datVs_cons, tyAt_ref, opt_some, Option.map_some, Option.bind_some, dv_ints, dv_bls, dv_nms, dv_prs, dv_nm, dt_nm, dt_pr, dv_pr, sh_int, sh_bl, sh_none, sh_nil, eqv_nil, sh_ints, sh_bls, sh_nm, sh_nms, sh_pr, sh_prs, anyI, anyN, anyP, eqv_int, eqv_bl, eqv_ints, eqv_bls, eqv_nms, eqv_prs, eqv_nm, eqv_pr, h1.hx, thF, hbL])); conv => whnf))
    refine ⟨t.hab, rfl, rfl, ?_⟩
    ((conv => whnf); repeat ((first | with_reducible refine ifTT ?_ | with_reducible refine ifFF ?_ | with_reducible refine ifnT ?_ | with_reducible refine ifnF ?_ | with_reducible refine ifTr ?_ | with_reducible refine ifFr ?_ | (refine And.intro (by first | with_reducible rfl | with_reducible exact ⟨rfl, rfl⟩ | decide | omega | (dsimp only; decide) | (dsimp only; omega) | (unfold CDiv; omega) | (unfold CPow; decide) | (unfold CMul; omega) | (simp only [List.length_cons, List.length_nil]; omega) | (simp only [Option.isSome_some]; done) | (simp only [meth_ref, put_same', seqL_ref, h1.hx, thF, hbL]; first | done | exact ⟨rfl, rfl⟩ | exact ⟨trivial, rfl⟩ | rfl)) ?_) | (simp (decide := true) only [put_same', put_put, decF, decT, Bool.not_true, Bool.not_false, putL_nil, putL_cons, if_true, if_false, seqR_ref, seqL_ref, lenL_ref, dicK_ref, dicT_ref, dat_ref, dat_non, dat_bl, dat_int, dat_str, dat_lst, dat_tup, datV_non, datV_bl, datV_int, datV_str, datV_lst, datV_tup, datVs_nil, datVs_cons, tyAt_ref, opt_some, Option.map_some, Option.bind_some, dv_ints, dv_bls, dv_nms, dv_prs, dv_nm, dt_nm, dt_pr, dv_pr, sh_int, sh_bl, sh_none, sh_nil, eqv_nil, sh_ints, sh_bls, sh_nm, sh_nms, sh_pr, sh_prs, anyI, anyN, anyP, eqv_int, eqv_bl, eqv_ints, eqv_bls, eqv_nms, eqv_prs, eqv_nm, eqv_pr, h1.hx, thF, hbL])); conv => whnf))
    refine ifB (fun hw => ?_) (fun hw => ?_)
    · ((conv => whnf); repeat ((first | with_reducible refine ifTT ?_ | with_reducible refine ifFF ?_ | with_reducible refine ifnT ?_ | with_reducible refine ifnF ?_ | with_reducible refine ifTr ?_ | with_reducible refine ifFr ?_ | (refine And.intro (by first | with_reducible rfl | with_reducible exact ⟨rfl, rfl⟩ | decide | omega | (dsimp only; decide) | (dsimp only; omega) | (unfold CDiv; omega) | (unfold CPow; decide) | (unfold CMul; omega) | (simp only [List.length_cons, List.length_nil]; omega) | (simp only [Option.isSome_some]; done) | (simp only [meth_ref, put_same', seqL_ref, h1.hx, thF, hbL]; first | done | exact ⟨rfl, rfl⟩ | exact ⟨trivial, rfl⟩ | rfl)) ?_) | (simp (decide := true) only [put_same', put_put, decF, decT, Bool.not_true, Bool.not_false, putL_nil, putL_cons, if_true, if_false, seqR_ref, seqL_ref, lenL_ref, dicK_ref, dicT_ref, dat_ref, dat_non, dat_bl, dat_int, dat_str, dat_lst, dat_tup, datV_non, datV_bl, datV_int, datV_str, datV_lst, datV_tup, datVs_nil, datVs_cons, tyAt_ref, opt_some, Option.map_some, Option.bind_some, dv_ints, dv_bls, dv_nms, dv_prs, dv_nm, dt_nm, dt_pr, dv_pr, sh_int, sh_bl, sh_none, sh_nil, eqv_nil, sh_ints, sh_bls, sh_nm, sh_nms, sh_pr, sh_prs, anyI, anyN, anyP, eqv_int, eqv_bl, eqv_ints, eqv_bls, eqv_nms, eqv_prs, eqv_nm, eqv_pr, h1.hx, thF, hbL])); conv => whnf))
      refine ⟨_, .refl _, h _ ⟨?_, ?_, ?_, ht.ne⟩ (o1.trans ?_)⟩
      · simp [put, thF, Th.write, hw, hbL]
      · simp [put, Ne.symm ht.xd, Th.write, h1.hd]
      · simp [put, Ne.symm ht.xw, h1.hw]
      · (refine own_of (fun a ha hn => ?_) (by simp_all) ; simp only [put]; (repeat' split) <;> simp_all)
    · ((conv => whnf); repeat ((first | with_reducible refine ifTT ?_ | with_reducible refine ifFF ?_ | with_reducible refine ifnT ?_ | with_reducible refine ifnF ?_ | with_reducible refine ifTr ?_ | with_reducible refine ifFr ?_ | refine And.intro (by first | with_reducible rfl | with_reducible exact ⟨rfl, rfl⟩ | decide | omega | (dsimp only; decide) | (dsimp only; omega) | (unfold CDiv; omega) | (unfold CPow; decide) | (unfold CMul; omega) | (simp only [List.length_cons, List.length_nil]; omega)) ?_); conv => whnf))
      refine ⟨_, .refl _, h _ ?_ o1⟩
      have e : t.write = { t with wr := t.write.wr } := by
        cases t
        simp only [Th.write] at hw ⊢
        simp [hw]
      rw [e]
      exact h1
def spPoints (A : Ad) : LSp := fun vs s Q E => ∃ x t d w, vs = [.ref x] ∧ IsTh A s x t d w ∧ t.Ok ∧ t.done.length < 16777215 ∧ tells (t.points.map .int) s Q
theorem ok_Thread_points (T : Txt K mg A D) : LFn P w K mg base 2 A.f_Thread_points D.d_Thread_points ["self"] (spPoints A) := by
  refine T.F_Thread_points.okL sc_Thread_points (fun vs s Q E ⟨x, t, d, w, h, _⟩ => by rw [h]; rfl) (fun cdv A' outer si H E hr => ⟨_, (lps_cons (lp_if (lt_not (lt_val (le_methD0 (le_fld T.cl_Thread T.n_Thread_habit (lv 0)) (tab_writes_events T (hr.mono (by decide)))))) (lps_one (lp_ret (le_new (ll_list rfl T.b_list (la_cons (le_fld T.cl_Thread T.n_Thread_writings (lv 0)) la_nil))))) lps_nil)
    (lps_one (lp_ret (le_new (ll_listRg2 rfl rfl T.b_list rfl T.b_range (le_item (hu_of hr) (le_fld T.cl_Thread T.n_Thread_writings (lv 0)) le_int) (le_add (le_sub (le_meth0 (lv 0) T.cl_Thread T.mt_Thread_here (ok_Thread_here T) (hr.mono (by decide)) T.q_Thread_here) (le_fld T.cl_Thread T.n_Thread_pile (lv 0))) le_int)))))), fun vs s Q E h => ?_⟩)
  obtain ⟨x, t, d, w, rfl, ht, hok, hsm, h⟩ := h
  have hd := hok.head
  have h0 := hok.rng _ hd
  ((conv => whnf); repeat ((first | with_reducible refine ifTT ?_ | with_reducible refine ifFF ?_ | with_reducible refine ifnT ?_ | with_reducible refine ifnF ?_ | with_reducible refine ifTr ?_ | with_reducible refine ifFr ?_ | (refine And.intro (by first | with_reducible rfl | with_reducible exact ⟨rfl, rfl⟩ | decide | omega | (dsimp only; decide) | (dsimp only; omega) | (unfold CDiv; omega) | (unfold CPow; decide) | (unfold CMul; omega) | (simp only [List.length_cons, List.length_nil]; omega) | (simp only [Option.isSome_some]; done) | (simp only [meth_ref, put_same', seqL_ref, ht.hx, thF, hbL]; first | done | exact ⟨rfl, rfl⟩ | exact ⟨trivial, rfl⟩ | rfl)) ?_) | (simp (decide := true) only [put_same', put_put, decF, decT, Bool.not_true, Bool.not_false, putL_nil, putL_cons, if_true, if_false, seqR_ref, seqL_ref, lenL_ref, dicK_ref, dicT_ref, dat_ref, dat_non, dat_bl, dat_int, dat_str, dat_lst, dat_tup, datV_non, datV_bl, datV_int, datV_str, datV_lst, datV_tup, datVs_nil, datVs_cons, tyAt_ref, opt_some, Option.map_some, Option.bind_some, dv_ints, dv_bls, dv_nms, dv_prs, dv_nm, dt_nm, dt_pr, dv_pr, sh_int, sh_bl, sh_none, sh_nil, eqv_nil, sh_ints, sh_bls, sh_nm, sh_nms, sh_pr, sh_prs, anyI, anyN, anyP, eqv_int, eqv_bl, eqv_ints, eqv_bls, eqv_nms, eqv_prs, eqv_nm, eqv_pr, ht.hx, thF, hbL])); conv => whnf))
  refine ⟨(hb_no _).2, _, ⟨rfl, hb_cls A _⟩, ?_⟩
  ((conv => whnf); repeat ((first | with_reducible refine ifTT ?_ | with_reducible refine ifFF ?_ | with_reducible refine ifnT ?_ | with_reducible refine ifnF ?_ | with_reducible refine ifTr ?_ | with_reducible refine ifFr ?_ | (refine And.intro (by first | with_reducible rfl | with_reducible exact ⟨rfl, rfl⟩ | decide | omega | (dsimp only; decide) | (dsimp only; omega) | (unfold CDiv; omega) | (unfold CPow; decide) | (unfold CMul; omega) | (simp only [List.length_cons, List.length_nil]; omega) | (simp only [Option.isSome_some]; done) | (simp only [meth_ref, put_same', seqL_ref, ht.hx, thF, hbL]; first | done | exact ⟨rfl, rfl⟩ | exact ⟨trivial, rfl⟩ | rfl)) ?_) | (simp (decide := true) only [put_same', put_put, decF, decT, Bool.not_true, Bool.not_false, putL_nil, putL_cons, if_true, if_false, seqR_ref, seqL_ref, lenL_ref, dicK_ref, dicT_ref, dat_ref, dat_non, dat_bl, dat_int, dat_str, dat_lst, dat_tup, datV_non, datV_bl, datV_int, datV_str, datV_lst, datV_tup, datVs_nil, datVs_cons, tyAt_ref, opt_some, Option.map_some, Option.bind_some, dv_ints, dv_bls, dv_nms, dv_prs, dv_nm, dt_nm, dt_pr, dv_pr, sh_int, sh_bl, sh_none, sh_nil, eqv_nil, sh_ints, sh_bls, sh_nm, sh_nms, sh_pr, sh_prs, anyI, anyN, anyP, eqv_int, eqv_bl, eqv_ints, eqv_bls, eqv_nms, eqv_prs, eqv_nm, eqv_pr, ht.hx, thF, hbL])); conv => whnf))
  refine ⟨t.hab, rfl, rfl, ?_⟩
  ((conv => whnf); repeat ((first | with_reducible refine ifTT ?_ | with_reducible refine ifFF ?_ | with_reducible refine ifnT ?_ | with_reducible refine ifnF ?_ | with_reducible refine ifTr ?_ | with_reducible refine ifFr ?_ | (refine And.intro (by first | with_reducible rfl | with_reducible exact ⟨rfl, rfl⟩ | decide | omega | (dsimp only; decide) | (dsimp only; omega) | (unfold CDiv; omega) | (unfold CPow; decide) | (unfold CMul; omega) | (simp only [List.length_cons, List.length_nil]; omega) | (simp only [Option.isSome_some]; done) | (simp only [meth_ref, put_same', seqL_ref, ht.hx, thF, hbL]; first | done | exact ⟨rfl, rfl⟩ | exact ⟨trivial, rfl⟩ | rfl)) ?_) | (simp (decide := true) only [put_same', put_put, decF, decT, Bool.not_true, Bool.not_false, putL_nil, putL_cons, if_true, if_false, seqR_ref, seqL_ref, lenL_ref, dicK_ref, dicT_ref, dat_ref, dat_non, dat_bl, dat_int, dat_str, dat_lst, dat_tup, datV_non, datV_bl, datV_int, datV_str, datV_lst, datV_tup, datVs_nil, datVs_cons, tyAt_ref, opt_some, Option.map_some, Option.bind_some, dv_ints, dv_bls, dv_nms, dv_prs, dv_nm, dt_nm, dt_pr, dv_pr, sh_int, sh_bl, sh_none, sh_nil, eqv_nil, sh_ints, sh_bls, sh_nm, sh_nms, sh_pr, sh_prs, anyI, anyN, anyP, eqv_int, eqv_bl, eqv_ints, eqv_bls, eqv_nms, eqv_prs, eqv_nm, eqv_pr, ht.hx, thF, hbL])); conv => whnf))
  refine ⟨fun hw => ?_, fun hw => ?_⟩
  · have e : t.points = t.wr := by
      unfold Th.points
      rw [if_neg (by simpa using hw)]
    ((conv => whnf); repeat ((first | with_reducible refine ifTT ?_ | with_reducible refine ifFF ?_ | with_reducible refine ifnT ?_ | with_reducible refine ifnF ?_ | with_reducible refine ifTr ?_ | with_reducible refine ifFr ?_ | (refine And.intro (by first | with_reducible rfl | with_reducible exact ⟨rfl, rfl⟩ | decide | omega | (dsimp only; decide) | (dsimp only; omega) | (unfold CDiv; omega) | (unfold CPow; decide) | (unfold CMul; omega) | (simp only [List.length_cons, List.length_nil]; omega) | (simp only [Option.isSome_some]; done) | (simp only [meth_ref, put_same', seqL_ref, ht.hx, ht.hw, thF]; first | done | exact ⟨rfl, rfl⟩ | exact ⟨trivial, rfl⟩ | rfl)) ?_) | (simp (decide := true) only [put_same', put_put, decF, decT, Bool.not_true, Bool.not_false, putL_nil, putL_cons, if_true, if_false, seqR_ref, seqL_ref, lenL_ref, dicK_ref, dicT_ref, dat_ref, dat_non, dat_bl, dat_int, dat_str, dat_lst, dat_tup, datV_non, datV_bl, datV_int, datV_str, datV_lst, datV_tup, datVs_nil, datVs_cons, tyAt_ref, opt_some, Option.map_some, Option.bind_some, dv_ints, dv_bls, dv_nms, dv_prs, dv_nm, dt_nm, dt_pr, dv_pr, sh_int, sh_bl, sh_none, sh_nil, eqv_nil, sh_ints, sh_bls, sh_nm, sh_nms, sh_pr, sh_prs, anyI, anyN, anyP, eqv_int, eqv_bl, eqv_ints, eqv_bls, eqv_nms, eqv_prs, eqv_nm, eqv_pr, ht.hx, ht.hw, thF])); conv => whnf))
    rw [e] at h
    exact fun p hp => fin (.refl _) (h p hp)
  · have hw : t.hab.writes = true := by simpa using hw
    have hp := (hok.pile hw)
    have e : t.points.map LV.int = rgL (t.wr.headD 0) (t.here - t.pile + 1) := by
      unfold Th.points rgL
      rw [if_pos hw, List.map_map]
      rfl
    ((conv => whnf); repeat ((first | with_reducible refine ifTT ?_ | with_reducible refine ifFF ?_ | with_reducible refine ifnT ?_ | with_reducible refine ifnF ?_ | with_reducible refine ifTr ?_ | with_reducible refine ifFr ?_ | (refine And.intro (by first | with_reducible rfl | with_reducible exact ⟨rfl, rfl⟩ | decide | omega | (dsimp only; decide) | (dsimp only; omega) | (unfold CDiv; omega) | (unfold CPow; decide) | (unfold CMul; omega) | (simp only [List.length_cons, List.length_nil]; omega) | (simp only [Option.isSome_some]; done) | (simp only [meth_ref, put_same', seqL_ref, ht.hx, ht.hw, thF]; first | done | exact ⟨rfl, rfl⟩ | exact ⟨trivial, rfl⟩ | rfl)) ?_) | (simp (decide := true) only [put_same', put_put, decF, decT, Bool.not_true, Bool.not_false, putL_nil, putL_cons, if_true, if_false, seqR_ref, seqL_ref, lenL_ref, dicK_ref, dicT_ref, dat_ref, dat_non, dat_bl, dat_int, dat_str, dat_lst, dat_tup, datV_non, datV_bl, datV_int, datV_str, datV_lst, datV_tup, datVs_nil, datVs_cons, tyAt_ref, opt_some, Option.map_some, Option.bind_some, dv_ints, dv_bls, dv_nms, dv_prs, dv_nm, dt_nm, dt_pr, dv_pr, sh_int, sh_bl, sh_none, sh_nil, eqv_nil, sh_ints, sh_bls, sh_nm, sh_nms, sh_pr, sh_prs, anyI, anyN, anyP, eqv_int, eqv_bl, eqv_ints, eqv_bls, eqv_nms, eqv_prs, eqv_nm, eqv_pr, ht.hx, ht.hw, thF])); conv => whnf))
    rw [atI_mem (v := t.wr.headD 0) LV.int (by decide) (by cases q : t.wr with | nil => exact absurd q hok.ne | cons a r => rfl)]
    ((conv => whnf); repeat ((first | with_reducible refine ifTT ?_ | with_reducible refine ifFF ?_ | with_reducible refine ifnT ?_ | with_reducible refine ifnF ?_ | with_reducible refine ifTr ?_ | with_reducible refine ifFr ?_ | (refine And.intro (by first | with_reducible rfl | with_reducible exact ⟨rfl, rfl⟩ | decide | omega | (dsimp only; decide) | (dsimp only; omega) | (unfold CDiv; omega) | (unfold CPow; decide) | (unfold CMul; omega) | (simp only [List.length_cons, List.length_nil]; omega) | (simp only [Option.isSome_some]; done) | (simp only [meth_ref, put_same', seqL_ref, ht.hx, ht.hw, thF]; first | done | exact ⟨rfl, rfl⟩ | exact ⟨trivial, rfl⟩ | rfl)) ?_) | (simp (decide := true) only [put_same', put_put, decF, decT, Bool.not_true, Bool.not_false, putL_nil, putL_cons, if_true, if_false, seqR_ref, seqL_ref, lenL_ref, dicK_ref, dicT_ref, dat_ref, dat_non, dat_bl, dat_int, dat_str, dat_lst, dat_tup, datV_non, datV_bl, datV_int, datV_str, datV_lst, datV_tup, datVs_nil, datVs_cons, tyAt_ref, opt_some, Option.map_some, Option.bind_some, dv_ints, dv_bls, dv_nms, dv_prs, dv_nm, dt_nm, dt_pr, dv_pr, sh_int, sh_bl, sh_none, sh_nil, eqv_nil, sh_ints, sh_bls, sh_nm, sh_nms, sh_pr, sh_prs, anyI, anyN, anyP, eqv_int, eqv_bl, eqv_ints, eqv_bls, eqv_nms, eqv_prs, eqv_nm, eqv_pr, ht.hx, ht.hw, thF])); conv => whnf))
    refine ⟨x, t, d, w, rfl, ht, ?_⟩
    ((conv => whnf); repeat ((first | with_reducible refine ifTT ?_ | with_reducible refine ifFF ?_ | with_reducible refine ifnT ?_ | with_reducible refine ifnF ?_ | with_reducible refine ifTr ?_ | with_reducible refine ifFr ?_ | (refine And.intro (by first | with_reducible rfl | with_reducible exact ⟨rfl, rfl⟩ | decide | omega | (dsimp only; decide) | (dsimp only; omega) | (unfold CDiv; omega) | (unfold CPow; decide) | (unfold CMul; omega) | (simp only [List.length_cons, List.length_nil]; omega) | (simp only [Option.isSome_some]; done) | (simp only [meth_ref, put_same', seqL_ref, ht.hx, ht.hw, thF]; first | done | exact ⟨rfl, rfl⟩ | exact ⟨trivial, rfl⟩ | rfl)) ?_) | (simp (decide := true) only [put_same', put_put, decF, decT, Bool.not_true, Bool.not_false, putL_nil, putL_cons, if_true, if_false, seqR_ref, seqL_ref, lenL_ref, dicK_ref, dicT_ref, dat_ref, dat_non, dat_bl, dat_int, dat_str, dat_lst, dat_tup, datV_non, datV_bl, datV_int, datV_str, datV_lst, datV_tup, datVs_nil, datVs_cons, tyAt_ref, opt_some, Option.map_some, Option.bind_some, dv_ints, dv_bls, dv_nms, dv_prs, dv_nm, dt_nm, dt_pr, dv_pr, sh_int, sh_bl, sh_none, sh_nil, eqv_nil, sh_ints, sh_bls, sh_nm, sh_nms, sh_pr, sh_prs, anyI, anyN, anyP, eqv_int, eqv_bl, eqv_ints, eqv_bls, eqv_nms, eqv_prs, eqv_nm, eqv_pr, ht.hx, ht.hw, thF])); conv => whnf))
    have q1 := hp.2 _ hd
    have q2 : t.here < 16777215 := by unfold Th.here; omega
    refine ⟨RgOk.of_le h0.1 (by omega) (by omega) (by omega), ?_⟩
    ((conv => whnf); repeat ((first | with_reducible refine ifTT ?_ | with_reducible refine ifFF ?_ | with_reducible refine ifnT ?_ | with_reducible refine ifnF ?_ | with_reducible refine ifTr ?_ | with_reducible refine ifFr ?_ | refine And.intro (by first | with_reducible rfl | with_reducible exact ⟨rfl, rfl⟩ | decide | omega | (dsimp only; decide) | (dsimp only; omega) | (unfold CDiv; omega) | (unfold CPow; decide) | (unfold CMul; omega) | (simp only [List.length_cons, List.length_nil]; omega)) ?_); conv => whnf))
    rw [e] at h
    exact fun p hp => fin (.refl _) (h p hp)
/-- a place that can be had, or where it stands -/
def Th.has (t : Th) (p : Int) : Prop := p = t.here ∨ p ∈ t.points
instance (t : Th) (p : Int) : Decidable (t.has p) := inferInstanceAs (Decidable (p = t.here ∨ p ∈ t.points))
def spState (A : Ad) : LSp := fun vs s Q E => ∃ x t d w p, vs = [.ref x, .int p] ∧ IsTh A s x t d w ∧ t.Ok ∧ t.done.length < 16777215 ∧ (t.has p → ∀ n, t.states[p.toNat]? = some n → 0 ≤ p → Q (.int n) s) ∧ (¬ t.has p → E A.c_NoPoint s)
theorem ok_Thread_state_at (T : Txt K mg A D) : LFn P w K mg base 3 A.f_Thread_state_at D.d_Thread_state_at ["self", "place"] (spState A) := by
  refine T.F_Thread_state_at.okL sc_Thread_state_at (fun vs s Q E ⟨x, t, d, w, p, h, _⟩ => by rw [h]; rfl) (fun cdv A' outer si H E hr => ⟨_, (lps_cons (lp_if (lt_cut (LW.lt (lw_and (lt_ne (lv 1) (le_meth0 (lv 0) T.cl_Thread T.mt_Thread_here (ok_Thread_here T) (hr.mono (by decide)) T.q_Thread_here)) (lw_and1 (lt_ninV (hu65 hr) (lv 1) (le_frz (le_meth0 (lv 0) T.cl_Thread T.mt_Thread_points (ok_Thread_points T) (hr.mono (by decide)) T.q_Thread_points)) (by rfl)))))) (lps_one (lp_raise T.x_NoPoint rfl rfl)) lps_nil)
    (lps_cons (lp_if (lt_eq (lv 1) le_int) (lps_one (lp_ret (le_fld T.cl_Thread T.n_Thread_start (lv 0)))) lps_nil)
    (lps_one (lp_ret (le_fld T.cl_Event T.n_Event_state (le_item (hu_of hr) (le_fld T.cl_Thread T.n_Thread_done (lv 0)) (le_sub (lv 1) le_int))))))), fun vs s Q E h => ?_⟩)
  obtain ⟨x, t, d, w, p, rfl, ht, hok, hsm, h1, h2⟩ := h
  conv => whnf
  refine ⟨decide (¬ t.has p), ?_, ?_⟩
  · ((conv => whnf); repeat ((first | with_reducible refine ifTT ?_ | with_reducible refine ifFF ?_ | with_reducible refine ifnT ?_ | with_reducible refine ifnF ?_ | with_reducible refine ifTr ?_ | with_reducible refine ifFr ?_ | (refine And.intro (by first | with_reducible rfl | with_reducible exact ⟨rfl, rfl⟩ | decide | omega | (dsimp only; decide) | (dsimp only; omega) | (unfold CDiv; omega) | (unfold CPow; decide) | (unfold CMul; omega) | (simp only [List.length_cons, List.length_nil]; omega) | (simp only [Option.isSome_some]; done) | (simp only [meth_ref, put_same', seqL_ref, ht.hx, thF]; first | done | exact ⟨rfl, rfl⟩ | exact ⟨trivial, rfl⟩ | rfl)) ?_) | (simp (decide := true) only [put_same', put_put, decF, decT, Bool.not_true, Bool.not_false, putL_nil, putL_cons, if_true, if_false, seqR_ref, seqL_ref, lenL_ref, dicK_ref, dicT_ref, dat_ref, dat_non, dat_bl, dat_int, dat_str, dat_lst, dat_tup, datV_non, datV_bl, datV_int, datV_str, datV_lst, datV_tup, datVs_nil, datVs_cons, tyAt_ref, opt_some, Option.map_some, Option.bind_some, dv_ints, dv_bls, dv_nms, dv_prs, dv_nm, dt_nm, dt_pr, dv_pr, sh_int, sh_bl, sh_none, sh_nil, eqv_nil, sh_ints, sh_bls, sh_nm, sh_nms, sh_pr, sh_prs, anyI, anyN, anyP, eqv_int, eqv_bl, eqv_ints, eqv_bls, eqv_nms, eqv_prs, eqv_nm, eqv_pr, ht.hx, thF])); conv => whnf))
    refine ⟨x, t, d, w, rfl, ht, ?_⟩
    ((conv => whnf); repeat ((first | with_reducible refine ifTT ?_ | with_reducible refine ifFF ?_ | with_reducible refine ifnT ?_ | with_reducible refine ifnF ?_ | with_reducible refine ifTr ?_ | with_reducible refine ifFr ?_ | (refine And.intro (by first | with_reducible rfl | with_reducible exact ⟨rfl, rfl⟩ | decide | omega | (dsimp only; decide) | (dsimp only; omega) | (unfold CDiv; omega) | (unfold CPow; decide) | (unfold CMul; omega) | (simp only [List.length_cons, List.length_nil]; omega) | (simp only [Option.isSome_some]; done) | (simp only [meth_ref, put_same', seqL_ref, ht.hx, thF]; first | done | exact ⟨rfl, rfl⟩ | exact ⟨trivial, rfl⟩ | rfl)) ?_) | (simp (decide := true) only [put_same', put_put, decF, decT, Bool.not_true, Bool.not_false, putL_nil, putL_cons, if_true, if_false, seqR_ref, seqL_ref, lenL_ref, dicK_ref, dicT_ref, dat_ref, dat_non, dat_bl, dat_int, dat_str, dat_lst, dat_tup, datV_non, datV_bl, datV_int, datV_str, datV_lst, datV_tup, datVs_nil, datVs_cons, tyAt_ref, opt_some, Option.map_some, Option.bind_some, dv_ints, dv_bls, dv_nms, dv_prs, dv_nm, dt_nm, dt_pr, dv_pr, sh_int, sh_bl, sh_none, sh_nil, eqv_nil, sh_ints, sh_bls, sh_nm, sh_nms, sh_pr, sh_prs, anyI, anyN, anyP, eqv_int, eqv_bl, eqv_ints, eqv_bls, eqv_nms, eqv_prs, eqv_nm, eqv_pr, ht.hx, thF])); conv => whnf))
    refine ifN (fun hn => ?_) (fun hn => ⟨by simp [Th.has, hn], trivial⟩)
    ((conv => whnf); repeat ((first | with_reducible refine ifTT ?_ | with_reducible refine ifFF ?_ | with_reducible refine ifnT ?_ | with_reducible refine ifnF ?_ | with_reducible refine ifTr ?_ | with_reducible refine ifFr ?_ | (refine And.intro (by first | with_reducible rfl | with_reducible exact ⟨rfl, rfl⟩ | decide | omega | (dsimp only; decide) | (dsimp only; omega) | (unfold CDiv; omega) | (unfold CPow; decide) | (unfold CMul; omega) | (simp only [List.length_cons, List.length_nil]; omega) | (simp only [Option.isSome_some]; done) | (simp only [meth_ref, put_same', seqL_ref, ht.hx, thF]; first | done | exact ⟨rfl, rfl⟩ | exact ⟨trivial, rfl⟩ | rfl)) ?_) | (simp (decide := true) only [put_same', put_put, decF, decT, Bool.not_true, Bool.not_false, putL_nil, putL_cons, if_true, if_false, seqR_ref, seqL_ref, lenL_ref, dicK_ref, dicT_ref, dat_ref, dat_non, dat_bl, dat_int, dat_str, dat_lst, dat_tup, datV_non, datV_bl, datV_int, datV_str, datV_lst, datV_tup, datVs_nil, datVs_cons, tyAt_ref, opt_some, Option.map_some, Option.bind_some, dv_ints, dv_bls, dv_nms, dv_prs, dv_nm, dt_nm, dt_pr, dv_pr, sh_int, sh_bl, sh_none, sh_nil, eqv_nil, sh_ints, sh_bls, sh_nm, sh_nms, sh_pr, sh_prs, anyI, anyN, anyP, eqv_int, eqv_bl, eqv_ints, eqv_bls, eqv_nms, eqv_prs, eqv_nm, eqv_pr, ht.hx, thF])); conv => whnf))
    refine ⟨x, t, d, w, rfl, ht, hok, hsm, fun q hq => fin_lst put_same hq (sub_put hq) ?_⟩
    ((conv => whnf); repeat ((first | with_reducible refine ifTT ?_ | with_reducible refine ifFF ?_ | with_reducible refine ifnT ?_ | with_reducible refine ifnF ?_ | with_reducible refine ifTr ?_ | with_reducible refine ifFr ?_ | (refine And.intro (by first | with_reducible rfl | with_reducible exact ⟨rfl, rfl⟩ | decide | omega | (dsimp only; decide) | (dsimp only; omega) | (unfold CDiv; omega) | (unfold CPow; decide) | (unfold CMul; omega) | (simp only [List.length_cons, List.length_nil]; omega) | (simp only [Option.isSome_some]; done) | (simp only [meth_ref, put_same', seqL_ref, ht.hx, thF]; first | done | exact ⟨rfl, rfl⟩ | exact ⟨trivial, rfl⟩ | rfl)) ?_) | (simp (decide := true) only [put_same', put_put, decF, decT, Bool.not_true, Bool.not_false, putL_nil, putL_cons, if_true, if_false, seqR_ref, seqL_ref, lenL_ref, dicK_ref, dicT_ref, dat_ref, dat_non, dat_bl, dat_int, dat_str, dat_lst, dat_tup, datV_non, datV_bl, datV_int, datV_str, datV_lst, datV_tup, datVs_nil, datVs_cons, tyAt_ref, opt_some, Option.map_some, Option.bind_some, dv_ints, dv_bls, dv_nms, dv_prs, dv_nm, dt_nm, dt_pr, dv_pr, sh_int, sh_bl, sh_none, sh_nil, eqv_nil, sh_ints, sh_bls, sh_nm, sh_nms, sh_pr, sh_prs, anyI, anyN, anyP, eqv_int, eqv_bl, eqv_ints, eqv_bls, eqv_nms, eqv_prs, eqv_nm, eqv_pr, ht.hx, thF])); conv => whnf))
    exact ⟨by simp [Th.has, hn], trivial⟩
  · refine ifD (fun hn => ?_) (fun hn => ?_)
    · ((conv => whnf); repeat ((first | with_reducible refine ifTT ?_ | with_reducible refine ifFF ?_ | with_reducible refine ifnT ?_ | with_reducible refine ifnF ?_ | with_reducible refine ifTr ?_ | with_reducible refine ifFr ?_ | refine And.intro (by first | with_reducible rfl | with_reducible exact ⟨rfl, rfl⟩ | decide | omega | (dsimp only; decide) | (dsimp only; omega) | (unfold CDiv; omega) | (unfold CPow; decide) | (unfold CMul; omega) | (simp only [List.length_cons, List.length_nil]; omega)) ?_); conv => whnf))
      exact ⟨_, .refl _, h2 hn⟩
    · have hh : t.has p := Decidable.of_not_not hn
      have h1 := h1 hh
      have hp : 0 ≤ p ∧ p ≤ t.here := by
        rcases hh with rfl | hh
        · exact ⟨by unfold Th.here; omega, Int.le_refl _⟩
        · exact hok.pt hh
      ((conv => whnf); repeat ((first | with_reducible refine ifTT ?_ | with_reducible refine ifFF ?_ | with_reducible refine ifnT ?_ | with_reducible refine ifnF ?_ | with_reducible refine ifTr ?_ | with_reducible refine ifFr ?_ | (refine And.intro (by first | with_reducible rfl | with_reducible exact ⟨rfl, rfl⟩ | decide | omega | (dsimp only; decide) | (dsimp only; omega) | (unfold CDiv; omega) | (unfold CPow; decide) | (unfold CMul; omega) | (simp only [List.length_cons, List.length_nil]; omega) | (simp only [Option.isSome_some]; done) | (simp only [meth_ref, put_same', seqL_ref, ht.hx, thF]; first | done | exact ⟨rfl, rfl⟩ | exact ⟨trivial, rfl⟩ | rfl)) ?_) | (simp (decide := true) only [put_same', put_put, decF, decT, Bool.not_true, Bool.not_false, putL_nil, putL_cons, if_true, if_false, seqR_ref, seqL_ref, lenL_ref, dicK_ref, dicT_ref, dat_ref, dat_non, dat_bl, dat_int, dat_str, dat_lst, dat_tup, datV_non, datV_bl, datV_int, datV_str, datV_lst, datV_tup, datVs_nil, datVs_cons, tyAt_ref, opt_some, Option.map_some, Option.bind_some, dv_ints, dv_bls, dv_nms, dv_prs, dv_nm, dt_nm, dt_pr, dv_pr, sh_int, sh_bl, sh_none, sh_nil, eqv_nil, sh_ints, sh_bls, sh_nm, sh_nms, sh_pr, sh_prs, anyI, anyN, anyP, eqv_int, eqv_bl, eqv_ints, eqv_bls, eqv_nms, eqv_prs, eqv_nm, eqv_pr, ht.hx, thF])); conv => whnf))
      refine ifD (fun hz => ?_) (fun hz => ?_)
      · subst hz
        ((conv => whnf); repeat ((first | with_reducible refine ifTT ?_ | with_reducible refine ifFF ?_ | with_reducible refine ifnT ?_ | with_reducible refine ifnF ?_ | with_reducible refine ifTr ?_ | with_reducible refine ifFr ?_ | (refine And.intro (by first | with_reducible rfl | with_reducible exact ⟨rfl, rfl⟩ | decide | omega | (dsimp only; decide) | (dsimp only; omega) | (unfold CDiv; omega) | (unfold CPow; decide) | (unfold CMul; omega) | (simp only [List.length_cons, List.length_nil]; omega) | (simp only [Option.isSome_some]; done) | (simp only [meth_ref, put_same', seqL_ref, ht.hx, thF]; first | done | exact ⟨rfl, rfl⟩ | exact ⟨trivial, rfl⟩ | rfl)) ?_) | (simp (decide := true) only [put_same', put_put, decF, decT, Bool.not_true, Bool.not_false, putL_nil, putL_cons, if_true, if_false, seqR_ref, seqL_ref, lenL_ref, dicK_ref, dicT_ref, dat_ref, dat_non, dat_bl, dat_int, dat_str, dat_lst, dat_tup, datV_non, datV_bl, datV_int, datV_str, datV_lst, datV_tup, datVs_nil, datVs_cons, tyAt_ref, opt_some, Option.map_some, Option.bind_some, dv_ints, dv_bls, dv_nms, dv_prs, dv_nm, dt_nm, dt_pr, dv_pr, sh_int, sh_bl, sh_none, sh_nil, eqv_nil, sh_ints, sh_bls, sh_nm, sh_nms, sh_pr, sh_prs, anyI, anyN, anyP, eqv_int, eqv_bl, eqv_ints, eqv_bls, eqv_nms, eqv_prs, eqv_nm, eqv_pr, ht.hx, thF])); conv => whnf))
        exact fin (.refl _) (h1 _ rfl (Int.le_refl _))
      · have h3 : (p - 1).toNat < t.done.length := by have := hp.2; unfold Th.here at this; omega
        have h4 := List.getElem?_eq_getElem h3
        ((conv => whnf); repeat ((first | with_reducible refine ifTT ?_ | with_reducible refine ifFF ?_ | with_reducible refine ifnT ?_ | with_reducible refine ifnF ?_ | with_reducible refine ifTr ?_ | with_reducible refine ifFr ?_ | (refine And.intro (by first | with_reducible rfl | with_reducible exact ⟨rfl, rfl⟩ | decide | omega | (dsimp only; decide) | (dsimp only; omega) | (unfold CDiv; omega) | (unfold CPow; decide) | (unfold CMul; omega) | (simp only [List.length_cons, List.length_nil]; omega) | (simp only [Option.isSome_some]; done) | (simp only [meth_ref, put_same', seqL_ref, ht.hx, ht.hd, thF]; first | done | exact ⟨rfl, rfl⟩ | exact ⟨trivial, rfl⟩ | rfl)) ?_) | (simp (decide := true) only [put_same', put_put, decF, decT, Bool.not_true, Bool.not_false, putL_nil, putL_cons, if_true, if_false, seqR_ref, seqL_ref, lenL_ref, dicK_ref, dicT_ref, dat_ref, dat_non, dat_bl, dat_int, dat_str, dat_lst, dat_tup, datV_non, datV_bl, datV_int, datV_str, datV_lst, datV_tup, datVs_nil, datVs_cons, tyAt_ref, opt_some, Option.map_some, Option.bind_some, dv_ints, dv_bls, dv_nms, dv_prs, dv_nm, dt_nm, dt_pr, dv_pr, sh_int, sh_bl, sh_none, sh_nil, eqv_nil, sh_ints, sh_bls, sh_nm, sh_nms, sh_pr, sh_prs, anyI, anyN, anyP, eqv_int, eqv_bl, eqv_ints, eqv_bls, eqv_nms, eqv_prs, eqv_nm, eqv_pr, ht.hx, ht.hd, thF])); conv => whnf))
        rw [atI_mem (evL A) (by omega) h4]
        ((conv => whnf); repeat ((first | with_reducible refine ifTT ?_ | with_reducible refine ifFF ?_ | with_reducible refine ifnT ?_ | with_reducible refine ifnF ?_ | with_reducible refine ifTr ?_ | with_reducible refine ifFr ?_ | (refine And.intro (by first | with_reducible rfl | with_reducible exact ⟨rfl, rfl⟩ | decide | omega | (dsimp only; decide) | (dsimp only; omega) | (unfold CDiv; omega) | (unfold CPow; decide) | (unfold CMul; omega) | (simp only [List.length_cons, List.length_nil]; omega) | (simp only [Option.isSome_some]; done) | (simp only [meth_ref, put_same', seqL_ref, ht.hx, ht.hd, thF, evL]; first | done | exact ⟨rfl, rfl⟩ | exact ⟨trivial, rfl⟩ | rfl)) ?_) | (simp (decide := true) only [put_same', put_put, decF, decT, Bool.not_true, Bool.not_false, putL_nil, putL_cons, if_true, if_false, seqR_ref, seqL_ref, lenL_ref, dicK_ref, dicT_ref, dat_ref, dat_non, dat_bl, dat_int, dat_str, dat_lst, dat_tup, datV_non, datV_bl, datV_int, datV_str, datV_lst, datV_tup, datVs_nil, datVs_cons, tyAt_ref, opt_some, Option.map_some, Option.bind_some, dv_ints, dv_bls, dv_nms, dv_prs, dv_nm, dt_nm, dt_pr, dv_pr, sh_int, sh_bl, sh_none, sh_nil, eqv_nil, sh_ints, sh_bls, sh_nm, sh_nms, sh_pr, sh_prs, anyI, anyN, anyP, eqv_int, eqv_bl, eqv_ints, eqv_bls, eqv_nms, eqv_prs, eqv_nm, eqv_pr, ht.hx, ht.hd, thF, evL])); conv => whnf))
        refine fin (.refl _) (h1 _ ?_ hp.1)
        have e : p.toNat = (p - 1).toNat + 1 := by omega
        unfold Th.states
        rw [e, List.getElem?_cons_succ, List.getElem?_map, h4]
        rfl
end

section
variable {P : Program} {w : World} {K : PySem.W.Frag} {mg : Str → Option Value} {base : Heap} {A : Ad} {D : Fd}
def cellAt (ns : List Int) (k : Nat) : Int := ns.getD k 0
def spCell : LSp := fun vs s Q E => ∃ (ns : List Int) (k : Nat), vs = [.scr ns, .int k] ∧ Q (.int (cellAt ns k)) s
theorem ok_law_cell_at (T : Txt K mg A D) : LFn P w K mg base 1 A.f_law_cell_at D.d_law_cell_at ["_law_script", "_law_k"] spCell := by
  refine T.F_law_cell_at.okL sc_law_cell_at (fun vs s Q E ⟨_, _, h, _⟩ => by rw [h]; rfl) (fun cdv A' outer si H E hr => ⟨_, (lps_cons (lp_if (lt_lt (lv 1) (le_len rfl T.b_len (la_cons (lv 0) la_nil))) (lps_one (lp_ret (le_item (hu_of hr) (lv 0) (lv 1)))) lps_nil)
    (lps_one (lp_ret le_int))), fun vs s Q E h => ?_⟩)
  obtain ⟨ns, k, rfl, h⟩ := h
  ((conv => whnf); repeat ((first | with_reducible refine ifTT ?_ | with_reducible refine ifFF ?_ | with_reducible refine ifnT ?_ | with_reducible refine ifnF ?_ | with_reducible refine ifTr ?_ | with_reducible refine ifFr ?_ | refine And.intro (by first | with_reducible rfl | with_reducible exact ⟨rfl, rfl⟩ | decide | omega | (dsimp only; decide) | (dsimp only; omega) | (unfold CDiv; omega) | (unfold CPow; decide) | (unfold CMul; omega) | (simp only [List.length_cons, List.length_nil]; omega)) ?_); conv => whnf))
  refine ifD (fun hk => ?_) (fun hk => ?_)
  · ((conv => whnf); repeat ((first | with_reducible refine ifTT ?_ | with_reducible refine ifFF ?_ | with_reducible refine ifnT ?_ | with_reducible refine ifnF ?_ | with_reducible refine ifTr ?_ | with_reducible refine ifFr ?_ | refine And.intro (by first | with_reducible rfl | with_reducible exact ⟨rfl, rfl⟩ | decide | omega | (dsimp only; decide) | (dsimp only; omega) | (unfold CDiv; omega) | (unfold CPow; decide) | (unfold CMul; omega) | (simp only [List.length_cons, List.length_nil]; omega)) ?_); conv => whnf))
    have hk' : k < ns.length := by omega
    rw [atI_memV (v := ns[k]) (by omega) (by simp [hk'])]
    ((conv => whnf); repeat ((first | with_reducible refine ifTT ?_ | with_reducible refine ifFF ?_ | with_reducible refine ifnT ?_ | with_reducible refine ifnF ?_ | with_reducible refine ifTr ?_ | with_reducible refine ifFr ?_ | refine And.intro (by first | with_reducible rfl | with_reducible exact ⟨rfl, rfl⟩ | decide | omega | (dsimp only; decide) | (dsimp only; omega) | (unfold CDiv; omega) | (unfold CPow; decide) | (unfold CMul; omega) | (simp only [List.length_cons, List.length_nil]; omega)) ?_); conv => whnf))
    exact fin (.refl _) (by simpa [cellAt, List.getD, hk'] using h)
  · ((conv => whnf); repeat ((first | with_reducible refine ifTT ?_ | with_reducible refine ifFF ?_ | with_reducible refine ifnT ?_ | with_reducible refine ifnF ?_ | with_reducible refine ifTr ?_ | with_reducible refine ifFr ?_ | refine And.intro (by first | with_reducible rfl | with_reducible exact ⟨rfl, rfl⟩ | decide | omega | (dsimp only; decide) | (dsimp only; omega) | (unfold CDiv; omega) | (unfold CPow; decide) | (unfold CMul; omega) | (simp only [List.length_cons, List.length_nil]; omega)) ?_); conv => whnf))
    have hk' : ¬ k < ns.length := by omega
    exact fin (.refl _) (by simpa [cellAt, List.getD, hk'] using h)
def mix1 (n : Int) : Int := n * (n / 1009 + 69621) % 2147483647
def mix2 (n : Int) : Int := n * (n / 1013 + 40692) % 2147483647
def mixed (c : Int) (k : Nat) : Int := Builtin.bitXor (mix2 (mix1 ((Builtin.bitAnd c 2147483647 + 7919 * (k : Int) + 1) * 48271 % 2147483647))) (Builtin.bitAnd (c / 2 ^ ((31 : Int) * k + 31).toNat) 2147483647)
def spMix : LSp := fun vs s Q E => ∃ (c : Int) (k : Nat), vs = [.int c, .int k] ∧ Q (.int (mixed c k)) s
theorem ok_law_mixed (T : Txt K mg A D) : LFn P w K mg base 1 A.f_law_mixed D.d_law_mixed ["_law_cell", "_law_k"] spMix := by
  refine T.F_law_mixed.okL sc_law_mixed (fun vs s Q E ⟨_, _, h, _⟩ => by rw [h]; rfl) (fun cdv A' outer si H E hr => ⟨_, (lps_cons (lp_set (i := 2) sc_law_mixed.nd rfl (by first | exact Or.inl rfl | exact Or.inr rfl) (le_mod (le_mul (le_add (le_add (le_band (lv 0) le_int) (le_mul le_int (lv 1))) le_int) le_int) le_int))
    (lps_cons (lp_set (i := 2) sc_law_mixed.nd rfl (by first | exact Or.inl rfl | exact Or.inr rfl) (le_mod (le_mul (lv 2) (le_add (le_div (lv 2) le_int) le_int)) le_int))
    (lps_cons (lp_set (i := 2) sc_law_mixed.nd rfl (by first | exact Or.inl rfl | exact Or.inr rfl) (le_mod (le_mul (lv 2) (le_add (le_div (lv 2) le_int) le_int)) le_int))
    (lps_one (lp_ret (le_bxor (lv 2) (le_band (le_shr (lv 0) (le_add (le_mul le_int (lv 1)) le_int)) le_int))))))), fun vs s Q E h => ?_⟩)
  obtain ⟨c, k, rfl, h⟩ := h
  ((conv => whnf); repeat ((first | with_reducible refine ifTT ?_ | with_reducible refine ifFF ?_ | with_reducible refine ifnT ?_ | with_reducible refine ifnF ?_ | with_reducible refine ifTr ?_ | with_reducible refine ifFr ?_ | refine And.intro (by first | with_reducible rfl | with_reducible exact ⟨rfl, rfl⟩ | decide | omega | (dsimp only; decide) | (dsimp only; omega) | (unfold CDiv; omega) | (unfold CPow; decide) | (unfold CMul; omega) | (simp only [List.length_cons, List.length_nil]; omega)) ?_); conv => whnf))
  exact fin (.refl _) h
def hcL : Hb → LV
  | .never => .tup [.str "never", .int 0]
  | .each => .tup [.str "each", .int 0]
  | .bundle n => .tup [.str "bundle", .int n]
def hbOf (c : Int) : Hb := if c % 4 = 0 then .never else if c % 4 = 1 then .each else if c % 4 = 2 then .bundle (1 + c / 4 % 20) else .bundle (1 + c / 4 % 4)
def HbOk (h : Hb) : Prop := ∀ n, h = .bundle n → 1 ≤ n ∧ n ≤ 20
theorem hbOf_ok (c : Int) : HbOk (hbOf c) := fun n h => by
  unfold hbOf at h
  split at h
  · cases h
  · split at h
    · cases h
    · split at h
      · cases h; omega
      · cases h; omega
def spHabit : LSp := fun vs s Q E => ∃ (c : Int), vs = [.int c] ∧ Q (hcL (hbOf c)) s
theorem ok_law_habit (T : Txt K mg A D) : LFn P w K mg base 1 A.f_law_habit D.d_law_habit ["_law_cell"] spHabit := by
  refine T.F_law_habit.okL sc_law_habit (fun vs s Q E ⟨_, h, _⟩ => by rw [h]; rfl) (fun cdv A' outer si H E hr => ⟨_, (lps_one (lp_ret (le_item (hu_of hr) (le_fz (ll_disp (la_cons (le_tup (la_cons le_str (la_cons le_int la_nil))) (la_cons (le_tup (la_cons le_str (la_cons le_int la_nil))) (la_cons (le_tup (la_cons le_str (la_cons (le_add le_int (le_mod (le_div (lv 0) le_int) le_int)) la_nil))) (la_cons (le_tup (la_cons le_str (la_cons (le_add le_int (le_mod (le_div (lv 0) le_int) le_int)) la_nil))) la_nil)))))) (le_mod (lv 0) le_int)))), fun vs s Q E h => ?_⟩)
  obtain ⟨c, rfl, h⟩ := h
  ((conv => whnf); repeat ((first | with_reducible refine ifTT ?_ | with_reducible refine ifFF ?_ | with_reducible refine ifnT ?_ | with_reducible refine ifnF ?_ | with_reducible refine ifTr ?_ | with_reducible refine ifFr ?_ | refine And.intro (by first | with_reducible rfl | with_reducible exact ⟨rfl, rfl⟩ | decide | omega | (dsimp only; decide) | (dsimp only; omega) | (unfold CDiv; omega) | (unfold CPow; decide) | (unfold CMul; omega) | (simp only [List.length_cons, List.length_nil]; omega)) ?_); conv => whnf))
  have hc : c % 4 = 0 ∨ c % 4 = 1 ∨ c % 4 = 2 ∨ c % 4 = 3 := by omega
  unfold hbOf at h
  rcases hc with e | e | e | e <;> rw [e] at h ⊢
  all_goals
    ((conv => whnf); repeat ((first | with_reducible refine ifTT ?_ | with_reducible refine ifFF ?_ | with_reducible refine ifnT ?_ | with_reducible refine ifnF ?_ | with_reducible refine ifTr ?_ | with_reducible refine ifFr ?_ | refine And.intro (by first | with_reducible rfl | with_reducible exact ⟨rfl, rfl⟩ | decide | omega | (dsimp only; decide) | (dsimp only; omega) | (unfold CDiv; omega) | (unfold CPow; decide) | (unfold CMul; omega) | (simp only [List.length_cons, List.length_nil]; omega)) ?_); conv => whnf))
    exact fin (.refl _) h
def spMade (A : Ad) : LSp := fun vs s Q E => ∃ h, vs = [hcL h] ∧ HbOk h ∧ Q (hbL A h) s
theorem ok_law_made (T : Txt K mg A D) : LFn P w K mg base 3 A.f_law_made D.d_law_made ["_law_habit_here"] (spMade A) := by
  refine T.F_law_made.okL sc_law_made (fun vs s Q E ⟨_, h, _⟩ => by rw [h]; rfl) (fun cdv A' outer si H E hr => ⟨_, (lps_cons (lp_if (lt_eq (le_item (hu_of hr) (lv 0) le_int) le_str) (lps_one (lp_ret (le_makeNF T.mkn_Never rfl T.m_Never))) lps_nil)
    (lps_cons (lp_if (lt_eq (le_item (hu_of hr) (lv 0) le_int) le_str) (lps_one (lp_ret (le_makeNF T.mkn_Each rfl T.m_Each))) lps_nil)
    (lps_one (lp_ret (le_makeZ T.mk_Bundle (ok_Bundle_init T) (hr.mono (by decide)) rfl T.m_Bundle T.q_Bundle_init (la_cons (le_item (hu_of hr) (lv 0) le_int) la_nil)))))), fun vs s Q E h => ?_⟩)
  obtain ⟨h, rfl, hok, q⟩ := h
  cases h with
  | never =>
    ((conv => whnf); repeat ((first | with_reducible refine ifTT ?_ | with_reducible refine ifFF ?_ | with_reducible refine ifnT ?_ | with_reducible refine ifnF ?_ | with_reducible refine ifTr ?_ | with_reducible refine ifFr ?_ | refine And.intro (by first | with_reducible rfl | with_reducible exact ⟨rfl, rfl⟩ | decide | omega | (dsimp only; decide) | (dsimp only; omega) | (unfold CDiv; omega) | (unfold CPow; decide) | (unfold CMul; omega) | (simp only [List.length_cons, List.length_nil]; omega)) ?_); conv => whnf))
    refine ifT (by decide) ?_
    ((conv => whnf); repeat ((first | with_reducible refine ifTT ?_ | with_reducible refine ifFF ?_ | with_reducible refine ifnT ?_ | with_reducible refine ifnF ?_ | with_reducible refine ifTr ?_ | with_reducible refine ifFr ?_ | refine And.intro (by first | with_reducible rfl | with_reducible exact ⟨rfl, rfl⟩ | decide | omega | (dsimp only; decide) | (dsimp only; omega) | (unfold CDiv; omega) | (unfold CPow; decide) | (unfold CMul; omega) | (simp only [List.length_cons, List.length_nil]; omega)) ?_); conv => whnf))
    exact fin (.refl _) q
  | each =>
    ((conv => whnf); repeat ((first | with_reducible refine ifTT ?_ | with_reducible refine ifFF ?_ | with_reducible refine ifnT ?_ | with_reducible refine ifnF ?_ | with_reducible refine ifTr ?_ | with_reducible refine ifFr ?_ | refine And.intro (by first | with_reducible rfl | with_reducible exact ⟨rfl, rfl⟩ | decide | omega | (dsimp only; decide) | (dsimp only; omega) | (unfold CDiv; omega) | (unfold CPow; decide) | (unfold CMul; omega) | (simp only [List.length_cons, List.length_nil]; omega)) ?_); conv => whnf))
    refine ifF (by decide) ?_
    ((conv => whnf); repeat ((first | with_reducible refine ifTT ?_ | with_reducible refine ifFF ?_ | with_reducible refine ifnT ?_ | with_reducible refine ifnF ?_ | with_reducible refine ifTr ?_ | with_reducible refine ifFr ?_ | refine And.intro (by first | with_reducible rfl | with_reducible exact ⟨rfl, rfl⟩ | decide | omega | (dsimp only; decide) | (dsimp only; omega) | (unfold CDiv; omega) | (unfold CPow; decide) | (unfold CMul; omega) | (simp only [List.length_cons, List.length_nil]; omega)) ?_); conv => whnf))
    refine ifT (by decide) ?_
    ((conv => whnf); repeat ((first | with_reducible refine ifTT ?_ | with_reducible refine ifFF ?_ | with_reducible refine ifnT ?_ | with_reducible refine ifnF ?_ | with_reducible refine ifTr ?_ | with_reducible refine ifFr ?_ | refine And.intro (by first | with_reducible rfl | with_reducible exact ⟨rfl, rfl⟩ | decide | omega | (dsimp only; decide) | (dsimp only; omega) | (unfold CDiv; omega) | (unfold CPow; decide) | (unfold CMul; omega) | (simp only [List.length_cons, List.length_nil]; omega)) ?_); conv => whnf))
    exact fin (.refl _) q
  | bundle n =>
    ((conv => whnf); repeat ((first | with_reducible refine ifTT ?_ | with_reducible refine ifFF ?_ | with_reducible refine ifnT ?_ | with_reducible refine ifnF ?_ | with_reducible refine ifTr ?_ | with_reducible refine ifFr ?_ | refine And.intro (by first | with_reducible rfl | with_reducible exact ⟨rfl, rfl⟩ | decide | omega | (dsimp only; decide) | (dsimp only; omega) | (unfold CDiv; omega) | (unfold CPow; decide) | (unfold CMul; omega) | (simp only [List.length_cons, List.length_nil]; omega)) ?_); conv => whnf))
    refine ifF (by decide) ?_
    ((conv => whnf); repeat ((first | with_reducible refine ifTT ?_ | with_reducible refine ifFF ?_ | with_reducible refine ifnT ?_ | with_reducible refine ifnF ?_ | with_reducible refine ifTr ?_ | with_reducible refine ifFr ?_ | refine And.intro (by first | with_reducible rfl | with_reducible exact ⟨rfl, rfl⟩ | decide | omega | (dsimp only; decide) | (dsimp only; omega) | (unfold CDiv; omega) | (unfold CPow; decide) | (unfold CMul; omega) | (simp only [List.length_cons, List.length_nil]; omega)) ?_); conv => whnf))
    refine ifF (by decide) ?_
    ((conv => whnf); repeat ((first | with_reducible refine ifTT ?_ | with_reducible refine ifFF ?_ | with_reducible refine ifnT ?_ | with_reducible refine ifnF ?_ | with_reducible refine ifTr ?_ | with_reducible refine ifFr ?_ | refine And.intro (by first | with_reducible rfl | with_reducible exact ⟨rfl, rfl⟩ | decide | omega | (dsimp only; decide) | (dsimp only; omega) | (unfold CDiv; omega) | (unfold CPow; decide) | (unfold CMul; omega) | (simp only [List.length_cons, List.length_nil]; omega)) ?_); conv => whnf))
    intro x hx
    refine ⟨x, n, rfl, put_same, fun hn => ?_, fun _ => ⟨rfl, _, put_put, fin (.refl _) q⟩⟩
    have := hok n rfl
    omega
structure Md where
  states : List Int
  written : List Bool
  writings : List Int
  pile : List Int
structure IsMd (s : LS) (m : Addr) (M : Md) (a b c p : Addr) : Prop where
  hm : s m = some (.dK [(.inr "states", .ref a), (.inr "written", .ref b), (.inr "writings", .ref c), (.inr "pile", .ref p)])
  ha : s a = some (.lst (M.states.map .int))
  hb : s b = some (.lst (M.written.map .bl))
  hc : s c = some (.lst (M.writings.map .int))
  hp : s p = some (.lst (M.pile.map .int))
  nd : [a, b, c, p].Nodup
def spBegun : LSp := fun vs s Q E => ∃ st, vs = [.int st] ∧ ∀ s' m a b c p, IsMd s' m ⟨[st], [true], [0], []⟩ a b c p → Own [] [m, a, b, c, p] s s' → Q (.ref m) s'
theorem ok_law_begun (T : Txt K mg A D) : LFn P w K mg base 1 A.f_law_begun D.d_law_begun ["_law_start"] spBegun := by
  refine T.F_law_begun.okL sc_law_begun (fun vs s Q E ⟨_, h, _⟩ => by rw [h]; rfl) (fun cdv A' outer si H E hr => ⟨_, (lps_one (lp_ret (le_disK (lpp_cons (le_new (ll_disp (la_cons (lv 0) la_nil))) (lpp_cons (le_new (ll_disp (la_cons le_bl la_nil))) (lpp_cons (le_new (ll_disp (la_cons le_int la_nil))) (lpp_cons (le_new (ll_disp la_nil)) lpp_nil)))) rfl rfl (fun z => by cases z) (by decide)))), fun vs s Q E h => ?_⟩)
  obtain ⟨st, rfl, h⟩ := h
  ((conv => whnf); repeat ((first | with_reducible refine ifTT ?_ | with_reducible refine ifFF ?_ | with_reducible refine ifnT ?_ | with_reducible refine ifnF ?_ | with_reducible refine ifTr ?_ | with_reducible refine ifFr ?_ | refine And.intro (by first | with_reducible rfl | with_reducible exact ⟨rfl, rfl⟩ | decide | omega | (dsimp only; decide) | (dsimp only; omega) | (unfold CDiv; omega) | (unfold CPow; decide) | (unfold CMul; omega) | (simp only [List.length_cons, List.length_nil]; omega)) ?_); conv => whnf))
  intro m hm
  ((conv => whnf); repeat ((first | with_reducible refine ifTT ?_ | with_reducible refine ifFF ?_ | with_reducible refine ifnT ?_ | with_reducible refine ifnF ?_ | with_reducible refine ifTr ?_ | with_reducible refine ifFr ?_ | refine And.intro (by first | with_reducible rfl | with_reducible exact ⟨rfl, rfl⟩ | decide | omega | (dsimp only; decide) | (dsimp only; omega) | (unfold CDiv; omega) | (unfold CPow; decide) | (unfold CMul; omega) | (simp only [List.length_cons, List.length_nil]; omega)) ?_); conv => whnf))
  intro a ha
  obtain ⟨nam, ha⟩ := put_none ha
  ((conv => whnf); repeat ((first | with_reducible refine ifTT ?_ | with_reducible refine ifFF ?_ | with_reducible refine ifnT ?_ | with_reducible refine ifnF ?_ | with_reducible refine ifTr ?_ | with_reducible refine ifFr ?_ | refine And.intro (by first | with_reducible rfl | with_reducible exact ⟨rfl, rfl⟩ | decide | omega | (dsimp only; decide) | (dsimp only; omega) | (unfold CDiv; omega) | (unfold CPow; decide) | (unfold CMul; omega) | (simp only [List.length_cons, List.length_nil]; omega)) ?_); conv => whnf))
  intro b hb
  obtain ⟨nba, hb⟩ := put_none hb
  obtain ⟨nbm, hb⟩ := put_none hb
  ((conv => whnf); repeat ((first | with_reducible refine ifTT ?_ | with_reducible refine ifFF ?_ | with_reducible refine ifnT ?_ | with_reducible refine ifnF ?_ | with_reducible refine ifTr ?_ | with_reducible refine ifFr ?_ | refine And.intro (by first | with_reducible rfl | with_reducible exact ⟨rfl, rfl⟩ | decide | omega | (dsimp only; decide) | (dsimp only; omega) | (unfold CDiv; omega) | (unfold CPow; decide) | (unfold CMul; omega) | (simp only [List.length_cons, List.length_nil]; omega)) ?_); conv => whnf))
  intro c hc
  obtain ⟨ncb, hc⟩ := put_none hc
  obtain ⟨nca, hc⟩ := put_none hc
  obtain ⟨ncm, hc⟩ := put_none hc
  ((conv => whnf); repeat ((first | with_reducible refine ifTT ?_ | with_reducible refine ifFF ?_ | with_reducible refine ifnT ?_ | with_reducible refine ifnF ?_ | with_reducible refine ifTr ?_ | with_reducible refine ifFr ?_ | refine And.intro (by first | with_reducible rfl | with_reducible exact ⟨rfl, rfl⟩ | decide | omega | (dsimp only; decide) | (dsimp only; omega) | (unfold CDiv; omega) | (unfold CPow; decide) | (unfold CMul; omega) | (simp only [List.length_cons, List.length_nil]; omega)) ?_); conv => whnf))
  intro p hp
  obtain ⟨npc, hp⟩ := put_none hp
  obtain ⟨npb, hp⟩ := put_none hp
  obtain ⟨npa, hp⟩ := put_none hp
  obtain ⟨npm, hp⟩ := put_none hp
  conv => whnf
  refine ⟨?_, (by simp), (by simp only [List.map_cons, List.map_nil]; decide), ?_⟩
  · simp [put, Ne.symm nam, Ne.symm nbm, Ne.symm ncm, Ne.symm npm]
  ((conv => whnf); repeat ((first | with_reducible refine ifTT ?_ | with_reducible refine ifFF ?_ | with_reducible refine ifnT ?_ | with_reducible refine ifnF ?_ | with_reducible refine ifTr ?_ | with_reducible refine ifFr ?_ | refine And.intro (by first | with_reducible rfl | with_reducible exact ⟨rfl, rfl⟩ | decide | omega | (dsimp only; decide) | (dsimp only; omega) | (unfold CDiv; omega) | (unfold CPow; decide) | (unfold CMul; omega) | (simp only [List.length_cons, List.length_nil]; omega)) ?_); conv => whnf))
  refine fin (.refl _) (h _ m a b c p ⟨?_, ?_, ?_, ?_, ?_, ?_⟩ ?_)
  · simp [put]
  · simp [put, nam, nba, nbm, Ne.symm nba, Ne.symm nca, Ne.symm npa, Ne.symm nam]
  · simp [put, nbm, Ne.symm ncb, Ne.symm npb]
  · simp [put, ncm, Ne.symm npc]
  · simp [put, npm]
  · simp [Ne.symm nba, Ne.symm nca, Ne.symm npa, Ne.symm ncb, Ne.symm npb, Ne.symm npc]
  · (refine own_of (fun a ha hn => ?_) (by simp_all) ; simp only [put]; (repeat' split) <;> simp_all)
theorem Own.new {F F' : List Addr} {s s' : LS} {x : Addr} {o : LO} (h : Own F F' s s') (hx : s' x = none) : Own F (x :: F') s (put s' x o) := fun a n e => by
  obtain ⟨e1, n1⟩ := h a n e
  have ne : a ≠ x := by rintro rfl; rw [hx] at e1; exact e e1.symm
  exact ⟨by rw [put_ne ne, e1], by simp [ne, n1]⟩
theorem Own.sub {F F' F2 : List Addr} {s s' : LS} (h : Own F F' s s') (hs : ∀ x ∈ F2, x ∈ F') : Own F F2 s s' := fun a n e => ⟨(h a n e).1, fun q => (h a n e).2 (hs a q)⟩
theorem Own.putM {F F' : List Addr} {s s' : LS} {x : Addr} {o : LO} (h : Own F F' s s') (hx : x ∈ F') : Own F F' s (put s' x o) := fun a n e => by
  obtain ⟨e1, n1⟩ := h a n e
  exact ⟨by rw [put_ne (by rintro rfl; exact n1 hx), e1], n1⟩
section
variable {s : LS} {m a b c p : Addr} {M : Md}
theorem IsMd.ma (h : IsMd s m M a b c p) : m ≠ a := by rintro rfl; have := h.hm.symm.trans h.ha; cases this
theorem IsMd.mb (h : IsMd s m M a b c p) : m ≠ b := by rintro rfl; have := h.hm.symm.trans h.hb; cases this
theorem IsMd.mc (h : IsMd s m M a b c p) : m ≠ c := by rintro rfl; have := h.hm.symm.trans h.hc; cases this
theorem IsMd.mp (h : IsMd s m M a b c p) : m ≠ p := by rintro rfl; have := h.hm.symm.trans h.hp; cases this
theorem IsMd.nes (h : IsMd s m M a b c p) : a ≠ b ∧ a ≠ c ∧ a ≠ p ∧ b ≠ c ∧ b ≠ p ∧ c ≠ p := by
  have := h.nd
  simp at this
  exact ⟨this.1.1, this.1.2.1, this.1.2.2, this.2.1.1, this.2.1.2, this.2.2⟩
theorem IsMd.setA (h : IsMd s m M a b c p) (xs : List Int) : IsMd (put s a (.lst (xs.map .int))) m { M with states := xs } a b c p := by
  obtain ⟨n1, n2, n3, n4, n5, n6⟩ := h.nes
  exact ⟨by rw [put_ne h.ma]; exact h.hm, put_same, by rw [put_ne (Ne.symm n1)]; exact h.hb, by rw [put_ne (Ne.symm n2)]; exact h.hc, by rw [put_ne (Ne.symm n3)]; exact h.hp, h.nd⟩
theorem IsMd.setB (h : IsMd s m M a b c p) (xs : List Bool) : IsMd (put s b (.lst (xs.map .bl))) m { M with written := xs } a b c p := by
  obtain ⟨n1, n2, n3, n4, n5, n6⟩ := h.nes
  exact ⟨by rw [put_ne h.mb]; exact h.hm, by rw [put_ne n1]; exact h.ha, put_same, by rw [put_ne (Ne.symm n4)]; exact h.hc, by rw [put_ne (Ne.symm n5)]; exact h.hp, h.nd⟩
theorem IsMd.setC (h : IsMd s m M a b c p) (xs : List Int) : IsMd (put s c (.lst (xs.map .int))) m { M with writings := xs } a b c p := by
  obtain ⟨n1, n2, n3, n4, n5, n6⟩ := h.nes
  exact ⟨by rw [put_ne h.mc]; exact h.hm, by rw [put_ne n2]; exact h.ha, by rw [put_ne n4]; exact h.hb, put_same, by rw [put_ne (Ne.symm n6)]; exact h.hp, h.nd⟩
theorem IsMd.setP (h : IsMd s m M a b c p) (xs : List Int) : IsMd (put s p (.lst (xs.map .int))) m { M with pile := xs } a b c p := by
  obtain ⟨n1, n2, n3, n4, n5, n6⟩ := h.nes
  exact ⟨by rw [put_ne h.mp]; exact h.hm, by rw [put_ne n3]; exact h.ha, by rw [put_ne n5]; exact h.hb, by rw [put_ne n6]; exact h.hc, put_same, h.nd⟩
theorem IsMd.appA (h : IsMd s m M a b c p) (x : Int) : IsMd (put s a (.lst (M.states.map .int ++ [.int x]))) m { M with states := M.states ++ [x] } a b c p := by have := h.setA (M.states ++ [x]); rwa [List.map_append] at this
theorem IsMd.appB (h : IsMd s m M a b c p) (x : Bool) : IsMd (put s b (.lst (M.written.map .bl ++ [.bl x]))) m { M with written := M.written ++ [x] } a b c p := by have := h.setB (M.written ++ [x]); rwa [List.map_append] at this
theorem IsMd.appC (h : IsMd s m M a b c p) (x : Int) : IsMd (put s c (.lst (M.writings.map .int ++ [.int x]))) m { M with writings := M.writings ++ [x] } a b c p := by have := h.setC (M.writings ++ [x]); rwa [List.map_append] at this
theorem IsMd.appP (h : IsMd s m M a b c p) (x : Int) : IsMd (put s p (.lst (M.pile.map .int ++ [.int x]))) m { M with pile := M.pile ++ [x] } a b c p := by have := h.setP (M.pile ++ [x]); rwa [List.map_append] at this
theorem ixN_of {n : Nat} {x : Int} (h0 : 0 ≤ x) (h : x < n) : ixN n x = some x.toNat := by
  unfold ixN
  rw [if_pos h0, if_pos h]
theorem IsMd.mFree {x : Addr} (h : IsMd s m M a b c p) (hx : s x = none) : m ≠ x ∧ a ≠ x ∧ b ≠ x ∧ c ≠ x ∧ p ≠ x :=
  ⟨(by rintro rfl; rw [h.hm] at hx; cases hx), (by rintro rfl; rw [h.ha] at hx; cases hx), (by rintro rfl; rw [h.hb] at hx; cases hx), (by rintro rfl; rw [h.hc] at hx; cases hx), (by rintro rfl; rw [h.hp] at hx; cases hx)⟩
theorem IsMd.newP {p' : Addr} (h : IsMd s m M a b c p) (hp : s p' = none) (xs : List Int) :
    IsMd (put (put s p' (.lst (xs.map .int))) m (.dK [(.inr "states", .ref a), (.inr "written", .ref b), (.inr "writings", .ref c), (.inr "pile", .ref p')])) m { M with pile := xs } a b c p' := by
  obtain ⟨n0, n1, n2, n3, n4⟩ := h.mFree hp
  obtain ⟨k1, k2, k3, k4, k5, k6⟩ := h.nes
  refine ⟨put_same, ?_, ?_, ?_, ?_, ?_⟩
  · rw [put_ne (Ne.symm h.ma), put_ne n1]; exact h.ha
  · rw [put_ne (Ne.symm h.mb), put_ne n2]; exact h.hb
  · rw [put_ne (Ne.symm h.mc), put_ne n3]; exact h.hc
  · rw [put_ne (Ne.symm n0), put_same]
  · simp [k1, k2, k4, n1, n2, n3]
theorem IsMd.ext {s' : LS} (h : IsMd s m M a b c p) (o : Ext s s') : IsMd s' m M a b c p := ⟨o _ _ h.hm, o _ _ h.ha, o _ _ h.hb, o _ _ h.hc, o _ _ h.hp, h.nd⟩
theorem IsMd.own {F F' : List Addr} {s' : LS} (h : IsMd s m M a b c p) (o : Own F F' s s') (hn : ∀ x ∈ [m, a, b, c, p], x ∉ F) : IsMd s' m M a b c p :=
  ⟨o.at (hn _ (by simp)) h.hm, o.at (hn _ (by simp)) h.ha, o.at (hn _ (by simp)) h.hb, o.at (hn _ (by simp)) h.hc, o.at (hn _ (by simp)) h.hp, h.nd⟩
end
def setAll (w : List Bool) (ps : List Int) : List Bool := ps.foldl (fun w q => w.set q.toNat true) w
def Md.down (M : Md) : Md := { M with written := setAll M.written M.pile, pile := [] }
def spDown : LSp := fun vs s Q E => ∃ m M a b c p, vs = [.ref m] ∧ IsMd s m M a b c p ∧ (∀ q ∈ M.pile, 0 ≤ q ∧ q < M.written.length) ∧ ∀ s' p', IsMd s' m M.down a b c p' → Own [m, a, b, c, p] [m, a, b, c, p'] s s' → Q .non s'
theorem setAll_length (ps : List Int) : ∀ w : List Bool, (setAll w ps).length = w.length := by
  induction ps with
  | nil => intro w; rfl
  | cons p ps ih => intro w; show (setAll (w.set p.toNat true) ps).length = _; rw [ih]; simp
theorem ok_law_down (T : Txt K mg A D) : LFn P w K mg base 1 A.f_law_down D.d_law_down ["_law_model"] spDown := by
  refine T.F_law_down.okL sc_law_down (fun vs s Q E ⟨_, _, _, _, _, _, h, _⟩ => by rw [h]; rfl) (fun cdv A' outer si H E hr => ⟨_, (lps_cons (lp_for rfl (li_seq (le_item (hu_of hr) (lv 0) le_str)) (lg_name (i := 1) sc_law_down.nd rfl (by first | exact Or.inl rfl | exact Or.inr rfl)) (lps_one (lp_asg le_bl (lg_sub (hu_of hr) (le_item (hu_of hr) (lv 0) le_str) (lv 1)))))
    (lps_one (lp_asg (le_new (ll_disp la_nil)) (lg_sub (hu_of hr) (lv 0) le_str)))), fun vs s Q E h => ?_⟩)
  obtain ⟨m, M, a, b, c, p, rfl, hM, hq, h⟩ := h
  ((conv => whnf); repeat ((first | with_reducible refine ifTT ?_ | with_reducible refine ifFF ?_ | with_reducible refine ifnT ?_ | with_reducible refine ifnF ?_ | with_reducible refine ifTr ?_ | with_reducible refine ifFr ?_ | (refine And.intro (by first | with_reducible rfl | with_reducible exact ⟨rfl, rfl⟩ | decide | omega | (dsimp only; decide) | (dsimp only; omega) | (unfold CDiv; omega) | (unfold CPow; decide) | (unfold CMul; omega) | (simp only [List.length_cons, List.length_nil]; omega) | (simp only [Option.isSome_some]; done) | (simp only [meth_ref, put_same', seqL_ref, hM.hm, hM.hp]; first | done | exact ⟨rfl, rfl⟩ | exact ⟨trivial, rfl⟩ | rfl)) ?_) | (simp (decide := true) only [put_same', put_put, decF, decT, Bool.not_true, Bool.not_false, putL_nil, putL_cons, if_true, if_false, seqR_ref, seqL_ref, lenL_ref, dicK_ref, dicT_ref, dat_ref, dat_non, dat_bl, dat_int, dat_str, dat_lst, dat_tup, datV_non, datV_bl, datV_int, datV_str, datV_lst, datV_tup, datVs_nil, datVs_cons, tyAt_ref, opt_some, Option.map_some, Option.bind_some, dv_ints, dv_bls, dv_nms, dv_prs, dv_nm, dt_nm, dt_pr, dv_pr, sh_int, sh_bl, sh_none, sh_nil, eqv_nil, sh_ints, sh_bls, sh_nm, sh_nms, sh_pr, sh_prs, anyI, anyN, anyP, eqv_int, eqv_bl, eqv_ints, eqv_bls, eqv_nms, eqv_prs, eqv_nm, eqv_pr, hM.hm, hM.hp])); conv => whnf))
  refine lLoop_map LV.int (fun q _ σ s' => (∃ v, σ = [some (.ref m), v]) ∧ IsMd s' m { M with written := setAll M.written q } a b c p ∧ Own [m, a, b, c, p] [m, a, b, c, p] s s') ⟨⟨_, rfl⟩, hM, .refl _ _⟩ (fun _ _ _ _ h => h.2.1.hp) ?_ ?_
  · rintro q x r σ s1 N e ⟨⟨v, rfl⟩, h1, o1⟩ hN
    have hx := hq x (by rw [e]; simp)
    ((conv => whnf); repeat ((first | with_reducible refine ifTT ?_ | with_reducible refine ifFF ?_ | with_reducible refine ifnT ?_ | with_reducible refine ifnF ?_ | with_reducible refine ifTr ?_ | with_reducible refine ifFr ?_ | (refine And.intro (by first | with_reducible rfl | with_reducible exact ⟨rfl, rfl⟩ | decide | omega | (dsimp only; decide) | (dsimp only; omega) | (unfold CDiv; omega) | (unfold CPow; decide) | (unfold CMul; omega) | (simp only [List.length_cons, List.length_nil]; omega) | (simp only [Option.isSome_some]; done) | (simp only [meth_ref, put_same', seqL_ref, h1.hm, h1.hb]; first | done | exact ⟨rfl, rfl⟩ | exact ⟨trivial, rfl⟩ | rfl)) ?_) | (simp (decide := true) only [put_same', put_put, decF, decT, Bool.not_true, Bool.not_false, putL_nil, putL_cons, if_true, if_false, seqR_ref, seqL_ref, lenL_ref, dicK_ref, dicT_ref, dat_ref, dat_non, dat_bl, dat_int, dat_str, dat_lst, dat_tup, datV_non, datV_bl, datV_int, datV_str, datV_lst, datV_tup, datVs_nil, datVs_cons, tyAt_ref, opt_some, Option.map_some, Option.bind_some, dv_ints, dv_bls, dv_nms, dv_prs, dv_nm, dt_nm, dt_pr, dv_pr, sh_int, sh_bl, sh_none, sh_nil, eqv_nil, sh_ints, sh_bls, sh_nm, sh_nms, sh_pr, sh_prs, anyI, anyN, anyP, eqv_int, eqv_bl, eqv_ints, eqv_bls, eqv_nms, eqv_prs, eqv_nm, eqv_pr, h1.hm, h1.hb])); conv => whnf))
    have e1 : ixN (List.map LV.bl (setAll M.written q)).length x = some x.toNat := by
      rw [List.length_map, setAll_length]
      obtain ⟨k, rfl⟩ := Int.eq_ofNat_of_zero_le hx.1
      exact ixN_of (by omega) (by simpa using hx.2)
    rw [e1]
    ((conv => whnf); repeat ((first | with_reducible refine ifTT ?_ | with_reducible refine ifFF ?_ | with_reducible refine ifnT ?_ | with_reducible refine ifnF ?_ | with_reducible refine ifTr ?_ | with_reducible refine ifFr ?_ | refine And.intro (by first | with_reducible rfl | with_reducible exact ⟨rfl, rfl⟩ | decide | omega | (dsimp only; decide) | (dsimp only; omega) | (unfold CDiv; omega) | (unfold CPow; decide) | (unfold CMul; omega) | (simp only [List.length_cons, List.length_nil]; omega)) ?_); conv => whnf))
    refine hN _ _ ⟨⟨_, rfl⟩, ?_, o1.putM (by simp)⟩
    have e2 : setAll M.written (q ++ [x]) = (setAll M.written q).set x.toNat true := by unfold setAll; rw [List.foldl_append]; rfl
    have := h1.setB ((setAll M.written q).set x.toNat true)
    rw [e2]
    simpa [List.map_set] using this
  · rintro σ s1 ⟨⟨v, rfl⟩, h1, o1⟩
    ((conv => whnf); repeat ((first | with_reducible refine ifTT ?_ | with_reducible refine ifFF ?_ | with_reducible refine ifnT ?_ | with_reducible refine ifnF ?_ | with_reducible refine ifTr ?_ | with_reducible refine ifFr ?_ | refine And.intro (by first | with_reducible rfl | with_reducible exact ⟨rfl, rfl⟩ | decide | omega | (dsimp only; decide) | (dsimp only; omega) | (unfold CDiv; omega) | (unfold CPow; decide) | (unfold CMul; omega) | (simp only [List.length_cons, List.length_nil]; omega)) ?_); conv => whnf))
    intro p' hp'
    obtain ⟨nm, _⟩ := h1.mFree hp'
    ((conv => whnf); repeat ((first | with_reducible refine ifTT ?_ | with_reducible refine ifFF ?_ | with_reducible refine ifnT ?_ | with_reducible refine ifnF ?_ | with_reducible refine ifTr ?_ | with_reducible refine ifFr ?_ | (refine And.intro (by first | with_reducible rfl | with_reducible exact ⟨rfl, rfl⟩ | decide | omega | (dsimp only; decide) | (dsimp only; omega) | (unfold CDiv; omega) | (unfold CPow; decide) | (unfold CMul; omega) | (simp only [List.length_cons, List.length_nil]; omega) | (simp only [Option.isSome_some]; done) | (simp only [meth_ref, put_same', seqL_ref, h1.hm, put_ne nm]; first | done | exact ⟨rfl, rfl⟩ | exact ⟨trivial, rfl⟩ | rfl)) ?_) | (simp (decide := true) only [put_same', put_put, decF, decT, Bool.not_true, Bool.not_false, putL_nil, putL_cons, if_true, if_false, seqR_ref, seqL_ref, lenL_ref, dicK_ref, dicT_ref, dat_ref, dat_non, dat_bl, dat_int, dat_str, dat_lst, dat_tup, datV_non, datV_bl, datV_int, datV_str, datV_lst, datV_tup, datVs_nil, datVs_cons, tyAt_ref, opt_some, Option.map_some, Option.bind_some, dv_ints, dv_bls, dv_nms, dv_prs, dv_nm, dt_nm, dt_pr, dv_pr, sh_int, sh_bl, sh_none, sh_nil, eqv_nil, sh_ints, sh_bls, sh_nm, sh_nms, sh_pr, sh_prs, anyI, anyN, anyP, eqv_int, eqv_bl, eqv_ints, eqv_bls, eqv_nms, eqv_prs, eqv_nm, eqv_pr, h1.hm, put_ne nm])); conv => whnf))
    have z := h1.newP hp' []
    exact ⟨_, .refl _, h _ p' z (((o1.new hp').putM (by simp)).sub (by simp))⟩
def Md.done (M : Md) (h : Hb) (st : Int) : Md := match h with
  | .never => { M with states := M.states ++ [st], written := M.written ++ [false] }
  | .each => { M with states := M.states ++ [st], written := M.written ++ [true] }
  | .bundle n =>
    let M1 : Md := { M with states := M.states ++ [st], written := M.written ++ [false], pile := M.pile ++ [(M.states.length : Int)] }
    if (M1.pile.length : Int) = n then M1.down else M1
/-- what the model keeps to -/
structure Md.Ok (M : Md) : Prop where
  len : M.written.length = M.states.length
  pile : ∀ q ∈ M.pile, 0 ≤ q ∧ q < M.states.length
  pos : 0 < M.states.length
  wr : ∀ q ∈ M.writings, 0 ≤ q ∧ q < M.states.length
  small : M.states.length < 1000000
  smallP : M.pile.length < 1000000
  smallW : M.writings.length < 1000000
def spDone : LSp := fun vs s Q E => ∃ m M a b c p h st, vs = [.ref m, hcL h, .int st] ∧ IsMd s m M a b c p ∧ M.Ok ∧ ∀ s' p', IsMd s' m (M.done h st) a b c p' → Own [m, a, b, c, p] [m, a, b, c, p'] s s' → Q .non s'
theorem ok_law_done (T : Txt K mg A D) : LFn P w K mg base 2 A.f_law_done D.d_law_done ["_law_model", "_law_habit_here", "_law_state"] spDone := by
  refine T.F_law_done.okL sc_law_done (fun vs s Q E ⟨_, _, _, _, _, _, _, _, h, _⟩ => by rw [h]; rfl) (fun cdv A' outer si H E hr => ⟨_, (lps_cons (lp_expr (le_append (le_item (hu_of hr) (lv 0) le_str) (la_cons (lv 2) la_nil)))
    (lps_cons (lp_expr (le_append (le_item (hu_of hr) (lv 0) le_str) (la_cons (le_eq (le_item (hu_of hr) (lv 1) le_int) le_str) la_nil)))
    (lps_one (lp_if (lt_eq (le_item (hu_of hr) (lv 1) le_int) le_str) (lps_cons (lp_expr (le_append (le_item (hu_of hr) (lv 0) le_str) (la_cons (le_sub (le_len rfl T.b_len (la_cons (le_item (hu_of hr) (lv 0) le_str) la_nil)) le_int) la_nil)))
    (lps_one (lp_if (lt_eq (le_len rfl T.b_len (la_cons (le_item (hu_of hr) (lv 0) le_str) la_nil)) (le_item (hu_of hr) (lv 1) le_int)) (lps_one (lp_expr (le_call (ok_law_down T) (hr.mono (by decide)) rfl T.m_law_down T.k_law_down T.q_law_down (la_cons (lv 0) la_nil)))) lps_nil))) lps_nil)))), fun vs s Q E h => ?_⟩)
  obtain ⟨m, M, a, b, c, p, hb, st, rfl, hM, hok, h⟩ := h
  have l1 : (M.states.map LV.int).length < 16777216 := by rw [List.length_map]; have := hok.small; omega
  have l2 : (M.written.map LV.bl).length < 16777216 := by rw [List.length_map, hok.len]; have := hok.small; omega
  obtain ⟨k1, k2, k3, k4, k5, k6⟩ := hM.nes
  ((conv => whnf); repeat ((first | with_reducible refine ifTT ?_ | with_reducible refine ifFF ?_ | with_reducible refine ifnT ?_ | with_reducible refine ifnF ?_ | with_reducible refine ifTr ?_ | with_reducible refine ifFr ?_ | (refine And.intro (by first | with_reducible rfl | with_reducible exact ⟨rfl, rfl⟩ | decide | omega | (dsimp only; decide) | (dsimp only; omega) | (unfold CDiv; omega) | (unfold CPow; decide) | (unfold CMul; omega) | (simp only [List.length_cons, List.length_nil]; omega) | (simp only [Option.isSome_some]; done) | (simp only [meth_ref, put_same', seqL_ref, hM.hm, hM.ha]; first | done | exact ⟨rfl, rfl⟩ | exact ⟨trivial, rfl⟩ | rfl)) ?_) | (simp (decide := true) only [put_same', put_put, decF, decT, Bool.not_true, Bool.not_false, putL_nil, putL_cons, if_true, if_false, seqR_ref, seqL_ref, lenL_ref, dicK_ref, dicT_ref, dat_ref, dat_non, dat_bl, dat_int, dat_str, dat_lst, dat_tup, datV_non, datV_bl, datV_int, datV_str, datV_lst, datV_tup, datVs_nil, datVs_cons, tyAt_ref, opt_some, Option.map_some, Option.bind_some, dv_ints, dv_bls, dv_nms, dv_prs, dv_nm, dt_nm, dt_pr, dv_pr, sh_int, sh_bl, sh_none, sh_nil, eqv_nil, sh_ints, sh_bls, sh_nm, sh_nms, sh_pr, sh_prs, anyI, anyN, anyP, eqv_int, eqv_bl, eqv_ints, eqv_bls, eqv_nms, eqv_prs, eqv_nm, eqv_pr, hM.hm, hM.ha])); conv => whnf))
  have h1 := hM.appA st
  have o1 : Own [m, a, b, c, p] [m, a, b, c, p] s (put s a (.lst (M.states.map LV.int ++ [LV.int st]))) := (Own.refl _ _).putM (by simp)
  revert h1 o1
  generalize put s a (.lst (M.states.map LV.int ++ [LV.int st])) = s1
  intro h1 o1
  have h2 := fun x => h1.appB x
  have o2 : ∀ x : Bool, Own [m, a, b, c, p] [m, a, b, c, p] s (put s1 b (.lst (M.written.map LV.bl ++ [LV.bl x]))) := fun x => o1.putM (by simp)
  dsimp only at h2
  cases hb with
  | never =>
    ((conv => whnf); repeat ((first | with_reducible refine ifTT ?_ | with_reducible refine ifFF ?_ | with_reducible refine ifnT ?_ | with_reducible refine ifnF ?_ | with_reducible refine ifTr ?_ | with_reducible refine ifFr ?_ | (refine And.intro (by first | with_reducible rfl | with_reducible exact ⟨rfl, rfl⟩ | decide | omega | (dsimp only; decide) | (dsimp only; omega) | (unfold CDiv; omega) | (unfold CPow; decide) | (unfold CMul; omega) | (simp only [List.length_cons, List.length_nil]; omega) | (simp only [Option.isSome_some]; done) | (simp only [meth_ref, put_same', seqL_ref, h1.hm, h1.hb]; first | done | exact ⟨rfl, rfl⟩ | exact ⟨trivial, rfl⟩ | rfl)) ?_) | (simp (decide := true) only [put_same', put_put, decF, decT, Bool.not_true, Bool.not_false, putL_nil, putL_cons, if_true, if_false, seqR_ref, seqL_ref, lenL_ref, dicK_ref, dicT_ref, dat_ref, dat_non, dat_bl, dat_int, dat_str, dat_lst, dat_tup, datV_non, datV_bl, datV_int, datV_str, datV_lst, datV_tup, datVs_nil, datVs_cons, tyAt_ref, opt_some, Option.map_some, Option.bind_some, dv_ints, dv_bls, dv_nms, dv_prs, dv_nm, dt_nm, dt_pr, dv_pr, sh_int, sh_bl, sh_none, sh_nil, eqv_nil, sh_ints, sh_bls, sh_nm, sh_nms, sh_pr, sh_prs, anyI, anyN, anyP, eqv_int, eqv_bl, eqv_ints, eqv_bls, eqv_nms, eqv_prs, eqv_nm, eqv_pr, h1.hm, h1.hb])); conv => whnf))
    (try refine ⟨fun q => (by first | exact q.elim | (simp (decide := true) at q; done)), fun _ => ?_⟩)
    ((conv => whnf); repeat ((first | with_reducible refine ifTT ?_ | with_reducible refine ifFF ?_ | with_reducible refine ifnT ?_ | with_reducible refine ifnF ?_ | with_reducible refine ifTr ?_ | with_reducible refine ifFr ?_ | refine And.intro (by first | with_reducible rfl | with_reducible exact ⟨rfl, rfl⟩ | decide | omega | (dsimp only; decide) | (dsimp only; omega) | (unfold CDiv; omega) | (unfold CPow; decide) | (unfold CMul; omega) | (simp only [List.length_cons, List.length_nil]; omega)) ?_); conv => whnf))
    exact ⟨_, .refl _, h _ _ (h2 false) (o2 false)⟩
  | each =>
    ((conv => whnf); repeat ((first | with_reducible refine ifTT ?_ | with_reducible refine ifFF ?_ | with_reducible refine ifnT ?_ | with_reducible refine ifnF ?_ | with_reducible refine ifTr ?_ | with_reducible refine ifFr ?_ | (refine And.intro (by first | with_reducible rfl | with_reducible exact ⟨rfl, rfl⟩ | decide | omega | (dsimp only; decide) | (dsimp only; omega) | (unfold CDiv; omega) | (unfold CPow; decide) | (unfold CMul; omega) | (simp only [List.length_cons, List.length_nil]; omega) | (simp only [Option.isSome_some]; done) | (simp only [meth_ref, put_same', seqL_ref, h1.hm, h1.hb]; first | done | exact ⟨rfl, rfl⟩ | exact ⟨trivial, rfl⟩ | rfl)) ?_) | (simp (decide := true) only [put_same', put_put, decF, decT, Bool.not_true, Bool.not_false, putL_nil, putL_cons, if_true, if_false, seqR_ref, seqL_ref, lenL_ref, dicK_ref, dicT_ref, dat_ref, dat_non, dat_bl, dat_int, dat_str, dat_lst, dat_tup, datV_non, datV_bl, datV_int, datV_str, datV_lst, datV_tup, datVs_nil, datVs_cons, tyAt_ref, opt_some, Option.map_some, Option.bind_some, dv_ints, dv_bls, dv_nms, dv_prs, dv_nm, dt_nm, dt_pr, dv_pr, sh_int, sh_bl, sh_none, sh_nil, eqv_nil, sh_ints, sh_bls, sh_nm, sh_nms, sh_pr, sh_prs, anyI, anyN, anyP, eqv_int, eqv_bl, eqv_ints, eqv_bls, eqv_nms, eqv_prs, eqv_nm, eqv_pr, h1.hm, h1.hb])); conv => whnf))
    (try refine ⟨fun q => (by first | exact q.elim | (simp (decide := true) at q; done)), fun _ => ?_⟩)
    ((conv => whnf); repeat ((first | with_reducible refine ifTT ?_ | with_reducible refine ifFF ?_ | with_reducible refine ifnT ?_ | with_reducible refine ifnF ?_ | with_reducible refine ifTr ?_ | with_reducible refine ifFr ?_ | refine And.intro (by first | with_reducible rfl | with_reducible exact ⟨rfl, rfl⟩ | decide | omega | (dsimp only; decide) | (dsimp only; omega) | (unfold CDiv; omega) | (unfold CPow; decide) | (unfold CMul; omega) | (simp only [List.length_cons, List.length_nil]; omega)) ?_); conv => whnf))
    exact ⟨_, .refl _, h _ _ (h2 true) (o2 true)⟩
  | bundle n =>
    have h2 := h2 false
    have o2 := o2 false
    ((conv => whnf); repeat ((first | with_reducible refine ifTT ?_ | with_reducible refine ifFF ?_ | with_reducible refine ifnT ?_ | with_reducible refine ifnF ?_ | with_reducible refine ifTr ?_ | with_reducible refine ifFr ?_ | (refine And.intro (by first | with_reducible rfl | with_reducible exact ⟨rfl, rfl⟩ | decide | omega | (dsimp only; decide) | (dsimp only; omega) | (unfold CDiv; omega) | (unfold CPow; decide) | (unfold CMul; omega) | (simp only [List.length_cons, List.length_nil]; omega) | (simp only [Option.isSome_some]; done) | (simp only [meth_ref, put_same', seqL_ref, h1.hm, h1.hb]; first | done | exact ⟨rfl, rfl⟩ | exact ⟨trivial, rfl⟩ | rfl)) ?_) | (simp (decide := true) only [put_same', put_put, decF, decT, Bool.not_true, Bool.not_false, putL_nil, putL_cons, if_true, if_false, seqR_ref, seqL_ref, lenL_ref, dicK_ref, dicT_ref, dat_ref, dat_non, dat_bl, dat_int, dat_str, dat_lst, dat_tup, datV_non, datV_bl, datV_int, datV_str, datV_lst, datV_tup, datVs_nil, datVs_cons, tyAt_ref, opt_some, Option.map_some, Option.bind_some, dv_ints, dv_bls, dv_nms, dv_prs, dv_nm, dt_nm, dt_pr, dv_pr, sh_int, sh_bl, sh_none, sh_nil, eqv_nil, sh_ints, sh_bls, sh_nm, sh_nms, sh_pr, sh_prs, anyI, anyN, anyP, eqv_int, eqv_bl, eqv_ints, eqv_bls, eqv_nms, eqv_prs, eqv_nm, eqv_pr, h1.hm, h1.hb])); conv => whnf))
    revert h2 o2
    generalize put s1 b (.lst (M.written.map LV.bl ++ [LV.bl false])) = s2
    intro h2 o2
    have l3 : (M.pile.map LV.int).length < 16777216 := by rw [List.length_map]; have := hok.smallP; omega
    have el : ((List.map LV.int (M.states ++ [st])).length : Int) - 1 = M.states.length := by simp
    ((conv => whnf); repeat ((first | with_reducible refine ifTT ?_ | with_reducible refine ifFF ?_ | with_reducible refine ifnT ?_ | with_reducible refine ifnF ?_ | with_reducible refine ifTr ?_ | with_reducible refine ifFr ?_ | (refine And.intro (by first | with_reducible rfl | with_reducible exact ⟨rfl, rfl⟩ | decide | omega | (dsimp only; decide) | (dsimp only; omega) | (unfold CDiv; omega) | (unfold CPow; decide) | (unfold CMul; omega) | (simp only [List.length_cons, List.length_nil]; omega) | (simp only [Option.isSome_some]; done) | (simp only [meth_ref, put_same', seqL_ref, h2.hm, h2.hp, h2.ha]; first | done | exact ⟨rfl, rfl⟩ | exact ⟨trivial, rfl⟩ | rfl)) ?_) | (simp (decide := true) only [put_same', put_put, decF, decT, Bool.not_true, Bool.not_false, putL_nil, putL_cons, if_true, if_false, seqR_ref, seqL_ref, lenL_ref, dicK_ref, dicT_ref, dat_ref, dat_non, dat_bl, dat_int, dat_str, dat_lst, dat_tup, datV_non, datV_bl, datV_int, datV_str, datV_lst, datV_tup, datVs_nil, datVs_cons, tyAt_ref, opt_some, Option.map_some, Option.bind_some, dv_ints, dv_bls, dv_nms, dv_prs, dv_nm, dt_nm, dt_pr, dv_pr, sh_int, sh_bl, sh_none, sh_nil, eqv_nil, sh_ints, sh_bls, sh_nm, sh_nms, sh_pr, sh_prs, anyI, anyN, anyP, eqv_int, eqv_bl, eqv_ints, eqv_bls, eqv_nms, eqv_prs, eqv_nm, eqv_pr, h2.hm, h2.hp, h2.ha])); conv => whnf))
    rw [el]
    have h3 := h2.appP M.states.length
    have o3 : Own [m, a, b, c, p] [m, a, b, c, p] s (put s2 p (.lst (M.pile.map LV.int ++ [LV.int M.states.length]))) := o2.putM (by simp)
    dsimp only at h3
    revert h3 o3
    generalize put s2 p (.lst (M.pile.map LV.int ++ [LV.int M.states.length])) = s3
    intro h3 o3
    have e3 : M.pile.map LV.int ++ [LV.int M.states.length] = (M.pile ++ [(M.states.length : Int)]).map LV.int := by simp
    ((conv => whnf); repeat ((first | with_reducible refine ifTT ?_ | with_reducible refine ifFF ?_ | with_reducible refine ifnT ?_ | with_reducible refine ifnF ?_ | with_reducible refine ifTr ?_ | with_reducible refine ifFr ?_ | (refine And.intro (by first | with_reducible rfl | with_reducible exact ⟨rfl, rfl⟩ | decide | omega | (dsimp only; decide) | (dsimp only; omega) | (unfold CDiv; omega) | (unfold CPow; decide) | (unfold CMul; omega) | (simp only [List.length_cons, List.length_nil]; omega) | (simp only [Option.isSome_some]; done) | (simp only [meth_ref, put_same', seqL_ref, h3.hm, h3.hp]; first | done | exact ⟨rfl, rfl⟩ | exact ⟨trivial, rfl⟩ | rfl)) ?_) | (simp (decide := true) only [put_same', put_put, decF, decT, Bool.not_true, Bool.not_false, putL_nil, putL_cons, if_true, if_false, seqR_ref, seqL_ref, lenL_ref, dicK_ref, dicT_ref, dat_ref, dat_non, dat_bl, dat_int, dat_str, dat_lst, dat_tup, datV_non, datV_bl, datV_int, datV_str, datV_lst, datV_tup, datVs_nil, datVs_cons, tyAt_ref, opt_some, Option.map_some, Option.bind_some, dv_ints, dv_bls, dv_nms, dv_prs, dv_nm, dt_nm, dt_pr, dv_pr, sh_int, sh_bl, sh_none, sh_nil, eqv_nil, sh_ints, sh_bls, sh_nm, sh_nms, sh_pr, sh_prs, anyI, anyN, anyP, eqv_int, eqv_bl, eqv_ints, eqv_bls, eqv_nms, eqv_prs, eqv_nm, eqv_pr, h3.hm, h3.hp])); conv => whnf))
    have hd : M.done (.bundle n) st = if ((M.pile ++ [(M.states.length : Int)]).length : Int) = n then (Md.down { M with states := M.states ++ [st], written := M.written ++ [false], pile := M.pile ++ [(M.states.length : Int)] }) else { M with states := M.states ++ [st], written := M.written ++ [false], pile := M.pile ++ [(M.states.length : Int)] } := rfl
    refine ifD (fun hn => ?_) (fun hn => ?_)
    · ((conv => whnf); repeat ((first | with_reducible refine ifTT ?_ | with_reducible refine ifFF ?_ | with_reducible refine ifnT ?_ | with_reducible refine ifnF ?_ | with_reducible refine ifTr ?_ | with_reducible refine ifFr ?_ | refine And.intro (by first | with_reducible rfl | with_reducible exact ⟨rfl, rfl⟩ | decide | omega | (dsimp only; decide) | (dsimp only; omega) | (unfold CDiv; omega) | (unfold CPow; decide) | (unfold CMul; omega) | (simp only [List.length_cons, List.length_nil]; omega)) ?_); conv => whnf))
      refine ⟨m, _, a, b, c, p, rfl, h3, ?_, fun s4 p' h4 o4 => ?_⟩
      · intro q hq
        simp only [List.mem_append, List.mem_singleton] at hq
        have := hok.len
        simp only [List.length_append, List.length_singleton]
        rcases hq with hq | rfl
        · have := hok.pile q hq; omega
        · omega
      · ((conv => whnf); repeat ((first | with_reducible refine ifTT ?_ | with_reducible refine ifFF ?_ | with_reducible refine ifnT ?_ | with_reducible refine ifnF ?_ | with_reducible refine ifTr ?_ | with_reducible refine ifFr ?_ | refine And.intro (by first | with_reducible rfl | with_reducible exact ⟨rfl, rfl⟩ | decide | omega | (dsimp only; decide) | (dsimp only; omega) | (unfold CDiv; omega) | (unfold CPow; decide) | (unfold CMul; omega) | (simp only [List.length_cons, List.length_nil]; omega)) ?_); conv => whnf))
        refine ⟨_, .refl _, h _ _ ?_ (o3.trans o4)⟩
        rw [hd, if_pos (by simpa using hn)]
        exact h4
    · ((conv => whnf); repeat ((first | with_reducible refine ifTT ?_ | with_reducible refine ifFF ?_ | with_reducible refine ifnT ?_ | with_reducible refine ifnF ?_ | with_reducible refine ifTr ?_ | with_reducible refine ifFr ?_ | refine And.intro (by first | with_reducible rfl | with_reducible exact ⟨rfl, rfl⟩ | decide | omega | (dsimp only; decide) | (dsimp only; omega) | (unfold CDiv; omega) | (unfold CPow; decide) | (unfold CMul; omega) | (simp only [List.length_cons, List.length_nil]; omega)) ?_); conv => whnf))
      refine ⟨_, .refl _, h _ _ ?_ o3⟩
      rw [hd, if_neg (by simpa using hn)]
      exact h3
def Md.wrote (M : Md) (h : Hb) : Md :=
  let M1 : Md := if ((M.states.length : Int) - 1) ∈ M.writings then M else { M with writings := M.writings ++ [(M.states.length : Int) - 1] }
  match h with
  | .bundle _ => M1.down
  | _ => M1
def spWrote : LSp := fun vs s Q E => ∃ m M a b c p h, vs = [.ref m, hcL h] ∧ IsMd s m M a b c p ∧ M.Ok ∧ ∀ s' p', IsMd s' m (M.wrote h) a b c p' → Own [m, a, b, c, p] [m, a, b, c, p'] s s' → Q .non s'
theorem ok_law_wrote (T : Txt K mg A D) : LFn P w K mg base 2 A.f_law_wrote D.d_law_wrote ["_law_model", "_law_habit_here"] spWrote := by
  refine T.F_law_wrote.okL sc_law_wrote (fun vs s Q E ⟨_, _, _, _, _, _, _, h, _⟩ => by rw [h]; rfl) (fun cdv A' outer si H E hr => ⟨_, (lps_cons (lp_set (i := 2) sc_law_wrote.nd rfl (by first | exact Or.inl rfl | exact Or.inr rfl) (le_sub (le_len rfl T.b_len (la_cons (le_item (hu_of hr) (lv 0) le_str) la_nil)) le_int))
    (lps_cons (lp_cut (lp_if (lt_ninV (hu65 hr) (lv 2) (le_item (hu_of hr) (lv 0) le_str) (by rfl)) (lps_one (lp_expr (le_append (le_item (hu_of hr) (lv 0) le_str) (la_cons (lv 2) la_nil)))) lps_nil))
    (lps_one (lp_if (lt_eq (le_item (hu_of hr) (lv 1) le_int) le_str) (lps_one (lp_expr (le_call (ok_law_down T) (hr.mono (by decide)) rfl T.m_law_down T.k_law_down T.q_law_down (la_cons (lv 0) la_nil)))) lps_nil)))), fun vs s Q E h => ?_⟩)
  obtain ⟨m, M, a, b, c, p, hb, rfl, hM, hok, h⟩ := h
  have el : ((List.map LV.int M.states).length : Int) - 1 = M.states.length - 1 := by simp
  ((conv => whnf); repeat ((first | with_reducible refine ifTT ?_ | with_reducible refine ifFF ?_ | with_reducible refine ifnT ?_ | with_reducible refine ifnF ?_ | with_reducible refine ifTr ?_ | with_reducible refine ifFr ?_ | (refine And.intro (by first | with_reducible rfl | with_reducible exact ⟨rfl, rfl⟩ | decide | omega | (dsimp only; decide) | (dsimp only; omega) | (unfold CDiv; omega) | (unfold CPow; decide) | (unfold CMul; omega) | (simp only [List.length_cons, List.length_nil]; omega) | (simp only [Option.isSome_some]; done) | (simp only [meth_ref, put_same', seqL_ref, hM.hm, hM.ha]; first | done | exact ⟨rfl, rfl⟩ | exact ⟨trivial, rfl⟩ | rfl)) ?_) | (simp (decide := true) only [put_same', put_put, decF, decT, Bool.not_true, Bool.not_false, putL_nil, putL_cons, if_true, if_false, seqR_ref, seqL_ref, lenL_ref, dicK_ref, dicT_ref, dat_ref, dat_non, dat_bl, dat_int, dat_str, dat_lst, dat_tup, datV_non, datV_bl, datV_int, datV_str, datV_lst, datV_tup, datVs_nil, datVs_cons, tyAt_ref, opt_some, Option.map_some, Option.bind_some, dv_ints, dv_bls, dv_nms, dv_prs, dv_nm, dt_nm, dt_pr, dv_pr, sh_int, sh_bl, sh_none, sh_nil, eqv_nil, sh_ints, sh_bls, sh_nm, sh_nms, sh_pr, sh_prs, anyI, anyN, anyP, eqv_int, eqv_bl, eqv_ints, eqv_bls, eqv_nms, eqv_prs, eqv_nm, eqv_pr, hM.hm, hM.ha])); conv => whnf))
  rw [el]
  refine ⟨fun σ' s' => σ' = [some (.ref m), some (hcL hb), some (.int ((M.states.length : Int) - 1))] ∧ IsMd s' m (if ((M.states.length : Int) - 1) ∈ M.writings then M else { M with writings := M.writings ++ [(M.states.length : Int) - 1] }) a b c p ∧ Own [m, a, b, c, p] [m, a, b, c, p] s s', ?_, ?_⟩
  · ((conv => whnf); repeat ((first | with_reducible refine ifTT ?_ | with_reducible refine ifFF ?_ | with_reducible refine ifnT ?_ | with_reducible refine ifnF ?_ | with_reducible refine ifTr ?_ | with_reducible refine ifFr ?_ | (refine And.intro (by first | with_reducible rfl | with_reducible exact ⟨rfl, rfl⟩ | decide | omega | (dsimp only; decide) | (dsimp only; omega) | (unfold CDiv; omega) | (unfold CPow; decide) | (unfold CMul; omega) | (simp only [List.length_cons, List.length_nil]; omega) | (simp only [Option.isSome_some]; done) | (simp only [meth_ref, put_same', seqL_ref, hM.hm, hM.hc]; first | done | exact ⟨rfl, rfl⟩ | exact ⟨trivial, rfl⟩ | rfl)) ?_) | (simp (decide := true) only [put_same', put_put, decF, decT, Bool.not_true, Bool.not_false, putL_nil, putL_cons, if_true, if_false, seqR_ref, seqL_ref, lenL_ref, dicK_ref, dicT_ref, dat_ref, dat_non, dat_bl, dat_int, dat_str, dat_lst, dat_tup, datV_non, datV_bl, datV_int, datV_str, datV_lst, datV_tup, datVs_nil, datVs_cons, tyAt_ref, opt_some, Option.map_some, Option.bind_some, dv_ints, dv_bls, dv_nms, dv_prs, dv_nm, dt_nm, dt_pr, dv_pr, sh_int, sh_bl, sh_none, sh_nil, eqv_nil, sh_ints, sh_bls, sh_nm, sh_nms, sh_pr, sh_prs, anyI, anyN, anyP, eqv_int, eqv_bl, eqv_ints, eqv_bls, eqv_nms, eqv_prs, eqv_nm, eqv_pr, hM.hm, hM.hc])); conv => whnf))
    refine ifNX (fun hn => ?_) (fun hn => ?_)
    · have l1 : (M.writings.map LV.int).length < 16777216 := by rw [List.length_map]; have := hok.smallW; omega
      ((conv => whnf); repeat ((first | with_reducible refine ifTT ?_ | with_reducible refine ifFF ?_ | with_reducible refine ifnT ?_ | with_reducible refine ifnF ?_ | with_reducible refine ifTr ?_ | with_reducible refine ifFr ?_ | (refine And.intro (by first | with_reducible rfl | with_reducible exact ⟨rfl, rfl⟩ | decide | omega | (dsimp only; decide) | (dsimp only; omega) | (unfold CDiv; omega) | (unfold CPow; decide) | (unfold CMul; omega) | (simp only [List.length_cons, List.length_nil]; omega) | (simp only [Option.isSome_some]; done) | (simp only [meth_ref, put_same', seqL_ref, hM.hm, hM.hc]; first | done | exact ⟨rfl, rfl⟩ | exact ⟨trivial, rfl⟩ | rfl)) ?_) | (simp (decide := true) only [put_same', put_put, decF, decT, Bool.not_true, Bool.not_false, putL_nil, putL_cons, if_true, if_false, seqR_ref, seqL_ref, lenL_ref, dicK_ref, dicT_ref, dat_ref, dat_non, dat_bl, dat_int, dat_str, dat_lst, dat_tup, datV_non, datV_bl, datV_int, datV_str, datV_lst, datV_tup, datVs_nil, datVs_cons, tyAt_ref, opt_some, Option.map_some, Option.bind_some, dv_ints, dv_bls, dv_nms, dv_prs, dv_nm, dt_nm, dt_pr, dv_pr, sh_int, sh_bl, sh_none, sh_nil, eqv_nil, sh_ints, sh_bls, sh_nm, sh_nms, sh_pr, sh_prs, anyI, anyN, anyP, eqv_int, eqv_bl, eqv_ints, eqv_bls, eqv_nms, eqv_prs, eqv_nm, eqv_pr, hM.hm, hM.hc])); conv => whnf))
      rw [if_neg hn]
      exact ⟨rfl, hM.appC _, (Own.refl _ _).putM (by simp)⟩
    · ((conv => whnf); repeat ((first | with_reducible refine ifTT ?_ | with_reducible refine ifFF ?_ | with_reducible refine ifnT ?_ | with_reducible refine ifnF ?_ | with_reducible refine ifTr ?_ | with_reducible refine ifFr ?_ | refine And.intro (by first | with_reducible rfl | with_reducible exact ⟨rfl, rfl⟩ | decide | omega | (dsimp only; decide) | (dsimp only; omega) | (unfold CDiv; omega) | (unfold CPow; decide) | (unfold CMul; omega) | (simp only [List.length_cons, List.length_nil]; omega)) ?_); conv => whnf))
      rw [if_pos hn]
      exact ⟨rfl, hM, .refl _ _⟩
  · rintro σ' s1 ⟨rfl, h1, o1⟩
    cases hb with
    | never =>
      ((conv => whnf); repeat ((first | with_reducible refine ifTT ?_ | with_reducible refine ifFF ?_ | with_reducible refine ifnT ?_ | with_reducible refine ifnF ?_ | with_reducible refine ifTr ?_ | with_reducible refine ifFr ?_ | refine And.intro (by first | with_reducible rfl | with_reducible exact ⟨rfl, rfl⟩ | decide | omega | (dsimp only; decide) | (dsimp only; omega) | (unfold CDiv; omega) | (unfold CPow; decide) | (unfold CMul; omega) | (simp only [List.length_cons, List.length_nil]; omega)) ?_); conv => whnf))
      (try refine ⟨fun q => (by first | exact q.elim | (simp (decide := true) at q; done)), fun _ => ?_⟩)
      ((conv => whnf); repeat ((first | with_reducible refine ifTT ?_ | with_reducible refine ifFF ?_ | with_reducible refine ifnT ?_ | with_reducible refine ifnF ?_ | with_reducible refine ifTr ?_ | with_reducible refine ifFr ?_ | refine And.intro (by first | with_reducible rfl | with_reducible exact ⟨rfl, rfl⟩ | decide | omega | (dsimp only; decide) | (dsimp only; omega) | (unfold CDiv; omega) | (unfold CPow; decide) | (unfold CMul; omega) | (simp only [List.length_cons, List.length_nil]; omega)) ?_); conv => whnf))
      exact ⟨_, .refl _, h _ _ h1 o1⟩
    | each =>
      ((conv => whnf); repeat ((first | with_reducible refine ifTT ?_ | with_reducible refine ifFF ?_ | with_reducible refine ifnT ?_ | with_reducible refine ifnF ?_ | with_reducible refine ifTr ?_ | with_reducible refine ifFr ?_ | refine And.intro (by first | with_reducible rfl | with_reducible exact ⟨rfl, rfl⟩ | decide | omega | (dsimp only; decide) | (dsimp only; omega) | (unfold CDiv; omega) | (unfold CPow; decide) | (unfold CMul; omega) | (simp only [List.length_cons, List.length_nil]; omega)) ?_); conv => whnf))
      (try refine ⟨fun q => (by first | exact q.elim | (simp (decide := true) at q; done)), fun _ => ?_⟩)
      ((conv => whnf); repeat ((first | with_reducible refine ifTT ?_ | with_reducible refine ifFF ?_ | with_reducible refine ifnT ?_ | with_reducible refine ifnF ?_ | with_reducible refine ifTr ?_ | with_reducible refine ifFr ?_ | refine And.intro (by first | with_reducible rfl | with_reducible exact ⟨rfl, rfl⟩ | decide | omega | (dsimp only; decide) | (dsimp only; omega) | (unfold CDiv; omega) | (unfold CPow; decide) | (unfold CMul; omega) | (simp only [List.length_cons, List.length_nil]; omega)) ?_); conv => whnf))
      exact ⟨_, .refl _, h _ _ h1 o1⟩
    | bundle n =>
      ((conv => whnf); repeat ((first | with_reducible refine ifTT ?_ | with_reducible refine ifFF ?_ | with_reducible refine ifnT ?_ | with_reducible refine ifnF ?_ | with_reducible refine ifTr ?_ | with_reducible refine ifFr ?_ | refine And.intro (by first | with_reducible rfl | with_reducible exact ⟨rfl, rfl⟩ | decide | omega | (dsimp only; decide) | (dsimp only; omega) | (unfold CDiv; omega) | (unfold CPow; decide) | (unfold CMul; omega) | (simp only [List.length_cons, List.length_nil]; omega)) ?_); conv => whnf))
      (try refine ⟨fun _ => ?_, fun q => (by first | exact q.elim | (simp (decide := true) at q; done))⟩)
      ((conv => whnf); repeat ((first | with_reducible refine ifTT ?_ | with_reducible refine ifFF ?_ | with_reducible refine ifnT ?_ | with_reducible refine ifnF ?_ | with_reducible refine ifTr ?_ | with_reducible refine ifFr ?_ | refine And.intro (by first | with_reducible rfl | with_reducible exact ⟨rfl, rfl⟩ | decide | omega | (dsimp only; decide) | (dsimp only; omega) | (unfold CDiv; omega) | (unfold CPow; decide) | (unfold CMul; omega) | (simp only [List.length_cons, List.length_nil]; omega)) ?_); conv => whnf))
      refine ⟨m, _, a, b, c, p, rfl, h1, ?_, fun s4 p' h4 o4 => ?_⟩
      · have e1 : ∀ N : Md, N = (if ((M.states.length : Int) - 1) ∈ M.writings then M else { M with writings := M.writings ++ [(M.states.length : Int) - 1] }) → N.pile = M.pile ∧ N.written = M.written := by
          rintro N rfl
          split <;> exact ⟨rfl, rfl⟩
        obtain ⟨q1, q2⟩ := e1 _ rfl
        rw [q1, q2, hok.len]
        exact hok.pile
      · ((conv => whnf); repeat ((first | with_reducible refine ifTT ?_ | with_reducible refine ifFF ?_ | with_reducible refine ifnT ?_ | with_reducible refine ifnF ?_ | with_reducible refine ifTr ?_ | with_reducible refine ifFr ?_ | refine And.intro (by first | with_reducible rfl | with_reducible exact ⟨rfl, rfl⟩ | decide | omega | (dsimp only; decide) | (dsimp only; omega) | (unfold CDiv; omega) | (unfold CPow; decide) | (unfold CMul; omega) | (simp only [List.length_cons, List.length_nil]; omega)) ?_); conv => whnf))
        exact ⟨_, .refl _, h _ _ h4 (o1.trans o4)⟩
theorem eq_sorted : ∀ {xs ys : List Int}, xs.Pairwise (· < ·) → ys.Pairwise (· < ·) → (∀ x, x ∈ xs ↔ x ∈ ys) → xs = ys
  | [], [], _, _, _ => rfl
  | [], y :: ys, _, _, h => absurd ((h y).mpr (by simp)) (by simp)
  | x :: xs, [], _, _, h => absurd ((h x).mp (by simp)) (by simp)
  | x :: xs, y :: ys, hx, hy, h => by
    rw [List.pairwise_cons] at hx hy
    have e : x = y := by
      have h1 := (h x).mp (by simp)
      have h2 := (h y).mpr (by simp)
      rw [List.mem_cons] at h1 h2
      rcases h1 with h1 | h1
      · exact h1
      · rcases h2 with h2 | h2
        · exact h2.symm
        · have := hy.1 x h1
          have := hx.1 y h2
          omega
    subst e
    rw [eq_sorted hx.2 hy.2 fun z => ?_]
    constructor
    · intro hz
      have := (h z).mp (by simp [hz])
      rw [List.mem_cons] at this
      rcases this with rfl | q
      · exact absurd (hx.1 _ hz) (by omega)
      · exact q
    · intro hz
      have := (h z).mpr (by simp [hz])
      rw [List.mem_cons] at this
      rcases this with rfl | q
      · exact absurd (hy.1 _ hz) (by omega)
      · exact q
theorem lt_of_le_nodup : ∀ {xs : List Int}, xs.Pairwise (· ≤ ·) → xs.Nodup → xs.Pairwise (· < ·)
  | [], _, _ => .nil
  | x :: xs, h, n => by
    rw [List.pairwise_cons] at h
    rw [List.nodup_cons] at n
    refine List.pairwise_cons.mpr ⟨fun y hy => ?_, lt_of_le_nodup h.2 n.2⟩
    have := h.1 y hy
    have : x ≠ y := by rintro rfl; exact n.1 hy
    omega
theorem nodup_len : ∀ (n : Nat) (xs : List Int), xs.Nodup → (∀ x ∈ xs, 0 ≤ x ∧ x < n) → xs.length ≤ n
  | 0, [], _, _ => by simp
  | 0, x :: xs, _, h => by have := h x (by simp); omega
  | n + 1, xs, hn, h => by
    by_cases hm : (n : Int) ∈ xs
    · have h1 := nodup_len n (xs.erase (n : Int)) (hn.erase _) (fun x hx => by
        rw [hn.mem_erase_iff] at hx
        have := h x hx.2
        have := hx.1
        omega)
      rw [List.length_erase_of_mem hm] at h1
      omega
    · have := nodup_len n xs hn (fun x hx => by
        have := h x hx
        have : x ≠ (n : Int) := by rintro rfl; exact hm hx
        omega)
      omega
def ReachW (M : Md) (w x : Int) : Prop := w ≤ x ∧ x < M.states.length ∧ ∀ y, w < y → y ≤ x → M.written[y.toNat]? = some true
def Pts (M : Md) (pts : List Int) : Prop := pts.Pairwise (· < ·) ∧ ∀ x, x ∈ pts ↔ ∃ w ∈ M.writings, ReachW M w x
def spLPoints : LSp := fun vs s Q E => ∃ m M a b c p pts, vs = [.ref m] ∧ IsMd s m M a b c p ∧ M.Ok ∧ Pts M pts ∧ Q (.lst (pts.map .int)) s
theorem ok_law_points (T : Txt K mg A D) : LFn P w K mg base 1 A.f_law_points D.d_law_points ["_law_model"] spLPoints := by
  refine T.F_law_points.okL sc_law_points (fun vs s Q E ⟨_, _, _, _, _, _, _, h, _⟩ => by rw [h]; rfl) (fun cdv A' outer si H E hr => ⟨_, (lps_cons (lp_set (i := 1) sc_law_points.nd rfl (by first | exact Or.inl rfl | exact Or.inr rfl) (le_new (ll_disp la_nil)))
    (lps_cons (lp_for rfl (li_seq (le_item (hu_of hr) (lv 0) le_str)) (lg_name (i := 2) sc_law_points.nd rfl (by first | exact Or.inl rfl | exact Or.inr rfl)) (lps_cons (lp_set (i := 3) sc_law_points.nd rfl (by first | exact Or.inl rfl | exact Or.inr rfl) (lv 2))
    (lps_one (lp_while (LW.lt (lw_and (lt_lt (lv 3) (le_len rfl T.b_len (la_cons (le_item (hu_of hr) (lv 0) le_str) la_nil))) (lw_and1 (LW.lt (lw_or (lt_eq (lv 3) (lv 2)) (lw_or1 (lt_val (le_item (hu_of hr) (le_item (hu_of hr) (lv 0) le_str) (lv 3))))))))) (lps_cons (lp_if (lt_ninV (hu65 hr) (lv 3) (lv 1) (by rfl)) (lps_one (lp_expr (le_append (lv 1) (la_cons (lv 3) la_nil)))) lps_nil)
    (lps_one (lp_set (i := 3) sc_law_points.nd rfl (by first | exact Or.inl rfl | exact Or.inr rfl) (le_add (lv 3) le_int))))))))
    (lps_one (lp_ret (le_fz (ll_sortedI rfl T.b_sorted (la_cons (lv 1) la_nil))))))), fun vs s Q E h => ?_⟩)
  obtain ⟨m, M, a, b, c, p, pts, rfl, hM, hok, hp, h⟩ := h
  ((conv => whnf); repeat ((first | with_reducible refine ifTT ?_ | with_reducible refine ifFF ?_ | with_reducible refine ifnT ?_ | with_reducible refine ifnF ?_ | with_reducible refine ifTr ?_ | with_reducible refine ifFr ?_ | refine And.intro (by first | with_reducible rfl | with_reducible exact ⟨rfl, rfl⟩ | decide | omega | (dsimp only; decide) | (dsimp only; omega) | (unfold CDiv; omega) | (unfold CPow; decide) | (unfold CMul; omega) | (simp only [List.length_cons, List.length_nil]; omega)) ?_); conv => whnf))
  intro f hf
  obtain ⟨f1, f2, f3, f4, f5⟩ := hM.mFree hf
  ((conv => whnf); repeat ((first | with_reducible refine ifTT ?_ | with_reducible refine ifFF ?_ | with_reducible refine ifnT ?_ | with_reducible refine ifnF ?_ | with_reducible refine ifTr ?_ | with_reducible refine ifFr ?_ | (refine And.intro (by first | with_reducible rfl | with_reducible exact ⟨rfl, rfl⟩ | decide | omega | (dsimp only; decide) | (dsimp only; omega) | (unfold CDiv; omega) | (unfold CPow; decide) | (unfold CMul; omega) | (simp only [List.length_cons, List.length_nil]; omega) | (simp only [Option.isSome_some]; done) | (simp only [meth_ref, put_same', seqL_ref, hM.hm, hM.hc, put_ne f1, put_ne f4]; first | done | exact ⟨rfl, rfl⟩ | exact ⟨trivial, rfl⟩ | rfl)) ?_) | (simp (decide := true) only [put_same', put_put, decF, decT, Bool.not_true, Bool.not_false, putL_nil, putL_cons, if_true, if_false, seqR_ref, seqL_ref, lenL_ref, dicK_ref, dicT_ref, dat_ref, dat_non, dat_bl, dat_int, dat_str, dat_lst, dat_tup, datV_non, datV_bl, datV_int, datV_str, datV_lst, datV_tup, datVs_nil, datVs_cons, tyAt_ref, opt_some, Option.map_some, Option.bind_some, dv_ints, dv_bls, dv_nms, dv_prs, dv_nm, dt_nm, dt_pr, dv_pr, sh_int, sh_bl, sh_none, sh_nil, eqv_nil, sh_ints, sh_bls, sh_nm, sh_nms, sh_pr, sh_prs, anyI, anyN, anyP, eqv_int, eqv_bl, eqv_ints, eqv_bls, eqv_nms, eqv_prs, eqv_nm, eqv_pr, hM.hm, hM.hc, put_ne f1, put_ne f4])); conv => whnf))
  refine lLoop_map LV.int (fun q _ σ s' => ∃ fs : List Int, (∃ v w, σ = [some (.ref m), some (.ref f), v, w]) ∧ s' = put s f (.lst (fs.map .int)) ∧ fs.Nodup ∧ ∀ x, x ∈ fs ↔ ∃ w ∈ q, ReachW M w x)
    ⟨[], ⟨_, _, rfl⟩, rfl, by simp, by simp⟩ ?_ ?_ ?_
  · rintro q r σ s1 ⟨fs, _, rfl, _⟩
    rw [put_ne f4]
    exact hM.hc
  · rintro q x r σ s1 N e ⟨fs, ⟨v, w, rfl⟩, rfl, hnd, hm⟩ hN
    have hx := hok.wr x (by rw [e]; simp)
    ((conv => whnf); repeat ((first | with_reducible refine ifTT ?_ | with_reducible refine ifFF ?_ | with_reducible refine ifnT ?_ | with_reducible refine ifnF ?_ | with_reducible refine ifTr ?_ | with_reducible refine ifFr ?_ | refine And.intro (by first | with_reducible rfl | with_reducible exact ⟨rfl, rfl⟩ | decide | omega | (dsimp only; decide) | (dsimp only; omega) | (unfold CDiv; omega) | (unfold CPow; decide) | (unfold CMul; omega) | (simp only [List.length_cons, List.length_nil]; omega)) ?_); conv => whnf))
    refine ⟨fun k σ s' => ∃ (fs : List Int) (pl : Int), σ = [some (.ref m), some (.ref f), some (.int x), some (.int pl)] ∧ s' = put s f (.lst (fs.map .int)) ∧ fs.Nodup ∧ (x ≤ pl ∧ pl ≤ M.states.length) ∧ (∀ y, x < y → y < pl → M.written[y.toNat]? = some true) ∧
      (∀ z, z ∈ fs ↔ (∃ w ∈ q, ReachW M w z) ∨ (x ≤ z ∧ z < pl)) ∧ k = (M.states.length - pl).toNat, ⟨_, fs, x, rfl, rfl, hnd, ⟨Int.le_refl _, by omega⟩, fun y h1 h2 => by omega, fun z => ⟨fun hz => .inl ((hm z).mp hz), fun hz => hz.elim (fun hz => (hm z).mpr hz) (fun hz => by omega)⟩, rfl⟩, ?_⟩
    rintro k σ s1 ⟨fs, pl, rfl, rfl, hnd, ⟨h1, h2⟩, h3, h4, rfl⟩
    have hr : ∀ z ∈ fs, 0 ≤ z ∧ z < M.states.length := fun z hz => by
      rcases (h4 z).mp hz with ⟨w, hw, hz⟩ | hz
      · have := hok.wr w (by rw [e]; simp [hw])
        have := hz.1
        have := hz.2.1
        omega
      · omega
    have hl : (fs.map LV.int).length < 16777216 := by
      rw [List.length_map]
      have := nodup_len _ fs hnd hr
      have := hok.small
      omega
    -- the walk ends here
    have stop : (∀ z, ReachW M x z ↔ x ≤ z ∧ z < pl) → N [some (.ref m), some (.ref f), some (.int x), some (.int pl)] (put s f (.lst (fs.map .int))) := fun hz => by
      refine hN _ _ ⟨fs, ⟨_, _, rfl⟩, rfl, hnd, fun z => ?_⟩
      rw [h4 z]
      constructor
      · rintro (⟨w, hw, h⟩ | h)
        · exact ⟨w, by simp [hw], h⟩
        · exact ⟨x, by simp, (hz z).mpr h⟩
      · rintro ⟨w, hw, h⟩
        rw [List.mem_append, List.mem_singleton] at hw
        rcases hw with hw | rfl
        · exact .inl ⟨w, hw, h⟩
        · exact .inr ((hz z).mp h)
    ((conv => whnf); repeat ((first | with_reducible refine ifTT ?_ | with_reducible refine ifFF ?_ | with_reducible refine ifnT ?_ | with_reducible refine ifnF ?_ | with_reducible refine ifTr ?_ | with_reducible refine ifFr ?_ | (refine And.intro (by first | with_reducible rfl | with_reducible exact ⟨rfl, rfl⟩ | decide | omega | (dsimp only; decide) | (dsimp only; omega) | (unfold CDiv; omega) | (unfold CPow; decide) | (unfold CMul; omega) | (simp only [List.length_cons, List.length_nil]; omega) | (simp only [Option.isSome_some]; done) | (simp only [meth_ref, put_same', seqL_ref, hM.hm, hM.ha, put_ne f1, put_ne f2]; first | done | exact ⟨rfl, rfl⟩ | exact ⟨trivial, rfl⟩ | rfl)) ?_) | (simp (decide := true) only [put_same', put_put, decF, decT, Bool.not_true, Bool.not_false, putL_nil, putL_cons, if_true, if_false, seqR_ref, seqL_ref, lenL_ref, dicK_ref, dicT_ref, dat_ref, dat_non, dat_bl, dat_int, dat_str, dat_lst, dat_tup, datV_non, datV_bl, datV_int, datV_str, datV_lst, datV_tup, datVs_nil, datVs_cons, tyAt_ref, opt_some, Option.map_some, Option.bind_some, dv_ints, dv_bls, dv_nms, dv_prs, dv_nm, dt_nm, dt_pr, dv_pr, sh_int, sh_bl, sh_none, sh_nil, eqv_nil, sh_ints, sh_bls, sh_nm, sh_nms, sh_pr, sh_prs, anyI, anyN, anyP, eqv_int, eqv_bl, eqv_ints, eqv_bls, eqv_nms, eqv_prs, eqv_nm, eqv_pr, hM.hm, hM.ha, put_ne f1, put_ne f2])); conv => whnf))
    rw [List.length_map]
    have body : pl < M.states.length → (pl = x ∨ M.written[pl.toNat]? = some true) →
        lSeq (lIf (lB (lOp (rInV true) (lVar 3) (lVar 1))) (lDrop (lBML rAppL (lVar 1) (lCons (lVar 3) lNil))) lNext) (lAsg (lOp rAddL (lVar 3) (lC (LV.int 1))) (lgName 3))
          ((((lEnds Q E).wnx (lRet (lFz (lCBL rSrtI (lCons (lVar 1) lNil))) (lEnds Q E))).wlp N).wlp fun σ' s' => ∃ m', m' < (M.states.length - pl).toNat ∧ ∃ (fs : List Int) (pl : Int), σ' = [some (.ref m), some (.ref f), some (.int x), some (.int pl)] ∧ s' = put s f (.lst (fs.map .int)) ∧ fs.Nodup ∧ (x ≤ pl ∧ pl ≤ M.states.length) ∧ (∀ y, x < y → y < pl → M.written[y.toNat]? = some true) ∧
      (∀ z, z ∈ fs ↔ (∃ w ∈ q, ReachW M w z) ∨ (x ≤ z ∧ z < pl)) ∧ m' = (M.states.length - pl).toNat)
          [some (.ref m), some (.ref f), some (.int x), some (.int pl)] (put s f (.lst (fs.map .int))) := fun hlt hw => by
      have h3' : ∀ y, x < y → y < pl + 1 → M.written[y.toNat]? = some true := fun y h5 h6 => by
        by_cases h7 : y = pl
        · subst h7
          rcases hw with hw | hw
          · omega
          · exact hw
        · exact h3 y h5 (by omega)
      ((conv => whnf); repeat ((first | with_reducible refine ifTT ?_ | with_reducible refine ifFF ?_ | with_reducible refine ifnT ?_ | with_reducible refine ifnF ?_ | with_reducible refine ifTr ?_ | with_reducible refine ifFr ?_ | (refine And.intro (by first | with_reducible rfl | with_reducible exact ⟨rfl, rfl⟩ | decide | omega | (dsimp only; decide) | (dsimp only; omega) | (unfold CDiv; omega) | (unfold CPow; decide) | (unfold CMul; omega) | (simp only [List.length_cons, List.length_nil]; omega) | (simp only [Option.isSome_some]; done) | (simp only [meth_ref, put_same', seqL_ref, hM.hm]; first | done | exact ⟨rfl, rfl⟩ | exact ⟨trivial, rfl⟩ | rfl)) ?_) | (simp (decide := true) only [put_same', put_put, decF, decT, Bool.not_true, Bool.not_false, putL_nil, putL_cons, if_true, if_false, seqR_ref, seqL_ref, lenL_ref, dicK_ref, dicT_ref, dat_ref, dat_non, dat_bl, dat_int, dat_str, dat_lst, dat_tup, datV_non, datV_bl, datV_int, datV_str, datV_lst, datV_tup, datVs_nil, datVs_cons, tyAt_ref, opt_some, Option.map_some, Option.bind_some, dv_ints, dv_bls, dv_nms, dv_prs, dv_nm, dt_nm, dt_pr, dv_pr, sh_int, sh_bl, sh_none, sh_nil, eqv_nil, sh_ints, sh_bls, sh_nm, sh_nms, sh_pr, sh_prs, anyI, anyN, anyP, eqv_int, eqv_bl, eqv_ints, eqv_bls, eqv_nms, eqv_prs, eqv_nm, eqv_pr, hM.hm])); conv => whnf))
      refine ifNX (fun hn => ?_) (fun hn => ?_)
      · ((conv => whnf); repeat ((first | with_reducible refine ifTT ?_ | with_reducible refine ifFF ?_ | with_reducible refine ifnT ?_ | with_reducible refine ifnF ?_ | with_reducible refine ifTr ?_ | with_reducible refine ifFr ?_ | (refine And.intro (by first | with_reducible rfl | with_reducible exact ⟨rfl, rfl⟩ | decide | omega | (dsimp only; decide) | (dsimp only; omega) | (unfold CDiv; omega) | (unfold CPow; decide) | (unfold CMul; omega) | (simp only [List.length_cons, List.length_nil]; omega) | (simp only [Option.isSome_some]; done) | (simp only [meth_ref, put_same', seqL_ref, hM.hm]; first | done | exact ⟨rfl, rfl⟩ | exact ⟨trivial, rfl⟩ | rfl)) ?_) | (simp (decide := true) only [put_same', put_put, decF, decT, Bool.not_true, Bool.not_false, putL_nil, putL_cons, if_true, if_false, seqR_ref, seqL_ref, lenL_ref, dicK_ref, dicT_ref, dat_ref, dat_non, dat_bl, dat_int, dat_str, dat_lst, dat_tup, datV_non, datV_bl, datV_int, datV_str, datV_lst, datV_tup, datVs_nil, datVs_cons, tyAt_ref, opt_some, Option.map_some, Option.bind_some, dv_ints, dv_bls, dv_nms, dv_prs, dv_nm, dt_nm, dt_pr, dv_pr, sh_int, sh_bl, sh_none, sh_nil, eqv_nil, sh_ints, sh_bls, sh_nm, sh_nms, sh_pr, sh_prs, anyI, anyN, anyP, eqv_int, eqv_bl, eqv_ints, eqv_bls, eqv_nms, eqv_prs, eqv_nm, eqv_pr, hM.hm])); conv => whnf))
        refine ⟨_, ?_, fs ++ [pl], pl + 1, rfl, by rw [List.map_append]; rfl, ?_, ⟨by omega, by omega⟩, h3', fun z => ?_, rfl⟩
        · omega
        · rw [List.nodup_append]
          exact ⟨hnd, by simp, fun a ha b hb => by rw [List.mem_singleton.mp hb]; rintro rfl; exact hn ha⟩
        · rw [List.mem_append, List.mem_singleton, h4 z]
          constructor
          · rintro ((h | h) | h)
            · exact .inl h
            · exact .inr ⟨h.1, by omega⟩
            · exact .inr ⟨by omega, by omega⟩
          · rintro (h | h)
            · exact .inl (.inl h)
            · by_cases h8 : z = pl
              · exact .inr h8
              · exact .inl (.inr ⟨h.1, by omega⟩)
      · ((conv => whnf); repeat ((first | with_reducible refine ifTT ?_ | with_reducible refine ifFF ?_ | with_reducible refine ifnT ?_ | with_reducible refine ifnF ?_ | with_reducible refine ifTr ?_ | with_reducible refine ifFr ?_ | refine And.intro (by first | with_reducible rfl | with_reducible exact ⟨rfl, rfl⟩ | decide | omega | (dsimp only; decide) | (dsimp only; omega) | (unfold CDiv; omega) | (unfold CPow; decide) | (unfold CMul; omega) | (simp only [List.length_cons, List.length_nil]; omega)) ?_); conv => whnf))
        refine ⟨_, ?_, fs, pl + 1, rfl, rfl, hnd, ⟨by omega, by omega⟩, h3', fun z => ?_, rfl⟩
        · omega
        · rw [h4 z]
          constructor
          · rintro (h | h)
            · exact .inl h
            · exact .inr ⟨h.1, by omega⟩
          · rintro (h | h)
            · exact .inl h
            · by_cases h8 : z = pl
              · subst h8; exact (h4 z).mp hn
              · exact .inr ⟨h.1, by omega⟩
    refine ifD (fun hlt => ?_) (fun hge => ?_)
    · ((conv => whnf); repeat ((first | with_reducible refine ifTT ?_ | with_reducible refine ifFF ?_ | with_reducible refine ifnT ?_ | with_reducible refine ifnF ?_ | with_reducible refine ifTr ?_ | with_reducible refine ifFr ?_ | refine And.intro (by first | with_reducible rfl | with_reducible exact ⟨rfl, rfl⟩ | decide | omega | (dsimp only; decide) | (dsimp only; omega) | (unfold CDiv; omega) | (unfold CPow; decide) | (unfold CMul; omega) | (simp only [List.length_cons, List.length_nil]; omega)) ?_); conv => whnf))
      refine ifD (fun heq => ?_) (fun hne => ?_)
      · conv => whnf
        refine ifTT ?_
        exact body hlt (.inl heq)
      · have h9 : pl.toNat < M.written.length := by have := hok.len; omega
        have h10 := List.getElem?_eq_getElem h9
        ((conv => whnf); repeat ((first | with_reducible refine ifTT ?_ | with_reducible refine ifFF ?_ | with_reducible refine ifnT ?_ | with_reducible refine ifnF ?_ | with_reducible refine ifTr ?_ | with_reducible refine ifFr ?_ | (refine And.intro (by first | with_reducible rfl | with_reducible exact ⟨rfl, rfl⟩ | decide | omega | (dsimp only; decide) | (dsimp only; omega) | (unfold CDiv; omega) | (unfold CPow; decide) | (unfold CMul; omega) | (simp only [List.length_cons, List.length_nil]; omega) | (simp only [Option.isSome_some]; done) | (simp only [meth_ref, put_same', seqL_ref, hM.hm, hM.hb, put_ne f1, put_ne f3]; first | done | exact ⟨rfl, rfl⟩ | exact ⟨trivial, rfl⟩ | rfl)) ?_) | (simp (decide := true) only [put_same', put_put, decF, decT, Bool.not_true, Bool.not_false, putL_nil, putL_cons, if_true, if_false, seqR_ref, seqL_ref, lenL_ref, dicK_ref, dicT_ref, dat_ref, dat_non, dat_bl, dat_int, dat_str, dat_lst, dat_tup, datV_non, datV_bl, datV_int, datV_str, datV_lst, datV_tup, datVs_nil, datVs_cons, tyAt_ref, opt_some, Option.map_some, Option.bind_some, dv_ints, dv_bls, dv_nms, dv_prs, dv_nm, dt_nm, dt_pr, dv_pr, sh_int, sh_bl, sh_none, sh_nil, eqv_nil, sh_ints, sh_bls, sh_nm, sh_nms, sh_pr, sh_prs, anyI, anyN, anyP, eqv_int, eqv_bl, eqv_ints, eqv_bls, eqv_nms, eqv_prs, eqv_nm, eqv_pr, hM.hm, hM.hb, put_ne f1, put_ne f3])); conv => whnf))
        rw [atI_mem LV.bl (by omega) h10]
        conv => whnf
        refine ifB (fun hw => ?_) (fun hw => ?_)
        · exact body hlt (.inr (by rw [h10, hw]))
        · refine stop fun z => ⟨fun hz => ⟨hz.1, ?_⟩, fun hz => ⟨hz.1, by omega, fun y h5 h6 => h3 y h5 (by omega)⟩⟩
          by_cases h11 : z < pl
          · exact h11
          · exfalso
            have := hz.2.2 pl (by omega) (by omega)
            rw [h10, hw] at this
            cases this
    · conv => whnf
      refine ⟨fun q => (by first | exact q.elim | cases q), fun _ => ?_⟩
      refine stop fun z => ⟨fun hz => ⟨hz.1, by have := hz.2.1; omega⟩, fun hz => ⟨hz.1, by omega, fun y h5 h6 => h3 y h5 (by omega)⟩⟩
  · rintro σ s1 ⟨fs, ⟨v, w, rfl⟩, rfl, hnd, hm⟩
    ((conv => whnf); repeat ((first | with_reducible refine ifTT ?_ | with_reducible refine ifFF ?_ | with_reducible refine ifnT ?_ | with_reducible refine ifnF ?_ | with_reducible refine ifTr ?_ | with_reducible refine ifFr ?_ | (refine And.intro (by first | with_reducible rfl | with_reducible exact ⟨rfl, rfl⟩ | decide | omega | (dsimp only; decide) | (dsimp only; omega) | (unfold CDiv; omega) | (unfold CPow; decide) | (unfold CMul; omega) | (simp only [List.length_cons, List.length_nil]; omega) | (simp only [Option.isSome_some]; done) | (simp only [meth_ref, put_same', seqL_ref, intsOf_map]; first | done | exact ⟨rfl, rfl⟩ | exact ⟨trivial, rfl⟩ | rfl)) ?_) | (simp (decide := true) only [put_same', put_put, decF, decT, Bool.not_true, Bool.not_false, putL_nil, putL_cons, if_true, if_false, seqR_ref, seqL_ref, lenL_ref, dicK_ref, dicT_ref, dat_ref, dat_non, dat_bl, dat_int, dat_str, dat_lst, dat_tup, datV_non, datV_bl, datV_int, datV_str, datV_lst, datV_tup, datVs_nil, datVs_cons, tyAt_ref, opt_some, Option.map_some, Option.bind_some, dv_ints, dv_bls, dv_nms, dv_prs, dv_nm, dt_nm, dt_pr, dv_pr, sh_int, sh_bl, sh_none, sh_nil, eqv_nil, sh_ints, sh_bls, sh_nm, sh_nms, sh_pr, sh_prs, anyI, anyN, anyP, eqv_int, eqv_bl, eqv_ints, eqv_bls, eqv_nms, eqv_prs, eqv_nm, eqv_pr, intsOf_map])); conv => whnf))
    intro ns hperm hsort
    have hn : ns.Nodup := hperm.nodup_iff.mpr hnd
    have e : ns = pts := eq_sorted (lt_of_le_nodup hsort hn) hp.1 fun z => by rw [hperm.mem_iff, hm z, hp.2 z]
    rw [e]
    exact fin (sub_put hf) h
def usedD : Option Nm → PyData
  | none => .none
  | some n => nmD n
def evT (e : Ev) : LV := .tup [usedL e.used, .int e.state, .lst (e.sent.map pairL), .lst (e.said.map .int)]
def evD (e : Ev) : PyData := .tuple [usedD e.used, .int e.state, .list (e.sent.map pairD), .list (e.said.map .int)]
theorem dv_used (u : Option Nm) : datV (usedL u) = some (usedD u) := by
  cases u with
  | none => simp [usedL, usedD]
  | some n => exact dv_nm n
theorem eqv_used (u v : Option Nm) : PyData.eqv (usedD u) (usedD v) = true ↔ u = v := by
  cases u <;> cases v
  · simp [usedD, PyData.eqv]
  · simp [usedD, nmD, PyData.eqv]
  · simp [usedD, nmD, PyData.eqv]
  · simp only [usedD, eqv_nm, decide_eq_true_eq, Option.some.injEq]
instance : Cod Ev where
  enc := evT
  den := evD
  datV := fun e => by simp only [evT, datV_tup, datVs_cons, datVs_nil, dv_used, datV_int, datV_lst, dv_prs, dv_ints, Option.bind_some, Option.map_some, evD]
  can := fun e => by
    have h1 : (usedD e.used).canLay0 = true := by cases e.used <;> simp [usedD, nmD, PyData.canLay0, PyData.canLayAll0]
    have h2 : (PyData.list (e.sent.map pairD)).canLay0 = true := Cod.can (α := List (Int × Int)) e.sent
    have h3 : (PyData.list (e.said.map .int)).canLay0 = true := Cod.can (α := List Int) e.said
    simp only [evD, PyData.canLay0, PyData.canLayAll0, Bool.and_true] at *
    simp [h1, h2, h3]
  dep := 10
  hdep := fun e => by
    have h1 : (usedD e.used).depth ≤ 5 := by cases e.used <;> simp [usedD, nmD, PyData.depth, PyData.depthAll]
    have h2 : (PyData.list (e.sent.map pairD)).depth ≤ 5 := Nat.le_trans (Cod.hdep (α := List (Int × Int)) e.sent) (by decide)
    have h3 : (PyData.list (e.said.map .int)).depth ≤ 5 := Nat.le_trans (Cod.hdep (α := List Int) e.said) (by decide)
    simp only [evD, PyData.depth, PyData.depthAll] at *
    omega
  eqv := fun a b => by
    have h2 := eqv_prs a.sent b.sent
    have h3 := eqv_ints a.said b.said
    have h4 := eqv_int a.state b.state
    show PyData.eqv (.tuple [usedD a.used, .int a.state, .list (a.sent.map pairD), .list (a.said.map .int)]) (.tuple [usedD b.used, .int b.state, .list (b.sent.map pairD), .list (b.said.map .int)]) = true ↔ _
    rw [PyData.eqv, PyData.eqvAll, PyData.eqvAll, PyData.eqvAll, PyData.eqvAll, PyData.eqvAll, h2, h3, h4]
    cases a; cases b
    simp [eqv_used]
def evOf (c : Int) (k : Nat) : Ev :=
  let n := mixed c k
  { used := if n / 135 % 2 = 0 then none else some ⟨n % 5, n / 5 % 9, n / 45 % 3⟩,
    state := c / 2 ^ ((20 : Int) * k).toNat % (2 * 10 ^ (40 : Int).toNat - 1) - 10 ^ (40 : Int).toNat + 1,
    sent := (List.range (n / 1350 % 4).toNat).map fun j => (n / 270 % 5, n - (j : Nat)),
    said := [n / 7, 0 - n].take (n / 5400 % 3).toNat }
def spEv : LSp := fun vs s Q E => ∃ (c : Int) (k : Nat), vs = [.int c, .int k] ∧ Q (evT (evOf c k)) s
theorem ok_law_event (T : Txt K mg A D) : LFn P w K mg base 2 A.f_law_event D.d_law_event ["_law_cell", "_law_k"] spEv := by
  refine T.F_law_event.okL sc_law_event (fun vs s Q E ⟨_, _, h, _⟩ => by rw [h]; rfl) (fun cdv A' outer si H E hr => ⟨_, (lps_cons (lp_set (i := 2) sc_law_event.nd rfl (by first | exact Or.inl rfl | exact Or.inr rfl) (le_call (ok_law_mixed T) (hr.mono (by decide)) rfl T.m_law_mixed T.k_law_mixed T.q_law_mixed (la_cons (lv 0) (la_cons (lv 1) la_nil))))
    (lps_cons (lp_set (i := 3) sc_law_event.nd rfl (by first | exact Or.inl rfl | exact Or.inr rfl) (le_item (hu_of hr) (le_fz (ll_disp (la_cons le_non (la_cons (le_tup (la_cons (le_mod (lv 2) le_int) (la_cons (le_mod (le_div (lv 2) le_int) le_int) (la_cons (le_mod (le_div (lv 2) le_int) le_int) la_nil)))) la_nil)))) (le_mod (le_div (lv 2) le_int) le_int)))
    (lps_cons (lp_set (i := 4) sc_law_event.nd rfl (by first | exact Or.inl rfl | exact Or.inr rfl) (le_add (le_sub (le_mod (le_shr (lv 0) (le_mul le_int (lv 1))) (le_sub (le_mul le_int (le_pow le_int le_int)) le_int)) (le_pow le_int le_int)) le_int))
    (lps_cons (lp_setLcF (i := 5) rfl sc_law_event.nd rfl rfl (own := [("_law_j", 6)]) (g := CTg.one 6) (li_range1 rfl T.b_range (la_cons (le_mod (le_div (lv 2) le_int) le_int) la_nil)) (blkOk_by (N := ["_law_cell", "_law_k", "_law_number", "_law_used", "_law_state", "_law_sent", "_law_j"]) (sc := defScope s_law_event) (by decide +kernel)) (by decide) (fun _ _ _ _ _ => pg_name (i := 6) sc_law_event.nd rfl (Or.inl rfl)) (fun _ _ _ _ _ => lts_nil) (fun _ _ _ _ _ => (le_tup (la_cons (le_mod (le_div (lv 2) le_int) le_int) (la_cons (le_sub (lv 2) (lv 6)) la_nil)))) (sw_true rfl rfl rfl (by decide)))
    (lps_one (lp_ret (le_tup (la_cons (lv 3) (la_cons (lv 4) (la_cons (lv 5) (la_cons (le_fz (ll_slice (le_fz (ll_disp (la_cons (le_div (lv 2) le_int) (la_cons (le_sub le_int (lv 2)) la_nil)))) lo_none (lo_some (le_mod (le_div (lv 2) le_int) le_int)))) la_nil))))))))))), fun vs s Q E h => ?_⟩)
  obtain ⟨c, k, rfl, h⟩ := h
  ((conv => whnf); repeat ((first | with_reducible refine ifTT ?_ | with_reducible refine ifFF ?_ | with_reducible refine ifnT ?_ | with_reducible refine ifnF ?_ | with_reducible refine ifTr ?_ | with_reducible refine ifFr ?_ | refine And.intro (by first | with_reducible rfl | with_reducible exact ⟨rfl, rfl⟩ | decide | omega | (dsimp only; decide) | (dsimp only; omega) | (unfold CDiv; omega) | (unfold CPow; decide) | (unfold CMul; omega) | (simp only [List.length_cons, List.length_nil]; omega)) ?_); conv => whnf))
  refine ⟨c, k, rfl, ?_⟩
  unfold evOf at h
  dsimp only at h
  revert h
  generalize mixed c k = n
  intro h
  ((conv => whnf); repeat ((first | with_reducible refine ifTT ?_ | with_reducible refine ifFF ?_ | with_reducible refine ifnT ?_ | with_reducible refine ifnF ?_ | with_reducible refine ifTr ?_ | with_reducible refine ifFr ?_ | refine And.intro (by first | with_reducible rfl | with_reducible exact ⟨rfl, rfl⟩ | decide | omega | (dsimp only; decide) | (dsimp only; omega) | (unfold CDiv; omega) | (unfold CPow; decide) | (unfold CMul; omega) | (simp only [List.length_cons, List.length_nil]; omega)) ?_); conv => whnf))
  -- the list of letters, and the end
  have tail : ∀ u : Option Nm, u = (if n / 135 % 2 = 0 then none else some ⟨n % 5, n / 5 % 9, n / 45 % 3⟩) →
      (∃ y s2, Frz (.tup [usedL u, .int (c / 2 ^ ((20 : Int) * k).toNat % (2 * 10 ^ (40 : Int).toNat - 1) - 10 ^ (40 : Int).toNat + 1), .lst (((List.range (n / 1350 % 4).toNat).map fun j : Nat => (n / 270 % 5, n - (j : Nat))).map pairL), .lst (([n / 7, 0 - n].take (n / 5400 % 3).toNat).map .int)]) s y s2 ∧ Q y s2) := fun u hu => by
    subst hu
    exact fin (.refl _) h
  have hc : n / 135 % 2 = 0 ∨ n / 135 % 2 = 1 := by omega
  have hr : (0 : Int) ≤ n / 1350 % 4 ∧ n / 1350 % 4 < 4 := by omega
  have hk : ∃ kk : Nat, kk ≤ 2 ∧ n / 5400 % 3 = kk := ⟨(n / 5400 % 3).toNat, by omega, by omega⟩
  obtain ⟨kk, hk2, hk⟩ := hk
  rcases hc with e | e <;> rw [e]
  · have tail := tail none (by rw [if_pos e])
    ((conv => whnf); repeat ((first | with_reducible refine ifTT ?_ | with_reducible refine ifFF ?_ | with_reducible refine ifnT ?_ | with_reducible refine ifnF ?_ | with_reducible refine ifTr ?_ | with_reducible refine ifFr ?_ | refine And.intro (by first | with_reducible rfl | with_reducible exact ⟨rfl, rfl⟩ | decide | omega | (dsimp only; decide) | (dsimp only; omega) | (unfold CDiv; omega) | (unfold CPow; decide) | (unfold CMul; omega) | (simp only [List.length_cons, List.length_nil]; omega)) ?_); conv => whnf))
    refine fun Da hD => lc_map1 (α := Nat) (enc := fun i => LV.int (0 + (i : Nat))) hD (fun j => pairL (n / 270 % 5, n - (j : Nat))) (fun _ _ => trivial) (by rw [List.length_range]; omega) ?_ ?_
    · intro x _ s' Y _ hY
      ((conv => whnf); repeat ((first | with_reducible refine ifTT ?_ | with_reducible refine ifFF ?_ | with_reducible refine ifnT ?_ | with_reducible refine ifnF ?_ | with_reducible refine ifTr ?_ | with_reducible refine ifFr ?_ | refine And.intro (by first | with_reducible rfl | with_reducible exact ⟨rfl, rfl⟩ | decide | omega | (dsimp only; decide) | (dsimp only; omega) | (unfold CDiv; omega) | (unfold CPow; decide) | (unfold CMul; omega) | (simp only [List.length_cons, List.length_nil]; omega)) ?_); conv => whnf))
      simpa [pairL] using hY
    · ((conv => whnf); repeat ((first | with_reducible refine ifTT ?_ | with_reducible refine ifFF ?_ | with_reducible refine ifnT ?_ | with_reducible refine ifnF ?_ | with_reducible refine ifTr ?_ | with_reducible refine ifFr ?_ | refine And.intro (by first | with_reducible rfl | with_reducible exact ⟨rfl, rfl⟩ | decide | omega | (dsimp only; decide) | (dsimp only; omega) | (unfold CDiv; omega) | (unfold CPow; decide) | (unfold CMul; omega) | (simp only [List.length_cons, List.length_nil]; omega)) ?_); conv => whnf))
      rw [hk, cutL_to]
      ((conv => whnf); repeat ((first | with_reducible refine ifTT ?_ | with_reducible refine ifFF ?_ | with_reducible refine ifnT ?_ | with_reducible refine ifnF ?_ | with_reducible refine ifTr ?_ | with_reducible refine ifFr ?_ | refine And.intro (by first | with_reducible rfl | with_reducible exact ⟨rfl, rfl⟩ | decide | omega | (dsimp only; decide) | (dsimp only; omega) | (unfold CDiv; omega) | (unfold CPow; decide) | (unfold CMul; omega) | (simp only [List.length_cons, List.length_nil]; omega)) ?_); conv => whnf))
      rw [hk, Int.toNat_natCast] at tail
      simpa [List.map_map, Function.comp_def, usedL, nmL] using tail
  · have tail := tail (some ⟨n % 5, n / 5 % 9, n / 45 % 3⟩) (by rw [if_neg (by omega)])
    ((conv => whnf); repeat ((first | with_reducible refine ifTT ?_ | with_reducible refine ifFF ?_ | with_reducible refine ifnT ?_ | with_reducible refine ifnF ?_ | with_reducible refine ifTr ?_ | with_reducible refine ifFr ?_ | refine And.intro (by first | with_reducible rfl | with_reducible exact ⟨rfl, rfl⟩ | decide | omega | (dsimp only; decide) | (dsimp only; omega) | (unfold CDiv; omega) | (unfold CPow; decide) | (unfold CMul; omega) | (simp only [List.length_cons, List.length_nil]; omega)) ?_); conv => whnf))
    refine fun Da hD => lc_map1 (α := Nat) (enc := fun i => LV.int (0 + (i : Nat))) hD (fun j => pairL (n / 270 % 5, n - (j : Nat))) (fun _ _ => trivial) (by rw [List.length_range]; omega) ?_ ?_
    · intro x _ s' Y _ hY
      ((conv => whnf); repeat ((first | with_reducible refine ifTT ?_ | with_reducible refine ifFF ?_ | with_reducible refine ifnT ?_ | with_reducible refine ifnF ?_ | with_reducible refine ifTr ?_ | with_reducible refine ifFr ?_ | refine And.intro (by first | with_reducible rfl | with_reducible exact ⟨rfl, rfl⟩ | decide | omega | (dsimp only; decide) | (dsimp only; omega) | (unfold CDiv; omega) | (unfold CPow; decide) | (unfold CMul; omega) | (simp only [List.length_cons, List.length_nil]; omega)) ?_); conv => whnf))
      simpa [pairL] using hY
    · ((conv => whnf); repeat ((first | with_reducible refine ifTT ?_ | with_reducible refine ifFF ?_ | with_reducible refine ifnT ?_ | with_reducible refine ifnF ?_ | with_reducible refine ifTr ?_ | with_reducible refine ifFr ?_ | refine And.intro (by first | with_reducible rfl | with_reducible exact ⟨rfl, rfl⟩ | decide | omega | (dsimp only; decide) | (dsimp only; omega) | (unfold CDiv; omega) | (unfold CPow; decide) | (unfold CMul; omega) | (simp only [List.length_cons, List.length_nil]; omega)) ?_); conv => whnf))
      rw [hk, cutL_to]
      ((conv => whnf); repeat ((first | with_reducible refine ifTT ?_ | with_reducible refine ifFF ?_ | with_reducible refine ifnT ?_ | with_reducible refine ifnF ?_ | with_reducible refine ifTr ?_ | with_reducible refine ifFr ?_ | refine And.intro (by first | with_reducible rfl | with_reducible exact ⟨rfl, rfl⟩ | decide | omega | (dsimp only; decide) | (dsimp only; omega) | (unfold CDiv; omega) | (unfold CPow; decide) | (unfold CMul; omega) | (simp only [List.length_cons, List.length_nil]; omega)) ?_); conv => whnf))
      rw [hk, Int.toNat_natCast] at tail
      simpa [List.map_map, Function.comp_def, usedL, nmL] using tail
def spWhole : LSp := fun vs s Q E => ∃ n, vs = [.int n] ∧ Q (.bl true) s
theorem ok_law_whole (T : Txt K mg A D) : LFn P w K mg base 1 A.f_law_whole D.d_law_whole ["_law_found"] spWhole := by
  refine T.F_law_whole.okL sc_law_whole (fun vs s Q E ⟨_, h, _⟩ => by rw [h]; rfl) (fun cdv A' outer si H E hr => ⟨_, (lps_one (lp_ret (le_and (le_isi rfl T.b_isinstance (la_cons (lv 0) (la_cons (le_bty (n := "int") rfl T.b_int (by decide +kernel)) la_nil))) (le_one (le_not (le_isi rfl T.b_isinstance (la_cons (lv 0) (la_cons (le_bty (n := "bool") rfl T.b_bool (by decide +kernel)) la_nil)))))))), fun vs s Q E h => ?_⟩)
  obtain ⟨n, rfl, h⟩ := h
  ((conv => whnf); repeat ((first | with_reducible refine ifTT ?_ | with_reducible refine ifFF ?_ | with_reducible refine ifnT ?_ | with_reducible refine ifnF ?_ | with_reducible refine ifTr ?_ | with_reducible refine ifFr ?_ | refine And.intro (by first | with_reducible rfl | with_reducible exact ⟨rfl, rfl⟩ | decide | omega | (dsimp only; decide) | (dsimp only; omega) | (unfold CDiv; omega) | (unfold CPow; decide) | (unfold CMul; omega) | (simp only [List.length_cons, List.length_nil]; omega)) ?_); conv => whnf))
  refine ⟨fun _ q => (by cases q), true, T.kt_int_int, ?_⟩
  ((conv => whnf); repeat ((first | with_reducible refine ifTT ?_ | with_reducible refine ifFF ?_ | with_reducible refine ifnT ?_ | with_reducible refine ifnF ?_ | with_reducible refine ifTr ?_ | with_reducible refine ifFr ?_ | refine And.intro (by first | with_reducible rfl | with_reducible exact ⟨rfl, rfl⟩ | decide | omega | (dsimp only; decide) | (dsimp only; omega) | (unfold CDiv; omega) | (unfold CPow; decide) | (unfold CMul; omega) | (simp only [List.length_cons, List.length_nil]; omega)) ?_); conv => whnf))
  refine ⟨fun _ q => (by cases q), false, T.kt_int_bool, ?_⟩
  ((conv => whnf); repeat ((first | with_reducible refine ifTT ?_ | with_reducible refine ifFF ?_ | with_reducible refine ifnT ?_ | with_reducible refine ifnF ?_ | with_reducible refine ifTr ?_ | with_reducible refine ifFr ?_ | refine And.intro (by first | with_reducible rfl | with_reducible exact ⟨rfl, rfl⟩ | decide | omega | (dsimp only; decide) | (dsimp only; omega) | (unfold CDiv; omega) | (unfold CPow; decide) | (unfold CMul; omega) | (simp only [List.length_cons, List.length_nil]; omega)) ?_); conv => whnf))
  exact fin (.refl _) h
def spRefused (A : Ad) : LSp := fun vs s Q E => ∃ x t d w p, vs = [.ref x, .int p] ∧ IsTh A s x t d w ∧ t.Ok ∧ t.done.length < 16777215 ∧ ¬ t.has p ∧ Q (.bl true) s
theorem ok_law_refused (T : Txt K mg A D) : LFn P w K mg base 4 A.f_law_refused D.d_law_refused ["_law_thread", "_law_place"] (spRefused A) := by
  refine T.F_law_refused.okL sc_law_refused (fun vs s Q E ⟨_, _, _, _, _, h, _⟩ => by rw [h]; rfl) (fun cdv A' outer si H E hr => ⟨_, (lps_cons (lp_try_as (i := 2) rfl rfl sc_law_refused.nd rfl rfl ⟨rfl, by decide, .inl T.x_WeaveError.gP⟩ (fun pn xe => (lps_one (lp_expr (le_meth (lv 0) T.cl_Thread T.mt_Thread_state_at (ok_Thread_state_at T) (hr.mono (by decide)) T.q_Thread_state_at (la_cons (lv 1) la_nil))))) (fun a_ oe C_ pn hz hv => (lps_cons (lp_set (i := 3) sc_law_refused.nd rfl (by first | exact Or.inl rfl | exact Or.inr rfl) (le_or (le_isE hz hv rfl T.b_isinstance (la_cons (lv 2) (la_cons (le_glob rfl T.x_NoSize.gP) la_nil))) (le_or (le_isE hz hv rfl T.b_isinstance (la_cons (lv 2) (la_cons (le_glob rfl T.x_NoHand.gP) la_nil))) (le_or (le_isE hz hv rfl T.b_isinstance (la_cons (lv 2) (la_cons (le_glob rfl T.x_NoLetter.gP) la_nil))) (le_one (le_isE hz hv rfl T.b_isinstance (la_cons (lv 2) (la_cons (le_glob rfl T.x_NoText.gP) la_nil))))))))
    (lps_one (lp_ret (le_and (le_isE hz hv rfl T.b_isinstance (la_cons (lv 2) (la_cons (le_glob rfl T.x_NoPoint.gP) la_nil))) (le_and (le_isE hz hv rfl T.b_isinstance (la_cons (lv 2) (la_cons (le_bty (n := "ValueError") rfl T.b_ValueError (by decide +kernel)) la_nil))) (le_one (le_not (lv 3))))))))))
    (lps_one (lp_ret le_bl))), fun vs s Q E h => ?_⟩)
  obtain ⟨x, t, d, w, p, rfl, ht, hok, hsm, hp, h⟩ := h
  ((conv => whnf); repeat ((first | with_reducible refine ifTT ?_ | with_reducible refine ifFF ?_ | with_reducible refine ifnT ?_ | with_reducible refine ifnF ?_ | with_reducible refine ifTr ?_ | with_reducible refine ifFr ?_ | (refine And.intro (by first | with_reducible rfl | with_reducible exact ⟨rfl, rfl⟩ | decide | omega | (dsimp only; decide) | (dsimp only; omega) | (unfold CDiv; omega) | (unfold CPow; decide) | (unfold CMul; omega) | (simp only [List.length_cons, List.length_nil]; omega) | (simp only [Option.isSome_some]; done) | (simp only [meth_ref, put_same', seqL_ref, ht.hx, thF]; first | done | exact ⟨rfl, rfl⟩ | exact ⟨trivial, rfl⟩ | rfl)) ?_) | (simp (decide := true) only [put_same', put_put, decF, decT, Bool.not_true, Bool.not_false, putL_nil, putL_cons, if_true, if_false, seqR_ref, seqL_ref, lenL_ref, dicK_ref, dicT_ref, dat_ref, dat_non, dat_bl, dat_int, dat_str, dat_lst, dat_tup, datV_non, datV_bl, datV_int, datV_str, datV_lst, datV_tup, datVs_nil, datVs_cons, tyAt_ref, opt_some, Option.map_some, Option.bind_some, dv_ints, dv_bls, dv_nms, dv_prs, dv_nm, dt_nm, dt_pr, dv_pr, sh_int, sh_bl, sh_none, sh_nil, eqv_nil, sh_ints, sh_bls, sh_nm, sh_nms, sh_pr, sh_prs, anyI, anyN, anyP, eqv_int, eqv_bl, eqv_ints, eqv_bls, eqv_nms, eqv_prs, eqv_nm, eqv_pr, ht.hx, thF])); conv => whnf))
  refine ⟨x, t, d, w, p, rfl, ht, hok, hsm, fun q => absurd q hp, fun _ => ?_⟩
  refine ⟨true, T.xm_NoPoint_WeaveError, fun _ => ?_, fun q => by cases q⟩
  intro a
  ((conv => whnf); repeat ((first | with_reducible refine ifTT ?_ | with_reducible refine ifFF ?_ | with_reducible refine ifnT ?_ | with_reducible refine ifnF ?_ | with_reducible refine ifTr ?_ | with_reducible refine ifFr ?_ | refine And.intro (by first | with_reducible rfl | with_reducible exact ⟨rfl, rfl⟩ | decide | omega | (dsimp only; decide) | (dsimp only; omega) | (unfold CDiv; omega) | (unfold CPow; decide) | (unfold CMul; omega) | (simp only [List.length_cons, List.length_nil]; omega)) ?_); conv => whnf))
  refine ⟨T.e_NoPoint, ?_⟩
  conv => whnf
  refine ⟨false, T.kt_NoPoint_NoSize, ?_⟩
  ((conv => whnf); repeat ((first | with_reducible refine ifTT ?_ | with_reducible refine ifFF ?_ | with_reducible refine ifnT ?_ | with_reducible refine ifnF ?_ | with_reducible refine ifTr ?_ | with_reducible refine ifFr ?_ | refine And.intro (by first | with_reducible rfl | with_reducible exact ⟨rfl, rfl⟩ | decide | omega | (dsimp only; decide) | (dsimp only; omega) | (unfold CDiv; omega) | (unfold CPow; decide) | (unfold CMul; omega) | (simp only [List.length_cons, List.length_nil]; omega)) ?_); conv => whnf))
  refine ⟨T.e_NoPoint, ?_⟩
  conv => whnf
  refine ⟨false, T.kt_NoPoint_NoHand, ?_⟩
  ((conv => whnf); repeat ((first | with_reducible refine ifTT ?_ | with_reducible refine ifFF ?_ | with_reducible refine ifnT ?_ | with_reducible refine ifnF ?_ | with_reducible refine ifTr ?_ | with_reducible refine ifFr ?_ | refine And.intro (by first | with_reducible rfl | with_reducible exact ⟨rfl, rfl⟩ | decide | omega | (dsimp only; decide) | (dsimp only; omega) | (unfold CDiv; omega) | (unfold CPow; decide) | (unfold CMul; omega) | (simp only [List.length_cons, List.length_nil]; omega)) ?_); conv => whnf))
  refine ⟨T.e_NoPoint, ?_⟩
  conv => whnf
  refine ⟨false, T.kt_NoPoint_NoLetter, ?_⟩
  ((conv => whnf); repeat ((first | with_reducible refine ifTT ?_ | with_reducible refine ifFF ?_ | with_reducible refine ifnT ?_ | with_reducible refine ifnF ?_ | with_reducible refine ifTr ?_ | with_reducible refine ifFr ?_ | refine And.intro (by first | with_reducible rfl | with_reducible exact ⟨rfl, rfl⟩ | decide | omega | (dsimp only; decide) | (dsimp only; omega) | (unfold CDiv; omega) | (unfold CPow; decide) | (unfold CMul; omega) | (simp only [List.length_cons, List.length_nil]; omega)) ?_); conv => whnf))
  refine ⟨T.e_NoPoint, ?_⟩
  conv => whnf
  refine ⟨false, T.kt_NoPoint_NoText, ?_⟩
  ((conv => whnf); repeat ((first | with_reducible refine ifTT ?_ | with_reducible refine ifFF ?_ | with_reducible refine ifnT ?_ | with_reducible refine ifnF ?_ | with_reducible refine ifTr ?_ | with_reducible refine ifFr ?_ | refine And.intro (by first | with_reducible rfl | with_reducible exact ⟨rfl, rfl⟩ | decide | omega | (dsimp only; decide) | (dsimp only; omega) | (unfold CDiv; omega) | (unfold CPow; decide) | (unfold CMul; omega) | (simp only [List.length_cons, List.length_nil]; omega)) ?_); conv => whnf))
  refine ⟨T.e_NoPoint, ?_⟩
  conv => whnf
  refine ⟨true, T.kt_NoPoint_NoPoint, ?_⟩
  ((conv => whnf); repeat ((first | with_reducible refine ifTT ?_ | with_reducible refine ifFF ?_ | with_reducible refine ifnT ?_ | with_reducible refine ifnF ?_ | with_reducible refine ifTr ?_ | with_reducible refine ifFr ?_ | refine And.intro (by first | with_reducible rfl | with_reducible exact ⟨rfl, rfl⟩ | decide | omega | (dsimp only; decide) | (dsimp only; omega) | (unfold CDiv; omega) | (unfold CPow; decide) | (unfold CMul; omega) | (simp only [List.length_cons, List.length_nil]; omega)) ?_); conv => whnf))
  refine ⟨T.e_NoPoint, ?_⟩
  conv => whnf
  refine ⟨true, T.kt_NoPoint_ValueError, ?_⟩
  ((conv => whnf); repeat ((first | with_reducible refine ifTT ?_ | with_reducible refine ifFF ?_ | with_reducible refine ifnT ?_ | with_reducible refine ifnF ?_ | with_reducible refine ifTr ?_ | with_reducible refine ifFr ?_ | refine And.intro (by first | with_reducible rfl | with_reducible exact ⟨rfl, rfl⟩ | decide | omega | (dsimp only; decide) | (dsimp only; omega) | (unfold CDiv; omega) | (unfold CPow; decide) | (unfold CMul; omega) | (simp only [List.length_cons, List.length_nil]; omega)) ?_); conv => whnf))
  exact fin (.refl _) h
structure Good (t : Th) (M : Md) : Prop where
  th : t.Ok
  md : M.Ok
  st : M.states = t.states
  pts : Pts M t.points
theorem Good.len {t : Th} {M : Md} (g : Good t M) : (M.states.length : Int) = t.here + 1 := by
  rw [g.st]; unfold Th.states Th.here; simp
theorem Good.small {t : Th} {M : Md} (g : Good t M) : t.done.length < 16777215 := by
  have h1 := g.md.small
  have h2 := g.len
  unfold Th.here at h2
  omega
theorem Good.ptl {t : Th} {M : Md} (g : Good t M) : t.points.length ≤ 16777216 := by
  have h1 := g.small
  have h2 := nodup_len (t.done.length + 1) t.points (g.pts.1.imp fun h => by omega) (fun q hq => by have := g.th.pt hq; unfold Th.here at this; omega)
  omega
def spSR (A : Ad) : LSp := fun vs s Q E => ∃ x t d w m M a b c p, vs = [.ref x, .ref m, .lst (t.points.map .int)] ∧ IsTh A s x t d w ∧ IsMd s m M a b c p ∧ Good t M ∧ Q (.bl true) s
theorem ok_law_states_right (T : Txt K mg A D) : LFn P w K mg base 5 A.f_law_states_right D.d_law_states_right ["_law_thread", "_law_model", "_law_due"] (spSR A) := by
  refine T.F_law_states_right.okL sc_law_states_right (fun vs s Q E ⟨_, _, _, _, _, _, _, _, _, _, h, _⟩ => by rw [h]; rfl) (fun cdv A' outer si H E hr => ⟨_, (lps_cons (lp_set (i := 3) sc_law_states_right.nd rfl (by first | exact Or.inl rfl | exact Or.inr rfl) (le_sub (le_len rfl T.b_len (la_cons (le_item (hu_of hr) (lv 1) le_str) la_nil)) le_int))
    (lps_cons (lp_for rfl (li_range2 rfl T.b_range (la_cons (le_neg le_int) (la_cons (le_add (lv 3) le_int) la_nil))) (lg_name (i := 4) sc_law_states_right.nd rfl (by first | exact Or.inl rfl | exact Or.inr rfl)) (lps_one (lp_if (lt_cut (LW.lt (lw_or (lt_inV (hu65 hr) (lv 4) (lv 2) (by rfl)) (lw_or1 (lt_eq (lv 4) (lv 3)))))) (lps_one (lp_if (lt_ne (le_meth (lv 0) T.cl_Thread T.mt_Thread_state_at (ok_Thread_state_at T) (hr.mono (by decide)) T.q_Thread_state_at (la_cons (lv 4) la_nil)) (le_item (hu_of hr) (le_item (hu_of hr) (lv 1) le_str) (lv 4))) (lps_one (lp_ret le_bl)) lps_nil)) (lps_one (lp_if (lt_not (lt_val (le_call (ok_law_refused T) (hr.mono (by decide)) rfl T.m_law_refused T.k_law_refused T.q_law_refused (la_cons (lv 0) (la_cons (lv 4) la_nil))))) (lps_one (lp_ret le_bl)) lps_nil)))))
    (lps_one (lp_ret le_bl)))), fun vs s Q E h => ?_⟩)
  obtain ⟨x, t, d, w, m, M, a, b, c, p, rfl, ht, hM, hg, h⟩ := h
  have el : ((List.map LV.int M.states).length : Int) - 1 = t.here := by rw [List.length_map, hg.len]; omega
  have h0 : (0 : Int) ≤ t.here := by unfold Th.here; omega
  have hsm : t.here < 16777215 := by have := hg.small; unfold Th.here; omega
  ((conv => whnf); repeat ((first | with_reducible refine ifTT ?_ | with_reducible refine ifFF ?_ | with_reducible refine ifnT ?_ | with_reducible refine ifnF ?_ | with_reducible refine ifTr ?_ | with_reducible refine ifFr ?_ | (refine And.intro (by first | with_reducible rfl | with_reducible exact ⟨rfl, rfl⟩ | decide | omega | (dsimp only; decide) | (dsimp only; omega) | (unfold CDiv; omega) | (unfold CPow; decide) | (unfold CMul; omega) | (simp only [List.length_cons, List.length_nil]; omega) | (simp only [Option.isSome_some]; done) | (simp only [meth_ref, put_same', seqL_ref, hM.hm, hM.ha]; first | done | exact ⟨rfl, rfl⟩ | exact ⟨trivial, rfl⟩ | rfl)) ?_) | (simp (decide := true) only [put_same', put_put, decF, decT, Bool.not_true, Bool.not_false, putL_nil, putL_cons, if_true, if_false, seqR_ref, seqL_ref, lenL_ref, dicK_ref, dicT_ref, dat_ref, dat_non, dat_bl, dat_int, dat_str, dat_lst, dat_tup, datV_non, datV_bl, datV_int, datV_str, datV_lst, datV_tup, datVs_nil, datVs_cons, tyAt_ref, opt_some, Option.map_some, Option.bind_some, dv_ints, dv_bls, dv_nms, dv_prs, dv_nm, dt_nm, dt_pr, dv_pr, sh_int, sh_bl, sh_none, sh_nil, eqv_nil, sh_ints, sh_bls, sh_nm, sh_nms, sh_pr, sh_prs, anyI, anyN, anyP, eqv_int, eqv_bl, eqv_ints, eqv_bls, eqv_nms, eqv_prs, eqv_nm, eqv_pr, hM.hm, hM.ha])); conv => whnf))
  rw [el]
  ((conv => whnf); repeat ((first | with_reducible refine ifTT ?_ | with_reducible refine ifFF ?_ | with_reducible refine ifnT ?_ | with_reducible refine ifnF ?_ | with_reducible refine ifTr ?_ | with_reducible refine ifFr ?_ | refine And.intro (by first | with_reducible rfl | with_reducible exact ⟨rfl, rfl⟩ | decide | omega | (dsimp only; decide) | (dsimp only; omega) | (unfold CDiv; omega) | (unfold CPow; decide) | (unfold CMul; omega) | (simp only [List.length_cons, List.length_nil]; omega)) ?_); conv => whnf))
  refine lLoop_rg (fun _ σ s' => s' = s ∧ ∃ v, σ = [some (.ref x), some (.ref m), some (.lst (t.points.map .int)), some (.int t.here), v]) ⟨rfl, _, rfl⟩ (fun _ _ _ _ => trivial) ?_ ?_
  · rintro i σ s' N hi ⟨rfl, v, rfl⟩ hN
    have hN := fun v => hN _ _ ⟨rfl, v, rfl⟩
    generalize ((-1 : Int) + (i : Nat)) = pl at hN ⊢
    conv => whnf
    refine ⟨decide (t.has pl), ?_, ?_⟩
    · ((conv => whnf); repeat ((first | with_reducible refine ifTT ?_ | with_reducible refine ifFF ?_ | with_reducible refine ifnT ?_ | with_reducible refine ifnF ?_ | with_reducible refine ifTr ?_ | with_reducible refine ifFr ?_ | (refine And.intro (by first | with_reducible rfl | with_reducible exact ⟨rfl, rfl⟩ | decide | omega | (dsimp only; decide) | (dsimp only; omega) | (unfold CDiv; omega) | (unfold CPow; decide) | (unfold CMul; omega) | (simp only [List.length_cons, List.length_nil]; omega) | (simp only [Option.isSome_some]; done) | (simp only [meth_ref, put_same', seqL_ref, hM.hm]; first | done | exact ⟨rfl, rfl⟩ | exact ⟨trivial, rfl⟩ | rfl)) ?_) | (simp (decide := true) only [put_same', put_put, decF, decT, Bool.not_true, Bool.not_false, putL_nil, putL_cons, if_true, if_false, seqR_ref, seqL_ref, lenL_ref, dicK_ref, dicT_ref, dat_ref, dat_non, dat_bl, dat_int, dat_str, dat_lst, dat_tup, datV_non, datV_bl, datV_int, datV_str, datV_lst, datV_tup, datVs_nil, datVs_cons, tyAt_ref, opt_some, Option.map_some, Option.bind_some, dv_ints, dv_bls, dv_nms, dv_prs, dv_nm, dt_nm, dt_pr, dv_pr, sh_int, sh_bl, sh_none, sh_nil, eqv_nil, sh_ints, sh_bls, sh_nm, sh_nms, sh_pr, sh_prs, anyI, anyN, anyP, eqv_int, eqv_bl, eqv_ints, eqv_bls, eqv_nms, eqv_prs, eqv_nm, eqv_pr, hM.hm])); conv => whnf))
      refine ifDX (fun hp => ?_) (fun hp => ?_)
      · ((conv => whnf); repeat ((first | with_reducible refine ifTT ?_ | with_reducible refine ifFF ?_ | with_reducible refine ifnT ?_ | with_reducible refine ifnF ?_ | with_reducible refine ifTr ?_ | with_reducible refine ifFr ?_ | refine And.intro (by first | with_reducible rfl | with_reducible exact ⟨rfl, rfl⟩ | decide | omega | (dsimp only; decide) | (dsimp only; omega) | (unfold CDiv; omega) | (unfold CPow; decide) | (unfold CMul; omega) | (simp only [List.length_cons, List.length_nil]; omega)) ?_); conv => whnf))
        exact ⟨by simp [Th.has, hp], by first | rfl | trivial⟩
      · ((conv => whnf); repeat ((first | with_reducible refine ifTT ?_ | with_reducible refine ifFF ?_ | with_reducible refine ifnT ?_ | with_reducible refine ifnF ?_ | with_reducible refine ifTr ?_ | with_reducible refine ifFr ?_ | refine And.intro (by first | with_reducible rfl | with_reducible exact ⟨rfl, rfl⟩ | decide | omega | (dsimp only; decide) | (dsimp only; omega) | (unfold CDiv; omega) | (unfold CPow; decide) | (unfold CMul; omega) | (simp only [List.length_cons, List.length_nil]; omega)) ?_); conv => whnf))
        exact ⟨by simp [Th.has, hp], by first | rfl | trivial⟩
    · refine ifD (fun hp => ?_) (fun hp => ?_)
      · have h1 : 0 ≤ pl ∧ pl ≤ t.here := by
          rcases hp with rfl | hp
          · exact ⟨h0, Int.le_refl _⟩
          · exact hg.th.pt hp
        have h2 : pl.toNat < M.states.length := by have := hg.len; omega
        have h3 := List.getElem?_eq_getElem h2
        ((conv => whnf); repeat ((first | with_reducible refine ifTT ?_ | with_reducible refine ifFF ?_ | with_reducible refine ifnT ?_ | with_reducible refine ifnF ?_ | with_reducible refine ifTr ?_ | with_reducible refine ifFr ?_ | (refine And.intro (by first | with_reducible rfl | with_reducible exact ⟨rfl, rfl⟩ | decide | omega | (dsimp only; decide) | (dsimp only; omega) | (unfold CDiv; omega) | (unfold CPow; decide) | (unfold CMul; omega) | (simp only [List.length_cons, List.length_nil]; omega) | (simp only [Option.isSome_some]; done) | (simp only [meth_ref, put_same', seqL_ref, ht.hx, thF]; first | done | exact ⟨rfl, rfl⟩ | exact ⟨trivial, rfl⟩ | rfl)) ?_) | (simp (decide := true) only [put_same', put_put, decF, decT, Bool.not_true, Bool.not_false, putL_nil, putL_cons, if_true, if_false, seqR_ref, seqL_ref, lenL_ref, dicK_ref, dicT_ref, dat_ref, dat_non, dat_bl, dat_int, dat_str, dat_lst, dat_tup, datV_non, datV_bl, datV_int, datV_str, datV_lst, datV_tup, datVs_nil, datVs_cons, tyAt_ref, opt_some, Option.map_some, Option.bind_some, dv_ints, dv_bls, dv_nms, dv_prs, dv_nm, dt_nm, dt_pr, dv_pr, sh_int, sh_bl, sh_none, sh_nil, eqv_nil, sh_ints, sh_bls, sh_nm, sh_nms, sh_pr, sh_prs, anyI, anyN, anyP, eqv_int, eqv_bl, eqv_ints, eqv_bls, eqv_nms, eqv_prs, eqv_nm, eqv_pr, ht.hx, thF])); conv => whnf))
        refine ⟨x, t, d, w, pl, rfl, ht, hg.th, hg.small, fun _ n hn _ => ?_, fun q => absurd hp q⟩
        rw [← hg.st, h3] at hn
        cases hn
        ((conv => whnf); repeat ((first | with_reducible refine ifTT ?_ | with_reducible refine ifFF ?_ | with_reducible refine ifnT ?_ | with_reducible refine ifnF ?_ | with_reducible refine ifTr ?_ | with_reducible refine ifFr ?_ | (refine And.intro (by first | with_reducible rfl | with_reducible exact ⟨rfl, rfl⟩ | decide | omega | (dsimp only; decide) | (dsimp only; omega) | (unfold CDiv; omega) | (unfold CPow; decide) | (unfold CMul; omega) | (simp only [List.length_cons, List.length_nil]; omega) | (simp only [Option.isSome_some]; done) | (simp only [meth_ref, put_same', seqL_ref, hM.hm, hM.ha]; first | done | exact ⟨rfl, rfl⟩ | exact ⟨trivial, rfl⟩ | rfl)) ?_) | (simp (decide := true) only [put_same', put_put, decF, decT, Bool.not_true, Bool.not_false, putL_nil, putL_cons, if_true, if_false, seqR_ref, seqL_ref, lenL_ref, dicK_ref, dicT_ref, dat_ref, dat_non, dat_bl, dat_int, dat_str, dat_lst, dat_tup, datV_non, datV_bl, datV_int, datV_str, datV_lst, datV_tup, datVs_nil, datVs_cons, tyAt_ref, opt_some, Option.map_some, Option.bind_some, dv_ints, dv_bls, dv_nms, dv_prs, dv_nm, dt_nm, dt_pr, dv_pr, sh_int, sh_bl, sh_none, sh_nil, eqv_nil, sh_ints, sh_bls, sh_nm, sh_nms, sh_pr, sh_prs, anyI, anyN, anyP, eqv_int, eqv_bl, eqv_ints, eqv_bls, eqv_nms, eqv_prs, eqv_nm, eqv_pr, hM.hm, hM.ha])); conv => whnf))
        rw [atI_mem LV.int h1.1 h3]
        ((conv => whnf); repeat ((first | with_reducible refine ifTT ?_ | with_reducible refine ifFF ?_ | with_reducible refine ifnT ?_ | with_reducible refine ifnF ?_ | with_reducible refine ifTr ?_ | with_reducible refine ifFr ?_ | refine And.intro (by first | with_reducible rfl | with_reducible exact ⟨rfl, rfl⟩ | decide | omega | (dsimp only; decide) | (dsimp only; omega) | (unfold CDiv; omega) | (unfold CPow; decide) | (unfold CMul; omega) | (simp only [List.length_cons, List.length_nil]; omega)) ?_); conv => whnf))
        refine ifN (fun q => absurd rfl q) (fun _ => ?_)
        ((conv => whnf); repeat ((first | with_reducible refine ifTT ?_ | with_reducible refine ifFF ?_ | with_reducible refine ifnT ?_ | with_reducible refine ifnF ?_ | with_reducible refine ifTr ?_ | with_reducible refine ifFr ?_ | refine And.intro (by first | with_reducible rfl | with_reducible exact ⟨rfl, rfl⟩ | decide | omega | (dsimp only; decide) | (dsimp only; omega) | (unfold CDiv; omega) | (unfold CPow; decide) | (unfold CMul; omega) | (simp only [List.length_cons, List.length_nil]; omega)) ?_); conv => whnf))
        exact hN _
      · ((conv => whnf); repeat ((first | with_reducible refine ifTT ?_ | with_reducible refine ifFF ?_ | with_reducible refine ifnT ?_ | with_reducible refine ifnF ?_ | with_reducible refine ifTr ?_ | with_reducible refine ifFr ?_ | refine And.intro (by first | with_reducible rfl | with_reducible exact ⟨rfl, rfl⟩ | decide | omega | (dsimp only; decide) | (dsimp only; omega) | (unfold CDiv; omega) | (unfold CPow; decide) | (unfold CMul; omega) | (simp only [List.length_cons, List.length_nil]; omega)) ?_); conv => whnf))
        refine ⟨x, t, d, w, pl, rfl, ht, hg.th, hg.small, hp, ?_⟩
        ((conv => whnf); repeat ((first | with_reducible refine ifTT ?_ | with_reducible refine ifFF ?_ | with_reducible refine ifnT ?_ | with_reducible refine ifnF ?_ | with_reducible refine ifTr ?_ | with_reducible refine ifFr ?_ | refine And.intro (by first | with_reducible rfl | with_reducible exact ⟨rfl, rfl⟩ | decide | omega | (dsimp only; decide) | (dsimp only; omega) | (unfold CDiv; omega) | (unfold CPow; decide) | (unfold CMul; omega) | (simp only [List.length_cons, List.length_nil]; omega)) ?_); conv => whnf))
        exact hN _
  · rintro σ s' ⟨rfl, v, rfl⟩
    ((conv => whnf); repeat ((first | with_reducible refine ifTT ?_ | with_reducible refine ifFF ?_ | with_reducible refine ifnT ?_ | with_reducible refine ifnF ?_ | with_reducible refine ifTr ?_ | with_reducible refine ifFr ?_ | refine And.intro (by first | with_reducible rfl | with_reducible exact ⟨rfl, rfl⟩ | decide | omega | (dsimp only; decide) | (dsimp only; omega) | (unfold CDiv; omega) | (unfold CPow; decide) | (unfold CMul; omega) | (simp only [List.length_cons, List.length_nil]; omega)) ?_); conv => whnf))
    exact fin (.refl _) h
def spRight (A : Ad) : LSp := fun vs s Q E => ∃ x t d w m M a b c p, vs = [.ref x, .ref m] ∧ IsTh A s x t d w ∧ IsMd s m M a b c p ∧ Good t M ∧ Q (.bl true) s
theorem ok_law_right (T : Txt K mg A D) : LFn P w K mg base 6 A.f_law_right D.d_law_right ["_law_thread", "_law_model"] (spRight A) := by
  refine T.F_law_right.okL sc_law_right (fun vs s Q E ⟨_, _, _, _, _, _, _, _, _, _, h, _⟩ => by rw [h]; rfl) (fun cdv A' outer si H E hr => ⟨_, (lps_cons (lp_set (i := 2) sc_law_right.nd rfl (by first | exact Or.inl rfl | exact Or.inr rfl) (le_sub (le_len rfl T.b_len (la_cons (le_item (hu_of hr) (lv 1) le_str) la_nil)) le_int))
    (lps_cons (lp_set (i := 3) sc_law_right.nd rfl (by first | exact Or.inl rfl | exact Or.inr rfl) (le_call (ok_law_points T) (hr.mono (by decide)) rfl T.m_law_points T.k_law_points T.q_law_points (la_cons (lv 1) la_nil)))
    (lps_cons (lp_if (lt_cut (LW.lt (lw_and (lt_eq (le_mod (lv 2) le_int) le_int) (lw_and1 (lt_not (lt_val (le_call (ok_law_states_right T) (hr.mono (by decide)) rfl T.m_law_states_right T.k_law_states_right T.q_law_states_right (la_cons (lv 0) (la_cons (lv 1) (la_cons (lv 3) la_nil)))))))))) (lps_one (lp_ret le_bl)) lps_nil)
    (lps_cons (lp_set (i := 4) sc_law_right.nd rfl (by first | exact Or.inl rfl | exact Or.inr rfl) (le_meth0 (lv 0) T.cl_Thread T.mt_Thread_points (ok_Thread_points T) (hr.mono (by decide)) T.q_Thread_points))
    (lps_cons (lp_if (LW.lt (lw_or (lt_not (lt_val (le_isi rfl T.b_isinstance (la_cons (lv 4) (la_cons (le_bty (n := "list") rfl T.b_list (by decide +kernel)) la_nil))))) (lw_or (lt_neV hr.units (lv 4) (lv 3)) (lw_or1 (lt_not (lt_val (le_all rfl rfl T.b_all (la_cons (le_fz (ll_lc (own := [("_law_place", 5)]) (g := CTg.one 5) rfl sc_law_right.nd (li_seq (lv 4)) (blkOk_by (N := ["_law_thread", "_law_model", "_law_here", "_law_due", "_law_points_here", "_law_place"]) (sc := defScope s_law_right) (by decide +kernel)) (by decide) (fun _ _ _ _ _ => pg_name (i := 5) sc_law_right.nd rfl (Or.inl rfl)) (fun _ _ _ _ _ => lts_nil) (fun _ _ _ _ _ => (le_call (ok_law_whole T) (hr.mono (by decide)) rfl T.m_law_whole T.k_law_whole T.q_law_whole (la_cons (lv 5) la_nil))))) la_nil)))))))) (lps_one (lp_ret le_bl)) lps_nil)
    (lps_cons (lp_if (LW.lt (lw_or (lt_ne (le_meth0 (lv 0) T.cl_Thread T.mt_Thread_here (ok_Thread_here T) (hr.mono (by decide)) T.q_Thread_here) (lv 2)) (lw_or1 (lt_not (lt_val (le_call (ok_law_whole T) (hr.mono (by decide)) rfl T.m_law_whole T.k_law_whole T.q_law_whole (la_cons (le_meth0 (lv 0) T.cl_Thread T.mt_Thread_here (ok_Thread_here T) (hr.mono (by decide)) T.q_Thread_here) la_nil))))))) (lps_one (lp_ret le_bl)) lps_nil)
    (lps_cons (lp_expr (le_clear (lv 4)))
    (lps_one (lp_ret (le_or (le_eq (le_mod (lv 2) le_int) le_int) (le_one (le_call (ok_law_states_right T) (hr.mono (by decide)) rfl T.m_law_states_right T.k_law_states_right T.q_law_states_right (la_cons (lv 0) (la_cons (lv 1) (la_cons (lv 3) la_nil))))))))))))))), fun vs s Q E h => ?_⟩)
  obtain ⟨x, t, d, w, m, M, a, b, c, p, rfl, ht, hM, hg, h⟩ := h
  have el : ((List.map LV.int M.states).length : Int) - 1 = t.here := by rw [List.length_map, hg.len]; omega
  ((conv => whnf); repeat ((first | with_reducible refine ifTT ?_ | with_reducible refine ifFF ?_ | with_reducible refine ifnT ?_ | with_reducible refine ifnF ?_ | with_reducible refine ifTr ?_ | with_reducible refine ifFr ?_ | (refine And.intro (by first | with_reducible rfl | with_reducible exact ⟨rfl, rfl⟩ | decide | omega | (dsimp only; decide) | (dsimp only; omega) | (unfold CDiv; omega) | (unfold CPow; decide) | (unfold CMul; omega) | (simp only [List.length_cons, List.length_nil]; omega) | (simp only [Option.isSome_some]; done) | (simp only [meth_ref, put_same', seqL_ref, hM.hm, hM.ha]; first | done | exact ⟨rfl, rfl⟩ | exact ⟨trivial, rfl⟩ | rfl)) ?_) | (simp (decide := true) only [put_same', put_put, decF, decT, Bool.not_true, Bool.not_false, putL_nil, putL_cons, if_true, if_false, seqR_ref, seqL_ref, lenL_ref, dicK_ref, dicT_ref, dat_ref, dat_non, dat_bl, dat_int, dat_str, dat_lst, dat_tup, datV_non, datV_bl, datV_int, datV_str, datV_lst, datV_tup, datVs_nil, datVs_cons, tyAt_ref, opt_some, Option.map_some, Option.bind_some, dv_ints, dv_bls, dv_nms, dv_prs, dv_nm, dt_nm, dt_pr, dv_pr, sh_int, sh_bl, sh_none, sh_nil, eqv_nil, sh_ints, sh_bls, sh_nm, sh_nms, sh_pr, sh_prs, anyI, anyN, anyP, eqv_int, eqv_bl, eqv_ints, eqv_bls, eqv_nms, eqv_prs, eqv_nm, eqv_pr, hM.hm, hM.ha])); conv => whnf))
  rw [el]
  ((conv => whnf); repeat ((first | with_reducible refine ifTT ?_ | with_reducible refine ifFF ?_ | with_reducible refine ifnT ?_ | with_reducible refine ifnF ?_ | with_reducible refine ifTr ?_ | with_reducible refine ifFr ?_ | refine And.intro (by first | with_reducible rfl | with_reducible exact ⟨rfl, rfl⟩ | decide | omega | (dsimp only; decide) | (dsimp only; omega) | (unfold CDiv; omega) | (unfold CPow; decide) | (unfold CMul; omega) | (simp only [List.length_cons, List.length_nil]; omega)) ?_); conv => whnf))
  refine ⟨m, M, a, b, c, p, _, rfl, hM, hg.md, hg.pts, ?_⟩
  conv => whnf
  refine ⟨false, ?_, ?_⟩
  · ((conv => whnf); repeat ((first | with_reducible refine ifTT ?_ | with_reducible refine ifFF ?_ | with_reducible refine ifnT ?_ | with_reducible refine ifnF ?_ | with_reducible refine ifTr ?_ | with_reducible refine ifFr ?_ | refine And.intro (by first | with_reducible rfl | with_reducible exact ⟨rfl, rfl⟩ | decide | omega | (dsimp only; decide) | (dsimp only; omega) | (unfold CDiv; omega) | (unfold CPow; decide) | (unfold CMul; omega) | (simp only [List.length_cons, List.length_nil]; omega)) ?_); conv => whnf))
    refine ifD (fun q => ?_) (fun q => ⟨rfl, rfl⟩)
    ((conv => whnf); repeat ((first | with_reducible refine ifTT ?_ | with_reducible refine ifFF ?_ | with_reducible refine ifnT ?_ | with_reducible refine ifnF ?_ | with_reducible refine ifTr ?_ | with_reducible refine ifFr ?_ | refine And.intro (by first | with_reducible rfl | with_reducible exact ⟨rfl, rfl⟩ | decide | omega | (dsimp only; decide) | (dsimp only; omega) | (unfold CDiv; omega) | (unfold CPow; decide) | (unfold CMul; omega) | (simp only [List.length_cons, List.length_nil]; omega)) ?_); conv => whnf))
    refine ⟨x, t, d, w, m, M, a, b, c, p, rfl, ht, hM, hg, ?_⟩
    ((conv => whnf); repeat ((first | with_reducible refine ifTT ?_ | with_reducible refine ifFF ?_ | with_reducible refine ifnT ?_ | with_reducible refine ifnF ?_ | with_reducible refine ifTr ?_ | with_reducible refine ifFr ?_ | refine And.intro (by first | with_reducible rfl | with_reducible exact ⟨rfl, rfl⟩ | decide | omega | (dsimp only; decide) | (dsimp only; omega) | (unfold CDiv; omega) | (unfold CPow; decide) | (unfold CMul; omega) | (simp only [List.length_cons, List.length_nil]; omega)) ?_); conv => whnf))
  · ((conv => whnf); repeat ((first | with_reducible refine ifTT ?_ | with_reducible refine ifFF ?_ | with_reducible refine ifnT ?_ | with_reducible refine ifnF ?_ | with_reducible refine ifTr ?_ | with_reducible refine ifFr ?_ | (refine And.intro (by first | with_reducible rfl | with_reducible exact ⟨rfl, rfl⟩ | decide | omega | (dsimp only; decide) | (dsimp only; omega) | (unfold CDiv; omega) | (unfold CPow; decide) | (unfold CMul; omega) | (simp only [List.length_cons, List.length_nil]; omega) | (simp only [Option.isSome_some]; done) | (simp only [meth_ref, put_same', seqL_ref, ht.hx, thF]; first | done | exact ⟨rfl, rfl⟩ | exact ⟨trivial, rfl⟩ | rfl)) ?_) | (simp (decide := true) only [put_same', put_put, decF, decT, Bool.not_true, Bool.not_false, putL_nil, putL_cons, if_true, if_false, seqR_ref, seqL_ref, lenL_ref, dicK_ref, dicT_ref, dat_ref, dat_non, dat_bl, dat_int, dat_str, dat_lst, dat_tup, datV_non, datV_bl, datV_int, datV_str, datV_lst, datV_tup, datVs_nil, datVs_cons, tyAt_ref, opt_some, Option.map_some, Option.bind_some, dv_ints, dv_bls, dv_nms, dv_prs, dv_nm, dt_nm, dt_pr, dv_pr, sh_int, sh_bl, sh_none, sh_nil, eqv_nil, sh_ints, sh_bls, sh_nm, sh_nms, sh_pr, sh_prs, anyI, anyN, anyP, eqv_int, eqv_bl, eqv_ints, eqv_bls, eqv_nms, eqv_prs, eqv_nm, eqv_pr, ht.hx, thF])); conv => whnf))
    refine ⟨x, t, d, w, rfl, ht, hg.th, hg.small, fun r hrr => ?_⟩
    have ex : Ext s (put s r (.lst (t.points.map .int))) := ext_put hrr
    have er : put s r (.lst (t.points.map .int)) r = some (.lst (t.points.map .int)) := put_same
    have ex2 : Ext s (put s r (.lst [])) := ext_put hrr
    have ht2 := ht.ext ex
    ((conv => whnf); repeat ((first | with_reducible refine ifTT ?_ | with_reducible refine ifFF ?_ | with_reducible refine ifnT ?_ | with_reducible refine ifnF ?_ | with_reducible refine ifTr ?_ | with_reducible refine ifFr ?_ | (refine And.intro (by first | with_reducible rfl | with_reducible exact ⟨rfl, rfl⟩ | decide | omega | (dsimp only; decide) | (dsimp only; omega) | (unfold CDiv; omega) | (unfold CPow; decide) | (unfold CMul; omega) | (simp only [List.length_cons, List.length_nil]; omega) | (simp only [Option.isSome_some]; done) | (simp only [meth_ref, put_same', seqL_ref, thF]; first | done | exact ⟨rfl, rfl⟩ | exact ⟨trivial, rfl⟩ | rfl)) ?_) | (simp (decide := true) only [put_same', put_put, decF, decT, Bool.not_true, Bool.not_false, putL_nil, putL_cons, if_true, if_false, seqR_ref, seqL_ref, lenL_ref, dicK_ref, dicT_ref, dat_ref, dat_non, dat_bl, dat_int, dat_str, dat_lst, dat_tup, datV_non, datV_bl, datV_int, datV_str, datV_lst, datV_tup, datVs_nil, datVs_cons, tyAt_ref, opt_some, Option.map_some, Option.bind_some, dv_ints, dv_bls, dv_nms, dv_prs, dv_nm, dt_nm, dt_pr, dv_pr, sh_int, sh_bl, sh_none, sh_nil, eqv_nil, sh_ints, sh_bls, sh_nm, sh_nms, sh_pr, sh_prs, anyI, anyN, anyP, eqv_int, eqv_bl, eqv_ints, eqv_bls, eqv_nms, eqv_prs, eqv_nm, eqv_pr, thF])); conv => whnf))
    refine ⟨fun _ q => (by cases q), true, T.kt_list_list, ?_⟩
    ((conv => whnf); repeat ((first | with_reducible refine ifTT ?_ | with_reducible refine ifFF ?_ | with_reducible refine ifnT ?_ | with_reducible refine ifnF ?_ | with_reducible refine ifTr ?_ | with_reducible refine ifFr ?_ | (refine And.intro (by first | with_reducible rfl | with_reducible exact ⟨rfl, rfl⟩ | decide | omega | (dsimp only; decide) | (dsimp only; omega) | (unfold CDiv; omega) | (unfold CPow; decide) | (unfold CMul; omega) | (simp only [List.length_cons, List.length_nil]; omega) | (simp only [Option.isSome_some]; done) | (simp only [meth_ref, put_same', seqL_ref, thF]; first | done | exact ⟨rfl, rfl⟩ | exact ⟨trivial, rfl⟩ | rfl)) ?_) | (simp (decide := true) only [put_same', put_put, decF, decT, Bool.not_true, Bool.not_false, putL_nil, putL_cons, if_true, if_false, seqR_ref, seqL_ref, lenL_ref, dicK_ref, dicT_ref, dat_ref, dat_non, dat_bl, dat_int, dat_str, dat_lst, dat_tup, datV_non, datV_bl, datV_int, datV_str, datV_lst, datV_tup, datVs_nil, datVs_cons, tyAt_ref, opt_some, Option.map_some, Option.bind_some, dv_ints, dv_bls, dv_nms, dv_prs, dv_nm, dt_nm, dt_pr, dv_pr, sh_int, sh_bl, sh_none, sh_nil, eqv_nil, sh_ints, sh_bls, sh_nm, sh_nms, sh_pr, sh_prs, anyI, anyN, anyP, eqv_int, eqv_bl, eqv_ints, eqv_bls, eqv_nms, eqv_prs, eqv_nm, eqv_pr, thF])); conv => whnf))
    refine fun Da hD => lc_map1 hD (fun _ => LV.bl true) (fun s' e => e _ _ er) hg.ptl ?_ ?_
    · intro y _ s' Y _ hY
      ((conv => whnf); repeat ((first | with_reducible refine ifTT ?_ | with_reducible refine ifFF ?_ | with_reducible refine ifnT ?_ | with_reducible refine ifnF ?_ | with_reducible refine ifTr ?_ | with_reducible refine ifFr ?_ | refine And.intro (by first | with_reducible rfl | with_reducible exact ⟨rfl, rfl⟩ | decide | omega | (dsimp only; decide) | (dsimp only; omega) | (unfold CDiv; omega) | (unfold CPow; decide) | (unfold CMul; omega) | (simp only [List.length_cons, List.length_nil]; omega)) ?_); conv => whnf))
      exact ⟨_, rfl, hY⟩
    · conv => whnf
      rw [blsOf_const]
      conv => whnf
      rw [all_const]
      ((conv => whnf); repeat ((first | with_reducible refine ifTT ?_ | with_reducible refine ifFF ?_ | with_reducible refine ifnT ?_ | with_reducible refine ifnF ?_ | with_reducible refine ifTr ?_ | with_reducible refine ifFr ?_ | (refine And.intro (by first | with_reducible rfl | with_reducible exact ⟨rfl, rfl⟩ | decide | omega | (dsimp only; decide) | (dsimp only; omega) | (unfold CDiv; omega) | (unfold CPow; decide) | (unfold CMul; omega) | (simp only [List.length_cons, List.length_nil]; omega) | (simp only [Option.isSome_some]; done) | (simp only [meth_ref, put_same', seqL_ref, ht2.hx, thF]; first | done | exact ⟨rfl, rfl⟩ | exact ⟨trivial, rfl⟩ | rfl)) ?_) | (simp (decide := true) only [put_same', put_put, decF, decT, Bool.not_true, Bool.not_false, putL_nil, putL_cons, if_true, if_false, seqR_ref, seqL_ref, lenL_ref, dicK_ref, dicT_ref, dat_ref, dat_non, dat_bl, dat_int, dat_str, dat_lst, dat_tup, datV_non, datV_bl, datV_int, datV_str, datV_lst, datV_tup, datVs_nil, datVs_cons, tyAt_ref, opt_some, Option.map_some, Option.bind_some, dv_ints, dv_bls, dv_nms, dv_prs, dv_nm, dt_nm, dt_pr, dv_pr, sh_int, sh_bl, sh_none, sh_nil, eqv_nil, sh_ints, sh_bls, sh_nm, sh_nms, sh_pr, sh_prs, anyI, anyN, anyP, eqv_int, eqv_bl, eqv_ints, eqv_bls, eqv_nms, eqv_prs, eqv_nm, eqv_pr, ht2.hx, thF])); conv => whnf))
      refine ⟨x, t, d, w, rfl, ht2, ?_⟩
      ((conv => whnf); repeat ((first | with_reducible refine ifTT ?_ | with_reducible refine ifFF ?_ | with_reducible refine ifnT ?_ | with_reducible refine ifnF ?_ | with_reducible refine ifTr ?_ | with_reducible refine ifFr ?_ | (refine And.intro (by first | with_reducible rfl | with_reducible exact ⟨rfl, rfl⟩ | decide | omega | (dsimp only; decide) | (dsimp only; omega) | (unfold CDiv; omega) | (unfold CPow; decide) | (unfold CMul; omega) | (simp only [List.length_cons, List.length_nil]; omega) | (simp only [Option.isSome_some]; done) | (simp only [meth_ref, put_same', seqL_ref, ht2.hx, thF]; first | done | exact ⟨rfl, rfl⟩ | exact ⟨trivial, rfl⟩ | rfl)) ?_) | (simp (decide := true) only [put_same', put_put, decF, decT, Bool.not_true, Bool.not_false, putL_nil, putL_cons, if_true, if_false, seqR_ref, seqL_ref, lenL_ref, dicK_ref, dicT_ref, dat_ref, dat_non, dat_bl, dat_int, dat_str, dat_lst, dat_tup, datV_non, datV_bl, datV_int, datV_str, datV_lst, datV_tup, datVs_nil, datVs_cons, tyAt_ref, opt_some, Option.map_some, Option.bind_some, dv_ints, dv_bls, dv_nms, dv_prs, dv_nm, dt_nm, dt_pr, dv_pr, sh_int, sh_bl, sh_none, sh_nil, eqv_nil, sh_ints, sh_bls, sh_nm, sh_nms, sh_pr, sh_prs, anyI, anyN, anyP, eqv_int, eqv_bl, eqv_ints, eqv_bls, eqv_nms, eqv_prs, eqv_nm, eqv_pr, ht2.hx, thF])); conv => whnf))
      refine ⟨x, t, d, w, rfl, ht2, ?_⟩
      ((conv => whnf); repeat ((first | with_reducible refine ifTT ?_ | with_reducible refine ifFF ?_ | with_reducible refine ifnT ?_ | with_reducible refine ifnF ?_ | with_reducible refine ifTr ?_ | with_reducible refine ifFr ?_ | (refine And.intro (by first | with_reducible rfl | with_reducible exact ⟨rfl, rfl⟩ | decide | omega | (dsimp only; decide) | (dsimp only; omega) | (unfold CDiv; omega) | (unfold CPow; decide) | (unfold CMul; omega) | (simp only [List.length_cons, List.length_nil]; omega) | (simp only [Option.isSome_some]; done) | (simp only [meth_ref, put_same', seqL_ref, ht2.hx, thF]; first | done | exact ⟨rfl, rfl⟩ | exact ⟨trivial, rfl⟩ | rfl)) ?_) | (simp (decide := true) only [put_same', put_put, decF, decT, Bool.not_true, Bool.not_false, putL_nil, putL_cons, if_true, if_false, seqR_ref, seqL_ref, lenL_ref, dicK_ref, dicT_ref, dat_ref, dat_non, dat_bl, dat_int, dat_str, dat_lst, dat_tup, datV_non, datV_bl, datV_int, datV_str, datV_lst, datV_tup, datVs_nil, datVs_cons, tyAt_ref, opt_some, Option.map_some, Option.bind_some, dv_ints, dv_bls, dv_nms, dv_prs, dv_nm, dt_nm, dt_pr, dv_pr, sh_int, sh_bl, sh_none, sh_nil, eqv_nil, sh_ints, sh_bls, sh_nm, sh_nms, sh_pr, sh_prs, anyI, anyN, anyP, eqv_int, eqv_bl, eqv_ints, eqv_bls, eqv_nms, eqv_prs, eqv_nm, eqv_pr, ht2.hx, thF])); conv => whnf))
      refine ⟨_, rfl, ?_⟩
      ((conv => whnf); repeat ((first | with_reducible refine ifTT ?_ | with_reducible refine ifFF ?_ | with_reducible refine ifnT ?_ | with_reducible refine ifnF ?_ | with_reducible refine ifTr ?_ | with_reducible refine ifFr ?_ | (refine And.intro (by first | with_reducible rfl | with_reducible exact ⟨rfl, rfl⟩ | decide | omega | (dsimp only; decide) | (dsimp only; omega) | (unfold CDiv; omega) | (unfold CPow; decide) | (unfold CMul; omega) | (simp only [List.length_cons, List.length_nil]; omega) | (simp only [Option.isSome_some]; done) | (simp only [meth_ref, put_same', seqL_ref, ht2.hx, thF]; first | done | exact ⟨rfl, rfl⟩ | exact ⟨trivial, rfl⟩ | rfl)) ?_) | (simp (decide := true) only [put_same', put_put, decF, decT, Bool.not_true, Bool.not_false, putL_nil, putL_cons, if_true, if_false, seqR_ref, seqL_ref, lenL_ref, dicK_ref, dicT_ref, dat_ref, dat_non, dat_bl, dat_int, dat_str, dat_lst, dat_tup, datV_non, datV_bl, datV_int, datV_str, datV_lst, datV_tup, datVs_nil, datVs_cons, tyAt_ref, opt_some, Option.map_some, Option.bind_some, dv_ints, dv_bls, dv_nms, dv_prs, dv_nm, dt_nm, dt_pr, dv_pr, sh_int, sh_bl, sh_none, sh_nil, eqv_nil, sh_ints, sh_bls, sh_nm, sh_nms, sh_pr, sh_prs, anyI, anyN, anyP, eqv_int, eqv_bl, eqv_ints, eqv_bls, eqv_nms, eqv_prs, eqv_nm, eqv_pr, ht2.hx, thF])); conv => whnf))
      refine ifD (fun q => ?_) (fun q => ?_)
      · ((conv => whnf); repeat ((first | with_reducible refine ifTT ?_ | with_reducible refine ifFF ?_ | with_reducible refine ifnT ?_ | with_reducible refine ifnF ?_ | with_reducible refine ifTr ?_ | with_reducible refine ifFr ?_ | refine And.intro (by first | with_reducible rfl | with_reducible exact ⟨rfl, rfl⟩ | decide | omega | (dsimp only; decide) | (dsimp only; omega) | (unfold CDiv; omega) | (unfold CPow; decide) | (unfold CMul; omega) | (simp only [List.length_cons, List.length_nil]; omega)) ?_); conv => whnf))
        exact fin (sub_put hrr) h
      · ((conv => whnf); repeat ((first | with_reducible refine ifTT ?_ | with_reducible refine ifFF ?_ | with_reducible refine ifnT ?_ | with_reducible refine ifnF ?_ | with_reducible refine ifTr ?_ | with_reducible refine ifFr ?_ | refine And.intro (by first | with_reducible rfl | with_reducible exact ⟨rfl, rfl⟩ | decide | omega | (dsimp only; decide) | (dsimp only; omega) | (unfold CDiv; omega) | (unfold CPow; decide) | (unfold CMul; omega) | (simp only [List.length_cons, List.length_nil]; omega)) ?_); conv => whnf))
        refine ⟨x, t, d, w, m, M, a, b, c, p, rfl, ht.ext ex2, hM.ext ex2, hg, ?_⟩
        ((conv => whnf); repeat ((first | with_reducible refine ifTT ?_ | with_reducible refine ifFF ?_ | with_reducible refine ifnT ?_ | with_reducible refine ifnF ?_ | with_reducible refine ifTr ?_ | with_reducible refine ifFr ?_ | refine And.intro (by first | with_reducible rfl | with_reducible exact ⟨rfl, rfl⟩ | decide | omega | (dsimp only; decide) | (dsimp only; omega) | (unfold CDiv; omega) | (unfold CPow; decide) | (unfold CMul; omega) | (simp only [List.length_cons, List.length_nil]; omega)) ?_); conv => whnf))
        exact fin (sub_put hrr) h
end

theorem setAll_get (y : Nat) : ∀ (ps : List Int) (w : List Bool), (setAll w ps)[y]? = if y < w.length ∧ ∃ q ∈ ps, q.toNat = y then some true else w[y]?
  | [], w => by simp [setAll]
  | p :: ps, w => by
    have ih := setAll_get y ps (w.set p.toNat true)
    have e : setAll w (p :: ps) = setAll (w.set p.toNat true) ps := rfl
    rw [e, ih, List.length_set]
    by_cases hy : y < w.length
    · by_cases h1 : ∃ q ∈ ps, q.toNat = y
      · rw [if_pos ⟨hy, h1⟩, if_pos ⟨hy, by obtain ⟨q, a, b⟩ := h1; exact ⟨q, by simp [a], b⟩⟩]
      · rw [if_neg (fun q => h1 q.2)]
        by_cases h2 : p.toNat = y
        · rw [if_pos ⟨hy, p, by simp, h2⟩, h2]
          simp [hy]
        · rw [if_neg (fun q => ?_), List.getElem?_set_ne h2]
          obtain ⟨q, a, b⟩ := q.2
          rw [List.mem_cons] at a
          rcases a with rfl | a
          · exact h2 b
          · exact h1 ⟨q, a, b⟩
    · rw [if_neg (fun q => hy q.1), if_neg (fun q => hy q.1)]
      rw [List.getElem?_eq_none (by simpa using hy), List.getElem?_eq_none (by simpa using hy)]
structure Rel (t : Th) (M : Md) : Prop where
  ok : t.Ok
  st : M.states = t.states
  wr : M.writings = t.wr
  len : M.written.length = M.states.length
  nev : t.hab = .never → ∀ y : Int, 1 ≤ y → y ≤ t.here → M.written[y.toNat]? = some false
  wrt : t.hab.writes = true → ∀ y : Int, 0 ≤ y → y ≤ t.here → M.written[y.toNat]? = some (decide (y ≤ t.here - t.pile))
  eac : t.hab = .each → t.pile = 0
  bun : ∀ n, t.hab = .bundle n → t.pile < n ∧ M.pile = (List.range t.pile.toNat).map fun i => t.here - t.pile + 1 + (i : Nat)
  nop : (∀ n, t.hab ≠ .bundle n) → M.pile = []
section
variable {t : Th} {M : Md}
theorem Rel.sl (r : Rel t M) : (M.states.length : Int) = t.here + 1 := by rw [r.st]; unfold Th.states Th.here; simp
theorem Th.Ok.min (h : t.Ok) : ∀ w ∈ t.wr, t.wr.headD 0 ≤ w := fun w hw => by
  have := h.asc
  cases e : t.wr with
  | nil => rw [e] at hw; cases hw
  | cons a l =>
    rw [e, List.pairwise_cons] at this
    rw [e, List.mem_cons] at hw
    rcases hw with rfl | hw
    · exact Int.le_refl _
    · exact Int.le_of_lt (this.1 w hw)
theorem asc_range (lo : Int) (n : Nat) : ((List.range n).map fun i => lo + (i : Nat)).Pairwise (· < ·) := by
  rw [List.pairwise_map]
  exact List.pairwise_lt_range.imp fun h => by omega
theorem Rel.pts (r : Rel t M) : Pts M t.points := by
  have hok := r.ok
  have hsl := r.sl
  refine ⟨?_, fun x => ?_⟩
  · unfold Th.points
    split
    · exact asc_range _ _
    · exact hok.asc
  · rw [r.wr]
    by_cases hw : t.hab.writes = true
    · have hp := hok.pile hw
      have hm := hok.head
      have h0 := hok.rng _ hm
      have e : x ∈ t.points ↔ t.wr.headD 0 ≤ x ∧ x ≤ t.here - t.pile := by
        unfold Th.points
        rw [if_pos hw]
        simp only [List.mem_map, List.mem_range]
        constructor
        · rintro ⟨i, hi, rfl⟩; omega
        · intro h; exact ⟨(x - t.wr.headD 0).toNat, by omega, by omega⟩
      rw [e]
      constructor
      · intro h
        refine ⟨_, hm, h.1, by omega, fun y h1 h2 => ?_⟩
        rw [r.wrt hw y (by omega) (by omega)]
        simp
        omega
      · rintro ⟨w, hwm, h1, h2, h3⟩
        have := hok.min w hwm
        refine ⟨by omega, ?_⟩
        by_cases hx : x = w
        · rw [hx]; exact hp.2 w hwm
        · have h4 := h3 x (by omega) (Int.le_refl _)
          rw [r.wrt hw x (by have := hok.rng w hwm; omega) (by omega)] at h4
          simpa using h4
    · have hn : t.hab = .never := by cases e : t.hab <;> rw [e] at hw <;> first | rfl | exact absurd rfl hw
      have e : t.points = t.wr := by unfold Th.points; rw [if_neg hw]
      rw [e]
      constructor
      · intro h
        exact ⟨x, h, Int.le_refl _, by have := hok.rng x h; omega, fun y h1 h2 => by omega⟩
      · rintro ⟨w, hwm, h1, h2, h3⟩
        by_cases hx : x = w
        · rw [hx]; exact hwm
        · have h4 := h3 x (by omega) (Int.le_refl _)
          have := hok.rng w hwm
          rw [r.nev hn x (by omega) (by omega)] at h4
          cases h4
theorem Rel.good (r : Rel t M) (hs : t.done.length < 900000) : Good t M := by
  have hsl := r.sl
  have hh : t.here = t.done.length := rfl
  have hok := r.ok
  have hwl : t.wr.length ≤ t.done.length + 1 := nodup_len _ _ (hok.asc.imp fun h => by omega) fun q hq => by have := hok.rng q hq; omega
  have hpl : (∀ q ∈ M.pile, 0 ≤ q ∧ q < M.states.length) ∧ M.pile.length < 1000000 := by
    cases e : t.hab with
    | bundle n =>
      have hp := hok.pile (by rw [e]; rfl)
      have h1 := (r.bun n e).2
      have hq := hp.2 _ hok.head
      have h0 := hok.rng _ hok.head
      rw [h1]
      simp only [List.length_map, List.length_range, List.mem_map, List.mem_range]
      refine ⟨?_, by omega⟩
      rintro q ⟨i, hi, rfl⟩
      omega
    | _ => rw [r.nop (by intro n; rw [e]; intro q; cases q)]; simp
  exact ⟨hok, ⟨r.len, hpl.1, by omega, fun q hq => by rw [r.wr] at hq; have := hok.rng q hq; omega, by omega, hpl.2, by rw [r.wr]; omega⟩, r.st, r.pts⟩
theorem rel_begin (st : Int) (h : Hb) (hb : ∀ n, h = .bundle n → 1 ≤ n) : Rel ⟨st, h, [], [0], 0⟩ ⟨[st], [true], [0], []⟩ := by
  refine ⟨⟨by simp, by simp, fun q hq => ?_, fun _ => ⟨Int.le_refl _, fun q hq => ?_⟩⟩, rfl, rfl, rfl, fun _ y h1 h2 => ?_, fun _ y h1 h2 => ?_, fun _ => rfl, fun n hn => ⟨?_, rfl⟩, fun _ => rfl⟩
  · simp at hq; subst hq; simp [Th.here]
  · simp at hq; subst hq; simp [Th.here]
  · simp [Th.here] at h2; omega
  · simp [Th.here] at h2
    have : y = 0 := by omega
    subst this
    simp [Th.here]
  · have := hb n hn; show (0 : Int) < n; omega
theorem get_app {α : Type} {w : List α} {x : α} {y : Int} {n : Nat} (hn : w.length = n) (h0 : 0 ≤ y) (h1 : y ≤ n) : (w ++ [x])[y.toNat]? = if y < n then w[y.toNat]? else some x := by
  split
  · rw [List.getElem?_append_left (by omega)]
  · rw [List.getElem?_append_right (by omega)]
    have : y.toNat - w.length = 0 := by omega
    rw [this]
    rfl
theorem Rel.do (r : Rel t M) (e : Ev) : Rel (t.do e) (M.done t.hab e.state) := by
  have hsl := r.sl
  have hok := r.ok
  have hlen := r.len
  have hh : (t.do e).here = t.here + 1 := by simp [Th.do, Th.here]
  have hst : (t.do e).states = t.states ++ [e.state] := by simp [Th.states, Th.do]
  have hok' : (t.do e).Ok := hok.do e fun n hn => by
    have := (r.bun n hn).1
    have := (hok.pile (by rw [hn]; rfl)).1
    omega
  have h0 : 0 ≤ t.here := by unfold Th.here; omega
  have hwl : M.written.length = (t.here + 1).toNat := by omega
  cases eh : t.hab with
  | never =>
    refine ⟨hok', by rw [hst, ← r.st]; rfl, r.wr, by simp [Md.done, hlen], fun _ y h1 h2 => ?_, fun hw => ?_, fun h => ?_, fun n h => ?_, fun _ => ?_⟩
    · show (M.written ++ [false])[y.toNat]? = _
      rw [get_app hwl (by omega) (by omega)]
      split
      · exact r.nev eh y h1 (by omega)
      · rfl
    · rw [show (t.do e).hab = t.hab from rfl, eh] at hw; cases hw
    · rw [show (t.do e).hab = t.hab from rfl, eh] at h; cases h
    · rw [show (t.do e).hab = t.hab from rfl, eh] at h; cases h
    · exact r.nop (by intro n; rw [eh]; intro q; cases q)
  | each =>
    have hp := r.eac eh
    have hp' : (t.do e).pile = 0 := by show t.hab.piled t.pile = 0; rw [eh]; rfl
    refine ⟨hok', by rw [hst, ← r.st]; rfl, r.wr, by simp [Md.done, hlen], fun h => ?_, fun hw y h1 h2 => ?_, fun h => hp', fun n h => ?_, fun _ => ?_⟩
    · rw [show (t.do e).hab = t.hab from rfl, eh] at h; cases h
    · show (M.written ++ [true])[y.toNat]? = _
      rw [get_app hwl (by omega) (by omega), hp']
      split
      · rw [r.wrt (by rw [eh]; rfl) y h1 (by omega), hp]
        simp; omega
      · simp; omega
    · rw [show (t.do e).hab = t.hab from rfl, eh] at h; cases h
    · exact r.nop (by intro n; rw [eh]; intro q; cases q)
  | bundle n =>
    obtain ⟨hpn, hpl⟩ := r.bun n eh
    have hp := hok.pile (by rw [eh]; rfl)
    have hd := hp.2 _ hok.head
    have hd0 := hok.rng _ hok.head
    have hpile : (M.pile ++ [(M.states.length : Int)]) = (List.range (t.pile + 1).toNat).map fun i => t.here - t.pile + 1 + (i : Nat) := by
      rw [show (t.pile + 1).toNat = t.pile.toNat + 1 by omega, List.range_succ, List.map_append, hpl]
      congr 1
      simp
      omega
    have hlp : ((M.pile ++ [(M.states.length : Int)]).length : Int) = t.pile + 1 := by rw [hpile]; simp; omega
    have hwr : ∀ y : Int, 0 ≤ y → y ≤ t.here + 1 → (M.written ++ [false])[y.toNat]? = some (decide (y ≤ t.here - t.pile)) := fun y h1 h2 => by
      rw [get_app hwl (by omega) (by omega)]
      split
      · exact r.wrt (by rw [eh]; rfl) y h1 (by omega)
      · simp; omega
    have hpd : (t.do e).pile = if t.pile + 1 ≥ n then 0 else t.pile + 1 := by show t.hab.piled t.pile = _; rw [eh]; rfl
    have hM : M.done (.bundle n) e.state = if ((M.pile ++ [(M.states.length : Int)]).length : Int) = n then (Md.down { M with states := M.states ++ [e.state], written := M.written ++ [false], pile := M.pile ++ [(M.states.length : Int)] }) else { M with states := M.states ++ [e.state], written := M.written ++ [false], pile := M.pile ++ [(M.states.length : Int)] } := rfl
    rw [hM, hlp]
    by_cases hn : t.pile + 1 = n
    · rw [if_pos hn]
      rw [if_pos (by omega)] at hpd
      refine ⟨hok', by rw [hst, ← r.st]; rfl, r.wr, ?_, fun h => ?_, fun hw y h1 h2 => ?_, fun h => ?_, fun n' h => ?_, fun h => rfl⟩
      · show (setAll _ _).length = (M.states ++ [e.state]).length
        rw [setAll_length]; simp [hlen]
      · rw [show (t.do e).hab = t.hab from rfl, eh] at h; cases h
      · show (setAll _ _)[y.toNat]? = _
        rw [setAll_get, hpd]
        have hy : decide (y ≤ (t.do e).here - 0) = true := by simp; omega
        rw [hy]
        split
        · rfl
        · next hc =>
          show (M.written ++ [false])[y.toNat]? = _
          rw [hwr y h1 (by omega)]
          by_cases hle : y ≤ t.here - t.pile
          · rw [decide_eq_true hle]
          · exfalso
            refine hc ⟨?_, y, ?_, rfl⟩
            · show y.toNat < (M.written ++ [false]).length
              rw [List.length_append, hwl]
              simp
              omega
            · show y ∈ M.pile ++ [(M.states.length : Int)]
              rw [hpile, List.mem_map]
              exact ⟨(y - (t.here - t.pile + 1)).toNat, by rw [List.mem_range]; omega, by omega⟩
      · rw [show (t.do e).hab = t.hab from rfl, eh] at h; cases h
      · rw [show (t.do e).hab = t.hab from rfl, eh] at h
        cases h
        rw [hpd]
        exact ⟨by omega, rfl⟩
    · rw [if_neg hn]
      rw [if_neg (by omega)] at hpd
      refine ⟨hok', by rw [hst, ← r.st], r.wr, by simp [hlen], fun h => ?_, fun hw y h1 h2 => ?_, fun h => ?_, fun n' h => ?_, fun h => ?_⟩
      · rw [show (t.do e).hab = t.hab from rfl, eh] at h; cases h
      · show (M.written ++ [false])[y.toNat]? = _
        rw [hwr y h1 (by omega), hpd, hh]
        congr 1
        exact decide_eq_decide.mpr (by omega)
      · rw [show (t.do e).hab = t.hab from rfl, eh] at h; cases h
      · rw [show (t.do e).hab = t.hab from rfl, eh] at h
        cases h
        rw [hpd, hh]
        refine ⟨by omega, ?_⟩
        show M.pile ++ [(M.states.length : Int)] = _
        rw [hpile]
        congr 1
        funext i
        omega
      · exact absurd eh (h n)
theorem Rel.write (r : Rel t M) : Rel t.write (M.wrote t.hab) := by
  have hsl := r.sl
  have hok := r.ok
  have hlen := r.len
  have hh : t.write.here = t.here := rfl
  have h0 : 0 ≤ t.here := by unfold Th.here; omega
  have hwr : (if ((M.states.length : Int) - 1) ∈ M.writings then M.writings else M.writings ++ [(M.states.length : Int) - 1]) = t.write.wr := by
    have e : (M.states.length : Int) - 1 = t.here := by omega
    rw [e, r.wr]
    rfl
  have hM : ∀ N : Md, N = (if ((M.states.length : Int) - 1) ∈ M.writings then M else { M with writings := M.writings ++ [(M.states.length : Int) - 1] }) → N.states = M.states ∧ N.written = M.written ∧ N.pile = M.pile ∧ N.writings = t.write.wr := by
    rintro N rfl
    rw [← hwr]
    split <;> exact ⟨rfl, rfl, rfl, rfl⟩
  obtain ⟨m1, m2, m3, m4⟩ := hM _ rfl
  cases eh : t.hab with
  | never =>
    refine ⟨hok.write, m1.trans r.st, m4, by rw [show (M.wrote .never).written = M.written from m2, show (M.wrote .never).states = M.states from m1, hlen], fun _ y h1 h2 => ?_, fun hw => ?_, fun h => ?_, fun n h => ?_, fun _ => ?_⟩
    · rw [show (M.wrote .never).written = M.written from m2]; exact r.nev eh y h1 h2
    · rw [show t.write.hab = t.hab from rfl, eh] at hw; cases hw
    · rw [show t.write.hab = t.hab from rfl, eh] at h; cases h
    · rw [show t.write.hab = t.hab from rfl, eh] at h; cases h
    · rw [show (M.wrote .never).pile = M.pile from m3]; exact r.nop (by intro n; rw [eh]; intro q; cases q)
  | each =>
    have hp' : t.write.pile = 0 := by show (if t.hab.writes = true then 0 else t.pile) = 0; rw [eh]; rfl
    refine ⟨hok.write, m1.trans r.st, m4, by rw [show (M.wrote .each).written = M.written from m2, show (M.wrote .each).states = M.states from m1, hlen], fun h => ?_, fun hw y h1 h2 => ?_, fun h => hp', fun n h => ?_, fun _ => ?_⟩
    · rw [show t.write.hab = t.hab from rfl, eh] at h; cases h
    · rw [show (M.wrote .each).written = M.written from m2, hp', r.wrt (by rw [eh]; rfl) y h1 h2, r.eac eh, hh]
    · rw [show t.write.hab = t.hab from rfl, eh] at h; cases h
    · rw [show (M.wrote .each).pile = M.pile from m3]; exact r.nop (by intro n; rw [eh]; intro q; cases q)
  | bundle n =>
    have hp' : t.write.pile = 0 := by show (if t.hab.writes = true then 0 else t.pile) = 0; rw [eh]; rfl
    obtain ⟨hpn, hpl⟩ := r.bun n eh
    have hp := hok.pile (by rw [eh]; rfl)
    have hd := hp.2 _ hok.head
    have hd0 := hok.rng _ hok.head
    have w1 : (M.wrote (.bundle n)).written = setAll M.written M.pile := by
      show setAll _ _ = _
      rw [m2, m3]
    refine ⟨hok.write, m1.trans r.st, m4, ?_, fun h => ?_, fun hw y h1 h2 => ?_, fun h => ?_, fun n' h => ?_, fun _ => rfl⟩
    · rw [w1, setAll_length, hlen]; exact congrArg List.length m1.symm
    · rw [show t.write.hab = t.hab from rfl, eh] at h; cases h
    · rw [w1, setAll_get, hp', hh]
      have hy : decide (y ≤ t.here - 0) = true := by simp; omega
      rw [hy]
      split
      · rfl
      · next hc =>
        rw [r.wrt (by rw [eh]; rfl) y h1 h2]
        by_cases hle : y ≤ t.here - t.pile
        · rw [decide_eq_true hle]
        · exfalso
          refine hc ⟨by omega, y, ?_, rfl⟩
          rw [hpl, List.mem_map]
          exact ⟨(y - (t.here - t.pile + 1)).toNat, by rw [List.mem_range]; omega, by omega⟩
    · rw [show t.write.hab = t.hab from rfl, eh] at h; cases h
    · rw [show t.write.hab = t.hab from rfl, eh] at h
      cases h
      rw [hp']
      exact ⟨by omega, rfl⟩
end

def Th.cut (t : Th) (p : Int) : Th := { t with done := t.done.take p.toNat, wr := t.wr.filter fun q => decide (q ≤ p), pile := 0 }
section
variable {P : Program} {w : World} {K : PySem.W.Frag} {mg : Str → Option Value} {base : Heap} {A : Ad} {D : Fd}
def spCut (A : Ad) : LSp := fun vs s Q E => ∃ x t d w p st, vs = [.ref x, .int p, .bl st] ∧ IsTh A s x t d w ∧ t.Ok ∧ t.done.length < 16777215 ∧ t.wr.length ≤ 16777216 ∧ (st = true ∧ p = t.here → Q .non s) ∧ (¬ (st = true ∧ p = t.here) → p ∉ t.points → E A.c_NoPoint s) ∧
  (¬ (st = true ∧ p = t.here) → p ∈ t.points → ∀ s' d' w', IsTh A s' x (t.cut p) d' w' → Own [x, d, w] [x, d', w'] s s' → Q .non s')
theorem ok_Thread_cut (T : Txt K mg A D) : LFn P w K mg base 3 A.f_Thread_cut D.d_Thread_cut ["self", "place", "stands"] (spCut A) := by
  refine T.F_Thread_cut.okL sc_Thread_cut (fun vs s Q E ⟨_, _, _, _, _, _, h, _⟩ => by rw [h]; rfl) (fun cdv A' outer si H E hr => ⟨_, (lps_cons (lp_if (lt_cut (LW.lt (lw_and (lt_val (lv 2)) (lw_and1 (lt_eq (lv 1) (le_meth0 (lv 0) T.cl_Thread T.mt_Thread_here (ok_Thread_here T) (hr.mono (by decide)) T.q_Thread_here)))))) (lps_one lp_retN) lps_nil)
    (lps_cons (lp_if (lt_ninV (hu65 hr) (lv 1) (le_frz (le_meth0 (lv 0) T.cl_Thread T.mt_Thread_points (ok_Thread_points T) (hr.mono (by decide)) T.q_Thread_points)) (by rfl)) (lps_one (lp_raise T.x_NoPoint rfl rfl)) lps_nil)
    (lps_cons (lp_fld T.cl_Thread T.n_Thread_done (lv 0) (le_new (ll_slice (le_fld T.cl_Thread T.n_Thread_done (lv 0)) lo_none (lo_some (lv 1)))))
    (lps_cons (lp_fld T.cl_Thread T.n_Thread_writings (lv 0) (le_new (ll_lc (own := [("one", 3)]) (g := CTg.one 3) rfl sc_Thread_cut.nd (li_seq (le_fld T.cl_Thread T.n_Thread_writings (lv 0))) (blkOk_by (N := ["self", "place", "stands", "one"]) (sc := defScope s_Thread_cut) (by decide +kernel)) (by decide) (fun _ _ _ _ _ => pg_name (i := 3) sc_Thread_cut.nd rfl (Or.inl rfl)) (fun _ _ _ _ _ => (lts_one (lt_le (lv 3) (lv 1)))) (fun _ _ _ _ _ => (lv 3)))))
    (lps_one (lp_fld T.cl_Thread T.n_Thread_pile (lv 0) le_int)))))), fun vs s Q E h => ?_⟩)
  obtain ⟨x, t, d, w, p, st, rfl, ht, hok, hsm, hwl, h1, h2, h3⟩ := h
  conv => whnf
  refine ⟨decide (st = true ∧ p = t.here), ?_, ?_⟩
  · ((conv => whnf); repeat ((first | with_reducible refine ifTT ?_ | with_reducible refine ifFF ?_ | with_reducible refine ifnT ?_ | with_reducible refine ifnF ?_ | with_reducible refine ifTr ?_ | with_reducible refine ifFr ?_ | refine And.intro (by first | with_reducible rfl | with_reducible exact ⟨rfl, rfl⟩ | decide | omega | (dsimp only; decide) | (dsimp only; omega) | (unfold CDiv; omega) | (unfold CPow; decide) | (unfold CMul; omega) | (simp only [List.length_cons, List.length_nil]; omega)) ?_); conv => whnf))
    refine ifB (fun hs => ?_) (fun hs => ?_)
    · ((conv => whnf); repeat ((first | with_reducible refine ifTT ?_ | with_reducible refine ifFF ?_ | with_reducible refine ifnT ?_ | with_reducible refine ifnF ?_ | with_reducible refine ifTr ?_ | with_reducible refine ifFr ?_ | (refine And.intro (by first | with_reducible rfl | with_reducible exact ⟨rfl, rfl⟩ | decide | omega | (dsimp only; decide) | (dsimp only; omega) | (unfold CDiv; omega) | (unfold CPow; decide) | (unfold CMul; omega) | (simp only [List.length_cons, List.length_nil]; omega) | (simp only [Option.isSome_some]; done) | (simp only [meth_ref, put_same', seqL_ref, ht.hx, thF]; first | done | exact ⟨rfl, rfl⟩ | exact ⟨trivial, rfl⟩ | rfl)) ?_) | (simp (decide := true) only [put_same', put_put, decF, decT, Bool.not_true, Bool.not_false, putL_nil, putL_cons, if_true, if_false, seqR_ref, seqL_ref, lenL_ref, dicK_ref, dicT_ref, dat_ref, dat_non, dat_bl, dat_int, dat_str, dat_lst, dat_tup, datV_non, datV_bl, datV_int, datV_str, datV_lst, datV_tup, datVs_nil, datVs_cons, tyAt_ref, opt_some, Option.map_some, Option.bind_some, dv_ints, dv_bls, dv_nms, dv_prs, dv_nm, dt_nm, dt_pr, dv_pr, sh_int, sh_bl, sh_none, sh_nil, eqv_nil, sh_ints, sh_bls, sh_nm, sh_nms, sh_pr, sh_prs, anyI, anyN, anyP, eqv_int, eqv_bl, eqv_ints, eqv_bls, eqv_nms, eqv_prs, eqv_nm, eqv_pr, ht.hx, thF])); conv => whnf))
      refine ⟨x, t, d, w, rfl, ht, ?_⟩
      ((conv => whnf); repeat ((first | with_reducible refine ifTT ?_ | with_reducible refine ifFF ?_ | with_reducible refine ifnT ?_ | with_reducible refine ifnF ?_ | with_reducible refine ifTr ?_ | with_reducible refine ifFr ?_ | refine And.intro (by first | with_reducible rfl | with_reducible exact ⟨rfl, rfl⟩ | decide | omega | (dsimp only; decide) | (dsimp only; omega) | (unfold CDiv; omega) | (unfold CPow; decide) | (unfold CMul; omega) | (simp only [List.length_cons, List.length_nil]; omega)) ?_); conv => whnf))
      subst hs
      exact ⟨by simp, rfl⟩
    · subst hs
      exact ⟨by simp, rfl⟩
  · refine ifD (fun hs => ?_) (fun hs => ?_)
    · ((conv => whnf); repeat ((first | with_reducible refine ifTT ?_ | with_reducible refine ifFF ?_ | with_reducible refine ifnT ?_ | with_reducible refine ifnF ?_ | with_reducible refine ifTr ?_ | with_reducible refine ifFr ?_ | refine And.intro (by first | with_reducible rfl | with_reducible exact ⟨rfl, rfl⟩ | decide | omega | (dsimp only; decide) | (dsimp only; omega) | (unfold CDiv; omega) | (unfold CPow; decide) | (unfold CMul; omega) | (simp only [List.length_cons, List.length_nil]; omega)) ?_); conv => whnf))
      exact fin (.refl _) (h1 hs)
    · have h2 := h2 hs
      have h3 := h3 hs
      ((conv => whnf); repeat ((first | with_reducible refine ifTT ?_ | with_reducible refine ifFF ?_ | with_reducible refine ifnT ?_ | with_reducible refine ifnF ?_ | with_reducible refine ifTr ?_ | with_reducible refine ifFr ?_ | (refine And.intro (by first | with_reducible rfl | with_reducible exact ⟨rfl, rfl⟩ | decide | omega | (dsimp only; decide) | (dsimp only; omega) | (unfold CDiv; omega) | (unfold CPow; decide) | (unfold CMul; omega) | (simp only [List.length_cons, List.length_nil]; omega) | (simp only [Option.isSome_some]; done) | (simp only [meth_ref, put_same', seqL_ref, ht.hx, thF]; first | done | exact ⟨rfl, rfl⟩ | exact ⟨trivial, rfl⟩ | rfl)) ?_) | (simp (decide := true) only [put_same', put_put, decF, decT, Bool.not_true, Bool.not_false, putL_nil, putL_cons, if_true, if_false, seqR_ref, seqL_ref, lenL_ref, dicK_ref, dicT_ref, dat_ref, dat_non, dat_bl, dat_int, dat_str, dat_lst, dat_tup, datV_non, datV_bl, datV_int, datV_str, datV_lst, datV_tup, datVs_nil, datVs_cons, tyAt_ref, opt_some, Option.map_some, Option.bind_some, dv_ints, dv_bls, dv_nms, dv_prs, dv_nm, dt_nm, dt_pr, dv_pr, sh_int, sh_bl, sh_none, sh_nil, eqv_nil, sh_ints, sh_bls, sh_nm, sh_nms, sh_pr, sh_prs, anyI, anyN, anyP, eqv_int, eqv_bl, eqv_ints, eqv_bls, eqv_nms, eqv_prs, eqv_nm, eqv_pr, ht.hx, thF])); conv => whnf))
      refine ⟨x, t, d, w, rfl, ht, hok, hsm, fun r hrr => fin_lst put_same hrr (sub_put hrr) ?_⟩
      ((conv => whnf); repeat ((first | with_reducible refine ifTT ?_ | with_reducible refine ifFF ?_ | with_reducible refine ifnT ?_ | with_reducible refine ifnF ?_ | with_reducible refine ifTr ?_ | with_reducible refine ifFr ?_ | (refine And.intro (by first | with_reducible rfl | with_reducible exact ⟨rfl, rfl⟩ | decide | omega | (dsimp only; decide) | (dsimp only; omega) | (unfold CDiv; omega) | (unfold CPow; decide) | (unfold CMul; omega) | (simp only [List.length_cons, List.length_nil]; omega) | (simp only [Option.isSome_some]; done) | (simp only [meth_ref, put_same', seqL_ref, thF]; first | done | exact ⟨rfl, rfl⟩ | exact ⟨trivial, rfl⟩ | rfl)) ?_) | (simp (decide := true) only [put_same', put_put, decF, decT, Bool.not_true, Bool.not_false, putL_nil, putL_cons, if_true, if_false, seqR_ref, seqL_ref, lenL_ref, dicK_ref, dicT_ref, dat_ref, dat_non, dat_bl, dat_int, dat_str, dat_lst, dat_tup, datV_non, datV_bl, datV_int, datV_str, datV_lst, datV_tup, datVs_nil, datVs_cons, tyAt_ref, opt_some, Option.map_some, Option.bind_some, dv_ints, dv_bls, dv_nms, dv_prs, dv_nm, dt_nm, dt_pr, dv_pr, sh_int, sh_bl, sh_none, sh_nil, eqv_nil, sh_ints, sh_bls, sh_nm, sh_nms, sh_pr, sh_prs, anyI, anyN, anyP, eqv_int, eqv_bl, eqv_ints, eqv_bls, eqv_nms, eqv_prs, eqv_nm, eqv_pr, thF])); conv => whnf))
      refine ifNX (fun hp => ?_) (fun hp => ?_)
      · ((conv => whnf); repeat ((first | with_reducible refine ifTT ?_ | with_reducible refine ifFF ?_ | with_reducible refine ifnT ?_ | with_reducible refine ifnF ?_ | with_reducible refine ifTr ?_ | with_reducible refine ifFr ?_ | refine And.intro (by first | with_reducible rfl | with_reducible exact ⟨rfl, rfl⟩ | decide | omega | (dsimp only; decide) | (dsimp only; omega) | (unfold CDiv; omega) | (unfold CPow; decide) | (unfold CMul; omega) | (simp only [List.length_cons, List.length_nil]; omega)) ?_); conv => whnf))
        exact ⟨_, .refl _, h2 hp⟩
      · have h3 := h3 hp
        have hpp := hok.pt hp
        obtain ⟨pn, rfl⟩ := Int.eq_ofNat_of_zero_le hpp.1
        ((conv => whnf); repeat ((first | with_reducible refine ifTT ?_ | with_reducible refine ifFF ?_ | with_reducible refine ifnT ?_ | with_reducible refine ifnF ?_ | with_reducible refine ifTr ?_ | with_reducible refine ifFr ?_ | (refine And.intro (by first | with_reducible rfl | with_reducible exact ⟨rfl, rfl⟩ | decide | omega | (dsimp only; decide) | (dsimp only; omega) | (unfold CDiv; omega) | (unfold CPow; decide) | (unfold CMul; omega) | (simp only [List.length_cons, List.length_nil]; omega) | (simp only [Option.isSome_some]; done) | (simp only [meth_ref, put_same', seqL_ref, ht.hx, ht.hd, thF]; first | done | exact ⟨rfl, rfl⟩ | exact ⟨trivial, rfl⟩ | rfl)) ?_) | (simp (decide := true) only [put_same', put_put, decF, decT, Bool.not_true, Bool.not_false, putL_nil, putL_cons, if_true, if_false, seqR_ref, seqL_ref, lenL_ref, dicK_ref, dicT_ref, dat_ref, dat_non, dat_bl, dat_int, dat_str, dat_lst, dat_tup, datV_non, datV_bl, datV_int, datV_str, datV_lst, datV_tup, datVs_nil, datVs_cons, tyAt_ref, opt_some, Option.map_some, Option.bind_some, dv_ints, dv_bls, dv_nms, dv_prs, dv_nm, dt_nm, dt_pr, dv_pr, sh_int, sh_bl, sh_none, sh_nil, eqv_nil, sh_ints, sh_bls, sh_nm, sh_nms, sh_pr, sh_prs, anyI, anyN, anyP, eqv_int, eqv_bl, eqv_ints, eqv_bls, eqv_nms, eqv_prs, eqv_nm, eqv_pr, ht.hx, ht.hd, thF])); conv => whnf))
        rw [cutL_to]
        intro d' hd'
        have nd' : ∀ {y : Addr} {o : LO}, s y = some o → y ≠ d' := fun {y o} e => by rintro rfl; rw [e] at hd'; cases hd'
        have nx := nd' ht.hx
        have nd := nd' ht.hd
        have nw := nd' ht.hw
        ((conv => whnf); repeat ((first | with_reducible refine ifTT ?_ | with_reducible refine ifFF ?_ | with_reducible refine ifnT ?_ | with_reducible refine ifnF ?_ | with_reducible refine ifTr ?_ | with_reducible refine ifFr ?_ | (refine And.intro (by first | with_reducible rfl | with_reducible exact ⟨rfl, rfl⟩ | decide | omega | (dsimp only; decide) | (dsimp only; omega) | (unfold CDiv; omega) | (unfold CPow; decide) | (unfold CMul; omega) | (simp only [List.length_cons, List.length_nil]; omega) | (simp only [Option.isSome_some]; done) | (simp only [meth_ref, put_same', seqL_ref, put_ne nx, ht.hx, thF]; first | done | exact ⟨rfl, rfl⟩ | exact ⟨trivial, rfl⟩ | rfl)) ?_) | (simp (decide := true) only [put_same', put_put, decF, decT, Bool.not_true, Bool.not_false, putL_nil, putL_cons, if_true, if_false, seqR_ref, seqL_ref, lenL_ref, dicK_ref, dicT_ref, dat_ref, dat_non, dat_bl, dat_int, dat_str, dat_lst, dat_tup, datV_non, datV_bl, datV_int, datV_str, datV_lst, datV_tup, datVs_nil, datVs_cons, tyAt_ref, opt_some, Option.map_some, Option.bind_some, dv_ints, dv_bls, dv_nms, dv_prs, dv_nm, dt_nm, dt_pr, dv_pr, sh_int, sh_bl, sh_none, sh_nil, eqv_nil, sh_ints, sh_bls, sh_nm, sh_nms, sh_pr, sh_prs, anyI, anyN, anyP, eqv_int, eqv_bl, eqv_ints, eqv_bls, eqv_nms, eqv_prs, eqv_nm, eqv_pr, put_ne nx, ht.hx, thF])); conv => whnf))
        have o5 : Own [x, d, w] (d' :: [x, d, w]) s (put (put s d' (.lst (List.take pn (List.map (evL A) t.done)))) x (.ins A.c_Thread (thF A t.start t.hab d' w t.pile))) := ((Own.refl _ s).new hd').putM (by simp)
        have e5w : put (put s d' (.lst (List.take pn (List.map (evL A) t.done)))) x (.ins A.c_Thread (thF A t.start t.hab d' w t.pile)) w = some (.lst (t.wr.map .int)) := by rw [put_ne (Ne.symm ht.xw), put_ne nw]; exact ht.hw
        have e5d : put (put s d' (.lst (List.take pn (List.map (evL A) t.done)))) x (.ins A.c_Thread (thF A t.start t.hab d' w t.pile)) d' = some (.lst (List.take pn (List.map (evL A) t.done))) := by rw [put_ne (Ne.symm nx), put_same]
        have e5x : put (put s d' (.lst (List.take pn (List.map (evL A) t.done)))) x (.ins A.c_Thread (thF A t.start t.hab d' w t.pile)) x = some (.ins A.c_Thread (thF A t.start t.hab d' w t.pile)) := put_same
        unfold thF at o5 e5w e5d e5x
        revert o5 e5w e5d e5x
        generalize put (put s d' (.lst (List.take pn (List.map (evL A) t.done)))) x (.ins A.c_Thread _) = s5
        intro o5 e5w e5d e5x
        ((conv => whnf); repeat ((first | with_reducible refine ifTT ?_ | with_reducible refine ifFF ?_ | with_reducible refine ifnT ?_ | with_reducible refine ifnF ?_ | with_reducible refine ifTr ?_ | with_reducible refine ifFr ?_ | (refine And.intro (by first | with_reducible rfl | with_reducible exact ⟨rfl, rfl⟩ | decide | omega | (dsimp only; decide) | (dsimp only; omega) | (unfold CDiv; omega) | (unfold CPow; decide) | (unfold CMul; omega) | (simp only [List.length_cons, List.length_nil]; omega) | (simp only [Option.isSome_some]; done) | (simp only [meth_ref, put_same', seqL_ref, e5w]; first | done | exact ⟨rfl, rfl⟩ | exact ⟨trivial, rfl⟩ | rfl)) ?_) | (simp (decide := true) only [put_same', put_put, decF, decT, Bool.not_true, Bool.not_false, putL_nil, putL_cons, if_true, if_false, seqR_ref, seqL_ref, lenL_ref, dicK_ref, dicT_ref, dat_ref, dat_non, dat_bl, dat_int, dat_str, dat_lst, dat_tup, datV_non, datV_bl, datV_int, datV_str, datV_lst, datV_tup, datVs_nil, datVs_cons, tyAt_ref, opt_some, Option.map_some, Option.bind_some, dv_ints, dv_bls, dv_nms, dv_prs, dv_nm, dt_nm, dt_pr, dv_pr, sh_int, sh_bl, sh_none, sh_nil, eqv_nil, sh_ints, sh_bls, sh_nm, sh_nms, sh_pr, sh_prs, anyI, anyN, anyP, eqv_int, eqv_bl, eqv_ints, eqv_bls, eqv_nms, eqv_prs, eqv_nm, eqv_pr, e5w])); conv => whnf))
        intro Da hDa
        refine lc_pure hDa (fun q => decide (q ≤ (pn : Int))) LV.int (fun s' e => e _ _ e5w) hwl ?_ ?_
        · intro y _ s' Y N _ h1 h2
          ((conv => whnf); repeat ((first | with_reducible refine ifTT ?_ | with_reducible refine ifFF ?_ | with_reducible refine ifnT ?_ | with_reducible refine ifnF ?_ | with_reducible refine ifTr ?_ | with_reducible refine ifFr ?_ | refine And.intro (by first | with_reducible rfl | with_reducible exact ⟨rfl, rfl⟩ | decide | omega | (dsimp only; decide) | (dsimp only; omega) | (unfold CDiv; omega) | (unfold CPow; decide) | (unfold CMul; omega) | (simp only [List.length_cons, List.length_nil]; omega)) ?_); conv => whnf))
          exact ⟨h1, h2⟩
        · intro w' hw'
          have nw' : ∀ {y : Addr} {o : LO}, s5 y = some o → y ≠ w' := fun {y o} e => by rintro rfl; rw [e] at hw'; cases hw'
          ((conv => whnf); repeat ((first | with_reducible refine ifTT ?_ | with_reducible refine ifFF ?_ | with_reducible refine ifnT ?_ | with_reducible refine ifnF ?_ | with_reducible refine ifTr ?_ | with_reducible refine ifFr ?_ | (refine And.intro (by first | with_reducible rfl | with_reducible exact ⟨rfl, rfl⟩ | decide | omega | (dsimp only; decide) | (dsimp only; omega) | (unfold CDiv; omega) | (unfold CPow; decide) | (unfold CMul; omega) | (simp only [List.length_cons, List.length_nil]; omega) | (simp only [Option.isSome_some]; done) | (simp only [meth_ref, put_same', seqL_ref, put_ne (nw' e5x), e5x]; first | done | exact ⟨rfl, rfl⟩ | exact ⟨trivial, rfl⟩ | rfl)) ?_) | (simp (decide := true) only [put_same', put_put, decF, decT, Bool.not_true, Bool.not_false, putL_nil, putL_cons, if_true, if_false, seqR_ref, seqL_ref, lenL_ref, dicK_ref, dicT_ref, dat_ref, dat_non, dat_bl, dat_int, dat_str, dat_lst, dat_tup, datV_non, datV_bl, datV_int, datV_str, datV_lst, datV_tup, datVs_nil, datVs_cons, tyAt_ref, opt_some, Option.map_some, Option.bind_some, dv_ints, dv_bls, dv_nms, dv_prs, dv_nm, dt_nm, dt_pr, dv_pr, sh_int, sh_bl, sh_none, sh_nil, eqv_nil, sh_ints, sh_bls, sh_nm, sh_nms, sh_pr, sh_prs, anyI, anyN, anyP, eqv_int, eqv_bl, eqv_ints, eqv_bls, eqv_nms, eqv_prs, eqv_nm, eqv_pr, put_ne (nw' e5x), e5x])); conv => whnf))
          refine ⟨_, .refl _, h3 _ d' w' ⟨?_, ?_, ?_, nw' e5d⟩ ((((o5.new hw').putM (by simp)).sub (by simp)))⟩
          · rw [put_same]; rfl
          · rw [put_ne (Ne.symm nx), put_ne (nw' e5d), e5d]
            simp [Th.cut, List.map_take]
          · rw [put_ne (Ne.symm (nw' e5x)), put_same]
            rfl
def Md.cut (M : Md) (p : Int) : Md := { states := M.states.take (p + 1).toNat, written := M.written.take (p + 1).toNat, writings := M.writings.filter fun q => decide (q ≤ p), pile := [] }
section
variable {s : LS} {m a b c p : Addr} {M : Md}
theorem IsMd.newA {p' : Addr} (h : IsMd s m M a b c p) (hp : s p' = none) (xs : List Int) :
    IsMd (put (put s p' (.lst (xs.map .int))) m (.dK (putD [(.inr "states", .ref a), (.inr "written", .ref b), (.inr "writings", .ref c), (.inr "pile", .ref p)] (.inr "states") (.ref p')))) m { M with states := xs } p' b c p := by
  obtain ⟨n0, n1, n2, n3, n4⟩ := h.mFree hp
  obtain ⟨k1, k2, k3, k4, k5, k6⟩ := h.nes
  refine ⟨put_same, ?_, ?_, ?_, ?_, ?_⟩
  · rw [put_ne (Ne.symm n0), put_same]
  · rw [put_ne (Ne.symm h.mb), put_ne n2]; exact h.hb
  · rw [put_ne (Ne.symm h.mc), put_ne n3]; exact h.hc
  · rw [put_ne (Ne.symm h.mp), put_ne n4]; exact h.hp
  · simp [k4, k5, k6, Ne.symm n2, Ne.symm n3, Ne.symm n4]
theorem IsMd.newB {p' : Addr} (h : IsMd s m M a b c p) (hp : s p' = none) (xs : List Bool) :
    IsMd (put (put s p' (.lst (xs.map .bl))) m (.dK (putD [(.inr "states", .ref a), (.inr "written", .ref b), (.inr "writings", .ref c), (.inr "pile", .ref p)] (.inr "written") (.ref p')))) m { M with written := xs } a p' c p := by
  obtain ⟨n0, n1, n2, n3, n4⟩ := h.mFree hp
  obtain ⟨k1, k2, k3, k4, k5, k6⟩ := h.nes
  refine ⟨put_same, ?_, ?_, ?_, ?_, ?_⟩
  · rw [put_ne (Ne.symm h.ma), put_ne n1]; exact h.ha
  · rw [put_ne (Ne.symm n0), put_same]
  · rw [put_ne (Ne.symm h.mc), put_ne n3]; exact h.hc
  · rw [put_ne (Ne.symm h.mp), put_ne n4]; exact h.hp
  · simp [k2, k3, k6, n1, Ne.symm n3, Ne.symm n4]
theorem IsMd.newC {p' : Addr} (h : IsMd s m M a b c p) (hp : s p' = none) (xs : List Int) :
    IsMd (put (put s p' (.lst (xs.map .int))) m (.dK (putD [(.inr "states", .ref a), (.inr "written", .ref b), (.inr "writings", .ref c), (.inr "pile", .ref p)] (.inr "writings") (.ref p')))) m { M with writings := xs } a b p' p := by
  obtain ⟨n0, n1, n2, n3, n4⟩ := h.mFree hp
  obtain ⟨k1, k2, k3, k4, k5, k6⟩ := h.nes
  refine ⟨put_same, ?_, ?_, ?_, ?_, ?_⟩
  · rw [put_ne (Ne.symm h.ma), put_ne n1]; exact h.ha
  · rw [put_ne (Ne.symm h.mb), put_ne n2]; exact h.hb
  · rw [put_ne (Ne.symm n0), put_same]
  · rw [put_ne (Ne.symm h.mp), put_ne n4]; exact h.hp
  · simp [k1, k3, k5, n1, n2, Ne.symm n4]
end
def spMCut : LSp := fun vs s Q E => ∃ m M a b c p pl, vs = [.ref m, .int pl] ∧ IsMd s m M a b c p ∧ M.Ok ∧ 0 ≤ pl ∧ ∀ s' a' b' c' p', IsMd s' m (M.cut pl) a' b' c' p' → Own [m, a, b, c, p] [m, a', b', c', p'] s s' → Q .non s'
theorem ok_law_cut (T : Txt K mg A D) : LFn P w K mg base 1 A.f_law_cut D.d_law_cut ["_law_model", "_law_place"] spMCut := by
  refine T.F_law_cut.okL sc_law_cut (fun vs s Q E ⟨_, _, _, _, _, _, _, h, _⟩ => by rw [h]; rfl) (fun cdv A' outer si H E hr => ⟨_, (lps_cons (lp_asg (le_new (ll_slice (le_item (hu_of hr) (lv 0) le_str) lo_none (lo_some (le_add (lv 1) le_int)))) (lg_sub (hu_of hr) (lv 0) le_str))
    (lps_cons (lp_asg (le_new (ll_slice (le_item (hu_of hr) (lv 0) le_str) lo_none (lo_some (le_add (lv 1) le_int)))) (lg_sub (hu_of hr) (lv 0) le_str))
    (lps_cons (lp_asg (le_new (ll_lc (own := [("_law_one", 2)]) (g := CTg.one 2) rfl sc_law_cut.nd (li_seq (le_item (hu_of hr) (lv 0) le_str)) (blkOk_by (N := ["_law_model", "_law_place", "_law_one"]) (sc := defScope s_law_cut) (by decide +kernel)) (by decide) (fun _ _ _ _ _ => pg_name (i := 2) sc_law_cut.nd rfl (Or.inl rfl)) (fun _ _ _ _ _ => (lts_one (lt_le (lv 2) (lv 1)))) (fun _ _ _ _ _ => (lv 2)))) (lg_sub (hu_of hr) (lv 0) le_str))
    (lps_one (lp_asg (le_new (ll_disp la_nil)) (lg_sub (hu_of hr) (lv 0) le_str)))))), fun vs s Q E h => ?_⟩)
  obtain ⟨m, M, a, b, c, p, pl, rfl, hM, hok, h0, h⟩ := h
  have ec : pl + 1 = ((pl + 1).toNat : Int) := by omega
  ((conv => whnf); repeat ((first | with_reducible refine ifTT ?_ | with_reducible refine ifFF ?_ | with_reducible refine ifnT ?_ | with_reducible refine ifnF ?_ | with_reducible refine ifTr ?_ | with_reducible refine ifFr ?_ | (refine And.intro (by first | with_reducible rfl | with_reducible exact ⟨rfl, rfl⟩ | decide | omega | (dsimp only; decide) | (dsimp only; omega) | (unfold CDiv; omega) | (unfold CPow; decide) | (unfold CMul; omega) | (simp only [List.length_cons, List.length_nil]; omega) | (simp only [Option.isSome_some]; done) | (simp only [meth_ref, put_same', seqL_ref, hM.hm, hM.ha]; first | done | exact ⟨rfl, rfl⟩ | exact ⟨trivial, rfl⟩ | rfl)) ?_) | (simp (decide := true) only [put_same', put_put, decF, decT, Bool.not_true, Bool.not_false, putL_nil, putL_cons, if_true, if_false, seqR_ref, seqL_ref, lenL_ref, dicK_ref, dicT_ref, dat_ref, dat_non, dat_bl, dat_int, dat_str, dat_lst, dat_tup, datV_non, datV_bl, datV_int, datV_str, datV_lst, datV_tup, datVs_nil, datVs_cons, tyAt_ref, opt_some, Option.map_some, Option.bind_some, dv_ints, dv_bls, dv_nms, dv_prs, dv_nm, dt_nm, dt_pr, dv_pr, sh_int, sh_bl, sh_none, sh_nil, eqv_nil, sh_ints, sh_bls, sh_nm, sh_nms, sh_pr, sh_prs, anyI, anyN, anyP, eqv_int, eqv_bl, eqv_ints, eqv_bls, eqv_nms, eqv_prs, eqv_nm, eqv_pr, hM.hm, hM.ha])); conv => whnf))
  rw [ec, cutL_to]
  intro a' ha'
  obtain ⟨n0, n1, n2, n3, n4⟩ := hM.mFree ha'
  have h1 := hM.newA ha' (M.states.take (pl + 1).toNat)
  rw [List.map_take] at h1
  have o1 := (((Own.refl [m, a, b, c, p] s).new (o := .lst (List.take (pl + 1).toNat (List.map LV.int M.states))) ha').putM (x := m) (o := .dK (putD [(.inr "states", .ref a), (.inr "written", .ref b), (.inr "writings", .ref c), (.inr "pile", .ref p)] (.inr "states") (.ref a'))) (by simp)).sub (F2 := [m, a', b, c, p]) (by simp)
  conv => whnf
  rw [put_ne n0, hM.hm]
  ((conv => whnf); repeat ((first | with_reducible refine ifTT ?_ | with_reducible refine ifFF ?_ | with_reducible refine ifnT ?_ | with_reducible refine ifnF ?_ | with_reducible refine ifTr ?_ | with_reducible refine ifFr ?_ | refine And.intro (by first | with_reducible rfl | with_reducible exact ⟨rfl, rfl⟩ | decide | omega | (dsimp only; decide) | (dsimp only; omega) | (unfold CDiv; omega) | (unfold CPow; decide) | (unfold CMul; omega) | (simp only [List.length_cons, List.length_nil]; omega)) ?_); conv => whnf))
  revert h1 o1
  generalize put (put s a' (.lst (List.take (pl + 1).toNat (List.map LV.int M.states)))) m (.dK _) = s1
  intro h1 o1
  ((conv => whnf); repeat ((first | with_reducible refine ifTT ?_ | with_reducible refine ifFF ?_ | with_reducible refine ifnT ?_ | with_reducible refine ifnF ?_ | with_reducible refine ifTr ?_ | with_reducible refine ifFr ?_ | (refine And.intro (by first | with_reducible rfl | with_reducible exact ⟨rfl, rfl⟩ | decide | omega | (dsimp only; decide) | (dsimp only; omega) | (unfold CDiv; omega) | (unfold CPow; decide) | (unfold CMul; omega) | (simp only [List.length_cons, List.length_nil]; omega) | (simp only [Option.isSome_some]; done) | (simp only [meth_ref, put_same', seqL_ref, h1.hm, h1.hb]; first | done | exact ⟨rfl, rfl⟩ | exact ⟨trivial, rfl⟩ | rfl)) ?_) | (simp (decide := true) only [put_same', put_put, decF, decT, Bool.not_true, Bool.not_false, putL_nil, putL_cons, if_true, if_false, seqR_ref, seqL_ref, lenL_ref, dicK_ref, dicT_ref, dat_ref, dat_non, dat_bl, dat_int, dat_str, dat_lst, dat_tup, datV_non, datV_bl, datV_int, datV_str, datV_lst, datV_tup, datVs_nil, datVs_cons, tyAt_ref, opt_some, Option.map_some, Option.bind_some, dv_ints, dv_bls, dv_nms, dv_prs, dv_nm, dt_nm, dt_pr, dv_pr, sh_int, sh_bl, sh_none, sh_nil, eqv_nil, sh_ints, sh_bls, sh_nm, sh_nms, sh_pr, sh_prs, anyI, anyN, anyP, eqv_int, eqv_bl, eqv_ints, eqv_bls, eqv_nms, eqv_prs, eqv_nm, eqv_pr, h1.hm, h1.hb])); conv => whnf))
  rw [ec, cutL_to]
  intro b' hb'
  obtain ⟨n0, n1, n2, n3, n4⟩ := h1.mFree hb'
  have h2 := h1.newB hb' (M.written.take (pl + 1).toNat)
  rw [List.map_take] at h2
  have o2 := o1.trans ((((Own.refl [m, a', b, c, p] s1).new (o := .lst (List.take (pl + 1).toNat (List.map LV.bl M.written))) hb').putM (x := m) (o := .dK (putD [(.inr "states", .ref a'), (.inr "written", .ref b), (.inr "writings", .ref c), (.inr "pile", .ref p)] (.inr "written") (.ref b'))) (by simp)).sub (F2 := [m, a', b', c, p]) (by simp))
  conv => whnf
  rw [put_ne n0, h1.hm]
  ((conv => whnf); repeat ((first | with_reducible refine ifTT ?_ | with_reducible refine ifFF ?_ | with_reducible refine ifnT ?_ | with_reducible refine ifnF ?_ | with_reducible refine ifTr ?_ | with_reducible refine ifFr ?_ | refine And.intro (by first | with_reducible rfl | with_reducible exact ⟨rfl, rfl⟩ | decide | omega | (dsimp only; decide) | (dsimp only; omega) | (unfold CDiv; omega) | (unfold CPow; decide) | (unfold CMul; omega) | (simp only [List.length_cons, List.length_nil]; omega)) ?_); conv => whnf))
  revert h2 o2
  generalize put (put s1 b' (.lst (List.take (pl + 1).toNat (List.map LV.bl M.written)))) m (.dK _) = s2
  intro h2 o2
  ((conv => whnf); repeat ((first | with_reducible refine ifTT ?_ | with_reducible refine ifFF ?_ | with_reducible refine ifnT ?_ | with_reducible refine ifnF ?_ | with_reducible refine ifTr ?_ | with_reducible refine ifFr ?_ | (refine And.intro (by first | with_reducible rfl | with_reducible exact ⟨rfl, rfl⟩ | decide | omega | (dsimp only; decide) | (dsimp only; omega) | (unfold CDiv; omega) | (unfold CPow; decide) | (unfold CMul; omega) | (simp only [List.length_cons, List.length_nil]; omega) | (simp only [Option.isSome_some]; done) | (simp only [meth_ref, put_same', seqL_ref, h2.hm, h2.hc]; first | done | exact ⟨rfl, rfl⟩ | exact ⟨trivial, rfl⟩ | rfl)) ?_) | (simp (decide := true) only [put_same', put_put, decF, decT, Bool.not_true, Bool.not_false, putL_nil, putL_cons, if_true, if_false, seqR_ref, seqL_ref, lenL_ref, dicK_ref, dicT_ref, dat_ref, dat_non, dat_bl, dat_int, dat_str, dat_lst, dat_tup, datV_non, datV_bl, datV_int, datV_str, datV_lst, datV_tup, datVs_nil, datVs_cons, tyAt_ref, opt_some, Option.map_some, Option.bind_some, dv_ints, dv_bls, dv_nms, dv_prs, dv_nm, dt_nm, dt_pr, dv_pr, sh_int, sh_bl, sh_none, sh_nil, eqv_nil, sh_ints, sh_bls, sh_nm, sh_nms, sh_pr, sh_prs, anyI, anyN, anyP, eqv_int, eqv_bl, eqv_ints, eqv_bls, eqv_nms, eqv_prs, eqv_nm, eqv_pr, h2.hm, h2.hc])); conv => whnf))
  intro Da hDa
  refine lc_pure hDa (fun q => decide (q ≤ pl)) LV.int (fun s' e => e _ _ h2.hc) (by have := hok.smallW; omega) ?_ ?_
  · intro y _ s' Y N _ h1 h2
    ((conv => whnf); repeat ((first | with_reducible refine ifTT ?_ | with_reducible refine ifFF ?_ | with_reducible refine ifnT ?_ | with_reducible refine ifnF ?_ | with_reducible refine ifTr ?_ | with_reducible refine ifFr ?_ | refine And.intro (by first | with_reducible rfl | with_reducible exact ⟨rfl, rfl⟩ | decide | omega | (dsimp only; decide) | (dsimp only; omega) | (unfold CDiv; omega) | (unfold CPow; decide) | (unfold CMul; omega) | (simp only [List.length_cons, List.length_nil]; omega)) ?_); conv => whnf))
    exact ⟨h1, h2⟩
  · intro c' hc'
    obtain ⟨n0, n1, n2, n3, n4⟩ := h2.mFree hc'
    have h3 := h2.newC hc' (M.writings.filter fun q => decide (q ≤ pl))
    have o3 := o2.trans ((((Own.refl [m, a', b', c, p] s2).new (o := .lst ((M.writings.filter fun q => decide (q ≤ pl)).map .int)) hc').putM (x := m) (o := .dK (putD [(.inr "states", .ref a'), (.inr "written", .ref b'), (.inr "writings", .ref c), (.inr "pile", .ref p)] (.inr "writings") (.ref c'))) (by simp)).sub (F2 := [m, a', b', c', p]) (by simp))
    conv => whnf
    rw [put_ne n0, h2.hm]
    ((conv => whnf); repeat ((first | with_reducible refine ifTT ?_ | with_reducible refine ifFF ?_ | with_reducible refine ifnT ?_ | with_reducible refine ifnF ?_ | with_reducible refine ifTr ?_ | with_reducible refine ifFr ?_ | refine And.intro (by first | with_reducible rfl | with_reducible exact ⟨rfl, rfl⟩ | decide | omega | (dsimp only; decide) | (dsimp only; omega) | (unfold CDiv; omega) | (unfold CPow; decide) | (unfold CMul; omega) | (simp only [List.length_cons, List.length_nil]; omega)) ?_); conv => whnf))
    revert h3 o3
    generalize put (put s2 c' (.lst ((M.writings.filter fun q => decide (q ≤ pl)).map .int))) m (.dK _) = s3
    intro h3 o3
    intro p' hp'
    obtain ⟨n0, n1, n2, n3, n4⟩ := h3.mFree hp'
    have h4 := h3.newP hp' []
    conv => whnf
    rw [put_ne n0, h3.hm]
    ((conv => whnf); repeat ((first | with_reducible refine ifTT ?_ | with_reducible refine ifFF ?_ | with_reducible refine ifnT ?_ | with_reducible refine ifnF ?_ | with_reducible refine ifTr ?_ | with_reducible refine ifFr ?_ | refine And.intro (by first | with_reducible rfl | with_reducible exact ⟨rfl, rfl⟩ | decide | omega | (dsimp only; decide) | (dsimp only; omega) | (unfold CDiv; omega) | (unfold CPow; decide) | (unfold CMul; omega) | (simp only [List.length_cons, List.length_nil]; omega)) ?_); conv => whnf))
    exact ⟨_, .refl _, h _ _ _ _ _ h4 (o3.trans (((Own.refl _ s3).new hp').putM (by simp) |>.sub (by simp)))⟩
end

section
variable {t : Th} {M : Md}
theorem Th.Ok.head_le (h : t.Ok) {p : Int} (hp : p ∈ t.points) : t.wr.headD 0 ≤ p := by
  unfold Th.points at hp
  split at hp
  · simp only [List.mem_map, List.mem_range] at hp
    obtain ⟨i, hi, rfl⟩ := hp
    omega
  · exact h.min p hp
theorem Th.Ok.pt_pile (h : t.Ok) (hw : t.hab.writes = true) {p : Int} (hp : p ∈ t.points) : p ≤ t.here - t.pile := by
  unfold Th.points at hp
  rw [if_pos hw] at hp
  simp only [List.mem_map, List.mem_range] at hp
  obtain ⟨i, hi, rfl⟩ := hp
  omega
theorem Rel.cut (r : Rel t M) {p : Int} (hp : p ∈ t.points) : Rel (t.cut p) (M.cut p) := by
  have hok := r.ok
  have hpp := hok.pt hp
  have hsl := r.sl
  have hh : (t.cut p).here = p := by
    show ((t.done.take p.toNat).length : Int) = p
    rw [List.length_take]
    have := hpp.2
    unfold Th.here at this
    omega
  have hmem : ∀ q, q ∈ (t.cut p).wr ↔ q ∈ t.wr ∧ q ≤ p := fun q => by
    show q ∈ t.wr.filter _ ↔ _
    rw [List.mem_filter]; simp
  have hok' : (t.cut p).Ok := by
    refine ⟨?_, hok.asc.sublist (List.filter_sublist ..), fun q hq => ?_, fun hw => ⟨Int.le_refl 0, fun q hq => ?_⟩⟩
    · intro e
      have := (hmem (t.wr.headD 0)).mpr ⟨hok.head, hok.head_le hp⟩
      rw [e] at this; cases this
    · rw [hh]
      have h1 := (hmem q).mp hq
      exact ⟨(hok.rng q h1.1).1, h1.2⟩
    · rw [hh]
      show q ≤ p - 0
      have h1 := (hmem q).mp hq
      omega
  have e1 : (p + 1).toNat = p.toNat + 1 := by omega
  have hw : ∀ y : Int, 0 ≤ y → y ≤ p → (M.cut p).written[y.toNat]? = M.written[y.toNat]? := fun y h1 h2 => by
    show (M.written.take (p + 1).toNat)[y.toNat]? = _
    rw [List.getElem?_take_of_lt (by omega)]
  refine ⟨hok', ?_, ?_, ?_, fun h y h1 h2 => ?_, fun h y h1 h2 => ?_, fun h => rfl, fun n h => ?_, fun _ => rfl⟩
  · show M.states.take (p + 1).toNat = _
    rw [r.st, e1]
    unfold Th.states
    rw [List.take_succ_cons, ← List.map_take]
    rfl
  · show M.writings.filter _ = t.wr.filter _
    rw [r.wr]
  · show (M.written.take (p + 1).toNat).length = (M.states.take (p + 1).toNat).length
    rw [List.length_take, List.length_take, r.len]
  · rw [hh] at h2
    rw [hw y (by omega) h2]
    exact r.nev h y h1 (by omega)
  · rw [hh] at h2
    rw [hw y h1 h2, r.wrt h y h1 (by omega), hh]
    have := hok.pt_pile h hp
    congr 1
    show _ = decide (y ≤ p - 0)
    rw [decide_eq_true (by omega), decide_eq_true (by omega)]
  · have hb := r.bun n h
    have := (hok.pile (show t.hab.writes = true by rw [show t.hab = _ from h]; rfl)).1
    exact ⟨by show (0 : Int) < n; omega, rfl⟩
end
section
variable {P : Program} {w : World} {K : PySem.W.Frag} {mg : Str → Option Value} {base : Heap} {A : Ad} {D : Fd}
def spTold (A : Ad) : LSp := fun vs s Q E => ∃ x t d w p st, vs = [.ref x, .int p, .bl st] ∧ IsTh A s x t d w ∧ t.Ok ∧ t.done.length < 16777215 ∧ t.wr.length ≤ 16777216 ∧ (st = true ∧ p = t.here → Q (.bl true) s) ∧ (¬ (st = true ∧ p = t.here) → p ∉ t.points → Q (.bl false) s) ∧
  (¬ (st = true ∧ p = t.here) → p ∈ t.points → ∀ s' d' w', IsTh A s' x (t.cut p) d' w' → Own [x, d, w] [x, d', w'] s s' → Q (.bl true) s')
theorem ok_law_told (T : Txt K mg A D) : LFn P w K mg base 4 A.f_law_told D.d_law_told ["_law_thread", "_law_place", "_law_stands"] (spTold A) := by
  refine T.F_law_told.okL sc_law_told (fun vs s Q E ⟨_, _, _, _, _, _, h, _⟩ => by rw [h]; rfl) (fun cdv A' outer si H E hr => ⟨_, (lps_cons (lp_try_only rfl rfl ⟨rfl, by decide, .inl T.x_NoPoint.gP⟩ (fun pn xe => (lps_one (lp_expr (le_meth (lv 0) T.cl_Thread T.mt_Thread_cut (ok_Thread_cut T) (hr.mono (by decide)) T.q_Thread_cut (la_cons (lv 1) (la_cons (lv 2) la_nil)))))) (fun a_ oe C_ pn hz hv => (lps_one (lp_ret le_bl))))
    (lps_one (lp_ret le_bl))), fun vs s Q E h => ?_⟩)
  obtain ⟨x, t, d, w, p, st, rfl, ht, hok, hsm, hwl, h1, h2, h3⟩ := h
  ((conv => whnf); repeat ((first | with_reducible refine ifTT ?_ | with_reducible refine ifFF ?_ | with_reducible refine ifnT ?_ | with_reducible refine ifnF ?_ | with_reducible refine ifTr ?_ | with_reducible refine ifFr ?_ | (refine And.intro (by first | with_reducible rfl | with_reducible exact ⟨rfl, rfl⟩ | decide | omega | (dsimp only; decide) | (dsimp only; omega) | (unfold CDiv; omega) | (unfold CPow; decide) | (unfold CMul; omega) | (simp only [List.length_cons, List.length_nil]; omega) | (simp only [Option.isSome_some]; done) | (simp only [meth_ref, put_same', seqL_ref, ht.hx, thF]; first | done | exact ⟨rfl, rfl⟩ | exact ⟨trivial, rfl⟩ | rfl)) ?_) | (simp (decide := true) only [put_same', put_put, decF, decT, Bool.not_true, Bool.not_false, putL_nil, putL_cons, if_true, if_false, seqR_ref, seqL_ref, lenL_ref, dicK_ref, dicT_ref, dat_ref, dat_non, dat_bl, dat_int, dat_str, dat_lst, dat_tup, datV_non, datV_bl, datV_int, datV_str, datV_lst, datV_tup, datVs_nil, datVs_cons, tyAt_ref, opt_some, Option.map_some, Option.bind_some, dv_ints, dv_bls, dv_nms, dv_prs, dv_nm, dt_nm, dt_pr, dv_pr, sh_int, sh_bl, sh_none, sh_nil, eqv_nil, sh_ints, sh_bls, sh_nm, sh_nms, sh_pr, sh_prs, anyI, anyN, anyP, eqv_int, eqv_bl, eqv_ints, eqv_bls, eqv_nms, eqv_prs, eqv_nm, eqv_pr, ht.hx, thF])); conv => whnf))
  refine ⟨x, t, d, w, p, st, rfl, ht, hok, hsm, hwl, fun q => ?_, fun q1 q2 => ?_, fun q1 q2 s' d' w' h4 o4 => ?_⟩
  · ((conv => whnf); repeat ((first | with_reducible refine ifTT ?_ | with_reducible refine ifFF ?_ | with_reducible refine ifnT ?_ | with_reducible refine ifnF ?_ | with_reducible refine ifTr ?_ | with_reducible refine ifFr ?_ | refine And.intro (by first | with_reducible rfl | with_reducible exact ⟨rfl, rfl⟩ | decide | omega | (dsimp only; decide) | (dsimp only; omega) | (unfold CDiv; omega) | (unfold CPow; decide) | (unfold CMul; omega) | (simp only [List.length_cons, List.length_nil]; omega)) ?_); conv => whnf))
    exact fin (.refl _) (h1 q)
  · refine ⟨true, T.xm_NoPoint_NoPoint, fun _ => ?_, fun q => by cases q⟩
    ((conv => whnf); repeat ((first | with_reducible refine ifTT ?_ | with_reducible refine ifFF ?_ | with_reducible refine ifnT ?_ | with_reducible refine ifnF ?_ | with_reducible refine ifTr ?_ | with_reducible refine ifFr ?_ | refine And.intro (by first | with_reducible rfl | with_reducible exact ⟨rfl, rfl⟩ | decide | omega | (dsimp only; decide) | (dsimp only; omega) | (unfold CDiv; omega) | (unfold CPow; decide) | (unfold CMul; omega) | (simp only [List.length_cons, List.length_nil]; omega)) ?_); conv => whnf))
    exact fin (.refl _) (h2 q1 q2)
  · ((conv => whnf); repeat ((first | with_reducible refine ifTT ?_ | with_reducible refine ifFF ?_ | with_reducible refine ifnT ?_ | with_reducible refine ifnF ?_ | with_reducible refine ifTr ?_ | with_reducible refine ifFr ?_ | refine And.intro (by first | with_reducible rfl | with_reducible exact ⟨rfl, rfl⟩ | decide | omega | (dsimp only; decide) | (dsimp only; omega) | (unfold CDiv; omega) | (unfold CPow; decide) | (unfold CMul; omega) | (simp only [List.length_cons, List.length_nil]; omega)) ?_); conv => whnf))
    exact fin (.refl _) (h3 q1 q2 _ _ _ h4 o4)
structure K2 (A : Ad) (s0 s : LS) (x d w m a b c p : Addr) (t : Th) (M : Md) : Prop where
  ht : IsTh A s x t d w
  hM : IsMd s m M a b c p
  xm : ∀ y ∈ [x, d, w], y ∉ [m, a, b, c, p]
  ext : Ext s0 s
  fr : ∀ y ∈ [x, d, w] ++ [m, a, b, c, p], s0 y = none
section
variable {s0 s s' : LS} {x d w m a b c p d' w' a' b' c' p' : Addr} {t t' : Th} {M M' : Md}
theorem IsTh.ex (h : IsTh A s x t d w) : ∀ y ∈ [x, d, w], ∃ o, s y = some o := fun y hy => by
  simp at hy
  rcases hy with rfl | rfl | rfl
  · exact ⟨_, h.hx⟩
  · exact ⟨_, h.hd⟩
  · exact ⟨_, h.hw⟩
theorem IsMd.ex (h : IsMd s m M a b c p) : ∀ y ∈ [m, a, b, c, p], ∃ o, s y = some o := fun y hy => by
  simp at hy
  rcases hy with rfl | rfl | rfl | rfl | rfl
  · exact ⟨_, h.hm⟩
  · exact ⟨_, h.ha⟩
  · exact ⟨_, h.hb⟩
  · exact ⟨_, h.hc⟩
  · exact ⟨_, h.hp⟩
theorem ext_own {F F' : List Addr} (e : Ext s0 s) (o : Own F F' s s') (h0 : ∀ y ∈ F, s0 y = none) : Ext s0 s' := fun y o' h => o.at (fun hn => by rw [h0 y hn] at h; cases h) (e y o' h)
theorem fr_own {F F' : List Addr} (e : Ext s0 s) (o : Own F F' s s') (h0 : ∀ y ∈ F, s0 y = none) : ∀ y ∈ F', s0 y = none := fun y hy => by
  by_cases hF : y ∈ F
  · exact h0 y hF
  · cases h : s0 y with
    | none => rfl
    | some o' => exact absurd hy (o.out hF (e y o' h))
theorem K2.th (k : K2 A s0 s x d w m a b c p t M) (o : Own [x, d, w] [x, d', w'] s s') (h : IsTh A s' x t' d' w') : K2 A s0 s' x d' w' m a b c p t' M := by
  have f1 : ∀ y ∈ [x, d, w], s0 y = none := fun y hy => k.fr y (List.mem_append_left _ hy)
  have hm : ∀ y ∈ [m, a, b, c, p], y ∉ [x, d, w] := fun y hy hn => k.xm y hn hy
  refine ⟨h, k.hM.own o hm, fun y hy hn => ?_, ext_own k.ext o f1, fun y hy => ?_⟩
  · obtain ⟨o', e⟩ := k.hM.ex y hn
    exact o.out (hm y hn) e hy
  · rw [List.mem_append] at hy
    exact hy.elim (fr_own k.ext o f1 y) fun hy => k.fr y (List.mem_append_right _ hy)
theorem K2.md (k : K2 A s0 s x d w m a b c p t M) (o : Own [m, a, b, c, p] [m, a', b', c', p'] s s') (h : IsMd s' m M' a' b' c' p') : K2 A s0 s' x d w m a' b' c' p' t M' := by
  have f1 : ∀ y ∈ [m, a, b, c, p], s0 y = none := fun y hy => k.fr y (List.mem_append_right _ hy)
  refine ⟨k.ht.own o (k.xm x (by simp)) (k.xm d (by simp)) (k.xm w (by simp)), h, fun y hy hn => ?_, ext_own k.ext o f1, fun y hy => ?_⟩
  · obtain ⟨o', e⟩ := k.ht.ex y hy
    exact o.out (k.xm y hy) e hn
  · rw [List.mem_append] at hy
    exact hy.elim (fun hy => k.fr y (List.mem_append_left _ hy)) (fr_own k.ext o f1 y)
end
section
variable {s0 s s' : LS} {x d w m a b c p d' w' a' b' c' p' : Addr} {t t' : Th} {M M' : Md}
theorem Th.Ok.pne (h : t.Ok) : 0 < t.points.length := by
  unfold Th.points
  split
  · next hw =>
    have h1 := (h.pile hw).2 _ h.head
    rw [List.length_map, List.length_range]
    omega
  · exact List.length_pos_iff.mpr h.ne
theorem K2.frz (k : K2 A s0 s x d w m a b c p t M) {r : Addr} (hr : s r = none) {l : List LV} {Q : LVK} (q : Q (.lst l) s) : ∃ y s2, Frz (.ref r) (put s r (.lst l)) y s2 ∧ Q y s2 := fin_lst put_same hr (sub_put hr) q
end

def Th.early (t : Th) (p : Int) : List Int := t.wr.filter fun q => decide (q ≤ p)
def Th.throw (t : Th) (p : Int) : Th := match (t.early p).getLast? with
  | none => t
  | some l => { t with wr := t.wr.filter fun q => decide (l ≤ q) }
def spThrow (A : Ad) : LSp := fun vs s Q E => ∃ x t d w p, vs = [.ref x, .int p] ∧ IsTh A s x t d w ∧ t.wr.length ≤ 16777216 ∧ ∀ s' w', IsTh A s' x (t.throw p) d w' → Own [x, d, w] [x, d, w'] s s' → Q .non s'
theorem last_cases (xs : List Int) : xs = [] ∨ ∃ ys l, xs = ys ++ [l] := by
  cases e : xs.getLast? with
  | none => exact .inl (List.getLast?_eq_none_iff.mp e)
  | some l =>
    obtain ⟨ys, h⟩ := List.getLast?_eq_some_iff.mp e
    exact .inr ⟨ys, l, h⟩
theorem ok_Thread_throw_ahead (T : Txt K mg A D) : LFn P w K mg base 1 A.f_Thread_throw_ahead D.d_Thread_throw_ahead ["self", "place"] (spThrow A) := by
  refine T.F_Thread_throw_ahead.okL sc_Thread_throw_ahead (fun vs s Q E ⟨_, _, _, _, _, h, _⟩ => by rw [h]; rfl) (fun cdv A' outer si H E hr => ⟨_, (lps_cons (lp_set (i := 2) sc_Thread_throw_ahead.nd rfl (by first | exact Or.inl rfl | exact Or.inr rfl) (le_fz (ll_lc (own := [("one", 3)]) (g := CTg.one 3) rfl sc_Thread_throw_ahead.nd (li_seq (le_fld T.cl_Thread T.n_Thread_writings (lv 0))) (blkOk_by (N := ["self", "place", "early", "one"]) (sc := defScope s_Thread_throw_ahead) (by decide +kernel)) (by decide) (fun _ _ _ _ _ => pg_name (i := 3) sc_Thread_throw_ahead.nd rfl (Or.inl rfl)) (fun _ _ _ _ _ => (lts_one (lt_le (lv 3) (lv 1)))) (fun _ _ _ _ _ => (lv 3)))))
    (lps_one (lp_if (lt_neV hr.units (lv 2) (le_fz (ll_disp la_nil))) (lps_one (lp_fld T.cl_Thread T.n_Thread_writings (lv 0) (le_new (ll_lc (own := [("one", 3)]) (g := CTg.one 3) rfl sc_Thread_throw_ahead.nd (li_seq (le_fld T.cl_Thread T.n_Thread_writings (lv 0))) (blkOk_by (N := ["self", "place", "early", "one"]) (sc := defScope s_Thread_throw_ahead) (by decide +kernel)) (by decide) (fun _ _ _ _ _ => pg_name (i := 3) sc_Thread_throw_ahead.nd rfl (Or.inl rfl)) (fun _ _ _ _ _ => (lts_one (lt_ge (lv 3) (le_item (hu_of hr) (lv 2) (le_neg le_int))))) (fun _ _ _ _ _ => (lv 3)))))) lps_nil))), fun vs s Q E h => ?_⟩)
  obtain ⟨x, t, d, w, p, rfl, ht, hwl, h⟩ := h
  ((conv => whnf); repeat ((first | with_reducible refine ifTT ?_ | with_reducible refine ifFF ?_ | with_reducible refine ifnT ?_ | with_reducible refine ifnF ?_ | with_reducible refine ifTr ?_ | with_reducible refine ifFr ?_ | (refine And.intro (by first | with_reducible rfl | with_reducible exact ⟨rfl, rfl⟩ | decide | omega | (dsimp only; decide) | (dsimp only; omega) | (unfold CDiv; omega) | (unfold CPow; decide) | (unfold CMul; omega) | (simp only [List.length_cons, List.length_nil]; omega) | (simp only [Option.isSome_some]; done) | (simp only [meth_ref, put_same', seqL_ref, ht.hx, ht.hw, thF]; first | done | exact ⟨rfl, rfl⟩ | exact ⟨trivial, rfl⟩ | rfl)) ?_) | (simp (decide := true) only [put_same', put_put, decF, decT, Bool.not_true, Bool.not_false, putL_nil, putL_cons, if_true, if_false, seqR_ref, seqL_ref, lenL_ref, dicK_ref, dicT_ref, dat_ref, dat_non, dat_bl, dat_int, dat_str, dat_lst, dat_tup, datV_non, datV_bl, datV_int, datV_str, datV_lst, datV_tup, datVs_nil, datVs_cons, tyAt_ref, opt_some, Option.map_some, Option.bind_some, dv_ints, dv_bls, dv_nms, dv_prs, dv_nm, dt_nm, dt_pr, dv_pr, sh_int, sh_bl, sh_none, sh_nil, eqv_nil, sh_ints, sh_bls, sh_nm, sh_nms, sh_pr, sh_prs, anyI, anyN, anyP, eqv_int, eqv_bl, eqv_ints, eqv_bls, eqv_nms, eqv_prs, eqv_nm, eqv_pr, ht.hx, ht.hw, thF])); conv => whnf))
  intro Da hDa
  refine lc_pure hDa (fun q => decide (q ≤ p)) LV.int (fun s' e => e _ _ ht.hw) hwl ?_ ?_
  · intro y _ s' Y N _ h1 h2
    ((conv => whnf); repeat ((first | with_reducible refine ifTT ?_ | with_reducible refine ifFF ?_ | with_reducible refine ifnT ?_ | with_reducible refine ifnF ?_ | with_reducible refine ifTr ?_ | with_reducible refine ifFr ?_ | refine And.intro (by first | with_reducible rfl | with_reducible exact ⟨rfl, rfl⟩ | decide | omega | (dsimp only; decide) | (dsimp only; omega) | (unfold CDiv; omega) | (unfold CPow; decide) | (unfold CMul; omega) | (simp only [List.length_cons, List.length_nil]; omega)) ?_); conv => whnf))
    exact ⟨h1, h2⟩
  · have he : (t.wr.filter fun q => decide (q ≤ p)) = t.early p := rfl
    rw [he]
    rcases last_cases (t.early p) with e | ⟨ys, l, e⟩
    · have et : t.throw p = t := by unfold Th.throw; rw [e]; rfl
      rw [e]
      ((conv => whnf); repeat ((first | with_reducible refine ifTT ?_ | with_reducible refine ifFF ?_ | with_reducible refine ifnT ?_ | with_reducible refine ifnF ?_ | with_reducible refine ifTr ?_ | with_reducible refine ifFr ?_ | (refine And.intro (by first | with_reducible rfl | with_reducible exact ⟨rfl, rfl⟩ | decide | omega | (dsimp only; decide) | (dsimp only; omega) | (unfold CDiv; omega) | (unfold CPow; decide) | (unfold CMul; omega) | (simp only [List.length_cons, List.length_nil]; omega) | (simp only [Option.isSome_some]; done) | (simp only [meth_ref, put_same', seqL_ref, thF]; first | done | exact ⟨rfl, rfl⟩ | exact ⟨trivial, rfl⟩ | rfl)) ?_) | (simp (decide := true) only [put_same', put_put, decF, decT, Bool.not_true, Bool.not_false, putL_nil, putL_cons, if_true, if_false, seqR_ref, seqL_ref, lenL_ref, dicK_ref, dicT_ref, dat_ref, dat_non, dat_bl, dat_int, dat_str, dat_lst, dat_tup, datV_non, datV_bl, datV_int, datV_str, datV_lst, datV_tup, datVs_nil, datVs_cons, tyAt_ref, opt_some, Option.map_some, Option.bind_some, dv_ints, dv_bls, dv_nms, dv_prs, dv_nm, dt_nm, dt_pr, dv_pr, sh_int, sh_bl, sh_none, sh_nil, eqv_nil, sh_ints, sh_bls, sh_nm, sh_nms, sh_pr, sh_prs, anyI, anyN, anyP, eqv_int, eqv_bl, eqv_ints, eqv_bls, eqv_nms, eqv_prs, eqv_nm, eqv_pr, thF])); conv => whnf))
      refine ⟨_, .refl _, h _ w (by rw [et]; exact ht) (.refl _ _)⟩
    · have et : t.throw p = { t with wr := t.wr.filter fun q => decide (l ≤ q) } := by unfold Th.throw; rw [e]; simp
      have el : (ys ++ [l]).map LV.int = ys.map LV.int ++ [LV.int l] := by simp
      have en : (ys ++ [l]).isEmpty = false := by cases ys <;> rfl
      rw [e]
      ((conv => whnf); repeat ((first | with_reducible refine ifTT ?_ | with_reducible refine ifFF ?_ | with_reducible refine ifnT ?_ | with_reducible refine ifnF ?_ | with_reducible refine ifTr ?_ | with_reducible refine ifFr ?_ | (refine And.intro (by first | with_reducible rfl | with_reducible exact ⟨rfl, rfl⟩ | decide | omega | (dsimp only; decide) | (dsimp only; omega) | (unfold CDiv; omega) | (unfold CPow; decide) | (unfold CMul; omega) | (simp only [List.length_cons, List.length_nil]; omega) | (simp only [Option.isSome_some]; done) | (simp only [meth_ref, put_same', seqL_ref, thF]; first | done | exact ⟨rfl, rfl⟩ | exact ⟨trivial, rfl⟩ | rfl)) ?_) | (simp (decide := true) only [put_same', put_put, decF, decT, Bool.not_true, Bool.not_false, putL_nil, putL_cons, if_true, if_false, seqR_ref, seqL_ref, lenL_ref, dicK_ref, dicT_ref, dat_ref, dat_non, dat_bl, dat_int, dat_str, dat_lst, dat_tup, datV_non, datV_bl, datV_int, datV_str, datV_lst, datV_tup, datVs_nil, datVs_cons, tyAt_ref, opt_some, Option.map_some, Option.bind_some, dv_ints, dv_bls, dv_nms, dv_prs, dv_nm, dt_nm, dt_pr, dv_pr, sh_int, sh_bl, sh_none, sh_nil, eqv_nil, sh_ints, sh_bls, sh_nm, sh_nms, sh_pr, sh_prs, anyI, anyN, anyP, eqv_int, eqv_bl, eqv_ints, eqv_bls, eqv_nms, eqv_prs, eqv_nm, eqv_pr, thF])); conv => whnf))
      refine ifT (by rw [en]; rfl) ?_
      ((conv => whnf); repeat ((first | with_reducible refine ifTT ?_ | with_reducible refine ifFF ?_ | with_reducible refine ifnT ?_ | with_reducible refine ifnF ?_ | with_reducible refine ifTr ?_ | with_reducible refine ifFr ?_ | (refine And.intro (by first | with_reducible rfl | with_reducible exact ⟨rfl, rfl⟩ | decide | omega | (dsimp only; decide) | (dsimp only; omega) | (unfold CDiv; omega) | (unfold CPow; decide) | (unfold CMul; omega) | (simp only [List.length_cons, List.length_nil]; omega) | (simp only [Option.isSome_some]; done) | (simp only [meth_ref, put_same', seqL_ref, ht.hx, ht.hw, thF]; first | done | exact ⟨rfl, rfl⟩ | exact ⟨trivial, rfl⟩ | rfl)) ?_) | (simp (decide := true) only [put_same', put_put, decF, decT, Bool.not_true, Bool.not_false, putL_nil, putL_cons, if_true, if_false, seqR_ref, seqL_ref, lenL_ref, dicK_ref, dicT_ref, dat_ref, dat_non, dat_bl, dat_int, dat_str, dat_lst, dat_tup, datV_non, datV_bl, datV_int, datV_str, datV_lst, datV_tup, datVs_nil, datVs_cons, tyAt_ref, opt_some, Option.map_some, Option.bind_some, dv_ints, dv_bls, dv_nms, dv_prs, dv_nm, dt_nm, dt_pr, dv_pr, sh_int, sh_bl, sh_none, sh_nil, eqv_nil, sh_ints, sh_bls, sh_nm, sh_nms, sh_pr, sh_prs, anyI, anyN, anyP, eqv_int, eqv_bl, eqv_ints, eqv_bls, eqv_nms, eqv_prs, eqv_nm, eqv_pr, ht.hx, ht.hw, thF])); conv => whnf))
      intro Db hDb
      refine lc_pure hDb (fun q => decide (l ≤ q)) LV.int (fun s' e => e _ _ ht.hw) hwl ?_ ?_
      · intro y _ s' Y N _ h1 h2
        conv => whnf
        rw [el, atI_last]
        ((conv => whnf); repeat ((first | with_reducible refine ifTT ?_ | with_reducible refine ifFF ?_ | with_reducible refine ifnT ?_ | with_reducible refine ifnF ?_ | with_reducible refine ifTr ?_ | with_reducible refine ifFr ?_ | refine And.intro (by first | with_reducible rfl | with_reducible exact ⟨rfl, rfl⟩ | decide | omega | (dsimp only; decide) | (dsimp only; omega) | (unfold CDiv; omega) | (unfold CPow; decide) | (unfold CMul; omega) | (simp only [List.length_cons, List.length_nil]; omega)) ?_); conv => whnf))
        exact ⟨h1, h2⟩
      · intro w' hw'
        have nd' : ∀ {y : Addr} {o : LO}, s y = some o → y ≠ w' := fun {y o} e => by rintro rfl; rw [e] at hw'; cases hw'
        have nx := nd' ht.hx
        have nd := nd' ht.hd
        ((conv => whnf); repeat ((first | with_reducible refine ifTT ?_ | with_reducible refine ifFF ?_ | with_reducible refine ifnT ?_ | with_reducible refine ifnF ?_ | with_reducible refine ifTr ?_ | with_reducible refine ifFr ?_ | (refine And.intro (by first | with_reducible rfl | with_reducible exact ⟨rfl, rfl⟩ | decide | omega | (dsimp only; decide) | (dsimp only; omega) | (unfold CDiv; omega) | (unfold CPow; decide) | (unfold CMul; omega) | (simp only [List.length_cons, List.length_nil]; omega) | (simp only [Option.isSome_some]; done) | (simp only [meth_ref, put_same', seqL_ref, put_ne nx, ht.hx, thF]; first | done | exact ⟨rfl, rfl⟩ | exact ⟨trivial, rfl⟩ | rfl)) ?_) | (simp (decide := true) only [put_same', put_put, decF, decT, Bool.not_true, Bool.not_false, putL_nil, putL_cons, if_true, if_false, seqR_ref, seqL_ref, lenL_ref, dicK_ref, dicT_ref, dat_ref, dat_non, dat_bl, dat_int, dat_str, dat_lst, dat_tup, datV_non, datV_bl, datV_int, datV_str, datV_lst, datV_tup, datVs_nil, datVs_cons, tyAt_ref, opt_some, Option.map_some, Option.bind_some, dv_ints, dv_bls, dv_nms, dv_prs, dv_nm, dt_nm, dt_pr, dv_pr, sh_int, sh_bl, sh_none, sh_nil, eqv_nil, sh_ints, sh_bls, sh_nm, sh_nms, sh_pr, sh_prs, anyI, anyN, anyP, eqv_int, eqv_bl, eqv_ints, eqv_bls, eqv_nms, eqv_prs, eqv_nm, eqv_pr, put_ne nx, ht.hx, thF])); conv => whnf))
        refine ⟨_, .refl _, h _ w' ?_ ((((Own.refl _ s).new hw').putM (by simp)).sub (by simp))⟩
        rw [et]
        refine ⟨?_, ?_, ?_, nd⟩
        · rw [put_same]; rfl
        · rw [put_ne (Ne.symm ht.xd), put_ne nd]; exact ht.hd
        · rw [put_ne (Ne.symm nx), put_same]
section
variable {t : Th} {M : Md}
theorem throw_at (t : Th) (p : Int) : (t.early p = [] ∧ t.throw p = t) ∨ ∃ l, l ∈ t.early p ∧ (t.wr.Pairwise (· < ·) → ∀ q ∈ t.early p, q ≤ l) ∧ t.throw p = { t with wr := t.wr.filter fun q => decide (l ≤ q) } := by
  rcases last_cases (t.early p) with e | ⟨ys, l, e⟩
  · exact .inl ⟨e, by unfold Th.throw; rw [e]; rfl⟩
  · refine .inr ⟨l, by rw [e]; simp, fun ha q hq => ?_, by unfold Th.throw; rw [e]; simp⟩
    have h1 : (t.early p).Pairwise (· < ·) := ha.sublist (List.filter_sublist ..)
    rw [e] at h1 hq
    rw [List.pairwise_append] at h1
    rw [List.mem_append] at hq
    rcases hq with hq | hq
    · exact Int.le_of_lt (h1.2.2 q hq l (by simp))
    · simp at hq; omega
theorem early_mem {p q : Int} : q ∈ t.early p ↔ q ∈ t.wr ∧ q ≤ p := by unfold Th.early; rw [List.mem_filter]; simp
theorem throw_fields (t : Th) (p : Int) : (t.throw p).start = t.start ∧ (t.throw p).hab = t.hab ∧ (t.throw p).done = t.done ∧ (t.throw p).pile = t.pile := by
  rcases throw_at t p with ⟨_, e⟩ | ⟨l, _, _, e⟩ <;> rw [e] <;> exact ⟨rfl, rfl, rfl, rfl⟩
theorem throw_mem (hok : t.Ok) (p : Int) : ∀ q, q ∈ (t.throw p).wr ↔ q ∈ t.wr ∧ (t.throw p).wr.headD 0 ≤ q := fun q => by
  rcases throw_at t p with ⟨_, e⟩ | ⟨l, h1, h2, e⟩
  · rw [e]
    exact ⟨fun h => ⟨h, hok.min q h⟩, fun h => h.1⟩
  · rw [e]
    show q ∈ t.wr.filter _ ↔ q ∈ t.wr ∧ (t.wr.filter _).headD 0 ≤ q
    have hl : l ∈ t.wr := (early_mem.mp h1).1
    have hd : (t.wr.filter fun q => decide (l ≤ q)).headD 0 = l := by
      have hm : l ∈ t.wr.filter fun q => decide (l ≤ q) := by rw [List.mem_filter]; exact ⟨hl, by simp⟩
      have ha : (t.wr.filter fun q => decide (l ≤ q)).Pairwise (· < ·) := hok.asc.sublist (List.filter_sublist ..)
      cases e1 : t.wr.filter fun q => decide (l ≤ q) with
      | nil => rw [e1] at hm; cases hm
      | cons a r =>
        have h3 : a ∈ t.wr.filter fun q => decide (l ≤ q) := by rw [e1]; simp
        rw [List.mem_filter] at h3
        have h4 : l ≤ a := by simpa using h3.2
        rw [e1] at hm ha
        rw [List.pairwise_cons] at ha
        rw [List.mem_cons] at hm
        rcases hm with rfl | hm
        · rfl
        · have := ha.1 l hm
          omega
    rw [hd, List.mem_filter]
    simp
theorem throw_ok (hok : t.Ok) (p : Int) : (t.throw p).Ok := by
  obtain ⟨f1, f2, f3, f4⟩ := throw_fields t p
  have hm := throw_mem hok p
  have hh : (t.throw p).here = t.here := by unfold Th.here; rw [f3]
  refine ⟨?_, ?_, fun q hq => ?_, fun hw => ?_⟩
  · rcases throw_at t p with ⟨_, e⟩ | ⟨l, h1, h2, e⟩
    · rw [e]; exact hok.ne
    · rw [e]
      intro e1
      have : l ∈ t.wr.filter fun q => decide (l ≤ q) := by rw [List.mem_filter]; exact ⟨(early_mem.mp h1).1, by simp⟩
      rw [show (t.wr.filter fun q => decide (l ≤ q)) = [] from e1] at this
      cases this
  · rcases throw_at t p with ⟨_, e⟩ | ⟨l, h1, h2, e⟩
    · rw [e]; exact hok.asc
    · rw [e]; exact hok.asc.sublist (List.filter_sublist ..)
  · rw [hh]; exact hok.rng q ((hm q).mp hq).1
  · rw [f2] at hw
    rw [f4, hh]
    exact ⟨(hok.pile hw).1, fun q hq => (hok.pile hw).2 q ((hm q).mp hq).1⟩
theorem Rel.throw (r : Rel t M) (p : Int) : Rel (t.throw p) { M with writings := (t.throw p).wr } := by
  obtain ⟨f1, f2, f3, f4⟩ := throw_fields t p
  have hh : (t.throw p).here = t.here := by unfold Th.here; rw [f3]
  refine ⟨throw_ok r.ok p, ?_, rfl, r.len, fun h => ?_, fun h => ?_, fun h => ?_, fun n h => ?_, fun h => ?_⟩
  · show M.states = _
    rw [r.st]; unfold Th.states; rw [f1, f3]
  · rw [f2] at h; rw [hh]; exact r.nev h
  · rw [f2] at h; rw [hh, f4]; exact r.wrt h
  · rw [f2] at h; rw [f4]; exact r.eac h
  · rw [f2] at h; rw [hh, f4]; exact r.bun n h
  · rw [f2] at h; exact r.nop h
theorem Th.Ok.memw (h : t.Ok) (hw : t.hab.writes = true) (x : Int) : x ∈ t.points ↔ t.wr.headD 0 ≤ x ∧ x ≤ t.here - t.pile := by
  unfold Th.points
  rw [if_pos hw]
  simp only [List.mem_map, List.mem_range]
  constructor
  · rintro ⟨i, hi, rfl⟩; omega
  · intro h; exact ⟨(x - t.wr.headD 0).toNat, by omega, by omega⟩
theorem throw_pts (r : Rel t M) (p : Int) : ∀ x, x ∈ (t.throw p).points ↔ x ∈ t.points ∧ (t.throw p).wr.headD 0 ≤ x := fun x => by
  obtain ⟨f1, f2, f3, f4⟩ := throw_fields t p
  have hh : (t.throw p).here = t.here := by unfold Th.here; rw [f3]
  have hok := r.ok
  have hok' := throw_ok hok p
  have hm := throw_mem hok p
  by_cases hw : t.hab.writes = true
  · rw [hok'.memw (by rw [f2]; exact hw), hok.memw hw, hh, f4]
    have := hok.min _ ((hm _).mp hok'.head).1
    constructor
    · intro h; exact ⟨⟨by omega, h.2⟩, h.1⟩
    · intro h; exact ⟨h.2, h.1.2⟩
  · have e1 : t.points = t.wr := by unfold Th.points; rw [if_neg hw]
    have e2 : (t.throw p).points = (t.throw p).wr := by unfold Th.points; rw [if_neg (by rw [f2]; exact hw)]
    rw [e1, e2]
    exact hm x
theorem throw_keep (r : Rel t M) {p : Int} (hp : p ∈ t.points) : p ∈ (t.throw p).points := by
  rw [throw_pts r p]
  refine ⟨hp, ?_⟩
  rcases throw_at t p with ⟨_, e⟩ | ⟨l, h1, h2, e⟩
  · rw [e]; exact r.ok.head_le hp
  · have hl := early_mem.mp h1
    have hlm : l ∈ (t.throw p).wr := by rw [e]; show l ∈ t.wr.filter _; rw [List.mem_filter]; exact ⟨hl.1, by simp⟩
    have := (throw_ok r.ok p).min l hlm
    omega
theorem pts_head (h : t.Ok) : t.points[0]? = some (t.wr.headD 0) := by
  have hl := h.pne
  unfold Th.points at hl ⊢
  split at hl
  · next hw =>
    rw [if_pos hw]
    rw [List.length_map, List.length_range] at hl
    rw [List.getElem?_map, List.getElem?_range hl]
    simp
  · next hw =>
    rw [if_neg hw]
    cases e : t.wr with
    | nil => exact absurd e h.ne
    | cons a r => rfl
theorem throw_filter (r : Rel t M) (p : Int) : (t.throw p).points = t.points.filter fun q => decide ((t.throw p).wr.headD 0 ≤ q) := by
  refine eq_sorted (r.throw p).pts.1 (r.pts.1.sublist (List.filter_sublist ..)) fun x => ?_
  rw [throw_pts r p, List.mem_filter]
  simp
end
def spThrown (A : Ad) : LSp := fun vs s Q E => ∃ s0 x d w m a b c p t M pl, vs = [.ref x, .ref m, .int pl] ∧ K2 A s0 s x d w m a b c p t M ∧ Rel t M ∧ t.done.length < 900000 ∧
  ∀ s' d' w' a' b' c' p' t' M', K2 A s0 s' x d' w' m a' b' c' p' t' M' → Rel t' M' → t'.hab = t.hab → t'.done.length ≤ t.done.length → Q (.bl true) s'
theorem ok_law_thrown (T : Txt K mg A D) : LFn P w K mg base 7 A.f_law_thrown D.d_law_thrown ["_law_thread", "_law_model", "_law_place"] (spThrown A) := by
  refine T.F_law_thrown.okL sc_law_thrown (fun vs s Q E ⟨_, _, _, _, _, _, _, _, _, _, _, _, h, _⟩ => by rw [h]; rfl) (fun cdv A' outer si H E hr => ⟨_, (lps_cons (lp_set (i := 3) sc_law_thrown.nd rfl (by first | exact Or.inl rfl | exact Or.inr rfl) (le_call (ok_law_points T) (hr.mono (by decide)) rfl T.m_law_points T.k_law_points T.q_law_points (la_cons (lv 1) la_nil)))
    (lps_cons (lp_expr (le_meth (lv 0) T.cl_Thread T.mt_Thread_throw_ahead (ok_Thread_throw_ahead T) (hr.mono (by decide)) T.q_Thread_throw_ahead (la_cons (lv 2) la_nil)))
    (lps_cons (lp_set (i := 4) sc_law_thrown.nd rfl (by first | exact Or.inl rfl | exact Or.inr rfl) (le_fz (ll_lc (own := [("_law_one", 5)]) (g := CTg.one 5) rfl sc_law_thrown.nd (li_seq (le_item (hu_of hr) (lv 1) le_str)) (blkOk_by (N := ["_law_thread", "_law_model", "_law_place", "_law_before", "_law_early", "_law_one", "_law_points_here"]) (sc := defScope s_law_thrown) (by decide +kernel)) (by decide) (fun _ _ _ _ _ => pg_name (i := 5) sc_law_thrown.nd rfl (Or.inl rfl)) (fun _ _ _ _ _ => (lts_one (lt_le (lv 5) (lv 2)))) (fun _ _ _ _ _ => (lv 5)))))
    (lps_cons (lp_cut (lp_if (lt_neV hr.units (lv 4) (le_fz (ll_disp la_nil))) (lps_one (lp_asg (le_new (ll_lc (own := [("_law_one", 5)]) (g := CTg.one 5) rfl sc_law_thrown.nd (li_seq (le_item (hu_of hr) (lv 1) le_str)) (blkOk_by (N := ["_law_thread", "_law_model", "_law_place", "_law_before", "_law_early", "_law_one", "_law_points_here"]) (sc := defScope s_law_thrown) (by decide +kernel)) (by decide) (fun _ _ _ _ _ => pg_name (i := 5) sc_law_thrown.nd rfl (Or.inl rfl)) (fun _ _ _ _ _ => (lts_one (lt_ge (lv 5) (le_max rfl rfl T.b_max (la_cons (lv 4) la_nil))))) (fun _ _ _ _ _ => (lv 5)))) (lg_sub (hu_of hr) (lv 1) le_str))) lps_nil))
    (lps_cons (lp_set (i := 6) sc_law_thrown.nd rfl (by first | exact Or.inl rfl | exact Or.inr rfl) (le_call (ok_law_points T) (hr.mono (by decide)) rfl T.m_law_points T.k_law_points T.q_law_points (la_cons (lv 1) la_nil)))
    (lps_cons (lp_if (lt_cut (LW.lt (lw_and (lt_inV (hu65 hr) (lv 2) (lv 3) (by rfl)) (lw_and1 (lt_ninV (hu65 hr) (lv 2) (lv 6) (by rfl)))))) (lps_one (lp_ret le_bl)) lps_nil)
    (lps_one (lp_ret (le_and (le_eqV hr.units (lv 6) (le_fz (ll_lc (own := [("_law_one", 5)]) (g := CTg.one 5) rfl sc_law_thrown.nd (li_seq (lv 3)) (blkOk_by (N := ["_law_thread", "_law_model", "_law_place", "_law_before", "_law_early", "_law_one", "_law_points_here"]) (sc := defScope s_law_thrown) (by decide +kernel)) (by decide) (fun _ _ _ _ _ => pg_name (i := 5) sc_law_thrown.nd rfl (Or.inl rfl)) (fun _ _ _ _ _ => (lts_one (lt_ge (lv 5) (le_item (hu_of hr) (lv 6) le_int)))) (fun _ _ _ _ _ => (lv 5))))) (le_one (le_call (ok_law_right T) (hr.mono (by decide)) rfl T.m_law_right T.k_law_right T.q_law_right (la_cons (lv 0) (la_cons (lv 1) la_nil))))))))))))), fun vs s Q E h => ?_⟩)
  obtain ⟨s0, x, d, w, m, a, b, c, p, t, M, pl, rfl, k, r, hsm, h⟩ := h
  have hg := r.good hsm
  ((conv => whnf); repeat ((first | with_reducible refine ifTT ?_ | with_reducible refine ifFF ?_ | with_reducible refine ifnT ?_ | with_reducible refine ifnF ?_ | with_reducible refine ifTr ?_ | with_reducible refine ifFr ?_ | refine And.intro (by first | with_reducible rfl | with_reducible exact ⟨rfl, rfl⟩ | decide | omega | (dsimp only; decide) | (dsimp only; omega) | (unfold CDiv; omega) | (unfold CPow; decide) | (unfold CMul; omega) | (simp only [List.length_cons, List.length_nil]; omega)) ?_); conv => whnf))
  refine ⟨m, M, a, b, c, p, _, rfl, k.hM, hg.md, hg.pts, ?_⟩
  ((conv => whnf); repeat ((first | with_reducible refine ifTT ?_ | with_reducible refine ifFF ?_ | with_reducible refine ifnT ?_ | with_reducible refine ifnF ?_ | with_reducible refine ifTr ?_ | with_reducible refine ifFr ?_ | (refine And.intro (by first | with_reducible rfl | with_reducible exact ⟨rfl, rfl⟩ | decide | omega | (dsimp only; decide) | (dsimp only; omega) | (unfold CDiv; omega) | (unfold CPow; decide) | (unfold CMul; omega) | (simp only [List.length_cons, List.length_nil]; omega) | (simp only [Option.isSome_some]; done) | (simp only [meth_ref, put_same', seqL_ref, k.ht.hx, thF]; first | done | exact ⟨rfl, rfl⟩ | exact ⟨trivial, rfl⟩ | rfl)) ?_) | (simp (decide := true) only [put_same', put_put, decF, decT, Bool.not_true, Bool.not_false, putL_nil, putL_cons, if_true, if_false, seqR_ref, seqL_ref, lenL_ref, dicK_ref, dicT_ref, dat_ref, dat_non, dat_bl, dat_int, dat_str, dat_lst, dat_tup, datV_non, datV_bl, datV_int, datV_str, datV_lst, datV_tup, datVs_nil, datVs_cons, tyAt_ref, opt_some, Option.map_some, Option.bind_some, dv_ints, dv_bls, dv_nms, dv_prs, dv_nm, dt_nm, dt_pr, dv_pr, sh_int, sh_bl, sh_none, sh_nil, eqv_nil, sh_ints, sh_bls, sh_nm, sh_nms, sh_pr, sh_prs, anyI, anyN, anyP, eqv_int, eqv_bl, eqv_ints, eqv_bls, eqv_nms, eqv_prs, eqv_nm, eqv_pr, k.ht.hx, thF])); conv => whnf))
  refine ⟨x, t, d, w, pl, rfl, k.ht, by rw [← r.wr]; have := hg.md.smallW; omega, fun s1 w1 h1 o1 => ?_⟩
  have k1 := k.th o1 h1
  have r1 := r.throw pl
  have hwl := hg.md.smallW
  have hpk : t.points.length ≤ 16777216 := hg.ptl
  ((conv => whnf); repeat ((first | with_reducible refine ifTT ?_ | with_reducible refine ifFF ?_ | with_reducible refine ifnT ?_ | with_reducible refine ifnF ?_ | with_reducible refine ifTr ?_ | with_reducible refine ifFr ?_ | (refine And.intro (by first | with_reducible rfl | with_reducible exact ⟨rfl, rfl⟩ | decide | omega | (dsimp only; decide) | (dsimp only; omega) | (unfold CDiv; omega) | (unfold CPow; decide) | (unfold CMul; omega) | (simp only [List.length_cons, List.length_nil]; omega) | (simp only [Option.isSome_some]; done) | (simp only [meth_ref, put_same', seqL_ref, k1.hM.hm, k1.hM.hc]; first | done | exact ⟨rfl, rfl⟩ | exact ⟨trivial, rfl⟩ | rfl)) ?_) | (simp (decide := true) only [put_same', put_put, decF, decT, Bool.not_true, Bool.not_false, putL_nil, putL_cons, if_true, if_false, seqR_ref, seqL_ref, lenL_ref, dicK_ref, dicT_ref, dat_ref, dat_non, dat_bl, dat_int, dat_str, dat_lst, dat_tup, datV_non, datV_bl, datV_int, datV_str, datV_lst, datV_tup, datVs_nil, datVs_cons, tyAt_ref, opt_some, Option.map_some, Option.bind_some, dv_ints, dv_bls, dv_nms, dv_prs, dv_nm, dt_nm, dt_pr, dv_pr, sh_int, sh_bl, sh_none, sh_nil, eqv_nil, sh_ints, sh_bls, sh_nm, sh_nms, sh_pr, sh_prs, anyI, anyN, anyP, eqv_int, eqv_bl, eqv_ints, eqv_bls, eqv_nms, eqv_prs, eqv_nm, eqv_pr, k1.hM.hm, k1.hM.hc])); conv => whnf))
  intro Da hDa
  refine lc_pure hDa (fun q => decide (q ≤ pl)) LV.int (fun s' e => e _ _ k1.hM.hc) (by omega) ?_ ?_
  · intro y _ s' Y N _ h1 h2
    ((conv => whnf); repeat ((first | with_reducible refine ifTT ?_ | with_reducible refine ifFF ?_ | with_reducible refine ifnT ?_ | with_reducible refine ifnF ?_ | with_reducible refine ifTr ?_ | with_reducible refine ifFr ?_ | refine And.intro (by first | with_reducible rfl | with_reducible exact ⟨rfl, rfl⟩ | decide | omega | (dsimp only; decide) | (dsimp only; omega) | (unfold CDiv; omega) | (unfold CPow; decide) | (unfold CMul; omega) | (simp only [List.length_cons, List.length_nil]; omega)) ?_); conv => whnf))
    exact ⟨h1, h2⟩
  · have he : (M.writings.filter fun q => decide (q ≤ pl)) = t.early pl := by rw [r.wr]; rfl
    rw [he]
    conv => whnf
    refine ⟨fun σ' s2 => σ' = [some (.ref x), some (.ref m), some (.int pl), some (.lst (t.points.map .int)), some (.lst ((t.early pl).map .int)), none, none] ∧ ∃ c', K2 A s0 s2 x d w1 m a b c' p (t.throw pl) { M with writings := (t.throw pl).wr }, ?_, ?_⟩
    · rcases throw_at t pl with ⟨e, et⟩ | ⟨l, e1, e2, et⟩
      · have hM0 : ({ M with writings := (t.throw pl).wr } : Md) = M := by rw [et, ← r.wr]
        rw [e, hM0]
        ((conv => whnf); repeat ((first | with_reducible refine ifTT ?_ | with_reducible refine ifFF ?_ | with_reducible refine ifnT ?_ | with_reducible refine ifnF ?_ | with_reducible refine ifTr ?_ | with_reducible refine ifFr ?_ | (refine And.intro (by first | with_reducible rfl | with_reducible exact ⟨rfl, rfl⟩ | decide | omega | (dsimp only; decide) | (dsimp only; omega) | (unfold CDiv; omega) | (unfold CPow; decide) | (unfold CMul; omega) | (simp only [List.length_cons, List.length_nil]; omega) | (simp only [Option.isSome_some]; done) | (simp only [meth_ref, put_same', seqL_ref, thF]; first | done | exact ⟨rfl, rfl⟩ | exact ⟨trivial, rfl⟩ | rfl)) ?_) | (simp (decide := true) only [put_same', put_put, decF, decT, Bool.not_true, Bool.not_false, putL_nil, putL_cons, if_true, if_false, seqR_ref, seqL_ref, lenL_ref, dicK_ref, dicT_ref, dat_ref, dat_non, dat_bl, dat_int, dat_str, dat_lst, dat_tup, datV_non, datV_bl, datV_int, datV_str, datV_lst, datV_tup, datVs_nil, datVs_cons, tyAt_ref, opt_some, Option.map_some, Option.bind_some, dv_ints, dv_bls, dv_nms, dv_prs, dv_nm, dt_nm, dt_pr, dv_pr, sh_int, sh_bl, sh_none, sh_nil, eqv_nil, sh_ints, sh_bls, sh_nm, sh_nms, sh_pr, sh_prs, anyI, anyN, anyP, eqv_int, eqv_bl, eqv_ints, eqv_bls, eqv_nms, eqv_prs, eqv_nm, eqv_pr, thF])); conv => whnf))
        exact ⟨rfl, c, k1⟩
      · have en : (t.early pl).isEmpty = false := by cases q : t.early pl with | nil => rw [q] at e1; cases e1 | cons a r => rfl
        have hw' : ((t.throw pl).wr) = M.writings.filter fun q => decide (l ≤ q) := by rw [et, r.wr]
        have hlen : 0 < (t.early pl).length := List.length_pos_of_mem e1
        ((conv => whnf); repeat ((first | with_reducible refine ifTT ?_ | with_reducible refine ifFF ?_ | with_reducible refine ifnT ?_ | with_reducible refine ifnF ?_ | with_reducible refine ifTr ?_ | with_reducible refine ifFr ?_ | (refine And.intro (by first | with_reducible rfl | with_reducible exact ⟨rfl, rfl⟩ | decide | omega | (dsimp only; decide) | (dsimp only; omega) | (unfold CDiv; omega) | (unfold CPow; decide) | (unfold CMul; omega) | (simp only [List.length_cons, List.length_nil]; omega) | (simp only [Option.isSome_some]; done) | (simp only [meth_ref, put_same', seqL_ref, thF]; first | done | exact ⟨rfl, rfl⟩ | exact ⟨trivial, rfl⟩ | rfl)) ?_) | (simp (decide := true) only [put_same', put_put, decF, decT, Bool.not_true, Bool.not_false, putL_nil, putL_cons, if_true, if_false, seqR_ref, seqL_ref, lenL_ref, dicK_ref, dicT_ref, dat_ref, dat_non, dat_bl, dat_int, dat_str, dat_lst, dat_tup, datV_non, datV_bl, datV_int, datV_str, datV_lst, datV_tup, datVs_nil, datVs_cons, tyAt_ref, opt_some, Option.map_some, Option.bind_some, dv_ints, dv_bls, dv_nms, dv_prs, dv_nm, dt_nm, dt_pr, dv_pr, sh_int, sh_bl, sh_none, sh_nil, eqv_nil, sh_ints, sh_bls, sh_nm, sh_nms, sh_pr, sh_prs, anyI, anyN, anyP, eqv_int, eqv_bl, eqv_ints, eqv_bls, eqv_nms, eqv_prs, eqv_nm, eqv_pr, thF])); conv => whnf))
        refine ifT (by rw [en]; rfl) ?_
        ((conv => whnf); repeat ((first | with_reducible refine ifTT ?_ | with_reducible refine ifFF ?_ | with_reducible refine ifnT ?_ | with_reducible refine ifnF ?_ | with_reducible refine ifTr ?_ | with_reducible refine ifFr ?_ | (refine And.intro (by first | with_reducible rfl | with_reducible exact ⟨rfl, rfl⟩ | decide | omega | (dsimp only; decide) | (dsimp only; omega) | (unfold CDiv; omega) | (unfold CPow; decide) | (unfold CMul; omega) | (simp only [List.length_cons, List.length_nil]; omega) | (simp only [Option.isSome_some]; done) | (simp only [meth_ref, put_same', seqL_ref, k1.hM.hm, k1.hM.hc]; first | done | exact ⟨rfl, rfl⟩ | exact ⟨trivial, rfl⟩ | rfl)) ?_) | (simp (decide := true) only [put_same', put_put, decF, decT, Bool.not_true, Bool.not_false, putL_nil, putL_cons, if_true, if_false, seqR_ref, seqL_ref, lenL_ref, dicK_ref, dicT_ref, dat_ref, dat_non, dat_bl, dat_int, dat_str, dat_lst, dat_tup, datV_non, datV_bl, datV_int, datV_str, datV_lst, datV_tup, datVs_nil, datVs_cons, tyAt_ref, opt_some, Option.map_some, Option.bind_some, dv_ints, dv_bls, dv_nms, dv_prs, dv_nm, dt_nm, dt_pr, dv_pr, sh_int, sh_bl, sh_none, sh_nil, eqv_nil, sh_ints, sh_bls, sh_nm, sh_nms, sh_pr, sh_prs, anyI, anyN, anyP, eqv_int, eqv_bl, eqv_ints, eqv_bls, eqv_nms, eqv_prs, eqv_nm, eqv_pr, k1.hM.hm, k1.hM.hc])); conv => whnf))
        intro Db hDb
        refine lc_pure hDb (fun q => decide (l ≤ q)) LV.int (fun s' e => e _ _ k1.hM.hc) (by omega) ?_ ?_
        · intro y _ s' Y N _ h1 h2
          ((conv => whnf); repeat ((first | with_reducible refine ifTT ?_ | with_reducible refine ifFF ?_ | with_reducible refine ifnT ?_ | with_reducible refine ifnF ?_ | with_reducible refine ifTr ?_ | with_reducible refine ifFr ?_ | (refine And.intro (by first | with_reducible rfl | with_reducible exact ⟨rfl, rfl⟩ | decide | omega | (dsimp only; decide) | (dsimp only; omega) | (unfold CDiv; omega) | (unfold CPow; decide) | (unfold CMul; omega) | (simp only [List.length_cons, List.length_nil]; omega) | (simp only [Option.isSome_some]; done) | (simp only [meth_ref, put_same', seqL_ref, intsOf_map]; first | done | exact ⟨rfl, rfl⟩ | exact ⟨trivial, rfl⟩ | rfl)) ?_) | (simp (decide := true) only [put_same', put_put, decF, decT, Bool.not_true, Bool.not_false, putL_nil, putL_cons, if_true, if_false, seqR_ref, seqL_ref, lenL_ref, dicK_ref, dicT_ref, dat_ref, dat_non, dat_bl, dat_int, dat_str, dat_lst, dat_tup, datV_non, datV_bl, datV_int, datV_str, datV_lst, datV_tup, datVs_nil, datVs_cons, tyAt_ref, opt_some, Option.map_some, Option.bind_some, dv_ints, dv_bls, dv_nms, dv_prs, dv_nm, dt_nm, dt_pr, dv_pr, sh_int, sh_bl, sh_none, sh_nil, eqv_nil, sh_ints, sh_bls, sh_nm, sh_nms, sh_pr, sh_prs, anyI, anyN, anyP, eqv_int, eqv_bl, eqv_ints, eqv_bls, eqv_nms, eqv_prs, eqv_nm, eqv_pr, intsOf_map])); conv => whnf))
          intro m' hm hmx
          have hml : m' = l := Int.le_antisymm (e2 r.ok.asc m' hm) (hmx l e1)
          subst hml
          ((conv => whnf); repeat ((first | with_reducible refine ifTT ?_ | with_reducible refine ifFF ?_ | with_reducible refine ifnT ?_ | with_reducible refine ifnF ?_ | with_reducible refine ifTr ?_ | with_reducible refine ifFr ?_ | refine And.intro (by first | with_reducible rfl | with_reducible exact ⟨rfl, rfl⟩ | decide | omega | (dsimp only; decide) | (dsimp only; omega) | (unfold CDiv; omega) | (unfold CPow; decide) | (unfold CMul; omega) | (simp only [List.length_cons, List.length_nil]; omega)) ?_); conv => whnf))
          exact ⟨h1, h2⟩
        · intro c' hc'
          obtain ⟨n0, n1, n2, n3, n4⟩ := k1.hM.mFree hc'
          have h3 := k1.hM.newC hc' (M.writings.filter fun q => decide (l ≤ q))
          have o3 := ((((Own.refl [m, a, b, c, p] s1).new (o := .lst ((M.writings.filter fun q => decide (l ≤ q)).map .int)) hc').putM (x := m) (o := .dK (putD [(.inr "states", .ref a), (.inr "written", .ref b), (.inr "writings", .ref c), (.inr "pile", .ref p)] (.inr "writings") (.ref c'))) (by simp)).sub (F2 := [m, a, b, c', p]) (by simp))
          conv => whnf
          rw [put_ne n0, k1.hM.hm]
          ((conv => whnf); repeat ((first | with_reducible refine ifTT ?_ | with_reducible refine ifFF ?_ | with_reducible refine ifnT ?_ | with_reducible refine ifnF ?_ | with_reducible refine ifTr ?_ | with_reducible refine ifFr ?_ | refine And.intro (by first | with_reducible rfl | with_reducible exact ⟨rfl, rfl⟩ | decide | omega | (dsimp only; decide) | (dsimp only; omega) | (unfold CDiv; omega) | (unfold CPow; decide) | (unfold CMul; omega) | (simp only [List.length_cons, List.length_nil]; omega)) ?_); conv => whnf))
          refine ⟨rfl, c', ?_⟩
          rw [hw']
          exact k1.md o3 h3
    · rintro σ' s2 ⟨rfl, c', k2⟩
      have hd := (throw_fields t pl).2.2.1
      have hg2 := r1.good (by rw [hd]; exact hsm)
      ((conv => whnf); repeat ((first | with_reducible refine ifTT ?_ | with_reducible refine ifFF ?_ | with_reducible refine ifnT ?_ | with_reducible refine ifnF ?_ | with_reducible refine ifTr ?_ | with_reducible refine ifFr ?_ | refine And.intro (by first | with_reducible rfl | with_reducible exact ⟨rfl, rfl⟩ | decide | omega | (dsimp only; decide) | (dsimp only; omega) | (unfold CDiv; omega) | (unfold CPow; decide) | (unfold CMul; omega) | (simp only [List.length_cons, List.length_nil]; omega)) ?_); conv => whnf))
      refine ⟨m, _, a, b, c', p, _, rfl, k2.hM, hg2.md, hg2.pts, ?_⟩
      conv => whnf
      refine ⟨false, ?_, ?_⟩
      · ((conv => whnf); repeat ((first | with_reducible refine ifTT ?_ | with_reducible refine ifFF ?_ | with_reducible refine ifnT ?_ | with_reducible refine ifnF ?_ | with_reducible refine ifTr ?_ | with_reducible refine ifFr ?_ | (refine And.intro (by first | with_reducible rfl | with_reducible exact ⟨rfl, rfl⟩ | decide | omega | (dsimp only; decide) | (dsimp only; omega) | (unfold CDiv; omega) | (unfold CPow; decide) | (unfold CMul; omega) | (simp only [List.length_cons, List.length_nil]; omega) | (simp only [Option.isSome_some]; done) | (simp only [meth_ref, put_same', seqL_ref, thF]; first | done | exact ⟨rfl, rfl⟩ | exact ⟨trivial, rfl⟩ | rfl)) ?_) | (simp (decide := true) only [put_same', put_put, decF, decT, Bool.not_true, Bool.not_false, putL_nil, putL_cons, if_true, if_false, seqR_ref, seqL_ref, lenL_ref, dicK_ref, dicT_ref, dat_ref, dat_non, dat_bl, dat_int, dat_str, dat_lst, dat_tup, datV_non, datV_bl, datV_int, datV_str, datV_lst, datV_tup, datVs_nil, datVs_cons, tyAt_ref, opt_some, Option.map_some, Option.bind_some, dv_ints, dv_bls, dv_nms, dv_prs, dv_nm, dt_nm, dt_pr, dv_pr, sh_int, sh_bl, sh_none, sh_nil, eqv_nil, sh_ints, sh_bls, sh_nm, sh_nms, sh_pr, sh_prs, anyI, anyN, anyP, eqv_int, eqv_bl, eqv_ints, eqv_bls, eqv_nms, eqv_prs, eqv_nm, eqv_pr, thF])); conv => whnf))
        refine ifDX (fun hp => ?_) (fun hp => ?_)
        · ((conv => whnf); repeat ((first | with_reducible refine ifTT ?_ | with_reducible refine ifFF ?_ | with_reducible refine ifnT ?_ | with_reducible refine ifnF ?_ | with_reducible refine ifTr ?_ | with_reducible refine ifFr ?_ | (refine And.intro (by first | with_reducible rfl | with_reducible exact ⟨rfl, rfl⟩ | decide | omega | (dsimp only; decide) | (dsimp only; omega) | (unfold CDiv; omega) | (unfold CPow; decide) | (unfold CMul; omega) | (simp only [List.length_cons, List.length_nil]; omega) | (simp only [Option.isSome_some]; done) | (simp only [meth_ref, put_same', seqL_ref, thF]; first | done | exact ⟨rfl, rfl⟩ | exact ⟨trivial, rfl⟩ | rfl)) ?_) | (simp (decide := true) only [put_same', put_put, decF, decT, Bool.not_true, Bool.not_false, putL_nil, putL_cons, if_true, if_false, seqR_ref, seqL_ref, lenL_ref, dicK_ref, dicT_ref, dat_ref, dat_non, dat_bl, dat_int, dat_str, dat_lst, dat_tup, datV_non, datV_bl, datV_int, datV_str, datV_lst, datV_tup, datVs_nil, datVs_cons, tyAt_ref, opt_some, Option.map_some, Option.bind_some, dv_ints, dv_bls, dv_nms, dv_prs, dv_nm, dt_nm, dt_pr, dv_pr, sh_int, sh_bl, sh_none, sh_nil, eqv_nil, sh_ints, sh_bls, sh_nm, sh_nms, sh_pr, sh_prs, anyI, anyN, anyP, eqv_int, eqv_bl, eqv_ints, eqv_bls, eqv_nms, eqv_prs, eqv_nm, eqv_pr, thF])); conv => whnf))
          exact ⟨by simp [throw_keep r hp], by first | rfl | trivial⟩
        · ((conv => whnf); repeat ((first | with_reducible refine ifTT ?_ | with_reducible refine ifFF ?_ | with_reducible refine ifnT ?_ | with_reducible refine ifnF ?_ | with_reducible refine ifTr ?_ | with_reducible refine ifFr ?_ | refine And.intro (by first | with_reducible rfl | with_reducible exact ⟨rfl, rfl⟩ | decide | omega | (dsimp only; decide) | (dsimp only; omega) | (unfold CDiv; omega) | (unfold CPow; decide) | (unfold CMul; omega) | (simp only [List.length_cons, List.length_nil]; omega)) ?_); conv => whnf))
          first | done | trivial | exact ⟨rfl, trivial⟩
      · ((conv => whnf); repeat ((first | with_reducible refine ifTT ?_ | with_reducible refine ifFF ?_ | with_reducible refine ifnT ?_ | with_reducible refine ifnF ?_ | with_reducible refine ifTr ?_ | with_reducible refine ifFr ?_ | refine And.intro (by first | with_reducible rfl | with_reducible exact ⟨rfl, rfl⟩ | decide | omega | (dsimp only; decide) | (dsimp only; omega) | (unfold CDiv; omega) | (unfold CPow; decide) | (unfold CMul; omega) | (simp only [List.length_cons, List.length_nil]; omega)) ?_); conv => whnf))
        intro Dc hDc
        refine lc_pure hDc (fun q => decide ((t.throw pl).wr.headD 0 ≤ q)) LV.int (fun _ _ => trivial) hpk ?_ ?_
        · intro y _ s' Y N _ h1 h2
          conv => whnf
          rw [atI_mem LV.int (by decide) (pts_head r1.ok)]
          ((conv => whnf); repeat ((first | with_reducible refine ifTT ?_ | with_reducible refine ifFF ?_ | with_reducible refine ifnT ?_ | with_reducible refine ifnF ?_ | with_reducible refine ifTr ?_ | with_reducible refine ifFr ?_ | refine And.intro (by first | with_reducible rfl | with_reducible exact ⟨rfl, rfl⟩ | decide | omega | (dsimp only; decide) | (dsimp only; omega) | (unfold CDiv; omega) | (unfold CPow; decide) | (unfold CMul; omega) | (simp only [List.length_cons, List.length_nil]; omega)) ?_); conv => whnf))
          exact ⟨h1, h2⟩
        · rw [← throw_filter r pl]
          ((conv => whnf); repeat ((first | with_reducible refine ifTT ?_ | with_reducible refine ifFF ?_ | with_reducible refine ifnT ?_ | with_reducible refine ifnF ?_ | with_reducible refine ifTr ?_ | with_reducible refine ifFr ?_ | (refine And.intro (by first | with_reducible rfl | with_reducible exact ⟨rfl, rfl⟩ | decide | omega | (dsimp only; decide) | (dsimp only; omega) | (unfold CDiv; omega) | (unfold CPow; decide) | (unfold CMul; omega) | (simp only [List.length_cons, List.length_nil]; omega) | (simp only [Option.isSome_some]; done) | (simp only [meth_ref, put_same', seqL_ref, thF]; first | done | exact ⟨rfl, rfl⟩ | exact ⟨trivial, rfl⟩ | rfl)) ?_) | (simp (decide := true) only [put_same', put_put, decF, decT, Bool.not_true, Bool.not_false, putL_nil, putL_cons, if_true, if_false, seqR_ref, seqL_ref, lenL_ref, dicK_ref, dicT_ref, dat_ref, dat_non, dat_bl, dat_int, dat_str, dat_lst, dat_tup, datV_non, datV_bl, datV_int, datV_str, datV_lst, datV_tup, datVs_nil, datVs_cons, tyAt_ref, opt_some, Option.map_some, Option.bind_some, dv_ints, dv_bls, dv_nms, dv_prs, dv_nm, dt_nm, dt_pr, dv_pr, sh_int, sh_bl, sh_none, sh_nil, eqv_nil, sh_ints, sh_bls, sh_nm, sh_nms, sh_pr, sh_prs, anyI, anyN, anyP, eqv_int, eqv_bl, eqv_ints, eqv_bls, eqv_nms, eqv_prs, eqv_nm, eqv_pr, thF])); conv => whnf))
          refine ⟨x, _, d, w1, m, _, a, b, c', p, rfl, k2.ht, k2.hM, hg2, ?_⟩
          ((conv => whnf); repeat ((first | with_reducible refine ifTT ?_ | with_reducible refine ifFF ?_ | with_reducible refine ifnT ?_ | with_reducible refine ifnF ?_ | with_reducible refine ifTr ?_ | with_reducible refine ifFr ?_ | refine And.intro (by first | with_reducible rfl | with_reducible exact ⟨rfl, rfl⟩ | decide | omega | (dsimp only; decide) | (dsimp only; omega) | (unfold CDiv; omega) | (unfold CPow; decide) | (unfold CMul; omega) | (simp only [List.length_cons, List.length_nil]; omega)) ?_); conv => whnf))
          exact fin (.refl _) (h _ _ _ _ _ _ _ _ _ k2 r1 (throw_fields t pl).2.1 (by rw [hd]; exact Nat.le_refl _))
def spCR (A : Ad) : LSp := fun vs s Q E => ∃ s0 x d w m a b c p t M n, vs = [.ref x, .ref m, .int n] ∧ K2 A s0 s x d w m a b c p t M ∧ Rel t M ∧ t.done.length < 900000 ∧
  ∀ s' d' w' a' b' c' p' t' M', K2 A s0 s' x d' w' m a' b' c' p' t' M' → Rel t' M' → t'.hab = t.hab → t'.done.length ≤ t.done.length → Q (.bl true) s'
theorem ok_law_cut_right (T : Txt K mg A D) : LFn P w K mg base 7 A.f_law_cut_right D.d_law_cut_right ["_law_thread", "_law_model", "_law_number"] (spCR A) := by
  refine T.F_law_cut_right.okL sc_law_cut_right (fun vs s Q E ⟨_, _, _, _, _, _, _, _, _, _, _, _, h, _⟩ => by rw [h]; rfl) (fun cdv A' outer si H E hr => ⟨_, (lps_cons (lp_set (i := 3) sc_law_cut_right.nd rfl (by first | exact Or.inl rfl | exact Or.inr rfl) (le_sub (le_len rfl T.b_len (la_cons (le_item (hu_of hr) (lv 1) le_str) la_nil)) le_int))
    (lps_cons (lp_set (i := 4) sc_law_cut_right.nd rfl (by first | exact Or.inl rfl | exact Or.inr rfl) (le_call (ok_law_points T) (hr.mono (by decide)) rfl T.m_law_points T.k_law_points T.q_law_points (la_cons (lv 1) la_nil)))
    (lps_cons (lp_cut (lp_set (i := 5) sc_law_cut_right.nd rfl (by first | exact Or.inl rfl | exact Or.inr rfl) (le_item (hu_of hr) (le_fz (ll_disp (la_cons (le_item (hu_of hr) (lv 4) (le_mod (le_div (lv 2) le_int) (le_len rfl T.b_len (la_cons (lv 4) la_nil)))) (la_cons (lv 3) (la_cons (le_sub (le_mod (le_div (lv 2) le_int) (le_add (lv 3) le_int)) le_int) la_nil))))) (le_mod (lv 2) le_int))))
    (lps_cons (lp_set (i := 6) sc_law_cut_right.nd rfl (by first | exact Or.inl rfl | exact Or.inr rfl) (le_eq (le_mod (le_div (lv 2) le_int) le_int) le_int))
    (lps_cons (lp_cut (lp_set (i := 7) sc_law_cut_right.nd rfl (by first | exact Or.inl rfl | exact Or.inr rfl) (le_or (le_inV (hu65 hr) (lv 5) (lv 4) (by rfl)) (le_one (le_and (lv 6) (le_one (le_eq (lv 5) (lv 3))))))))
    (lps_cons (lp_cut (lp_if (lt_ne (le_call (ok_law_told T) (hr.mono (by decide)) rfl T.m_law_told T.k_law_told T.q_law_told (la_cons (lv 0) (la_cons (lv 5) (la_cons (lv 6) la_nil)))) (lv 7)) (lps_one (lp_ret le_bl)) lps_nil))
    (lps_cons (lp_cut (lp_if (lt_cut (LW.lt (lw_and (lt_val (lv 7)) (lw_and1 (LW.lt (lw_or (lt_not (lt_val (lv 6))) (lw_or1 (lt_ne (lv 5) (lv 3))))))))) (lps_one (lp_expr (le_call (ok_law_cut T) (hr.mono (by decide)) rfl T.m_law_cut T.k_law_cut T.q_law_cut (la_cons (lv 1) (la_cons (lv 5) la_nil))))) lps_nil))
    (lps_one (lp_ret (le_call (ok_law_right T) (hr.mono (by decide)) rfl T.m_law_right T.k_law_right T.q_law_right (la_cons (lv 0) (la_cons (lv 1) la_nil)))))))))))), fun vs s Q E h => ?_⟩)
  obtain ⟨s0, x, d, w, m, a, b, c, p, t, M, n, rfl, k, r, hsm, h⟩ := h
  have hg := r.good hsm
  have hM := k.hM
  have ht := k.ht
  have el : ((List.map LV.int M.states).length : Int) - 1 = t.here := by rw [List.length_map, hg.len]; omega
  have h0 : (0 : Int) ≤ t.here := by unfold Th.here; omega
  ((conv => whnf); repeat ((first | with_reducible refine ifTT ?_ | with_reducible refine ifFF ?_ | with_reducible refine ifnT ?_ | with_reducible refine ifnF ?_ | with_reducible refine ifTr ?_ | with_reducible refine ifFr ?_ | (refine And.intro (by first | with_reducible rfl | with_reducible exact ⟨rfl, rfl⟩ | decide | omega | (dsimp only; decide) | (dsimp only; omega) | (unfold CDiv; omega) | (unfold CPow; decide) | (unfold CMul; omega) | (simp only [List.length_cons, List.length_nil]; omega) | (simp only [Option.isSome_some]; done) | (simp only [meth_ref, put_same', seqL_ref, hM.hm, hM.ha]; first | done | exact ⟨rfl, rfl⟩ | exact ⟨trivial, rfl⟩ | rfl)) ?_) | (simp (decide := true) only [put_same', put_put, decF, decT, Bool.not_true, Bool.not_false, putL_nil, putL_cons, if_true, if_false, seqR_ref, seqL_ref, lenL_ref, dicK_ref, dicT_ref, dat_ref, dat_non, dat_bl, dat_int, dat_str, dat_lst, dat_tup, datV_non, datV_bl, datV_int, datV_str, datV_lst, datV_tup, datVs_nil, datVs_cons, tyAt_ref, opt_some, Option.map_some, Option.bind_some, dv_ints, dv_bls, dv_nms, dv_prs, dv_nm, dt_nm, dt_pr, dv_pr, sh_int, sh_bl, sh_none, sh_nil, eqv_nil, sh_ints, sh_bls, sh_nm, sh_nms, sh_pr, sh_prs, anyI, anyN, anyP, eqv_int, eqv_bl, eqv_ints, eqv_bls, eqv_nms, eqv_prs, eqv_nm, eqv_pr, hM.hm, hM.ha])); conv => whnf))
  rw [el]
  ((conv => whnf); repeat ((first | with_reducible refine ifTT ?_ | with_reducible refine ifFF ?_ | with_reducible refine ifnT ?_ | with_reducible refine ifnF ?_ | with_reducible refine ifTr ?_ | with_reducible refine ifFr ?_ | refine And.intro (by first | with_reducible rfl | with_reducible exact ⟨rfl, rfl⟩ | decide | omega | (dsimp only; decide) | (dsimp only; omega) | (unfold CDiv; omega) | (unfold CPow; decide) | (unfold CMul; omega) | (simp only [List.length_cons, List.length_nil]; omega)) ?_); conv => whnf))
  refine ⟨m, M, a, b, c, p, _, rfl, hM, hg.md, hg.pts, ?_⟩
  have hpl := hg.th.pne
  conv => whnf
  refine ⟨fun σ' s' => s' = s ∧ ∃ pl : Int, σ' = [some (.ref x), some (.ref m), some (.int n), some (.int t.here), some (.lst (t.points.map .int)), some (.int pl), none, none], ?_, ?_⟩
  · have hc : n % 3 = 0 ∨ n % 3 = 1 ∨ n % 3 = 2 := by omega
    have hlp : (0 : Int) < (List.map LV.int t.points).length := by rw [List.length_map]; omega
    have hi0 : 0 ≤ n / 4 % ((List.map LV.int t.points).length : Int) := Int.emod_nonneg _ (by omega)
    have hi1 : n / 4 % ((List.map LV.int t.points).length : Int) < (List.map LV.int t.points).length := Int.emod_lt_of_pos _ hlp
    have hi2 : (n / 4 % ((List.map LV.int t.points).length : Int)).toNat < t.points.length := by rw [List.length_map] at hi1 hi0 ⊢; omega
    ((conv => whnf); repeat ((first | with_reducible refine ifTT ?_ | with_reducible refine ifFF ?_ | with_reducible refine ifnT ?_ | with_reducible refine ifnF ?_ | with_reducible refine ifTr ?_ | with_reducible refine ifFr ?_ | refine And.intro (by first | with_reducible rfl | with_reducible exact ⟨rfl, rfl⟩ | decide | omega | (dsimp only; decide) | (dsimp only; omega) | (unfold CDiv; omega) | (unfold CPow; decide) | (unfold CMul; omega) | (simp only [List.length_cons, List.length_nil]; omega)) ?_); conv => whnf))
    rw [atI_mem LV.int hi0 (List.getElem?_eq_getElem hi2)]
    ((conv => whnf); repeat ((first | with_reducible refine ifTT ?_ | with_reducible refine ifFF ?_ | with_reducible refine ifnT ?_ | with_reducible refine ifnF ?_ | with_reducible refine ifTr ?_ | with_reducible refine ifFr ?_ | refine And.intro (by first | with_reducible rfl | with_reducible exact ⟨rfl, rfl⟩ | decide | omega | (dsimp only; decide) | (dsimp only; omega) | (unfold CDiv; omega) | (unfold CPow; decide) | (unfold CMul; omega) | (simp only [List.length_cons, List.length_nil]; omega)) ?_); conv => whnf))
    rcases hc with e | e | e <;> rw [e]
    all_goals
      ((conv => whnf); repeat ((first | with_reducible refine ifTT ?_ | with_reducible refine ifFF ?_ | with_reducible refine ifnT ?_ | with_reducible refine ifnF ?_ | with_reducible refine ifTr ?_ | with_reducible refine ifFr ?_ | refine And.intro (by first | with_reducible rfl | with_reducible exact ⟨rfl, rfl⟩ | decide | omega | (dsimp only; decide) | (dsimp only; omega) | (unfold CDiv; omega) | (unfold CPow; decide) | (unfold CMul; omega) | (simp only [List.length_cons, List.length_nil]; omega)) ?_); conv => whnf))
      exact ⟨_, rfl⟩
  · rintro σ' s' ⟨rfl, pl, rfl⟩
    ((conv => whnf); repeat ((first | with_reducible refine ifTT ?_ | with_reducible refine ifFF ?_ | with_reducible refine ifnT ?_ | with_reducible refine ifnF ?_ | with_reducible refine ifTr ?_ | with_reducible refine ifFr ?_ | refine And.intro (by first | with_reducible rfl | with_reducible exact ⟨rfl, rfl⟩ | decide | omega | (dsimp only; decide) | (dsimp only; omega) | (unfold CDiv; omega) | (unfold CPow; decide) | (unfold CMul; omega) | (simp only [List.length_cons, List.length_nil]; omega)) ?_); conv => whnf))
    generalize hst : decide (n / 4096 % 2 = 1) = st
    refine ⟨fun σ' s1 => s1 = s' ∧ σ' = [some (.ref x), some (.ref m), some (.int n), some (.int t.here), some (.lst (t.points.map .int)), some (.int pl), some (.bl st), some (.bl (decide (pl ∈ t.points ∨ (st = true ∧ pl = t.here))))], ?_, ?_⟩
    · ((conv => whnf); repeat ((first | with_reducible refine ifTT ?_ | with_reducible refine ifFF ?_ | with_reducible refine ifnT ?_ | with_reducible refine ifnF ?_ | with_reducible refine ifTr ?_ | with_reducible refine ifFr ?_ | (refine And.intro (by first | with_reducible rfl | with_reducible exact ⟨rfl, rfl⟩ | decide | omega | (dsimp only; decide) | (dsimp only; omega) | (unfold CDiv; omega) | (unfold CPow; decide) | (unfold CMul; omega) | (simp only [List.length_cons, List.length_nil]; omega) | (simp only [Option.isSome_some]; done) | (simp only [meth_ref, put_same', seqL_ref, thF]; first | done | exact ⟨rfl, rfl⟩ | exact ⟨trivial, rfl⟩ | rfl)) ?_) | (simp (decide := true) only [put_same', put_put, decF, decT, Bool.not_true, Bool.not_false, putL_nil, putL_cons, if_true, if_false, seqR_ref, seqL_ref, lenL_ref, dicK_ref, dicT_ref, dat_ref, dat_non, dat_bl, dat_int, dat_str, dat_lst, dat_tup, datV_non, datV_bl, datV_int, datV_str, datV_lst, datV_tup, datVs_nil, datVs_cons, tyAt_ref, opt_some, Option.map_some, Option.bind_some, dv_ints, dv_bls, dv_nms, dv_prs, dv_nm, dt_nm, dt_pr, dv_pr, sh_int, sh_bl, sh_none, sh_nil, eqv_nil, sh_ints, sh_bls, sh_nm, sh_nms, sh_pr, sh_prs, anyI, anyN, anyP, eqv_int, eqv_bl, eqv_ints, eqv_bls, eqv_nms, eqv_prs, eqv_nm, eqv_pr, thF])); conv => whnf))
      refine ifDX (fun hp => ?_) (fun hp => ?_)
      · ((conv => whnf); repeat ((first | with_reducible refine ifTT ?_ | with_reducible refine ifFF ?_ | with_reducible refine ifnT ?_ | with_reducible refine ifnF ?_ | with_reducible refine ifTr ?_ | with_reducible refine ifFr ?_ | refine And.intro (by first | with_reducible rfl | with_reducible exact ⟨rfl, rfl⟩ | decide | omega | (dsimp only; decide) | (dsimp only; omega) | (unfold CDiv; omega) | (unfold CPow; decide) | (unfold CMul; omega) | (simp only [List.length_cons, List.length_nil]; omega)) ?_); conv => whnf))
        have : decide (pl ∈ t.points ∨ (st = true ∧ pl = t.here)) = true := by simp [hp]
        rw [this]
        rfl
      · ((conv => whnf); repeat ((first | with_reducible refine ifTT ?_ | with_reducible refine ifFF ?_ | with_reducible refine ifnT ?_ | with_reducible refine ifnF ?_ | with_reducible refine ifTr ?_ | with_reducible refine ifFr ?_ | refine And.intro (by first | with_reducible rfl | with_reducible exact ⟨rfl, rfl⟩ | decide | omega | (dsimp only; decide) | (dsimp only; omega) | (unfold CDiv; omega) | (unfold CPow; decide) | (unfold CMul; omega) | (simp only [List.length_cons, List.length_nil]; omega)) ?_); conv => whnf))
        refine ifB (fun hs => ?_) (fun hs => ?_)
        · ((conv => whnf); repeat ((first | with_reducible refine ifTT ?_ | with_reducible refine ifFF ?_ | with_reducible refine ifnT ?_ | with_reducible refine ifnF ?_ | with_reducible refine ifTr ?_ | with_reducible refine ifFr ?_ | refine And.intro (by first | with_reducible rfl | with_reducible exact ⟨rfl, rfl⟩ | decide | omega | (dsimp only; decide) | (dsimp only; omega) | (unfold CDiv; omega) | (unfold CPow; decide) | (unfold CMul; omega) | (simp only [List.length_cons, List.length_nil]; omega)) ?_); conv => whnf))
          have : decide (pl ∈ t.points ∨ (st = true ∧ pl = t.here)) = decide (pl = t.here) := by simp [hp, hs]
          rw [this]
          rfl
        · ((conv => whnf); repeat ((first | with_reducible refine ifTT ?_ | with_reducible refine ifFF ?_ | with_reducible refine ifnT ?_ | with_reducible refine ifnF ?_ | with_reducible refine ifTr ?_ | with_reducible refine ifFr ?_ | refine And.intro (by first | with_reducible rfl | with_reducible exact ⟨rfl, rfl⟩ | decide | omega | (dsimp only; decide) | (dsimp only; omega) | (unfold CDiv; omega) | (unfold CPow; decide) | (unfold CMul; omega) | (simp only [List.length_cons, List.length_nil]; omega)) ?_); conv => whnf))
          have : decide (pl ∈ t.points ∨ (st = true ∧ pl = t.here)) = false := by simp [hp, hs]
          rw [this]
          rfl
    · rintro σ' s1 ⟨rfl, rfl⟩
      conv => whnf
      refine ⟨fun σ' s1 => σ' = [some (.ref x), some (.ref m), some (.int n), some (.int t.here), some (.lst (t.points.map .int)), some (.int pl), some (.bl st), some (.bl (decide (pl ∈ t.points ∨ (st = true ∧ pl = t.here))))] ∧
        ∃ d' w' t', K2 A s0 s1 x d' w' m a b c p t' M ∧ ((pl ∈ t.points ∧ ¬ (st = true ∧ pl = t.here) ∧ t' = t.cut pl) ∨ (¬ (pl ∈ t.points ∧ ¬ (st = true ∧ pl = t.here)) ∧ t' = t)), ?_, ?_⟩
      · ((conv => whnf); repeat ((first | with_reducible refine ifTT ?_ | with_reducible refine ifFF ?_ | with_reducible refine ifnT ?_ | with_reducible refine ifnF ?_ | with_reducible refine ifTr ?_ | with_reducible refine ifFr ?_ | refine And.intro (by first | with_reducible rfl | with_reducible exact ⟨rfl, rfl⟩ | decide | omega | (dsimp only; decide) | (dsimp only; omega) | (unfold CDiv; omega) | (unfold CPow; decide) | (unfold CMul; omega) | (simp only [List.length_cons, List.length_nil]; omega)) ?_); conv => whnf))
        refine ⟨x, t, d, w, pl, st, rfl, ht, hg.th, hg.small, by rw [← r.wr]; have := hg.md.smallW; omega, fun q => ?_, fun q1 q2 => ?_, fun q1 q2 s2 d' w' h4 o4 => ?_⟩
        · have e : decide (pl ∈ t.points ∨ (st = true ∧ pl = t.here)) = true := by simp [q]
          conv => whnf
          rw [e]
          conv => whnf
          refine ifN (fun q => absurd rfl q) (fun _ => ?_)
          ((conv => whnf); repeat ((first | with_reducible refine ifTT ?_ | with_reducible refine ifFF ?_ | with_reducible refine ifnT ?_ | with_reducible refine ifnF ?_ | with_reducible refine ifTr ?_ | with_reducible refine ifFr ?_ | refine And.intro (by first | with_reducible rfl | with_reducible exact ⟨rfl, rfl⟩ | decide | omega | (dsimp only; decide) | (dsimp only; omega) | (unfold CDiv; omega) | (unfold CPow; decide) | (unfold CMul; omega) | (simp only [List.length_cons, List.length_nil]; omega)) ?_); conv => whnf))
          refine ⟨d, w, t, k, .inr ⟨fun z => z.2 q, rfl⟩⟩
        · have e : decide (pl ∈ t.points ∨ (st = true ∧ pl = t.here)) = false := by simp [q1, q2]
          conv => whnf
          rw [e]
          conv => whnf
          refine ifN (fun q => absurd rfl q) (fun _ => ?_)
          ((conv => whnf); repeat ((first | with_reducible refine ifTT ?_ | with_reducible refine ifFF ?_ | with_reducible refine ifnT ?_ | with_reducible refine ifnF ?_ | with_reducible refine ifTr ?_ | with_reducible refine ifFr ?_ | refine And.intro (by first | with_reducible rfl | with_reducible exact ⟨rfl, rfl⟩ | decide | omega | (dsimp only; decide) | (dsimp only; omega) | (unfold CDiv; omega) | (unfold CPow; decide) | (unfold CMul; omega) | (simp only [List.length_cons, List.length_nil]; omega)) ?_); conv => whnf))
          refine ⟨d, w, t, k, .inr ⟨fun z => q2 z.1, rfl⟩⟩
        · have e : decide (pl ∈ t.points ∨ (st = true ∧ pl = t.here)) = true := by simp [q2]
          conv => whnf
          rw [e]
          conv => whnf
          refine ifN (fun q => absurd rfl q) (fun _ => ?_)
          ((conv => whnf); repeat ((first | with_reducible refine ifTT ?_ | with_reducible refine ifFF ?_ | with_reducible refine ifnT ?_ | with_reducible refine ifnF ?_ | with_reducible refine ifTr ?_ | with_reducible refine ifFr ?_ | refine And.intro (by first | with_reducible rfl | with_reducible exact ⟨rfl, rfl⟩ | decide | omega | (dsimp only; decide) | (dsimp only; omega) | (unfold CDiv; omega) | (unfold CPow; decide) | (unfold CMul; omega) | (simp only [List.length_cons, List.length_nil]; omega)) ?_); conv => whnf))
          refine ⟨d', w', t.cut pl, k.th o4 h4, .inl ⟨q2, q1, rfl⟩⟩
      · rintro σ' s2 ⟨rfl, d', w', t', k2, hc⟩
        conv => whnf
        refine ⟨fun σ' s3 => ∃ a' b' c' p' M', σ' = [some (.ref x), some (.ref m), some (.int n), some (.int t.here), some (.lst (t.points.map .int)), some (.int pl), some (.bl st), some (.bl (decide (pl ∈ t.points ∨ (st = true ∧ pl = t.here))))] ∧
          K2 A s0 s3 x d' w' m a' b' c' p' t' M' ∧ Rel t' M' ∧ t'.hab = t.hab ∧ t'.done.length ≤ t.done.length, ?_, ?_⟩
        · conv => whnf
          refine ⟨decide (pl ∈ t.points ∧ ¬ (st = true ∧ pl = t.here)), ?_, ?_⟩
          · ((conv => whnf); repeat ((first | with_reducible refine ifTT ?_ | with_reducible refine ifFF ?_ | with_reducible refine ifnT ?_ | with_reducible refine ifnF ?_ | with_reducible refine ifTr ?_ | with_reducible refine ifFr ?_ | refine And.intro (by first | with_reducible rfl | with_reducible exact ⟨rfl, rfl⟩ | decide | omega | (dsimp only; decide) | (dsimp only; omega) | (unfold CDiv; omega) | (unfold CPow; decide) | (unfold CMul; omega) | (simp only [List.length_cons, List.length_nil]; omega)) ?_); conv => whnf))
            refine ifD (fun h1 => ?_) (fun h1 => ⟨(decide_eq_false fun q => h1 (.inl q.1)).symm, rfl⟩)
            ((conv => whnf); repeat ((first | with_reducible refine ifTT ?_ | with_reducible refine ifFF ?_ | with_reducible refine ifnT ?_ | with_reducible refine ifnF ?_ | with_reducible refine ifTr ?_ | with_reducible refine ifFr ?_ | refine And.intro (by first | with_reducible rfl | with_reducible exact ⟨rfl, rfl⟩ | decide | omega | (dsimp only; decide) | (dsimp only; omega) | (unfold CDiv; omega) | (unfold CPow; decide) | (unfold CMul; omega) | (simp only [List.length_cons, List.length_nil]; omega)) ?_); conv => whnf))
            refine ifB (fun hs => ?_) (fun hs => ?_)
            · have hs : st = false := by simpa using hs
              have h2 : pl ∈ t.points := h1.elim id fun q => absurd q.1 (by simp [hs])
              exact ⟨by simp [h2, hs], rfl⟩
            · have hs : st = true := by simpa using hs
              ((conv => whnf); repeat ((first | with_reducible refine ifTT ?_ | with_reducible refine ifFF ?_ | with_reducible refine ifnT ?_ | with_reducible refine ifnF ?_ | with_reducible refine ifTr ?_ | with_reducible refine ifFr ?_ | refine And.intro (by first | with_reducible rfl | with_reducible exact ⟨rfl, rfl⟩ | decide | omega | (dsimp only; decide) | (dsimp only; omega) | (unfold CDiv; omega) | (unfold CPow; decide) | (unfold CMul; omega) | (simp only [List.length_cons, List.length_nil]; omega)) ?_); conv => whnf))
              by_cases h3 : pl = t.here
              · have e1 : decide (pl = t.here) = true := decide_eq_true h3
                exact ⟨by simp [h3, hs], rfl⟩
              · have h2 : pl ∈ t.points := h1.elim id fun q => absurd q.2 h3
                exact ⟨by simp [h2, h3], rfl⟩
          · refine ifD (fun h1 => ?_) (fun h1 => ?_)
            · have ht' : t' = t.cut pl := by
                rcases hc with ⟨_, _, e⟩ | ⟨q, _⟩
                · exact e
                · exact absurd h1 q
              subst ht'
              have hpp := hg.th.pt h1.1
              ((conv => whnf); repeat ((first | with_reducible refine ifTT ?_ | with_reducible refine ifFF ?_ | with_reducible refine ifnT ?_ | with_reducible refine ifnF ?_ | with_reducible refine ifTr ?_ | with_reducible refine ifFr ?_ | refine And.intro (by first | with_reducible rfl | with_reducible exact ⟨rfl, rfl⟩ | decide | omega | (dsimp only; decide) | (dsimp only; omega) | (unfold CDiv; omega) | (unfold CPow; decide) | (unfold CMul; omega) | (simp only [List.length_cons, List.length_nil]; omega)) ?_); conv => whnf))
              refine ⟨m, M, a, b, c, p, pl, rfl, k2.hM, hg.md, hpp.1, fun s3 a' b' c' p' h3 o3 => ?_⟩
              ((conv => whnf); repeat ((first | with_reducible refine ifTT ?_ | with_reducible refine ifFF ?_ | with_reducible refine ifnT ?_ | with_reducible refine ifnF ?_ | with_reducible refine ifTr ?_ | with_reducible refine ifFr ?_ | refine And.intro (by first | with_reducible rfl | with_reducible exact ⟨rfl, rfl⟩ | decide | omega | (dsimp only; decide) | (dsimp only; omega) | (unfold CDiv; omega) | (unfold CPow; decide) | (unfold CMul; omega) | (simp only [List.length_cons, List.length_nil]; omega)) ?_); conv => whnf))
              refine ⟨a', b', c', p', _, rfl, k2.md o3 h3, r.cut h1.1, rfl, ?_⟩
              simp [Th.cut]; omega
            · have ht' : t' = t := by
                rcases hc with ⟨q1, q2, _⟩ | ⟨q, e⟩
                · exact absurd ⟨q1, q2⟩ h1
                · exact e
              subst ht'
              ((conv => whnf); repeat ((first | with_reducible refine ifTT ?_ | with_reducible refine ifFF ?_ | with_reducible refine ifnT ?_ | with_reducible refine ifnF ?_ | with_reducible refine ifTr ?_ | with_reducible refine ifFr ?_ | refine And.intro (by first | with_reducible rfl | with_reducible exact ⟨rfl, rfl⟩ | decide | omega | (dsimp only; decide) | (dsimp only; omega) | (unfold CDiv; omega) | (unfold CPow; decide) | (unfold CMul; omega) | (simp only [List.length_cons, List.length_nil]; omega)) ?_); conv => whnf))
              exact ⟨a, b, c, p, M, rfl, k2, r, rfl, Nat.le_refl _⟩
        · rintro σ' s3 ⟨a', b', c', p', M', rfl, k3, r3, hh, hle⟩
          have hg3 := r3.good (by omega)
          ((conv => whnf); repeat ((first | with_reducible refine ifTT ?_ | with_reducible refine ifFF ?_ | with_reducible refine ifnT ?_ | with_reducible refine ifnF ?_ | with_reducible refine ifTr ?_ | with_reducible refine ifFr ?_ | refine And.intro (by first | with_reducible rfl | with_reducible exact ⟨rfl, rfl⟩ | decide | omega | (dsimp only; decide) | (dsimp only; omega) | (unfold CDiv; omega) | (unfold CPow; decide) | (unfold CMul; omega) | (simp only [List.length_cons, List.length_nil]; omega)) ?_); conv => whnf))
          refine ⟨x, t', d', w', m, M', a', b', c', p', rfl, k3.ht, k3.hM, hg3, ?_⟩
          ((conv => whnf); repeat ((first | with_reducible refine ifTT ?_ | with_reducible refine ifFF ?_ | with_reducible refine ifnT ?_ | with_reducible refine ifnF ?_ | with_reducible refine ifTr ?_ | with_reducible refine ifFr ?_ | refine And.intro (by first | with_reducible rfl | with_reducible exact ⟨rfl, rfl⟩ | decide | omega | (dsimp only; decide) | (dsimp only; omega) | (unfold CDiv; omega) | (unfold CPow; decide) | (unfold CMul; omega) | (simp only [List.length_cons, List.length_nil]; omega)) ?_); conv => whnf))
          exact fin (.refl _) (h _ _ _ _ _ _ _ _ _ k3 r3 hh hle)
theorem ok_law (T : Txt K mg A D) : LFn P w K mg base 8 A.f_law D.d_law ["_law_script"] spTrue := by
  refine T.F_law.okL sc_law (fun vs s Q E ⟨_, _, h, _⟩ => by rw [h]; rfl) (fun cdv A' outer si H E hr => ⟨_, (lps_cons (lp_set (i := 1) sc_law.nd rfl (by first | exact Or.inl rfl | exact Or.inr rfl) (le_call (ok_law_habit T) (hr.mono (by decide)) rfl T.m_law_habit T.k_law_habit T.q_law_habit (la_cons (le_call (ok_law_mixed T) (hr.mono (by decide)) rfl T.m_law_mixed T.k_law_mixed T.q_law_mixed (la_cons (le_call (ok_law_cell_at T) (hr.mono (by decide)) rfl T.m_law_cell_at T.k_law_cell_at T.q_law_cell_at (la_cons (lv 0) (la_cons le_int la_nil))) (la_cons le_int la_nil))) la_nil)))
    (lps_cons (lp_set (i := 2) sc_law.nd rfl (by first | exact Or.inl rfl | exact Or.inr rfl) (le_add (le_sub (le_mod (le_call (ok_law_cell_at T) (hr.mono (by decide)) rfl T.m_law_cell_at T.k_law_cell_at T.q_law_cell_at (la_cons (lv 0) (la_cons le_int la_nil))) (le_sub (le_mul le_int (le_pow le_int le_int)) le_int)) (le_pow le_int le_int)) le_int))
    (lps_cons (lp_set (i := 3) sc_law.nd rfl (by first | exact Or.inl rfl | exact Or.inr rfl) (le_make T.mk_Thread (ok_Thread_init T) (hr.mono (by decide)) rfl T.m_Thread T.q_Thread_init (la_cons (lv 2) (la_cons (le_call (ok_law_made T) (hr.mono (by decide)) rfl T.m_law_made T.k_law_made T.q_law_made (la_cons (lv 1) la_nil)) la_nil))))
    (lps_cons (lp_set (i := 4) sc_law.nd rfl (by first | exact Or.inl rfl | exact Or.inr rfl) (le_call (ok_law_begun T) (hr.mono (by decide)) rfl T.m_law_begun T.k_law_begun T.q_law_begun (la_cons (lv 2) la_nil)))
    (lps_cons (lp_for rfl (li_range1 rfl T.b_range (la_cons (le_mod (le_call (ok_law_mixed T) (hr.mono (by decide)) rfl T.m_law_mixed T.k_law_mixed T.q_law_mixed (la_cons (le_call (ok_law_cell_at T) (hr.mono (by decide)) rfl T.m_law_cell_at T.k_law_cell_at T.q_law_cell_at (la_cons (lv 0) (la_cons le_int la_nil))) (la_cons le_int la_nil))) le_int) la_nil)) (lg_name (i := 5) sc_law.nd rfl (by first | exact Or.inl rfl | exact Or.inr rfl)) (lps_cons (lp_set (i := 6) sc_law.nd rfl (by first | exact Or.inl rfl | exact Or.inr rfl) (le_call (ok_law_mixed T) (hr.mono (by decide)) rfl T.m_law_mixed T.k_law_mixed T.q_law_mixed (la_cons (le_call (ok_law_cell_at T) (hr.mono (by decide)) rfl T.m_law_cell_at T.k_law_cell_at T.q_law_cell_at (la_cons (lv 0) (la_cons le_int la_nil))) (la_cons (lv 5) la_nil))))
    (lps_cons (lp_set (i := 7) sc_law.nd rfl (by first | exact Or.inl rfl | exact Or.inr rfl) (le_sub (le_len rfl T.b_len (la_cons (le_item (hu_of hr) (lv 4) le_str) la_nil)) le_int))
    (lps_one (lp_if (lt_eq (le_mod (lv 6) le_int) le_int) (lps_cons (lp_expr (le_meth0 (lv 3) T.cl_Thread T.mt_Thread_write (ok_Thread_write T) (hr.mono (by decide)) T.q_Thread_write))
    (lps_one (lp_expr (le_call (ok_law_wrote T) (hr.mono (by decide)) rfl T.m_law_wrote T.k_law_wrote T.q_law_wrote (la_cons (lv 4) (la_cons (lv 1) la_nil)))))) (lps_one (lp_if (lt_eq (le_mod (lv 6) le_int) le_int) (lps_one (lp_if (lt_not (lt_val (le_call (ok_law_cut_right T) (hr.mono (by decide)) rfl T.m_law_cut_right T.k_law_cut_right T.q_law_cut_right (la_cons (lv 3) (la_cons (lv 4) (la_cons (le_div (lv 6) le_int) la_nil)))))) (lps_one (lp_ret le_bl)) lps_nil)) (lps_one (lp_if (lt_eq (le_mod (lv 6) le_int) le_int) (lps_one (lp_if (lt_not (lt_val (le_call (ok_law_thrown T) (hr.mono (by decide)) rfl T.m_law_thrown T.k_law_thrown T.q_law_thrown (la_cons (lv 3) (la_cons (lv 4) (la_cons (le_mod (le_div (lv 6) le_int) (le_add (lv 7) le_int)) la_nil)))))) (lps_one (lp_ret le_bl)) lps_nil)) (lps_cons (lp_set (i := 8) sc_law.nd rfl (by first | exact Or.inl rfl | exact Or.inr rfl) (le_call (ok_law_event T) (hr.mono (by decide)) rfl T.m_law_event T.k_law_event T.q_law_event (la_cons (le_call (ok_law_cell_at T) (hr.mono (by decide)) rfl T.m_law_cell_at T.k_law_cell_at T.q_law_cell_at (la_cons (lv 0) (la_cons (le_add le_int (le_mod (lv 5) le_int)) la_nil))) (la_cons (le_div (lv 5) le_int) la_nil))))
    (lps_cons (lp_expr (le_meth (lv 3) T.cl_Thread T.mt_Thread_do (ok_Thread_do T) (hr.mono (by decide)) T.q_Thread_do (la_cons (le_makeZ T.mk_Event (ok_Event_init T) (hr.mono (by decide)) rfl T.m_Event T.q_Event_init (la_cons (le_item (hu_of hr) (lv 8) le_int) (la_cons (le_item (hu_of hr) (lv 8) le_int) (la_cons (le_item (hu_of hr) (lv 8) le_int) (la_cons (le_item (hu_of hr) (lv 8) le_int) la_nil))))) la_nil)))
    (lps_one (lp_expr (le_call (ok_law_done T) (hr.mono (by decide)) rfl T.m_law_done T.k_law_done T.q_law_done (la_cons (lv 4) (la_cons (lv 1) (la_cons (le_item (hu_of hr) (lv 8) le_int) la_nil)))))))))))))))))
    (lps_one (lp_ret (le_call (ok_law_right T) (hr.mono (by decide)) rfl T.m_law_right T.k_law_right T.q_law_right (la_cons (lv 3) (la_cons (lv 4) la_nil)))))))))), fun vs s Q E h => ?_⟩)
  obtain ⟨ns, hns, rfl, h⟩ := h
  ((conv => whnf); repeat ((first | with_reducible refine ifTT ?_ | with_reducible refine ifFF ?_ | with_reducible refine ifnT ?_ | with_reducible refine ifnF ?_ | with_reducible refine ifTr ?_ | with_reducible refine ifFr ?_ | refine And.intro (by first | with_reducible rfl | with_reducible exact ⟨rfl, rfl⟩ | decide | omega | (dsimp only; decide) | (dsimp only; omega) | (unfold CDiv; omega) | (unfold CPow; decide) | (unfold CMul; omega) | (simp only [List.length_cons, List.length_nil]; omega)) ?_); conv => whnf))
  refine ⟨ns, 0, rfl, ?_⟩
  ((conv => whnf); repeat ((first | with_reducible refine ifTT ?_ | with_reducible refine ifFF ?_ | with_reducible refine ifnT ?_ | with_reducible refine ifnF ?_ | with_reducible refine ifTr ?_ | with_reducible refine ifFr ?_ | refine And.intro (by first | with_reducible rfl | with_reducible exact ⟨rfl, rfl⟩ | decide | omega | (dsimp only; decide) | (dsimp only; omega) | (unfold CDiv; omega) | (unfold CPow; decide) | (unfold CMul; omega) | (simp only [List.length_cons, List.length_nil]; omega)) ?_); conv => whnf))
  refine ⟨cellAt ns 0, 0, rfl, ?_⟩
  ((conv => whnf); repeat ((first | with_reducible refine ifTT ?_ | with_reducible refine ifFF ?_ | with_reducible refine ifnT ?_ | with_reducible refine ifnF ?_ | with_reducible refine ifTr ?_ | with_reducible refine ifFr ?_ | refine And.intro (by first | with_reducible rfl | with_reducible exact ⟨rfl, rfl⟩ | decide | omega | (dsimp only; decide) | (dsimp only; omega) | (unfold CDiv; omega) | (unfold CPow; decide) | (unfold CMul; omega) | (simp only [List.length_cons, List.length_nil]; omega)) ?_); conv => whnf))
  refine ⟨_, rfl, ?_⟩
  have hbok := hbOf_ok (mixed (cellAt ns 0) 0)
  revert hbok
  generalize hbOf (mixed (cellAt ns 0) 0) = hb
  intro hbok
  ((conv => whnf); repeat ((first | with_reducible refine ifTT ?_ | with_reducible refine ifFF ?_ | with_reducible refine ifnT ?_ | with_reducible refine ifnF ?_ | with_reducible refine ifTr ?_ | with_reducible refine ifFr ?_ | refine And.intro (by first | with_reducible rfl | with_reducible exact ⟨rfl, rfl⟩ | decide | omega | (dsimp only; decide) | (dsimp only; omega) | (unfold CDiv; omega) | (unfold CPow; decide) | (unfold CMul; omega) | (simp only [List.length_cons, List.length_nil]; omega)) ?_); conv => whnf))
  refine ⟨ns, 1, rfl, ?_⟩
  ((conv => whnf); repeat ((first | with_reducible refine ifTT ?_ | with_reducible refine ifFF ?_ | with_reducible refine ifnT ?_ | with_reducible refine ifnF ?_ | with_reducible refine ifTr ?_ | with_reducible refine ifFr ?_ | refine And.intro (by first | with_reducible rfl | with_reducible exact ⟨rfl, rfl⟩ | decide | omega | (dsimp only; decide) | (dsimp only; omega) | (unfold CDiv; omega) | (unfold CPow; decide) | (unfold CMul; omega) | (simp only [List.length_cons, List.length_nil]; omega)) ?_); conv => whnf))
  generalize cellAt ns 1 % (2 * 10 ^ Int.toNat 40 - 1) - 10 ^ Int.toNat 40 + 1 = st
  refine ⟨hb, rfl, hbok, ?_⟩
  ((conv => whnf); repeat ((first | with_reducible refine ifTT ?_ | with_reducible refine ifFF ?_ | with_reducible refine ifnT ?_ | with_reducible refine ifnF ?_ | with_reducible refine ifTr ?_ | with_reducible refine ifFr ?_ | refine And.intro (by first | with_reducible rfl | with_reducible exact ⟨rfl, rfl⟩ | decide | omega | (dsimp only; decide) | (dsimp only; omega) | (unfold CDiv; omega) | (unfold CPow; decide) | (unfold CMul; omega) | (simp only [List.length_cons, List.length_nil]; omega)) ?_); conv => whnf))
  intro x hx
  refine ⟨x, st, hb, rfl, put_same, fun s1 d w ht o1 => ⟨rfl, ?_⟩⟩
  ((conv => whnf); repeat ((first | with_reducible refine ifTT ?_ | with_reducible refine ifFF ?_ | with_reducible refine ifnT ?_ | with_reducible refine ifnF ?_ | with_reducible refine ifTr ?_ | with_reducible refine ifFr ?_ | refine And.intro (by first | with_reducible rfl | with_reducible exact ⟨rfl, rfl⟩ | decide | omega | (dsimp only; decide) | (dsimp only; omega) | (unfold CDiv; omega) | (unfold CPow; decide) | (unfold CMul; omega) | (simp only [List.length_cons, List.length_nil]; omega)) ?_); conv => whnf))
  refine ⟨st, rfl, fun s3 m a b c p hM o2 => ?_⟩
  have k0 : K2 A s s3 x d w m a b c p ⟨st, hb, [], [0], 0⟩ ⟨[st], [true], [0], []⟩ := by
    have e0 : Ext s (put s x (.ins A.c_Thread [])) := ext_put hx
    have f0 : ∀ y ∈ [x], s y = none := fun y hy => by simp at hy; subst hy; exact hx
    have e1 := ext_own e0 o1 f0
    have f1 := fr_own e0 o1 f0
    have ht2 := ht.ext o2.ext
    refine ⟨ht2, hM, fun y hy hn => ?_, e1.trans o2.ext, fun y hy => ?_⟩
    · obtain ⟨o, e⟩ := ht.ex y hy
      exact o2.out (by simp) e hn
    · rw [List.mem_append] at hy
      exact hy.elim (f1 y) (fr_own e1 o2 (fun _ h => by simp at h) y)
  have r0 : Rel ⟨st, hb, [], [0], 0⟩ ⟨[st], [true], [0], []⟩ := rel_begin st hb fun n hn => (hbok n hn).1
  clear ht o1 hM o2 hx
  ((conv => whnf); repeat ((first | with_reducible refine ifTT ?_ | with_reducible refine ifFF ?_ | with_reducible refine ifnT ?_ | with_reducible refine ifnF ?_ | with_reducible refine ifTr ?_ | with_reducible refine ifFr ?_ | refine And.intro (by first | with_reducible rfl | with_reducible exact ⟨rfl, rfl⟩ | decide | omega | (dsimp only; decide) | (dsimp only; omega) | (unfold CDiv; omega) | (unfold CPow; decide) | (unfold CMul; omega) | (simp only [List.length_cons, List.length_nil]; omega)) ?_); conv => whnf))
  refine ⟨ns, 0, rfl, ?_⟩
  ((conv => whnf); repeat ((first | with_reducible refine ifTT ?_ | with_reducible refine ifFF ?_ | with_reducible refine ifnT ?_ | with_reducible refine ifnF ?_ | with_reducible refine ifTr ?_ | with_reducible refine ifFr ?_ | refine And.intro (by first | with_reducible rfl | with_reducible exact ⟨rfl, rfl⟩ | decide | omega | (dsimp only; decide) | (dsimp only; omega) | (unfold CDiv; omega) | (unfold CPow; decide) | (unfold CMul; omega) | (simp only [List.length_cons, List.length_nil]; omega)) ?_); conv => whnf))
  refine ⟨cellAt ns 0, 1, rfl, ?_⟩
  have hmn1 : 0 ≤ mixed (cellAt ns 0) 1 % 41 ∧ mixed (cellAt ns 0) 1 % 41 ≤ 40 := by omega
  ((conv => whnf); repeat ((first | with_reducible refine ifTT ?_ | with_reducible refine ifFF ?_ | with_reducible refine ifnT ?_ | with_reducible refine ifnF ?_ | with_reducible refine ifTr ?_ | with_reducible refine ifFr ?_ | refine And.intro (by first | with_reducible rfl | with_reducible exact ⟨rfl, rfl⟩ | decide | omega | (dsimp only; decide) | (dsimp only; omega) | (unfold CDiv; omega) | (unfold CPow; decide) | (unfold CMul; omega) | (simp only [List.length_cons, List.length_nil]; omega)) ?_); conv => whnf))
  refine lLoop_rg (fun i σ s' => ∃ d w a b c p t M, (∃ v6 v7 v8 v9, σ = [some (.scr ns), some (hcL hb), some (.int st), some (.ref x), some (.ref m), v6, v7, v8, v9]) ∧ K2 A s s' x d w m a b c p t M ∧ Rel t M ∧ t.hab = hb ∧ t.done.length ≤ i)
    ⟨d, w, a, b, c, p, _, _, ⟨_, _, _, _, rfl⟩, k0, r0, rfl, Nat.le_refl _⟩ (fun _ _ _ _ => trivial) ?_ ?_
  · rintro i σ s4 N hi ⟨d, w, a, b, c, p, t, M, ⟨v6, v7, v8, v9, rfl⟩, k, r, hh, hl⟩ hN
    have hsm : t.done.length < 900000 := by omega
    have hg := r.good hsm
    ((conv => whnf); repeat ((first | with_reducible refine ifTT ?_ | with_reducible refine ifFF ?_ | with_reducible refine ifnT ?_ | with_reducible refine ifnF ?_ | with_reducible refine ifTr ?_ | with_reducible refine ifFr ?_ | refine And.intro (by first | with_reducible rfl | with_reducible exact ⟨rfl, rfl⟩ | decide | omega | (dsimp only; decide) | (dsimp only; omega) | (unfold CDiv; omega) | (unfold CPow; decide) | (unfold CMul; omega) | (simp only [List.length_cons, List.length_nil]; omega)) ?_); conv => whnf))
    refine ⟨ns, 2, rfl, ?_⟩
    ((conv => whnf); repeat ((first | with_reducible refine ifTT ?_ | with_reducible refine ifFF ?_ | with_reducible refine ifnT ?_ | with_reducible refine ifnF ?_ | with_reducible refine ifTr ?_ | with_reducible refine ifFr ?_ | refine And.intro (by first | with_reducible rfl | with_reducible exact ⟨rfl, rfl⟩ | decide | omega | (dsimp only; decide) | (dsimp only; omega) | (unfold CDiv; omega) | (unfold CPow; decide) | (unfold CMul; omega) | (simp only [List.length_cons, List.length_nil]; omega)) ?_); conv => whnf))
    refine ⟨cellAt ns 2, i, by rw [Int.zero_add], ?_⟩
    ((conv => whnf); repeat ((first | with_reducible refine ifTT ?_ | with_reducible refine ifFF ?_ | with_reducible refine ifnT ?_ | with_reducible refine ifnF ?_ | with_reducible refine ifTr ?_ | with_reducible refine ifFr ?_ | (refine And.intro (by first | with_reducible rfl | with_reducible exact ⟨rfl, rfl⟩ | decide | omega | (dsimp only; decide) | (dsimp only; omega) | (unfold CDiv; omega) | (unfold CPow; decide) | (unfold CMul; omega) | (simp only [List.length_cons, List.length_nil]; omega) | (simp only [Option.isSome_some]; done) | (simp only [meth_ref, put_same', seqL_ref, k.hM.hm, k.hM.ha]; first | done | exact ⟨rfl, rfl⟩ | exact ⟨trivial, rfl⟩ | rfl)) ?_) | (simp (decide := true) only [put_same', put_put, decF, decT, Bool.not_true, Bool.not_false, putL_nil, putL_cons, if_true, if_false, seqR_ref, seqL_ref, lenL_ref, dicK_ref, dicT_ref, dat_ref, dat_non, dat_bl, dat_int, dat_str, dat_lst, dat_tup, datV_non, datV_bl, datV_int, datV_str, datV_lst, datV_tup, datVs_nil, datVs_cons, tyAt_ref, opt_some, Option.map_some, Option.bind_some, dv_ints, dv_bls, dv_nms, dv_prs, dv_nm, dt_nm, dt_pr, dv_pr, sh_int, sh_bl, sh_none, sh_nil, eqv_nil, sh_ints, sh_bls, sh_nm, sh_nms, sh_pr, sh_prs, anyI, anyN, anyP, eqv_int, eqv_bl, eqv_ints, eqv_bls, eqv_nms, eqv_prs, eqv_nm, eqv_pr, k.hM.hm, k.hM.ha])); conv => whnf))
    have el : ((List.map LV.int M.states).length : Int) - 1 = t.here := by rw [List.length_map, hg.len]; omega
    have h0 : (0 : Int) ≤ t.here := by unfold Th.here; omega
    rw [el]
    ((conv => whnf); repeat ((first | with_reducible refine ifTT ?_ | with_reducible refine ifFF ?_ | with_reducible refine ifnT ?_ | with_reducible refine ifnF ?_ | with_reducible refine ifTr ?_ | with_reducible refine ifFr ?_ | refine And.intro (by first | with_reducible rfl | with_reducible exact ⟨rfl, rfl⟩ | decide | omega | (dsimp only; decide) | (dsimp only; omega) | (unfold CDiv; omega) | (unfold CPow; decide) | (unfold CMul; omega) | (simp only [List.length_cons, List.length_nil]; omega)) ?_); conv => whnf))
    refine ifD (fun hw => ?_) (fun hw => ?_)
    · ((conv => whnf); repeat ((first | with_reducible refine ifTT ?_ | with_reducible refine ifFF ?_ | with_reducible refine ifnT ?_ | with_reducible refine ifnF ?_ | with_reducible refine ifTr ?_ | with_reducible refine ifFr ?_ | (refine And.intro (by first | with_reducible rfl | with_reducible exact ⟨rfl, rfl⟩ | decide | omega | (dsimp only; decide) | (dsimp only; omega) | (unfold CDiv; omega) | (unfold CPow; decide) | (unfold CMul; omega) | (simp only [List.length_cons, List.length_nil]; omega) | (simp only [Option.isSome_some]; done) | (simp only [meth_ref, put_same', seqL_ref, k.ht.hx, thF]; first | done | exact ⟨rfl, rfl⟩ | exact ⟨trivial, rfl⟩ | rfl)) ?_) | (simp (decide := true) only [put_same', put_put, decF, decT, Bool.not_true, Bool.not_false, putL_nil, putL_cons, if_true, if_false, seqR_ref, seqL_ref, lenL_ref, dicK_ref, dicT_ref, dat_ref, dat_non, dat_bl, dat_int, dat_str, dat_lst, dat_tup, datV_non, datV_bl, datV_int, datV_str, datV_lst, datV_tup, datVs_nil, datVs_cons, tyAt_ref, opt_some, Option.map_some, Option.bind_some, dv_ints, dv_bls, dv_nms, dv_prs, dv_nm, dt_nm, dt_pr, dv_pr, sh_int, sh_bl, sh_none, sh_nil, eqv_nil, sh_ints, sh_bls, sh_nm, sh_nms, sh_pr, sh_prs, anyI, anyN, anyP, eqv_int, eqv_bl, eqv_ints, eqv_bls, eqv_nms, eqv_prs, eqv_nm, eqv_pr, k.ht.hx, thF])); conv => whnf))
      refine ⟨x, t, d, w, rfl, k.ht, by have := hg.md.smallW; rw [← r.wr]; omega, fun s5 h5 o5 => ?_⟩
      have k5 := k.th o5 h5
      ((conv => whnf); repeat ((first | with_reducible refine ifTT ?_ | with_reducible refine ifFF ?_ | with_reducible refine ifnT ?_ | with_reducible refine ifnF ?_ | with_reducible refine ifTr ?_ | with_reducible refine ifFr ?_ | refine And.intro (by first | with_reducible rfl | with_reducible exact ⟨rfl, rfl⟩ | decide | omega | (dsimp only; decide) | (dsimp only; omega) | (unfold CDiv; omega) | (unfold CPow; decide) | (unfold CMul; omega) | (simp only [List.length_cons, List.length_nil]; omega)) ?_); conv => whnf))
      refine ⟨m, M, a, b, c, p, hb, rfl, k5.hM, hg.md, fun s6 p' h6 o6 => ?_⟩
      have k6 := k5.md o6 h6
      ((conv => whnf); repeat ((first | with_reducible refine ifTT ?_ | with_reducible refine ifFF ?_ | with_reducible refine ifnT ?_ | with_reducible refine ifnF ?_ | with_reducible refine ifTr ?_ | with_reducible refine ifFr ?_ | refine And.intro (by first | with_reducible rfl | with_reducible exact ⟨rfl, rfl⟩ | decide | omega | (dsimp only; decide) | (dsimp only; omega) | (unfold CDiv; omega) | (unfold CPow; decide) | (unfold CMul; omega) | (simp only [List.length_cons, List.length_nil]; omega)) ?_); conv => whnf))
      refine hN _ _ ⟨d, w, a, b, c, p', t.write, _, ⟨_, _, _, _, rfl⟩, k6, ?_, hh, Nat.le_succ_of_le hl⟩
      have := r.write
      rw [hh] at this
      exact this
    · ((conv => whnf); repeat ((first | with_reducible refine ifTT ?_ | with_reducible refine ifFF ?_ | with_reducible refine ifnT ?_ | with_reducible refine ifnF ?_ | with_reducible refine ifTr ?_ | with_reducible refine ifFr ?_ | refine And.intro (by first | with_reducible rfl | with_reducible exact ⟨rfl, rfl⟩ | decide | omega | (dsimp only; decide) | (dsimp only; omega) | (unfold CDiv; omega) | (unfold CPow; decide) | (unfold CMul; omega) | (simp only [List.length_cons, List.length_nil]; omega)) ?_); conv => whnf))
      refine ifD (fun hw => ?_) (fun hw => ?_)
      · ((conv => whnf); repeat ((first | with_reducible refine ifTT ?_ | with_reducible refine ifFF ?_ | with_reducible refine ifnT ?_ | with_reducible refine ifnF ?_ | with_reducible refine ifTr ?_ | with_reducible refine ifFr ?_ | refine And.intro (by first | with_reducible rfl | with_reducible exact ⟨rfl, rfl⟩ | decide | omega | (dsimp only; decide) | (dsimp only; omega) | (unfold CDiv; omega) | (unfold CPow; decide) | (unfold CMul; omega) | (simp only [List.length_cons, List.length_nil]; omega)) ?_); conv => whnf))
        refine ⟨s, x, d, w, m, a, b, c, p, t, M, _, rfl, k, r, hsm, fun s6 d' w' a' b' c' p' t' M' k6 r6 h6 l6 => ?_⟩
        ((conv => whnf); repeat ((first | with_reducible refine ifTT ?_ | with_reducible refine ifFF ?_ | with_reducible refine ifnT ?_ | with_reducible refine ifnF ?_ | with_reducible refine ifTr ?_ | with_reducible refine ifFr ?_ | refine And.intro (by first | with_reducible rfl | with_reducible exact ⟨rfl, rfl⟩ | decide | omega | (dsimp only; decide) | (dsimp only; omega) | (unfold CDiv; omega) | (unfold CPow; decide) | (unfold CMul; omega) | (simp only [List.length_cons, List.length_nil]; omega)) ?_); conv => whnf))
        exact hN _ _ ⟨d', w', a', b', c', p', t', M', ⟨_, _, _, _, rfl⟩, k6, r6, h6.trans hh, by omega⟩
      · ((conv => whnf); repeat ((first | with_reducible refine ifTT ?_ | with_reducible refine ifFF ?_ | with_reducible refine ifnT ?_ | with_reducible refine ifnF ?_ | with_reducible refine ifTr ?_ | with_reducible refine ifFr ?_ | refine And.intro (by first | with_reducible rfl | with_reducible exact ⟨rfl, rfl⟩ | decide | omega | (dsimp only; decide) | (dsimp only; omega) | (unfold CDiv; omega) | (unfold CPow; decide) | (unfold CMul; omega) | (simp only [List.length_cons, List.length_nil]; omega)) ?_); conv => whnf))
        refine ifD (fun hw => ?_) (fun hw => ?_)
        · have hpos : (0 : Int) < t.here + 1 := by omega
          ((conv => whnf); repeat ((first | with_reducible refine ifTT ?_ | with_reducible refine ifFF ?_ | with_reducible refine ifnT ?_ | with_reducible refine ifnF ?_ | with_reducible refine ifTr ?_ | with_reducible refine ifFr ?_ | refine And.intro (by first | with_reducible rfl | with_reducible exact ⟨rfl, rfl⟩ | decide | omega | (dsimp only; decide) | (dsimp only; omega) | (unfold CDiv; omega) | (unfold CPow; decide) | (unfold CMul; omega) | (simp only [List.length_cons, List.length_nil]; omega)) ?_); conv => whnf))
          refine ⟨s, x, d, w, m, a, b, c, p, t, M, _, rfl, k, r, hsm, fun s6 d' w' a' b' c' p' t' M' k6 r6 h6 l6 => ?_⟩
          ((conv => whnf); repeat ((first | with_reducible refine ifTT ?_ | with_reducible refine ifFF ?_ | with_reducible refine ifnT ?_ | with_reducible refine ifnF ?_ | with_reducible refine ifTr ?_ | with_reducible refine ifFr ?_ | refine And.intro (by first | with_reducible rfl | with_reducible exact ⟨rfl, rfl⟩ | decide | omega | (dsimp only; decide) | (dsimp only; omega) | (unfold CDiv; omega) | (unfold CPow; decide) | (unfold CMul; omega) | (simp only [List.length_cons, List.length_nil]; omega)) ?_); conv => whnf))
          exact hN _ _ ⟨d', w', a', b', c', p', t', M', ⟨_, _, _, _, rfl⟩, k6, r6, h6.trans hh, by omega⟩
        · ((conv => whnf); repeat ((first | with_reducible refine ifTT ?_ | with_reducible refine ifFF ?_ | with_reducible refine ifnT ?_ | with_reducible refine ifnF ?_ | with_reducible refine ifTr ?_ | with_reducible refine ifFr ?_ | refine And.intro (by first | with_reducible rfl | with_reducible exact ⟨rfl, rfl⟩ | decide | omega | (dsimp only; decide) | (dsimp only; omega) | (unfold CDiv; omega) | (unfold CPow; decide) | (unfold CMul; omega) | (simp only [List.length_cons, List.length_nil]; omega)) ?_); conv => whnf))
          refine ⟨ns, 3 + i % 8, congrArg (fun z => [LV.scr ns, LV.int z]) (by omega), ?_⟩
          ((conv => whnf); repeat ((first | with_reducible refine ifTT ?_ | with_reducible refine ifFF ?_ | with_reducible refine ifnT ?_ | with_reducible refine ifnF ?_ | with_reducible refine ifTr ?_ | with_reducible refine ifFr ?_ | refine And.intro (by first | with_reducible rfl | with_reducible exact ⟨rfl, rfl⟩ | decide | omega | (dsimp only; decide) | (dsimp only; omega) | (unfold CDiv; omega) | (unfold CPow; decide) | (unfold CMul; omega) | (simp only [List.length_cons, List.length_nil]; omega)) ?_); conv => whnf))
          refine ⟨_, i / 8, congrArg (fun z => [LV.int (cellAt ns (3 + i % 8)), LV.int z]) (by omega), ?_⟩
          generalize evOf (cellAt ns (3 + i % 8)) (i / 8) = ev
          ((conv => whnf); repeat ((first | with_reducible refine ifTT ?_ | with_reducible refine ifFF ?_ | with_reducible refine ifnT ?_ | with_reducible refine ifnF ?_ | with_reducible refine ifTr ?_ | with_reducible refine ifFr ?_ | (refine And.intro (by first | with_reducible rfl | with_reducible exact ⟨rfl, rfl⟩ | decide | omega | (dsimp only; decide) | (dsimp only; omega) | (unfold CDiv; omega) | (unfold CPow; decide) | (unfold CMul; omega) | (simp only [List.length_cons, List.length_nil]; omega) | (simp only [Option.isSome_some]; done) | (simp only [meth_ref, put_same', seqL_ref, k.ht.hx, thF]; first | done | exact ⟨rfl, rfl⟩ | exact ⟨trivial, rfl⟩ | rfl)) ?_) | (simp (decide := true) only [put_same', put_put, decF, decT, Bool.not_true, Bool.not_false, putL_nil, putL_cons, if_true, if_false, seqR_ref, seqL_ref, lenL_ref, dicK_ref, dicT_ref, dat_ref, dat_non, dat_bl, dat_int, dat_str, dat_lst, dat_tup, datV_non, datV_bl, datV_int, datV_str, datV_lst, datV_tup, datVs_nil, datVs_cons, tyAt_ref, opt_some, Option.map_some, Option.bind_some, dv_ints, dv_bls, dv_nms, dv_prs, dv_nm, dt_nm, dt_pr, dv_pr, sh_int, sh_bl, sh_none, sh_nil, eqv_nil, sh_ints, sh_bls, sh_nm, sh_nms, sh_pr, sh_prs, anyI, anyN, anyP, eqv_int, eqv_bl, eqv_ints, eqv_bls, eqv_nms, eqv_prs, eqv_nm, eqv_pr, k.ht.hx, thF])); conv => whnf))
          intro ye hye
          refine ⟨ye, ev, .lst (ev.sent.map pairL), .lst (ev.said.map .int), rfl, rfl, rfl, put_same, rfl, _, put_put, ?_⟩
          ((conv => whnf); repeat ((first | with_reducible refine ifTT ?_ | with_reducible refine ifFF ?_ | with_reducible refine ifnT ?_ | with_reducible refine ifnF ?_ | with_reducible refine ifTr ?_ | with_reducible refine ifFr ?_ | (refine And.intro (by first | with_reducible rfl | with_reducible exact ⟨rfl, rfl⟩ | decide | omega | (dsimp only; decide) | (dsimp only; omega) | (unfold CDiv; omega) | (unfold CPow; decide) | (unfold CMul; omega) | (simp only [List.length_cons, List.length_nil]; omega) | (simp only [Option.isSome_some]; done) | (simp only [meth_ref, put_same', seqL_ref, k.ht.hx, thF]; first | done | exact ⟨rfl, rfl⟩ | exact ⟨trivial, rfl⟩ | rfl)) ?_) | (simp (decide := true) only [put_same', put_put, decF, decT, Bool.not_true, Bool.not_false, putL_nil, putL_cons, if_true, if_false, seqR_ref, seqL_ref, lenL_ref, dicK_ref, dicT_ref, dat_ref, dat_non, dat_bl, dat_int, dat_str, dat_lst, dat_tup, datV_non, datV_bl, datV_int, datV_str, datV_lst, datV_tup, datVs_nil, datVs_cons, tyAt_ref, opt_some, Option.map_some, Option.bind_some, dv_ints, dv_bls, dv_nms, dv_prs, dv_nm, dt_nm, dt_pr, dv_pr, sh_int, sh_bl, sh_none, sh_nil, eqv_nil, sh_ints, sh_bls, sh_nm, sh_nms, sh_pr, sh_prs, anyI, anyN, anyP, eqv_int, eqv_bl, eqv_ints, eqv_bls, eqv_nms, eqv_prs, eqv_nm, eqv_pr, k.ht.hx, thF])); conv => whnf))
          refine ⟨x, t, d, w, ev, rfl, k.ht, by omega, fun s6 h6 o6 => ?_⟩
          have k3 := k.th o6 h6
          ((conv => whnf); repeat ((first | with_reducible refine ifTT ?_ | with_reducible refine ifFF ?_ | with_reducible refine ifnT ?_ | with_reducible refine ifnF ?_ | with_reducible refine ifTr ?_ | with_reducible refine ifFr ?_ | refine And.intro (by first | with_reducible rfl | with_reducible exact ⟨rfl, rfl⟩ | decide | omega | (dsimp only; decide) | (dsimp only; omega) | (unfold CDiv; omega) | (unfold CPow; decide) | (unfold CMul; omega) | (simp only [List.length_cons, List.length_nil]; omega)) ?_); conv => whnf))
          refine ⟨m, M, a, b, c, p, hb, _, rfl, k3.hM, hg.md, fun s8 p' h8 o8 => ?_⟩
          have k6 := k3.md o8 h8
          ((conv => whnf); repeat ((first | with_reducible refine ifTT ?_ | with_reducible refine ifFF ?_ | with_reducible refine ifnT ?_ | with_reducible refine ifnF ?_ | with_reducible refine ifTr ?_ | with_reducible refine ifFr ?_ | refine And.intro (by first | with_reducible rfl | with_reducible exact ⟨rfl, rfl⟩ | decide | omega | (dsimp only; decide) | (dsimp only; omega) | (unfold CDiv; omega) | (unfold CPow; decide) | (unfold CMul; omega) | (simp only [List.length_cons, List.length_nil]; omega)) ?_); conv => whnf))
          refine hN _ _ ⟨d, w, a, b, c, p', t.do ev, _, ⟨_, _, _, _, rfl⟩, k6, ?_, hh, ?_⟩
          · have := r.do ev
            rw [hh] at this
            exact this
          · show (t.done ++ [ev]).length ≤ i + 1
            simp; omega
  · rintro σ s4 ⟨d, w, a, b, c, p, t, M, ⟨v6, v7, v8, v9, rfl⟩, k, r, hh, hl⟩
    have hg := r.good (by omega)
    ((conv => whnf); repeat ((first | with_reducible refine ifTT ?_ | with_reducible refine ifFF ?_ | with_reducible refine ifnT ?_ | with_reducible refine ifnF ?_ | with_reducible refine ifTr ?_ | with_reducible refine ifFr ?_ | refine And.intro (by first | with_reducible rfl | with_reducible exact ⟨rfl, rfl⟩ | decide | omega | (dsimp only; decide) | (dsimp only; omega) | (unfold CDiv; omega) | (unfold CPow; decide) | (unfold CMul; omega) | (simp only [List.length_cons, List.length_nil]; omega)) ?_); conv => whnf))
    refine ⟨x, t, d, w, m, M, a, b, c, p, rfl, k.ht, k.hM, hg, ?_⟩
    ((conv => whnf); repeat ((first | with_reducible refine ifTT ?_ | with_reducible refine ifFF ?_ | with_reducible refine ifnT ?_ | with_reducible refine ifnF ?_ | with_reducible refine ifTr ?_ | with_reducible refine ifFr ?_ | refine And.intro (by first | with_reducible rfl | with_reducible exact ⟨rfl, rfl⟩ | decide | omega | (dsimp only; decide) | (dsimp only; omega) | (unfold CDiv; omega) | (unfold CPow; decide) | (unfold CMul; omega) | (simp only [List.length_cons, List.length_nil]; omega)) ?_); conv => whnf))
    exact fin k.ext.sub h
end

theorem all_mk {P : Program} {w : World} {K : PySem.W.Frag} {h : Heap} {mg : Str → Option Value} {fa : Addr} (X : K.In h) (G : h.Ns mainGlobals mg) (hfa : mg "law" = some (.ref fa))
    {c_Event c_Thread c_Habit c_Never c_Each c_Bundle c_WeaveError c_NoSize c_NoPoint c_NoHand c_NoLetter c_NoText f_Event_init f_Thread_init f_Thread_here f_Thread_events f_Thread_do f_Thread_write f_Thread_points f_Thread_state_at f_Thread_cut f_Thread_throw_ahead f_Habit_writes_events f_Habit_piled_up f_Each_writes_events f_Each_piled_up f_Bundle_init f_Bundle_writes_events f_Bundle_piled_up f_law_cell_at f_law_mixed f_law_habit f_law_made f_law_begun f_law_done f_law_down f_law_wrote f_law_points f_law_event f_law_whole f_law_refused f_law_states_right f_law_right f_law_cut f_law_told f_law_cut_right f_law_thrown f_law : Addr}
    {oV_Event_init kV_Event_init dV_Event_init pV_Event_init cV_Event_init tV_Event_init : Value}
    {oA_Event_init aA_Event_init : Option Addr}
    {sl_Event_init : Array (Option Value)}
    {oV_Thread_init kV_Thread_init dV_Thread_init pV_Thread_init cV_Thread_init tV_Thread_init : Value}
    {oA_Thread_init aA_Thread_init : Option Addr}
    {sl_Thread_init : Array (Option Value)}
    {oV_Thread_here kV_Thread_here dV_Thread_here pV_Thread_here cV_Thread_here tV_Thread_here : Value}
    {oA_Thread_here aA_Thread_here : Option Addr}
    {sl_Thread_here : Array (Option Value)}
    {oV_Thread_events kV_Thread_events dV_Thread_events pV_Thread_events cV_Thread_events tV_Thread_events : Value}
    {oA_Thread_events aA_Thread_events : Option Addr}
    {sl_Thread_events : Array (Option Value)}
    {oV_Thread_do kV_Thread_do dV_Thread_do pV_Thread_do cV_Thread_do tV_Thread_do : Value}
    {oA_Thread_do aA_Thread_do : Option Addr}
    {sl_Thread_do : Array (Option Value)}
    {oV_Thread_write kV_Thread_write dV_Thread_write pV_Thread_write cV_Thread_write tV_Thread_write : Value}
    {oA_Thread_write aA_Thread_write : Option Addr}
    {sl_Thread_write : Array (Option Value)}
    {oV_Thread_points kV_Thread_points dV_Thread_points pV_Thread_points cV_Thread_points tV_Thread_points : Value}
    {oA_Thread_points aA_Thread_points : Option Addr}
    {sl_Thread_points : Array (Option Value)}
    {oV_Thread_state_at kV_Thread_state_at dV_Thread_state_at pV_Thread_state_at cV_Thread_state_at tV_Thread_state_at : Value}
    {oA_Thread_state_at aA_Thread_state_at : Option Addr}
    {sl_Thread_state_at : Array (Option Value)}
    {oV_Thread_cut kV_Thread_cut dV_Thread_cut pV_Thread_cut cV_Thread_cut tV_Thread_cut : Value}
    {oA_Thread_cut aA_Thread_cut : Option Addr}
    {sl_Thread_cut : Array (Option Value)}
    {oV_Thread_throw_ahead kV_Thread_throw_ahead dV_Thread_throw_ahead pV_Thread_throw_ahead cV_Thread_throw_ahead tV_Thread_throw_ahead : Value}
    {oA_Thread_throw_ahead aA_Thread_throw_ahead : Option Addr}
    {sl_Thread_throw_ahead : Array (Option Value)}
    {oV_Habit_writes_events kV_Habit_writes_events dV_Habit_writes_events pV_Habit_writes_events cV_Habit_writes_events tV_Habit_writes_events : Value}
    {oA_Habit_writes_events aA_Habit_writes_events : Option Addr}
    {sl_Habit_writes_events : Array (Option Value)}
    {oV_Habit_piled_up kV_Habit_piled_up dV_Habit_piled_up pV_Habit_piled_up cV_Habit_piled_up tV_Habit_piled_up : Value}
    {oA_Habit_piled_up aA_Habit_piled_up : Option Addr}
    {sl_Habit_piled_up : Array (Option Value)}
    {oV_Each_writes_events kV_Each_writes_events dV_Each_writes_events pV_Each_writes_events cV_Each_writes_events tV_Each_writes_events : Value}
    {oA_Each_writes_events aA_Each_writes_events : Option Addr}
    {sl_Each_writes_events : Array (Option Value)}
    {oV_Each_piled_up kV_Each_piled_up dV_Each_piled_up pV_Each_piled_up cV_Each_piled_up tV_Each_piled_up : Value}
    {oA_Each_piled_up aA_Each_piled_up : Option Addr}
    {sl_Each_piled_up : Array (Option Value)}
    {oV_Bundle_init kV_Bundle_init dV_Bundle_init pV_Bundle_init cV_Bundle_init tV_Bundle_init : Value}
    {oA_Bundle_init aA_Bundle_init : Option Addr}
    {sl_Bundle_init : Array (Option Value)}
    {oV_Bundle_writes_events kV_Bundle_writes_events dV_Bundle_writes_events pV_Bundle_writes_events cV_Bundle_writes_events tV_Bundle_writes_events : Value}
    {oA_Bundle_writes_events aA_Bundle_writes_events : Option Addr}
    {sl_Bundle_writes_events : Array (Option Value)}
    {oV_Bundle_piled_up kV_Bundle_piled_up dV_Bundle_piled_up pV_Bundle_piled_up cV_Bundle_piled_up tV_Bundle_piled_up : Value}
    {oA_Bundle_piled_up aA_Bundle_piled_up : Option Addr}
    {sl_Bundle_piled_up : Array (Option Value)}
    {oV_law_cell_at kV_law_cell_at dV_law_cell_at pV_law_cell_at cV_law_cell_at tV_law_cell_at : Value}
    {oA_law_cell_at aA_law_cell_at : Option Addr}
    {sl_law_cell_at : Array (Option Value)}
    {oV_law_mixed kV_law_mixed dV_law_mixed pV_law_mixed cV_law_mixed tV_law_mixed : Value}
    {oA_law_mixed aA_law_mixed : Option Addr}
    {sl_law_mixed : Array (Option Value)}
    {oV_law_habit kV_law_habit dV_law_habit pV_law_habit cV_law_habit tV_law_habit : Value}
    {oA_law_habit aA_law_habit : Option Addr}
    {sl_law_habit : Array (Option Value)}
    {oV_law_made kV_law_made dV_law_made pV_law_made cV_law_made tV_law_made : Value}
    {oA_law_made aA_law_made : Option Addr}
    {sl_law_made : Array (Option Value)}
    {oV_law_begun kV_law_begun dV_law_begun pV_law_begun cV_law_begun tV_law_begun : Value}
    {oA_law_begun aA_law_begun : Option Addr}
    {sl_law_begun : Array (Option Value)}
    {oV_law_done kV_law_done dV_law_done pV_law_done cV_law_done tV_law_done : Value}
    {oA_law_done aA_law_done : Option Addr}
    {sl_law_done : Array (Option Value)}
    {oV_law_down kV_law_down dV_law_down pV_law_down cV_law_down tV_law_down : Value}
    {oA_law_down aA_law_down : Option Addr}
    {sl_law_down : Array (Option Value)}
    {oV_law_wrote kV_law_wrote dV_law_wrote pV_law_wrote cV_law_wrote tV_law_wrote : Value}
    {oA_law_wrote aA_law_wrote : Option Addr}
    {sl_law_wrote : Array (Option Value)}
    {oV_law_points kV_law_points dV_law_points pV_law_points cV_law_points tV_law_points : Value}
    {oA_law_points aA_law_points : Option Addr}
    {sl_law_points : Array (Option Value)}
    {oV_law_event kV_law_event dV_law_event pV_law_event cV_law_event tV_law_event : Value}
    {oA_law_event aA_law_event : Option Addr}
    {sl_law_event : Array (Option Value)}
    {oV_law_whole kV_law_whole dV_law_whole pV_law_whole cV_law_whole tV_law_whole : Value}
    {oA_law_whole aA_law_whole : Option Addr}
    {sl_law_whole : Array (Option Value)}
    {oV_law_refused kV_law_refused dV_law_refused pV_law_refused cV_law_refused tV_law_refused : Value}
    {oA_law_refused aA_law_refused : Option Addr}
    {sl_law_refused : Array (Option Value)}
    {oV_law_states_right kV_law_states_right dV_law_states_right pV_law_states_right cV_law_states_right tV_law_states_right : Value}
    {oA_law_states_right aA_law_states_right : Option Addr}
    {sl_law_states_right : Array (Option Value)}
    {oV_law_right kV_law_right dV_law_right pV_law_right cV_law_right tV_law_right : Value}
    {oA_law_right aA_law_right : Option Addr}
    {sl_law_right : Array (Option Value)}
    {oV_law_cut kV_law_cut dV_law_cut pV_law_cut cV_law_cut tV_law_cut : Value}
    {oA_law_cut aA_law_cut : Option Addr}
    {sl_law_cut : Array (Option Value)}
    {oV_law_told kV_law_told dV_law_told pV_law_told cV_law_told tV_law_told : Value}
    {oA_law_told aA_law_told : Option Addr}
    {sl_law_told : Array (Option Value)}
    {oV_law_cut_right kV_law_cut_right dV_law_cut_right pV_law_cut_right cV_law_cut_right tV_law_cut_right : Value}
    {oA_law_cut_right aA_law_cut_right : Option Addr}
    {sl_law_cut_right : Array (Option Value)}
    {oV_law_thrown kV_law_thrown dV_law_thrown pV_law_thrown cV_law_thrown tV_law_thrown : Value}
    {oA_law_thrown aA_law_thrown : Option Addr}
    {sl_law_thrown : Array (Option Value)}
    {oV_law kV_law dV_law pV_law cV_law tV_law : Value}
    {oA_law aA_law : Option Addr}
    {sl_law : Array (Option Value)}
    (a_WeaveError : PySem.W.nsIn K mainGlobals "WeaveError" = some (some (.ref c_WeaveError)))
    (a_NoSize : PySem.W.nsIn K mainGlobals "NoSize" = some (some (.ref c_NoSize)))
    (a_NoPoint : PySem.W.nsIn K mainGlobals "NoPoint" = some (some (.ref c_NoPoint)))
    (a_NoHand : PySem.W.nsIn K mainGlobals "NoHand" = some (some (.ref c_NoHand)))
    (a_NoLetter : PySem.W.nsIn K mainGlobals "NoLetter" = some (some (.ref c_NoLetter)))
    (a_NoText : PySem.W.nsIn K mainGlobals "NoText" = some (some (.ref c_NoText)))
    (a_Event : PySem.W.nsIn K mainGlobals "Event" = some (some (.ref c_Event)))
    (a_Thread : PySem.W.nsIn K mainGlobals "Thread" = some (some (.ref c_Thread)))
    (a_Habit : PySem.W.nsIn K mainGlobals "Habit" = some (some (.ref c_Habit)))
    (a_Never : PySem.W.nsIn K mainGlobals "Never" = some (some (.ref c_Never)))
    (a_Each : PySem.W.nsIn K mainGlobals "Each" = some (some (.ref c_Each)))
    (a_Bundle : PySem.W.nsIn K mainGlobals "Bundle" = some (some (.ref c_Bundle)))
    (a_law : PySem.W.nsIn K mainGlobals "law" = some (some (.ref f_law)))
    (a_law_thrown : PySem.W.nsIn K mainGlobals "_law_thrown" = some (some (.ref f_law_thrown)))
    (a_law_cut_right : PySem.W.nsIn K mainGlobals "_law_cut_right" = some (some (.ref f_law_cut_right)))
    (a_law_told : PySem.W.nsIn K mainGlobals "_law_told" = some (some (.ref f_law_told)))
    (a_law_cut : PySem.W.nsIn K mainGlobals "_law_cut" = some (some (.ref f_law_cut)))
    (a_law_right : PySem.W.nsIn K mainGlobals "_law_right" = some (some (.ref f_law_right)))
    (a_law_states_right : PySem.W.nsIn K mainGlobals "_law_states_right" = some (some (.ref f_law_states_right)))
    (a_law_refused : PySem.W.nsIn K mainGlobals "_law_refused" = some (some (.ref f_law_refused)))
    (a_law_whole : PySem.W.nsIn K mainGlobals "_law_whole" = some (some (.ref f_law_whole)))
    (a_law_event : PySem.W.nsIn K mainGlobals "_law_event" = some (some (.ref f_law_event)))
    (a_law_points : PySem.W.nsIn K mainGlobals "_law_points" = some (some (.ref f_law_points)))
    (a_law_wrote : PySem.W.nsIn K mainGlobals "_law_wrote" = some (some (.ref f_law_wrote)))
    (a_law_down : PySem.W.nsIn K mainGlobals "_law_down" = some (some (.ref f_law_down)))
    (a_law_done : PySem.W.nsIn K mainGlobals "_law_done" = some (some (.ref f_law_done)))
    (a_law_begun : PySem.W.nsIn K mainGlobals "_law_begun" = some (some (.ref f_law_begun)))
    (a_law_made : PySem.W.nsIn K mainGlobals "_law_made" = some (some (.ref f_law_made)))
    (a_law_habit : PySem.W.nsIn K mainGlobals "_law_habit" = some (some (.ref f_law_habit)))
    (a_law_mixed : PySem.W.nsIn K mainGlobals "_law_mixed" = some (some (.ref f_law_mixed)))
    (a_law_cell_at : PySem.W.nsIn K mainGlobals "_law_cell_at" = some (some (.ref f_law_cell_at)))
    (a_Bundle_piled_up : PySem.W.findIn K (.ref c_Bundle) "piled_up" = some (some (.ref f_Bundle_piled_up)))
    (a_Bundle_writes_events : PySem.W.findIn K (.ref c_Bundle) "writes_events" = some (some (.ref f_Bundle_writes_events)))
    (a_Bundle_init : PySem.W.findIn K (.ref c_Bundle) "__init__" = some (some (.ref f_Bundle_init)))
    (a_Each_piled_up : PySem.W.findIn K (.ref c_Each) "piled_up" = some (some (.ref f_Each_piled_up)))
    (a_Each_writes_events : PySem.W.findIn K (.ref c_Each) "writes_events" = some (some (.ref f_Each_writes_events)))
    (a_Habit_piled_up : PySem.W.findIn K (.ref c_Habit) "piled_up" = some (some (.ref f_Habit_piled_up)))
    (a_Habit_writes_events : PySem.W.findIn K (.ref c_Habit) "writes_events" = some (some (.ref f_Habit_writes_events)))
    (a_Thread_throw_ahead : PySem.W.findIn K (.ref c_Thread) "throw_ahead" = some (some (.ref f_Thread_throw_ahead)))
    (a_Thread_cut : PySem.W.findIn K (.ref c_Thread) "cut" = some (some (.ref f_Thread_cut)))
    (a_Thread_state_at : PySem.W.findIn K (.ref c_Thread) "state_at" = some (some (.ref f_Thread_state_at)))
    (a_Thread_points : PySem.W.findIn K (.ref c_Thread) "points" = some (some (.ref f_Thread_points)))
    (a_Thread_write : PySem.W.findIn K (.ref c_Thread) "write" = some (some (.ref f_Thread_write)))
    (a_Thread_do : PySem.W.findIn K (.ref c_Thread) "do" = some (some (.ref f_Thread_do)))
    (a_Thread_events : PySem.W.findIn K (.ref c_Thread) "events" = some (some (.ref f_Thread_events)))
    (a_Thread_here : PySem.W.findIn K (.ref c_Thread) "here" = some (some (.ref f_Thread_here)))
    (a_Thread_init : PySem.W.findIn K (.ref c_Thread) "__init__" = some (some (.ref f_Thread_init)))
    (a_Event_init : PySem.W.findIn K (.ref c_Event) "__init__" = some (some (.ref f_Event_init)))
    (l_Event_init : K.lookup f_Event_init = some ⟨oV_Event_init, oA_Event_init, .func (PySem.W.fnOf "__init__" "Event.__init__" (defArgs s_Event_init) (defBody s_Event_init) (defScope s_Event_init) .none kV_Event_init dV_Event_init pV_Event_init aA_Event_init cV_Event_init tV_Event_init), sl_Event_init⟩)
    (c_Event_init : PySem.W.codeIn K cV_Event_init "Event.__init__" = true)
    (k_Event_init : PySem.W.keepIn K (.ref f_Event_init) = true)
    (i_Event_init : PySem.W.isFn K (.ref f_Event_init) = true)
    (l_Thread_init : K.lookup f_Thread_init = some ⟨oV_Thread_init, oA_Thread_init, .func (PySem.W.fnOf "__init__" "Thread.__init__" (defArgs s_Thread_init) (defBody s_Thread_init) (defScope s_Thread_init) .none kV_Thread_init dV_Thread_init pV_Thread_init aA_Thread_init cV_Thread_init tV_Thread_init), sl_Thread_init⟩)
    (c_Thread_init : PySem.W.codeIn K cV_Thread_init "Thread.__init__" = true)
    (k_Thread_init : PySem.W.keepIn K (.ref f_Thread_init) = true)
    (i_Thread_init : PySem.W.isFn K (.ref f_Thread_init) = true)
    (l_Thread_here : K.lookup f_Thread_here = some ⟨oV_Thread_here, oA_Thread_here, .func (PySem.W.fnOf "here" "Thread.here" (defArgs s_Thread_here) (defBody s_Thread_here) (defScope s_Thread_here) .none kV_Thread_here dV_Thread_here pV_Thread_here aA_Thread_here cV_Thread_here tV_Thread_here), sl_Thread_here⟩)
    (c_Thread_here : PySem.W.codeIn K cV_Thread_here "Thread.here" = true)
    (k_Thread_here : PySem.W.keepIn K (.ref f_Thread_here) = true)
    (i_Thread_here : PySem.W.isFn K (.ref f_Thread_here) = true)
    (l_Thread_events : K.lookup f_Thread_events = some ⟨oV_Thread_events, oA_Thread_events, .func (PySem.W.fnOf "events" "Thread.events" (defArgs s_Thread_events) (defBody s_Thread_events) (defScope s_Thread_events) .none kV_Thread_events dV_Thread_events pV_Thread_events aA_Thread_events cV_Thread_events tV_Thread_events), sl_Thread_events⟩)
    (c_Thread_events : PySem.W.codeIn K cV_Thread_events "Thread.events" = true)
    (k_Thread_events : PySem.W.keepIn K (.ref f_Thread_events) = true)
    (i_Thread_events : PySem.W.isFn K (.ref f_Thread_events) = true)
    (l_Thread_do : K.lookup f_Thread_do = some ⟨oV_Thread_do, oA_Thread_do, .func (PySem.W.fnOf "do" "Thread.do" (defArgs s_Thread_do) (defBody s_Thread_do) (defScope s_Thread_do) .none kV_Thread_do dV_Thread_do pV_Thread_do aA_Thread_do cV_Thread_do tV_Thread_do), sl_Thread_do⟩)
    (c_Thread_do : PySem.W.codeIn K cV_Thread_do "Thread.do" = true)
    (k_Thread_do : PySem.W.keepIn K (.ref f_Thread_do) = true)
    (i_Thread_do : PySem.W.isFn K (.ref f_Thread_do) = true)
    (l_Thread_write : K.lookup f_Thread_write = some ⟨oV_Thread_write, oA_Thread_write, .func (PySem.W.fnOf "write" "Thread.write" (defArgs s_Thread_write) (defBody s_Thread_write) (defScope s_Thread_write) .none kV_Thread_write dV_Thread_write pV_Thread_write aA_Thread_write cV_Thread_write tV_Thread_write), sl_Thread_write⟩)
    (c_Thread_write : PySem.W.codeIn K cV_Thread_write "Thread.write" = true)
    (k_Thread_write : PySem.W.keepIn K (.ref f_Thread_write) = true)
    (i_Thread_write : PySem.W.isFn K (.ref f_Thread_write) = true)
    (l_Thread_points : K.lookup f_Thread_points = some ⟨oV_Thread_points, oA_Thread_points, .func (PySem.W.fnOf "points" "Thread.points" (defArgs s_Thread_points) (defBody s_Thread_points) (defScope s_Thread_points) .none kV_Thread_points dV_Thread_points pV_Thread_points aA_Thread_points cV_Thread_points tV_Thread_points), sl_Thread_points⟩)
    (c_Thread_points : PySem.W.codeIn K cV_Thread_points "Thread.points" = true)
    (k_Thread_points : PySem.W.keepIn K (.ref f_Thread_points) = true)
    (i_Thread_points : PySem.W.isFn K (.ref f_Thread_points) = true)
    (l_Thread_state_at : K.lookup f_Thread_state_at = some ⟨oV_Thread_state_at, oA_Thread_state_at, .func (PySem.W.fnOf "state_at" "Thread.state_at" (defArgs s_Thread_state_at) (defBody s_Thread_state_at) (defScope s_Thread_state_at) .none kV_Thread_state_at dV_Thread_state_at pV_Thread_state_at aA_Thread_state_at cV_Thread_state_at tV_Thread_state_at), sl_Thread_state_at⟩)
    (c_Thread_state_at : PySem.W.codeIn K cV_Thread_state_at "Thread.state_at" = true)
    (k_Thread_state_at : PySem.W.keepIn K (.ref f_Thread_state_at) = true)
    (i_Thread_state_at : PySem.W.isFn K (.ref f_Thread_state_at) = true)
    (l_Thread_cut : K.lookup f_Thread_cut = some ⟨oV_Thread_cut, oA_Thread_cut, .func (PySem.W.fnOf "cut" "Thread.cut" (defArgs s_Thread_cut) (defBody s_Thread_cut) (defScope s_Thread_cut) .none kV_Thread_cut dV_Thread_cut pV_Thread_cut aA_Thread_cut cV_Thread_cut tV_Thread_cut), sl_Thread_cut⟩)
    (c_Thread_cut : PySem.W.codeIn K cV_Thread_cut "Thread.cut" = true)
    (k_Thread_cut : PySem.W.keepIn K (.ref f_Thread_cut) = true)
    (i_Thread_cut : PySem.W.isFn K (.ref f_Thread_cut) = true)
    (l_Thread_throw_ahead : K.lookup f_Thread_throw_ahead = some ⟨oV_Thread_throw_ahead, oA_Thread_throw_ahead, .func (PySem.W.fnOf "throw_ahead" "Thread.throw_ahead" (defArgs s_Thread_throw_ahead) (defBody s_Thread_throw_ahead) (defScope s_Thread_throw_ahead) .none kV_Thread_throw_ahead dV_Thread_throw_ahead pV_Thread_throw_ahead aA_Thread_throw_ahead cV_Thread_throw_ahead tV_Thread_throw_ahead), sl_Thread_throw_ahead⟩)
    (c_Thread_throw_ahead : PySem.W.codeIn K cV_Thread_throw_ahead "Thread.throw_ahead" = true)
    (k_Thread_throw_ahead : PySem.W.keepIn K (.ref f_Thread_throw_ahead) = true)
    (i_Thread_throw_ahead : PySem.W.isFn K (.ref f_Thread_throw_ahead) = true)
    (l_Habit_writes_events : K.lookup f_Habit_writes_events = some ⟨oV_Habit_writes_events, oA_Habit_writes_events, .func (PySem.W.fnOf "writes_events" "Habit.writes_events" (defArgs s_Habit_writes_events) (defBody s_Habit_writes_events) (defScope s_Habit_writes_events) .none kV_Habit_writes_events dV_Habit_writes_events pV_Habit_writes_events aA_Habit_writes_events cV_Habit_writes_events tV_Habit_writes_events), sl_Habit_writes_events⟩)
    (c_Habit_writes_events : PySem.W.codeIn K cV_Habit_writes_events "Habit.writes_events" = true)
    (k_Habit_writes_events : PySem.W.keepIn K (.ref f_Habit_writes_events) = true)
    (i_Habit_writes_events : PySem.W.isFn K (.ref f_Habit_writes_events) = true)
    (l_Habit_piled_up : K.lookup f_Habit_piled_up = some ⟨oV_Habit_piled_up, oA_Habit_piled_up, .func (PySem.W.fnOf "piled_up" "Habit.piled_up" (defArgs s_Habit_piled_up) (defBody s_Habit_piled_up) (defScope s_Habit_piled_up) .none kV_Habit_piled_up dV_Habit_piled_up pV_Habit_piled_up aA_Habit_piled_up cV_Habit_piled_up tV_Habit_piled_up), sl_Habit_piled_up⟩)
    (c_Habit_piled_up : PySem.W.codeIn K cV_Habit_piled_up "Habit.piled_up" = true)
    (k_Habit_piled_up : PySem.W.keepIn K (.ref f_Habit_piled_up) = true)
    (i_Habit_piled_up : PySem.W.isFn K (.ref f_Habit_piled_up) = true)
    (l_Each_writes_events : K.lookup f_Each_writes_events = some ⟨oV_Each_writes_events, oA_Each_writes_events, .func (PySem.W.fnOf "writes_events" "Each.writes_events" (defArgs s_Each_writes_events) (defBody s_Each_writes_events) (defScope s_Each_writes_events) .none kV_Each_writes_events dV_Each_writes_events pV_Each_writes_events aA_Each_writes_events cV_Each_writes_events tV_Each_writes_events), sl_Each_writes_events⟩)
    (c_Each_writes_events : PySem.W.codeIn K cV_Each_writes_events "Each.writes_events" = true)
    (k_Each_writes_events : PySem.W.keepIn K (.ref f_Each_writes_events) = true)
    (i_Each_writes_events : PySem.W.isFn K (.ref f_Each_writes_events) = true)
    (l_Each_piled_up : K.lookup f_Each_piled_up = some ⟨oV_Each_piled_up, oA_Each_piled_up, .func (PySem.W.fnOf "piled_up" "Each.piled_up" (defArgs s_Each_piled_up) (defBody s_Each_piled_up) (defScope s_Each_piled_up) .none kV_Each_piled_up dV_Each_piled_up pV_Each_piled_up aA_Each_piled_up cV_Each_piled_up tV_Each_piled_up), sl_Each_piled_up⟩)
    (c_Each_piled_up : PySem.W.codeIn K cV_Each_piled_up "Each.piled_up" = true)
    (k_Each_piled_up : PySem.W.keepIn K (.ref f_Each_piled_up) = true)
    (i_Each_piled_up : PySem.W.isFn K (.ref f_Each_piled_up) = true)
    (l_Bundle_init : K.lookup f_Bundle_init = some ⟨oV_Bundle_init, oA_Bundle_init, .func (PySem.W.fnOf "__init__" "Bundle.__init__" (defArgs s_Bundle_init) (defBody s_Bundle_init) (defScope s_Bundle_init) .none kV_Bundle_init dV_Bundle_init pV_Bundle_init aA_Bundle_init cV_Bundle_init tV_Bundle_init), sl_Bundle_init⟩)
    (c_Bundle_init : PySem.W.codeIn K cV_Bundle_init "Bundle.__init__" = true)
    (k_Bundle_init : PySem.W.keepIn K (.ref f_Bundle_init) = true)
    (i_Bundle_init : PySem.W.isFn K (.ref f_Bundle_init) = true)
    (l_Bundle_writes_events : K.lookup f_Bundle_writes_events = some ⟨oV_Bundle_writes_events, oA_Bundle_writes_events, .func (PySem.W.fnOf "writes_events" "Bundle.writes_events" (defArgs s_Bundle_writes_events) (defBody s_Bundle_writes_events) (defScope s_Bundle_writes_events) .none kV_Bundle_writes_events dV_Bundle_writes_events pV_Bundle_writes_events aA_Bundle_writes_events cV_Bundle_writes_events tV_Bundle_writes_events), sl_Bundle_writes_events⟩)
    (c_Bundle_writes_events : PySem.W.codeIn K cV_Bundle_writes_events "Bundle.writes_events" = true)
    (k_Bundle_writes_events : PySem.W.keepIn K (.ref f_Bundle_writes_events) = true)
    (i_Bundle_writes_events : PySem.W.isFn K (.ref f_Bundle_writes_events) = true)
    (l_Bundle_piled_up : K.lookup f_Bundle_piled_up = some ⟨oV_Bundle_piled_up, oA_Bundle_piled_up, .func (PySem.W.fnOf "piled_up" "Bundle.piled_up" (defArgs s_Bundle_piled_up) (defBody s_Bundle_piled_up) (defScope s_Bundle_piled_up) .none kV_Bundle_piled_up dV_Bundle_piled_up pV_Bundle_piled_up aA_Bundle_piled_up cV_Bundle_piled_up tV_Bundle_piled_up), sl_Bundle_piled_up⟩)
    (c_Bundle_piled_up : PySem.W.codeIn K cV_Bundle_piled_up "Bundle.piled_up" = true)
    (k_Bundle_piled_up : PySem.W.keepIn K (.ref f_Bundle_piled_up) = true)
    (i_Bundle_piled_up : PySem.W.isFn K (.ref f_Bundle_piled_up) = true)
    (l_law_cell_at : K.lookup f_law_cell_at = some ⟨oV_law_cell_at, oA_law_cell_at, .func (PySem.W.fnOf "_law_cell_at" "_law_cell_at" (defArgs s_law_cell_at) (defBody s_law_cell_at) (defScope s_law_cell_at) .none kV_law_cell_at dV_law_cell_at pV_law_cell_at aA_law_cell_at cV_law_cell_at tV_law_cell_at), sl_law_cell_at⟩)
    (c_law_cell_at : PySem.W.codeIn K cV_law_cell_at "_law_cell_at" = true)
    (k_law_cell_at : PySem.W.keepIn K (.ref f_law_cell_at) = true)
    (l_law_mixed : K.lookup f_law_mixed = some ⟨oV_law_mixed, oA_law_mixed, .func (PySem.W.fnOf "_law_mixed" "_law_mixed" (defArgs s_law_mixed) (defBody s_law_mixed) (defScope s_law_mixed) .none kV_law_mixed dV_law_mixed pV_law_mixed aA_law_mixed cV_law_mixed tV_law_mixed), sl_law_mixed⟩)
    (c_law_mixed : PySem.W.codeIn K cV_law_mixed "_law_mixed" = true)
    (k_law_mixed : PySem.W.keepIn K (.ref f_law_mixed) = true)
    (l_law_habit : K.lookup f_law_habit = some ⟨oV_law_habit, oA_law_habit, .func (PySem.W.fnOf "_law_habit" "_law_habit" (defArgs s_law_habit) (defBody s_law_habit) (defScope s_law_habit) .none kV_law_habit dV_law_habit pV_law_habit aA_law_habit cV_law_habit tV_law_habit), sl_law_habit⟩)
    (c_law_habit : PySem.W.codeIn K cV_law_habit "_law_habit" = true)
    (k_law_habit : PySem.W.keepIn K (.ref f_law_habit) = true)
    (l_law_made : K.lookup f_law_made = some ⟨oV_law_made, oA_law_made, .func (PySem.W.fnOf "_law_made" "_law_made" (defArgs s_law_made) (defBody s_law_made) (defScope s_law_made) .none kV_law_made dV_law_made pV_law_made aA_law_made cV_law_made tV_law_made), sl_law_made⟩)
    (c_law_made : PySem.W.codeIn K cV_law_made "_law_made" = true)
    (k_law_made : PySem.W.keepIn K (.ref f_law_made) = true)
    (l_law_begun : K.lookup f_law_begun = some ⟨oV_law_begun, oA_law_begun, .func (PySem.W.fnOf "_law_begun" "_law_begun" (defArgs s_law_begun) (defBody s_law_begun) (defScope s_law_begun) .none kV_law_begun dV_law_begun pV_law_begun aA_law_begun cV_law_begun tV_law_begun), sl_law_begun⟩)
    (c_law_begun : PySem.W.codeIn K cV_law_begun "_law_begun" = true)
    (k_law_begun : PySem.W.keepIn K (.ref f_law_begun) = true)
    (l_law_done : K.lookup f_law_done = some ⟨oV_law_done, oA_law_done, .func (PySem.W.fnOf "_law_done" "_law_done" (defArgs s_law_done) (defBody s_law_done) (defScope s_law_done) .none kV_law_done dV_law_done pV_law_done aA_law_done cV_law_done tV_law_done), sl_law_done⟩)
    (c_law_done : PySem.W.codeIn K cV_law_done "_law_done" = true)
    (k_law_done : PySem.W.keepIn K (.ref f_law_done) = true)
    (l_law_down : K.lookup f_law_down = some ⟨oV_law_down, oA_law_down, .func (PySem.W.fnOf "_law_down" "_law_down" (defArgs s_law_down) (defBody s_law_down) (defScope s_law_down) .none kV_law_down dV_law_down pV_law_down aA_law_down cV_law_down tV_law_down), sl_law_down⟩)
    (c_law_down : PySem.W.codeIn K cV_law_down "_law_down" = true)
    (k_law_down : PySem.W.keepIn K (.ref f_law_down) = true)
    (l_law_wrote : K.lookup f_law_wrote = some ⟨oV_law_wrote, oA_law_wrote, .func (PySem.W.fnOf "_law_wrote" "_law_wrote" (defArgs s_law_wrote) (defBody s_law_wrote) (defScope s_law_wrote) .none kV_law_wrote dV_law_wrote pV_law_wrote aA_law_wrote cV_law_wrote tV_law_wrote), sl_law_wrote⟩)
    (c_law_wrote : PySem.W.codeIn K cV_law_wrote "_law_wrote" = true)
    (k_law_wrote : PySem.W.keepIn K (.ref f_law_wrote) = true)
    (l_law_points : K.lookup f_law_points = some ⟨oV_law_points, oA_law_points, .func (PySem.W.fnOf "_law_points" "_law_points" (defArgs s_law_points) (defBody s_law_points) (defScope s_law_points) .none kV_law_points dV_law_points pV_law_points aA_law_points cV_law_points tV_law_points), sl_law_points⟩)
    (c_law_points : PySem.W.codeIn K cV_law_points "_law_points" = true)
    (k_law_points : PySem.W.keepIn K (.ref f_law_points) = true)
    (l_law_event : K.lookup f_law_event = some ⟨oV_law_event, oA_law_event, .func (PySem.W.fnOf "_law_event" "_law_event" (defArgs s_law_event) (defBody s_law_event) (defScope s_law_event) .none kV_law_event dV_law_event pV_law_event aA_law_event cV_law_event tV_law_event), sl_law_event⟩)
    (c_law_event : PySem.W.codeIn K cV_law_event "_law_event" = true)
    (k_law_event : PySem.W.keepIn K (.ref f_law_event) = true)
    (l_law_whole : K.lookup f_law_whole = some ⟨oV_law_whole, oA_law_whole, .func (PySem.W.fnOf "_law_whole" "_law_whole" (defArgs s_law_whole) (defBody s_law_whole) (defScope s_law_whole) .none kV_law_whole dV_law_whole pV_law_whole aA_law_whole cV_law_whole tV_law_whole), sl_law_whole⟩)
    (c_law_whole : PySem.W.codeIn K cV_law_whole "_law_whole" = true)
    (k_law_whole : PySem.W.keepIn K (.ref f_law_whole) = true)
    (l_law_refused : K.lookup f_law_refused = some ⟨oV_law_refused, oA_law_refused, .func (PySem.W.fnOf "_law_refused" "_law_refused" (defArgs s_law_refused) (defBody s_law_refused) (defScope s_law_refused) .none kV_law_refused dV_law_refused pV_law_refused aA_law_refused cV_law_refused tV_law_refused), sl_law_refused⟩)
    (c_law_refused : PySem.W.codeIn K cV_law_refused "_law_refused" = true)
    (k_law_refused : PySem.W.keepIn K (.ref f_law_refused) = true)
    (l_law_states_right : K.lookup f_law_states_right = some ⟨oV_law_states_right, oA_law_states_right, .func (PySem.W.fnOf "_law_states_right" "_law_states_right" (defArgs s_law_states_right) (defBody s_law_states_right) (defScope s_law_states_right) .none kV_law_states_right dV_law_states_right pV_law_states_right aA_law_states_right cV_law_states_right tV_law_states_right), sl_law_states_right⟩)
    (c_law_states_right : PySem.W.codeIn K cV_law_states_right "_law_states_right" = true)
    (k_law_states_right : PySem.W.keepIn K (.ref f_law_states_right) = true)
    (l_law_right : K.lookup f_law_right = some ⟨oV_law_right, oA_law_right, .func (PySem.W.fnOf "_law_right" "_law_right" (defArgs s_law_right) (defBody s_law_right) (defScope s_law_right) .none kV_law_right dV_law_right pV_law_right aA_law_right cV_law_right tV_law_right), sl_law_right⟩)
    (c_law_right : PySem.W.codeIn K cV_law_right "_law_right" = true)
    (k_law_right : PySem.W.keepIn K (.ref f_law_right) = true)
    (l_law_cut : K.lookup f_law_cut = some ⟨oV_law_cut, oA_law_cut, .func (PySem.W.fnOf "_law_cut" "_law_cut" (defArgs s_law_cut) (defBody s_law_cut) (defScope s_law_cut) .none kV_law_cut dV_law_cut pV_law_cut aA_law_cut cV_law_cut tV_law_cut), sl_law_cut⟩)
    (c_law_cut : PySem.W.codeIn K cV_law_cut "_law_cut" = true)
    (k_law_cut : PySem.W.keepIn K (.ref f_law_cut) = true)
    (l_law_told : K.lookup f_law_told = some ⟨oV_law_told, oA_law_told, .func (PySem.W.fnOf "_law_told" "_law_told" (defArgs s_law_told) (defBody s_law_told) (defScope s_law_told) .none kV_law_told dV_law_told pV_law_told aA_law_told cV_law_told tV_law_told), sl_law_told⟩)
    (c_law_told : PySem.W.codeIn K cV_law_told "_law_told" = true)
    (k_law_told : PySem.W.keepIn K (.ref f_law_told) = true)
    (l_law_cut_right : K.lookup f_law_cut_right = some ⟨oV_law_cut_right, oA_law_cut_right, .func (PySem.W.fnOf "_law_cut_right" "_law_cut_right" (defArgs s_law_cut_right) (defBody s_law_cut_right) (defScope s_law_cut_right) .none kV_law_cut_right dV_law_cut_right pV_law_cut_right aA_law_cut_right cV_law_cut_right tV_law_cut_right), sl_law_cut_right⟩)
    (c_law_cut_right : PySem.W.codeIn K cV_law_cut_right "_law_cut_right" = true)
    (k_law_cut_right : PySem.W.keepIn K (.ref f_law_cut_right) = true)
    (l_law_thrown : K.lookup f_law_thrown = some ⟨oV_law_thrown, oA_law_thrown, .func (PySem.W.fnOf "_law_thrown" "_law_thrown" (defArgs s_law_thrown) (defBody s_law_thrown) (defScope s_law_thrown) .none kV_law_thrown dV_law_thrown pV_law_thrown aA_law_thrown cV_law_thrown tV_law_thrown), sl_law_thrown⟩)
    (c_law_thrown : PySem.W.codeIn K cV_law_thrown "_law_thrown" = true)
    (k_law_thrown : PySem.W.keepIn K (.ref f_law_thrown) = true)
    (l_law : K.lookup f_law = some ⟨oV_law, oA_law, .func (PySem.W.fnOf "law" "law" (defArgs s_law) (defBody s_law) (defScope s_law) .none kV_law dV_law pV_law aA_law cV_law tV_law), sl_law⟩)
    (c_law : PySem.W.codeIn K cV_law "law" = true)
    (k_law : PySem.W.keepIn K (.ref f_law) = true)
    (pg_Event : PySem.W.plainGet K c_Event Str.empty = true)
    (hd_Event : PySem.W.hasDictIn K c_Event = true)
    (po_Event : PySem.W.plainOver K c_Event = true)
    (sa_Event : PySem.W.findIn K (.ref c_Event) "__setattr__" = some (some (.builtin "object.__setattr__")))
    (ca_Event : PySem.W.findIn K (.ref c_Event) "__class__" = some (some (.builtin "object.__class__")))
    (mr_Event : PySem.W.mroIn K c_Event (.type "object") = some true)
    (kc_Event : PySem.W.keepIn K (.ref c_Event) = true)
    (mk_Event : PySem.W.makesIn K c_Event = true)
    (pg_Thread : PySem.W.plainGet K c_Thread Str.empty = true)
    (hd_Thread : PySem.W.hasDictIn K c_Thread = true)
    (po_Thread : PySem.W.plainOver K c_Thread = true)
    (sa_Thread : PySem.W.findIn K (.ref c_Thread) "__setattr__" = some (some (.builtin "object.__setattr__")))
    (ca_Thread : PySem.W.findIn K (.ref c_Thread) "__class__" = some (some (.builtin "object.__class__")))
    (mr_Thread : PySem.W.mroIn K c_Thread (.type "object") = some true)
    (kc_Thread : PySem.W.keepIn K (.ref c_Thread) = true)
    (mk_Thread : PySem.W.makesIn K c_Thread = true)
    (pg_Habit : PySem.W.plainGet K c_Habit Str.empty = true)
    (hd_Habit : PySem.W.hasDictIn K c_Habit = true)
    (po_Habit : PySem.W.plainOver K c_Habit = true)
    (sa_Habit : PySem.W.findIn K (.ref c_Habit) "__setattr__" = some (some (.builtin "object.__setattr__")))
    (ca_Habit : PySem.W.findIn K (.ref c_Habit) "__class__" = some (some (.builtin "object.__class__")))
    (mr_Habit : PySem.W.mroIn K c_Habit (.type "object") = some true)
    (kc_Habit : PySem.W.keepIn K (.ref c_Habit) = true)
    (mk_Habit : PySem.W.makesIn K c_Habit = true)
    (ni_Habit : PySem.W.findIn K (.ref c_Habit) "__init__" = some (some (.builtin "object.__init__")))
    (pg_Never : PySem.W.plainGet K c_Never Str.empty = true)
    (hd_Never : PySem.W.hasDictIn K c_Never = true)
    (po_Never : PySem.W.plainOver K c_Never = true)
    (sa_Never : PySem.W.findIn K (.ref c_Never) "__setattr__" = some (some (.builtin "object.__setattr__")))
    (ca_Never : PySem.W.findIn K (.ref c_Never) "__class__" = some (some (.builtin "object.__class__")))
    (mr_Never : PySem.W.mroIn K c_Never (.type "object") = some true)
    (kc_Never : PySem.W.keepIn K (.ref c_Never) = true)
    (mk_Never : PySem.W.makesIn K c_Never = true)
    (ni_Never : PySem.W.findIn K (.ref c_Never) "__init__" = some (some (.builtin "object.__init__")))
    (pg_Each : PySem.W.plainGet K c_Each Str.empty = true)
    (hd_Each : PySem.W.hasDictIn K c_Each = true)
    (po_Each : PySem.W.plainOver K c_Each = true)
    (sa_Each : PySem.W.findIn K (.ref c_Each) "__setattr__" = some (some (.builtin "object.__setattr__")))
    (ca_Each : PySem.W.findIn K (.ref c_Each) "__class__" = some (some (.builtin "object.__class__")))
    (mr_Each : PySem.W.mroIn K c_Each (.type "object") = some true)
    (kc_Each : PySem.W.keepIn K (.ref c_Each) = true)
    (mk_Each : PySem.W.makesIn K c_Each = true)
    (ni_Each : PySem.W.findIn K (.ref c_Each) "__init__" = some (some (.builtin "object.__init__")))
    (pg_Bundle : PySem.W.plainGet K c_Bundle Str.empty = true)
    (hd_Bundle : PySem.W.hasDictIn K c_Bundle = true)
    (po_Bundle : PySem.W.plainOver K c_Bundle = true)
    (sa_Bundle : PySem.W.findIn K (.ref c_Bundle) "__setattr__" = some (some (.builtin "object.__setattr__")))
    (ca_Bundle : PySem.W.findIn K (.ref c_Bundle) "__class__" = some (some (.builtin "object.__class__")))
    (mr_Bundle : PySem.W.mroIn K c_Bundle (.type "object") = some true)
    (kc_Bundle : PySem.W.keepIn K (.ref c_Bundle) = true)
    (mk_Bundle : PySem.W.makesIn K c_Bundle = true)
    (gs : PySem.W.specialIn K (.builtin "object.__class__") "__get__" = some (some (.builtin "getset_descriptor.__get__")))
    (tk : PySem.W.takesIn K (.builtin "object.__class__") = some true)
    (ah_Never_writes_events : PySem.W.findIn K (.ref c_Never) "writes_events" = some (some (.ref f_Habit_writes_events)))
    (ah_Never_piled_up : PySem.W.findIn K (.ref c_Never) "piled_up" = some (some (.ref f_Habit_piled_up)))
    (n_Bundle_size : PySem.W.findIn K (.ref c_Bundle) "size" = some none)
    (n_Event_said : PySem.W.findIn K (.ref c_Event) "said" = some none)
    (n_Event_sent : PySem.W.findIn K (.ref c_Event) "sent" = some none)
    (n_Event_state : PySem.W.findIn K (.ref c_Event) "state" = some none)
    (n_Event_used : PySem.W.findIn K (.ref c_Event) "used" = some none)
    (n_Thread_done : PySem.W.findIn K (.ref c_Thread) "done" = some none)
    (n_Thread_habit : PySem.W.findIn K (.ref c_Thread) "habit" = some none)
    (n_Thread_pile : PySem.W.findIn K (.ref c_Thread) "pile" = some none)
    (n_Thread_start : PySem.W.findIn K (.ref c_Thread) "start" = some none)
    (n_Thread_writings : PySem.W.findIn K (.ref c_Thread) "writings" = some none)
    (b_ValueError : PySem.W.nsIn K mainGlobals "ValueError" = some none)
    (b_all : PySem.W.nsIn K mainGlobals "all" = some none)
    (b_bool : PySem.W.nsIn K mainGlobals "bool" = some none)
    (b_int : PySem.W.nsIn K mainGlobals "int" = some none)
    (b_isinstance : PySem.W.nsIn K mainGlobals "isinstance" = some none)
    (b_len : PySem.W.nsIn K mainGlobals "len" = some none)
    (b_list : PySem.W.nsIn K mainGlobals "list" = some none)
    (b_max : PySem.W.nsIn K mainGlobals "max" = some none)
    (b_range : PySem.W.nsIn K mainGlobals "range" = some none)
    (b_sorted : PySem.W.nsIn K mainGlobals "sorted" = some none)
    (xP_WeaveError : PySem.W.excIn K c_WeaveError [.type "ValueError", .type "Exception", .type "BaseException", .type "object"] "ValueError.__new__" = true)
    (kP_WeaveError : PySem.W.keepIn K (.ref c_WeaveError) = true)
    (bP_WeaveError : PySem.W.subIn K (.ref c_WeaveError) (.type "BaseException") = some true)
    (tP_WeaveError : PySem.W.typeIn K (.ref c_WeaveError) = some (.type "type"))
    (dP_WeaveError : PySem.W.hasDictIn K c_WeaveError = true)
    (hg_WeaveError : PySem.W.findIn K (.ref c_WeaveError) "__getattribute__" = some (some (.builtin "BaseException.__getattribute__")))
    (hk_WeaveError : PySem.W.findIn K (.ref c_WeaveError) "__getattr__" = some none)
    (he_WeaveError : PySem.W.findIn K (.ref c_WeaveError) "__class__" = some (some (.builtin "object.__class__")))
    (hm_WeaveError : PySem.W.mroIn K c_WeaveError (.type "object") = some true)
    (xP_NoSize : PySem.W.excIn K c_NoSize [.type "ValueError", .type "Exception", .type "BaseException", .type "object"] "ValueError.__new__" = true)
    (kP_NoSize : PySem.W.keepIn K (.ref c_NoSize) = true)
    (bP_NoSize : PySem.W.subIn K (.ref c_NoSize) (.type "BaseException") = some true)
    (tP_NoSize : PySem.W.typeIn K (.ref c_NoSize) = some (.type "type"))
    (dP_NoSize : PySem.W.hasDictIn K c_NoSize = true)
    (hg_NoSize : PySem.W.findIn K (.ref c_NoSize) "__getattribute__" = some (some (.builtin "BaseException.__getattribute__")))
    (hk_NoSize : PySem.W.findIn K (.ref c_NoSize) "__getattr__" = some none)
    (he_NoSize : PySem.W.findIn K (.ref c_NoSize) "__class__" = some (some (.builtin "object.__class__")))
    (hm_NoSize : PySem.W.mroIn K c_NoSize (.type "object") = some true)
    (xP_NoPoint : PySem.W.excIn K c_NoPoint [.type "ValueError", .type "Exception", .type "BaseException", .type "object"] "ValueError.__new__" = true)
    (kP_NoPoint : PySem.W.keepIn K (.ref c_NoPoint) = true)
    (bP_NoPoint : PySem.W.subIn K (.ref c_NoPoint) (.type "BaseException") = some true)
    (tP_NoPoint : PySem.W.typeIn K (.ref c_NoPoint) = some (.type "type"))
    (dP_NoPoint : PySem.W.hasDictIn K c_NoPoint = true)
    (hg_NoPoint : PySem.W.findIn K (.ref c_NoPoint) "__getattribute__" = some (some (.builtin "BaseException.__getattribute__")))
    (hk_NoPoint : PySem.W.findIn K (.ref c_NoPoint) "__getattr__" = some none)
    (he_NoPoint : PySem.W.findIn K (.ref c_NoPoint) "__class__" = some (some (.builtin "object.__class__")))
    (hm_NoPoint : PySem.W.mroIn K c_NoPoint (.type "object") = some true)
    (xP_NoHand : PySem.W.excIn K c_NoHand [.type "ValueError", .type "Exception", .type "BaseException", .type "object"] "ValueError.__new__" = true)
    (kP_NoHand : PySem.W.keepIn K (.ref c_NoHand) = true)
    (bP_NoHand : PySem.W.subIn K (.ref c_NoHand) (.type "BaseException") = some true)
    (tP_NoHand : PySem.W.typeIn K (.ref c_NoHand) = some (.type "type"))
    (dP_NoHand : PySem.W.hasDictIn K c_NoHand = true)
    (hg_NoHand : PySem.W.findIn K (.ref c_NoHand) "__getattribute__" = some (some (.builtin "BaseException.__getattribute__")))
    (hk_NoHand : PySem.W.findIn K (.ref c_NoHand) "__getattr__" = some none)
    (he_NoHand : PySem.W.findIn K (.ref c_NoHand) "__class__" = some (some (.builtin "object.__class__")))
    (hm_NoHand : PySem.W.mroIn K c_NoHand (.type "object") = some true)
    (xP_NoLetter : PySem.W.excIn K c_NoLetter [.type "ValueError", .type "Exception", .type "BaseException", .type "object"] "ValueError.__new__" = true)
    (kP_NoLetter : PySem.W.keepIn K (.ref c_NoLetter) = true)
    (bP_NoLetter : PySem.W.subIn K (.ref c_NoLetter) (.type "BaseException") = some true)
    (tP_NoLetter : PySem.W.typeIn K (.ref c_NoLetter) = some (.type "type"))
    (dP_NoLetter : PySem.W.hasDictIn K c_NoLetter = true)
    (hg_NoLetter : PySem.W.findIn K (.ref c_NoLetter) "__getattribute__" = some (some (.builtin "BaseException.__getattribute__")))
    (hk_NoLetter : PySem.W.findIn K (.ref c_NoLetter) "__getattr__" = some none)
    (he_NoLetter : PySem.W.findIn K (.ref c_NoLetter) "__class__" = some (some (.builtin "object.__class__")))
    (hm_NoLetter : PySem.W.mroIn K c_NoLetter (.type "object") = some true)
    (xP_NoText : PySem.W.excIn K c_NoText [.type "ValueError", .type "Exception", .type "BaseException", .type "object"] "ValueError.__new__" = true)
    (kP_NoText : PySem.W.keepIn K (.ref c_NoText) = true)
    (bP_NoText : PySem.W.subIn K (.ref c_NoText) (.type "BaseException") = some true)
    (tP_NoText : PySem.W.typeIn K (.ref c_NoText) = some (.type "type"))
    (dP_NoText : PySem.W.hasDictIn K c_NoText = true)
    (hg_NoText : PySem.W.findIn K (.ref c_NoText) "__getattribute__" = some (some (.builtin "BaseException.__getattribute__")))
    (hk_NoText : PySem.W.findIn K (.ref c_NoText) "__getattr__" = some none)
    (he_NoText : PySem.W.findIn K (.ref c_NoText) "__class__" = some (some (.builtin "object.__class__")))
    (hm_NoText : PySem.W.mroIn K c_NoText (.type "object") = some true)
    (nd_Never_Each : c_Never ≠ c_Each)
    (nd_Never_Bundle : c_Never ≠ c_Bundle)
    (nd_Each_Bundle : c_Each ≠ c_Bundle)
    (xm_NoPoint_WeaveError : PySem.W.subIn K (.ref c_NoPoint) (.ref c_WeaveError) = some true)
    (xm_NoPoint_NoPoint : PySem.W.subIn K (.ref c_NoPoint) (.ref c_NoPoint) = some true)
    (ks_NoPoint_NoSize : PySem.W.subIn K (.ref c_NoPoint) (.ref c_NoSize) = some false)
    (k0_NoSize : PySem.W.subIn K (.ref c_NoSize) (.ref c_NoSize) = some true)
    (ks_NoPoint_NoHand : PySem.W.subIn K (.ref c_NoPoint) (.ref c_NoHand) = some false)
    (k0_NoHand : PySem.W.subIn K (.ref c_NoHand) (.ref c_NoHand) = some true)
    (ks_NoPoint_NoLetter : PySem.W.subIn K (.ref c_NoPoint) (.ref c_NoLetter) = some false)
    (k0_NoLetter : PySem.W.subIn K (.ref c_NoLetter) (.ref c_NoLetter) = some true)
    (ks_NoPoint_NoText : PySem.W.subIn K (.ref c_NoPoint) (.ref c_NoText) = some false)
    (k0_NoText : PySem.W.subIn K (.ref c_NoText) (.ref c_NoText) = some true)
    (ks_NoPoint_NoPoint : PySem.W.subIn K (.ref c_NoPoint) (.ref c_NoPoint) = some true)
    (k0_NoPoint : PySem.W.subIn K (.ref c_NoPoint) (.ref c_NoPoint) = some true)
    (ks_NoPoint_ValueError : PySem.W.subIn K (.ref c_NoPoint) (.type "ValueError") = some true)
    : ∃ fd : FuncData, (∀ (s : Shared) (v : Value), BindsTo s fd ⟨[v], []⟩ [("_law_script", v)]) ∧ ∀ base : Heap, K.In base → base.Ns mainGlobals mg → LFn P w K mg base 8 fa fd ["_law_script"] spTrue := by
  obtain rfl : f_law = fa := by have e := hfa.symm.trans (PySem.W.mg_of X G a_law); exact (Value.ref.inj (Option.some.inj e)).symm
  have T : Txt K mg ⟨c_Event, c_Thread, c_Habit, c_Never, c_Each, c_Bundle, c_WeaveError, c_NoSize, c_NoPoint, c_NoHand, c_NoLetter, c_NoText, f_Event_init, f_Thread_init, f_Thread_here, f_Thread_events, f_Thread_do, f_Thread_write, f_Thread_points, f_Thread_state_at, f_Thread_cut, f_Thread_throw_ahead, f_Habit_writes_events, f_Habit_piled_up, f_Each_writes_events, f_Each_piled_up, f_Bundle_init, f_Bundle_writes_events, f_Bundle_piled_up, f_law_cell_at, f_law_mixed, f_law_habit, f_law_made, f_law_begun, f_law_done, f_law_down, f_law_wrote, f_law_points, f_law_event, f_law_whole, f_law_refused, f_law_states_right, f_law_right, f_law_cut, f_law_told, f_law_cut_right, f_law_thrown, f_law⟩ ⟨PySem.W.fnOf "__init__" "Event.__init__" (defArgs s_Event_init) (defBody s_Event_init) (defScope s_Event_init) .none kV_Event_init dV_Event_init pV_Event_init aA_Event_init cV_Event_init tV_Event_init,
      PySem.W.fnOf "__init__" "Thread.__init__" (defArgs s_Thread_init) (defBody s_Thread_init) (defScope s_Thread_init) .none kV_Thread_init dV_Thread_init pV_Thread_init aA_Thread_init cV_Thread_init tV_Thread_init,
      PySem.W.fnOf "here" "Thread.here" (defArgs s_Thread_here) (defBody s_Thread_here) (defScope s_Thread_here) .none kV_Thread_here dV_Thread_here pV_Thread_here aA_Thread_here cV_Thread_here tV_Thread_here,
      PySem.W.fnOf "events" "Thread.events" (defArgs s_Thread_events) (defBody s_Thread_events) (defScope s_Thread_events) .none kV_Thread_events dV_Thread_events pV_Thread_events aA_Thread_events cV_Thread_events tV_Thread_events,
      PySem.W.fnOf "do" "Thread.do" (defArgs s_Thread_do) (defBody s_Thread_do) (defScope s_Thread_do) .none kV_Thread_do dV_Thread_do pV_Thread_do aA_Thread_do cV_Thread_do tV_Thread_do,
      PySem.W.fnOf "write" "Thread.write" (defArgs s_Thread_write) (defBody s_Thread_write) (defScope s_Thread_write) .none kV_Thread_write dV_Thread_write pV_Thread_write aA_Thread_write cV_Thread_write tV_Thread_write,
      PySem.W.fnOf "points" "Thread.points" (defArgs s_Thread_points) (defBody s_Thread_points) (defScope s_Thread_points) .none kV_Thread_points dV_Thread_points pV_Thread_points aA_Thread_points cV_Thread_points tV_Thread_points,
      PySem.W.fnOf "state_at" "Thread.state_at" (defArgs s_Thread_state_at) (defBody s_Thread_state_at) (defScope s_Thread_state_at) .none kV_Thread_state_at dV_Thread_state_at pV_Thread_state_at aA_Thread_state_at cV_Thread_state_at tV_Thread_state_at,
      PySem.W.fnOf "cut" "Thread.cut" (defArgs s_Thread_cut) (defBody s_Thread_cut) (defScope s_Thread_cut) .none kV_Thread_cut dV_Thread_cut pV_Thread_cut aA_Thread_cut cV_Thread_cut tV_Thread_cut,
      PySem.W.fnOf "throw_ahead" "Thread.throw_ahead" (defArgs s_Thread_throw_ahead) (defBody s_Thread_throw_ahead) (defScope s_Thread_throw_ahead) .none kV_Thread_throw_ahead dV_Thread_throw_ahead pV_Thread_throw_ahead aA_Thread_throw_ahead cV_Thread_throw_ahead tV_Thread_throw_ahead,
      PySem.W.fnOf "writes_events" "Habit.writes_events" (defArgs s_Habit_writes_events) (defBody s_Habit_writes_events) (defScope s_Habit_writes_events) .none kV_Habit_writes_events dV_Habit_writes_events pV_Habit_writes_events aA_Habit_writes_events cV_Habit_writes_events tV_Habit_writes_events,
      PySem.W.fnOf "piled_up" "Habit.piled_up" (defArgs s_Habit_piled_up) (defBody s_Habit_piled_up) (defScope s_Habit_piled_up) .none kV_Habit_piled_up dV_Habit_piled_up pV_Habit_piled_up aA_Habit_piled_up cV_Habit_piled_up tV_Habit_piled_up,
      PySem.W.fnOf "writes_events" "Each.writes_events" (defArgs s_Each_writes_events) (defBody s_Each_writes_events) (defScope s_Each_writes_events) .none kV_Each_writes_events dV_Each_writes_events pV_Each_writes_events aA_Each_writes_events cV_Each_writes_events tV_Each_writes_events,
      PySem.W.fnOf "piled_up" "Each.piled_up" (defArgs s_Each_piled_up) (defBody s_Each_piled_up) (defScope s_Each_piled_up) .none kV_Each_piled_up dV_Each_piled_up pV_Each_piled_up aA_Each_piled_up cV_Each_piled_up tV_Each_piled_up,
      PySem.W.fnOf "__init__" "Bundle.__init__" (defArgs s_Bundle_init) (defBody s_Bundle_init) (defScope s_Bundle_init) .none kV_Bundle_init dV_Bundle_init pV_Bundle_init aA_Bundle_init cV_Bundle_init tV_Bundle_init,
      PySem.W.fnOf "writes_events" "Bundle.writes_events" (defArgs s_Bundle_writes_events) (defBody s_Bundle_writes_events) (defScope s_Bundle_writes_events) .none kV_Bundle_writes_events dV_Bundle_writes_events pV_Bundle_writes_events aA_Bundle_writes_events cV_Bundle_writes_events tV_Bundle_writes_events,
      PySem.W.fnOf "piled_up" "Bundle.piled_up" (defArgs s_Bundle_piled_up) (defBody s_Bundle_piled_up) (defScope s_Bundle_piled_up) .none kV_Bundle_piled_up dV_Bundle_piled_up pV_Bundle_piled_up aA_Bundle_piled_up cV_Bundle_piled_up tV_Bundle_piled_up,
      PySem.W.fnOf "_law_cell_at" "_law_cell_at" (defArgs s_law_cell_at) (defBody s_law_cell_at) (defScope s_law_cell_at) .none kV_law_cell_at dV_law_cell_at pV_law_cell_at aA_law_cell_at cV_law_cell_at tV_law_cell_at,
      PySem.W.fnOf "_law_mixed" "_law_mixed" (defArgs s_law_mixed) (defBody s_law_mixed) (defScope s_law_mixed) .none kV_law_mixed dV_law_mixed pV_law_mixed aA_law_mixed cV_law_mixed tV_law_mixed,
      PySem.W.fnOf "_law_habit" "_law_habit" (defArgs s_law_habit) (defBody s_law_habit) (defScope s_law_habit) .none kV_law_habit dV_law_habit pV_law_habit aA_law_habit cV_law_habit tV_law_habit,
      PySem.W.fnOf "_law_made" "_law_made" (defArgs s_law_made) (defBody s_law_made) (defScope s_law_made) .none kV_law_made dV_law_made pV_law_made aA_law_made cV_law_made tV_law_made,
      PySem.W.fnOf "_law_begun" "_law_begun" (defArgs s_law_begun) (defBody s_law_begun) (defScope s_law_begun) .none kV_law_begun dV_law_begun pV_law_begun aA_law_begun cV_law_begun tV_law_begun,
      PySem.W.fnOf "_law_done" "_law_done" (defArgs s_law_done) (defBody s_law_done) (defScope s_law_done) .none kV_law_done dV_law_done pV_law_done aA_law_done cV_law_done tV_law_done,
      PySem.W.fnOf "_law_down" "_law_down" (defArgs s_law_down) (defBody s_law_down) (defScope s_law_down) .none kV_law_down dV_law_down pV_law_down aA_law_down cV_law_down tV_law_down,
      PySem.W.fnOf "_law_wrote" "_law_wrote" (defArgs s_law_wrote) (defBody s_law_wrote) (defScope s_law_wrote) .none kV_law_wrote dV_law_wrote pV_law_wrote aA_law_wrote cV_law_wrote tV_law_wrote,
      PySem.W.fnOf "_law_points" "_law_points" (defArgs s_law_points) (defBody s_law_points) (defScope s_law_points) .none kV_law_points dV_law_points pV_law_points aA_law_points cV_law_points tV_law_points,
      PySem.W.fnOf "_law_event" "_law_event" (defArgs s_law_event) (defBody s_law_event) (defScope s_law_event) .none kV_law_event dV_law_event pV_law_event aA_law_event cV_law_event tV_law_event,
      PySem.W.fnOf "_law_whole" "_law_whole" (defArgs s_law_whole) (defBody s_law_whole) (defScope s_law_whole) .none kV_law_whole dV_law_whole pV_law_whole aA_law_whole cV_law_whole tV_law_whole,
      PySem.W.fnOf "_law_refused" "_law_refused" (defArgs s_law_refused) (defBody s_law_refused) (defScope s_law_refused) .none kV_law_refused dV_law_refused pV_law_refused aA_law_refused cV_law_refused tV_law_refused,
      PySem.W.fnOf "_law_states_right" "_law_states_right" (defArgs s_law_states_right) (defBody s_law_states_right) (defScope s_law_states_right) .none kV_law_states_right dV_law_states_right pV_law_states_right aA_law_states_right cV_law_states_right tV_law_states_right,
      PySem.W.fnOf "_law_right" "_law_right" (defArgs s_law_right) (defBody s_law_right) (defScope s_law_right) .none kV_law_right dV_law_right pV_law_right aA_law_right cV_law_right tV_law_right,
      PySem.W.fnOf "_law_cut" "_law_cut" (defArgs s_law_cut) (defBody s_law_cut) (defScope s_law_cut) .none kV_law_cut dV_law_cut pV_law_cut aA_law_cut cV_law_cut tV_law_cut,
      PySem.W.fnOf "_law_told" "_law_told" (defArgs s_law_told) (defBody s_law_told) (defScope s_law_told) .none kV_law_told dV_law_told pV_law_told aA_law_told cV_law_told tV_law_told,
      PySem.W.fnOf "_law_cut_right" "_law_cut_right" (defArgs s_law_cut_right) (defBody s_law_cut_right) (defScope s_law_cut_right) .none kV_law_cut_right dV_law_cut_right pV_law_cut_right aA_law_cut_right cV_law_cut_right tV_law_cut_right,
      PySem.W.fnOf "_law_thrown" "_law_thrown" (defArgs s_law_thrown) (defBody s_law_thrown) (defScope s_law_thrown) .none kV_law_thrown dV_law_thrown pV_law_thrown aA_law_thrown cV_law_thrown tV_law_thrown,
      PySem.W.fnOf "law" "law" (defArgs s_law) (defBody s_law) (defScope s_law) .none kV_law dV_law pV_law aA_law cV_law tV_law⟩ :=
    { F_Event_init := fun_mk (st := s_Event_init) l_Event_init c_Event_init k_Event_init,
      q_Event_init := (fun_mk (st := s_Event_init) l_Event_init c_Event_init k_Event_init).binds (ps := ["self", "used", "state", "sent", "said"]) fun _ _ _ _ _ _ us hl => match us, hl with | [_, _, _, _, _], _ => rfl,
      F_Thread_init := fun_mk (st := s_Thread_init) l_Thread_init c_Thread_init k_Thread_init,
      q_Thread_init := (fun_mk (st := s_Thread_init) l_Thread_init c_Thread_init k_Thread_init).binds (ps := ["self", "start", "habit"]) fun _ _ _ _ _ _ us hl => match us, hl with | [_, _, _], _ => rfl,
      F_Thread_here := fun_mk (st := s_Thread_here) l_Thread_here c_Thread_here k_Thread_here,
      q_Thread_here := (fun_mk (st := s_Thread_here) l_Thread_here c_Thread_here k_Thread_here).binds (ps := ["self"]) fun _ _ _ _ _ _ us hl => match us, hl with | [_], _ => rfl,
      F_Thread_events := fun_mk (st := s_Thread_events) l_Thread_events c_Thread_events k_Thread_events,
      q_Thread_events := (fun_mk (st := s_Thread_events) l_Thread_events c_Thread_events k_Thread_events).binds (ps := ["self"]) fun _ _ _ _ _ _ us hl => match us, hl with | [_], _ => rfl,
      F_Thread_do := fun_mk (st := s_Thread_do) l_Thread_do c_Thread_do k_Thread_do,
      q_Thread_do := (fun_mk (st := s_Thread_do) l_Thread_do c_Thread_do k_Thread_do).binds (ps := ["self", "event"]) fun _ _ _ _ _ _ us hl => match us, hl with | [_, _], _ => rfl,
      F_Thread_write := fun_mk (st := s_Thread_write) l_Thread_write c_Thread_write k_Thread_write,
      q_Thread_write := (fun_mk (st := s_Thread_write) l_Thread_write c_Thread_write k_Thread_write).binds (ps := ["self"]) fun _ _ _ _ _ _ us hl => match us, hl with | [_], _ => rfl,
      F_Thread_points := fun_mk (st := s_Thread_points) l_Thread_points c_Thread_points k_Thread_points,
      q_Thread_points := (fun_mk (st := s_Thread_points) l_Thread_points c_Thread_points k_Thread_points).binds (ps := ["self"]) fun _ _ _ _ _ _ us hl => match us, hl with | [_], _ => rfl,
      F_Thread_state_at := fun_mk (st := s_Thread_state_at) l_Thread_state_at c_Thread_state_at k_Thread_state_at,
      q_Thread_state_at := (fun_mk (st := s_Thread_state_at) l_Thread_state_at c_Thread_state_at k_Thread_state_at).binds (ps := ["self", "place"]) fun _ _ _ _ _ _ us hl => match us, hl with | [_, _], _ => rfl,
      F_Thread_cut := fun_mk (st := s_Thread_cut) l_Thread_cut c_Thread_cut k_Thread_cut,
      q_Thread_cut := (fun_mk (st := s_Thread_cut) l_Thread_cut c_Thread_cut k_Thread_cut).binds (ps := ["self", "place", "stands"]) fun _ _ _ _ _ _ us hl => match us, hl with | [_, _, _], _ => rfl,
      F_Thread_throw_ahead := fun_mk (st := s_Thread_throw_ahead) l_Thread_throw_ahead c_Thread_throw_ahead k_Thread_throw_ahead,
      q_Thread_throw_ahead := (fun_mk (st := s_Thread_throw_ahead) l_Thread_throw_ahead c_Thread_throw_ahead k_Thread_throw_ahead).binds (ps := ["self", "place"]) fun _ _ _ _ _ _ us hl => match us, hl with | [_, _], _ => rfl,
      F_Habit_writes_events := fun_mk (st := s_Habit_writes_events) l_Habit_writes_events c_Habit_writes_events k_Habit_writes_events,
      q_Habit_writes_events := (fun_mk (st := s_Habit_writes_events) l_Habit_writes_events c_Habit_writes_events k_Habit_writes_events).binds (ps := ["self"]) fun _ _ _ _ _ _ us hl => match us, hl with | [_], _ => rfl,
      F_Habit_piled_up := fun_mk (st := s_Habit_piled_up) l_Habit_piled_up c_Habit_piled_up k_Habit_piled_up,
      q_Habit_piled_up := (fun_mk (st := s_Habit_piled_up) l_Habit_piled_up c_Habit_piled_up k_Habit_piled_up).binds (ps := ["self", "pile"]) fun _ _ _ _ _ _ us hl => match us, hl with | [_, _], _ => rfl,
      F_Each_writes_events := fun_mk (st := s_Each_writes_events) l_Each_writes_events c_Each_writes_events k_Each_writes_events,
      q_Each_writes_events := (fun_mk (st := s_Each_writes_events) l_Each_writes_events c_Each_writes_events k_Each_writes_events).binds (ps := ["self"]) fun _ _ _ _ _ _ us hl => match us, hl with | [_], _ => rfl,
      F_Each_piled_up := fun_mk (st := s_Each_piled_up) l_Each_piled_up c_Each_piled_up k_Each_piled_up,
      q_Each_piled_up := (fun_mk (st := s_Each_piled_up) l_Each_piled_up c_Each_piled_up k_Each_piled_up).binds (ps := ["self", "pile"]) fun _ _ _ _ _ _ us hl => match us, hl with | [_, _], _ => rfl,
      F_Bundle_init := fun_mk (st := s_Bundle_init) l_Bundle_init c_Bundle_init k_Bundle_init,
      q_Bundle_init := (fun_mk (st := s_Bundle_init) l_Bundle_init c_Bundle_init k_Bundle_init).binds (ps := ["self", "size"]) fun _ _ _ _ _ _ us hl => match us, hl with | [_, _], _ => rfl,
      F_Bundle_writes_events := fun_mk (st := s_Bundle_writes_events) l_Bundle_writes_events c_Bundle_writes_events k_Bundle_writes_events,
      q_Bundle_writes_events := (fun_mk (st := s_Bundle_writes_events) l_Bundle_writes_events c_Bundle_writes_events k_Bundle_writes_events).binds (ps := ["self"]) fun _ _ _ _ _ _ us hl => match us, hl with | [_], _ => rfl,
      F_Bundle_piled_up := fun_mk (st := s_Bundle_piled_up) l_Bundle_piled_up c_Bundle_piled_up k_Bundle_piled_up,
      q_Bundle_piled_up := (fun_mk (st := s_Bundle_piled_up) l_Bundle_piled_up c_Bundle_piled_up k_Bundle_piled_up).binds (ps := ["self", "pile"]) fun _ _ _ _ _ _ us hl => match us, hl with | [_, _], _ => rfl,
      F_law_cell_at := fun_mk (st := s_law_cell_at) l_law_cell_at c_law_cell_at k_law_cell_at,
      q_law_cell_at := (fun_mk (st := s_law_cell_at) l_law_cell_at c_law_cell_at k_law_cell_at).binds (ps := ["_law_script", "_law_k"]) fun _ _ _ _ _ _ us hl => match us, hl with | [_, _], _ => rfl,
      m_law_cell_at := PySem.W.mg_of X G a_law_cell_at,
      k_law_cell_at := k_law_cell_at,
      F_law_mixed := fun_mk (st := s_law_mixed) l_law_mixed c_law_mixed k_law_mixed,
      q_law_mixed := (fun_mk (st := s_law_mixed) l_law_mixed c_law_mixed k_law_mixed).binds (ps := ["_law_cell", "_law_k"]) fun _ _ _ _ _ _ us hl => match us, hl with | [_, _], _ => rfl,
      m_law_mixed := PySem.W.mg_of X G a_law_mixed,
      k_law_mixed := k_law_mixed,
      F_law_habit := fun_mk (st := s_law_habit) l_law_habit c_law_habit k_law_habit,
      q_law_habit := (fun_mk (st := s_law_habit) l_law_habit c_law_habit k_law_habit).binds (ps := ["_law_cell"]) fun _ _ _ _ _ _ us hl => match us, hl with | [_], _ => rfl,
      m_law_habit := PySem.W.mg_of X G a_law_habit,
      k_law_habit := k_law_habit,
      F_law_made := fun_mk (st := s_law_made) l_law_made c_law_made k_law_made,
      q_law_made := (fun_mk (st := s_law_made) l_law_made c_law_made k_law_made).binds (ps := ["_law_habit_here"]) fun _ _ _ _ _ _ us hl => match us, hl with | [_], _ => rfl,
      m_law_made := PySem.W.mg_of X G a_law_made,
      k_law_made := k_law_made,
      F_law_begun := fun_mk (st := s_law_begun) l_law_begun c_law_begun k_law_begun,
      q_law_begun := (fun_mk (st := s_law_begun) l_law_begun c_law_begun k_law_begun).binds (ps := ["_law_start"]) fun _ _ _ _ _ _ us hl => match us, hl with | [_], _ => rfl,
      m_law_begun := PySem.W.mg_of X G a_law_begun,
      k_law_begun := k_law_begun,
      F_law_done := fun_mk (st := s_law_done) l_law_done c_law_done k_law_done,
      q_law_done := (fun_mk (st := s_law_done) l_law_done c_law_done k_law_done).binds (ps := ["_law_model", "_law_habit_here", "_law_state"]) fun _ _ _ _ _ _ us hl => match us, hl with | [_, _, _], _ => rfl,
      m_law_done := PySem.W.mg_of X G a_law_done,
      k_law_done := k_law_done,
      F_law_down := fun_mk (st := s_law_down) l_law_down c_law_down k_law_down,
      q_law_down := (fun_mk (st := s_law_down) l_law_down c_law_down k_law_down).binds (ps := ["_law_model"]) fun _ _ _ _ _ _ us hl => match us, hl with | [_], _ => rfl,
      m_law_down := PySem.W.mg_of X G a_law_down,
      k_law_down := k_law_down,
      F_law_wrote := fun_mk (st := s_law_wrote) l_law_wrote c_law_wrote k_law_wrote,
      q_law_wrote := (fun_mk (st := s_law_wrote) l_law_wrote c_law_wrote k_law_wrote).binds (ps := ["_law_model", "_law_habit_here"]) fun _ _ _ _ _ _ us hl => match us, hl with | [_, _], _ => rfl,
      m_law_wrote := PySem.W.mg_of X G a_law_wrote,
      k_law_wrote := k_law_wrote,
      F_law_points := fun_mk (st := s_law_points) l_law_points c_law_points k_law_points,
      q_law_points := (fun_mk (st := s_law_points) l_law_points c_law_points k_law_points).binds (ps := ["_law_model"]) fun _ _ _ _ _ _ us hl => match us, hl with | [_], _ => rfl,
      m_law_points := PySem.W.mg_of X G a_law_points,
      k_law_points := k_law_points,
      F_law_event := fun_mk (st := s_law_event) l_law_event c_law_event k_law_event,
      q_law_event := (fun_mk (st := s_law_event) l_law_event c_law_event k_law_event).binds (ps := ["_law_cell", "_law_k"]) fun _ _ _ _ _ _ us hl => match us, hl with | [_, _], _ => rfl,
      m_law_event := PySem.W.mg_of X G a_law_event,
      k_law_event := k_law_event,
      F_law_whole := fun_mk (st := s_law_whole) l_law_whole c_law_whole k_law_whole,
      q_law_whole := (fun_mk (st := s_law_whole) l_law_whole c_law_whole k_law_whole).binds (ps := ["_law_found"]) fun _ _ _ _ _ _ us hl => match us, hl with | [_], _ => rfl,
      m_law_whole := PySem.W.mg_of X G a_law_whole,
      k_law_whole := k_law_whole,
      F_law_refused := fun_mk (st := s_law_refused) l_law_refused c_law_refused k_law_refused,
      q_law_refused := (fun_mk (st := s_law_refused) l_law_refused c_law_refused k_law_refused).binds (ps := ["_law_thread", "_law_place"]) fun _ _ _ _ _ _ us hl => match us, hl with | [_, _], _ => rfl,
      m_law_refused := PySem.W.mg_of X G a_law_refused,
      k_law_refused := k_law_refused,
      F_law_states_right := fun_mk (st := s_law_states_right) l_law_states_right c_law_states_right k_law_states_right,
      q_law_states_right := (fun_mk (st := s_law_states_right) l_law_states_right c_law_states_right k_law_states_right).binds (ps := ["_law_thread", "_law_model", "_law_due"]) fun _ _ _ _ _ _ us hl => match us, hl with | [_, _, _], _ => rfl,
      m_law_states_right := PySem.W.mg_of X G a_law_states_right,
      k_law_states_right := k_law_states_right,
      F_law_right := fun_mk (st := s_law_right) l_law_right c_law_right k_law_right,
      q_law_right := (fun_mk (st := s_law_right) l_law_right c_law_right k_law_right).binds (ps := ["_law_thread", "_law_model"]) fun _ _ _ _ _ _ us hl => match us, hl with | [_, _], _ => rfl,
      m_law_right := PySem.W.mg_of X G a_law_right,
      k_law_right := k_law_right,
      F_law_cut := fun_mk (st := s_law_cut) l_law_cut c_law_cut k_law_cut,
      q_law_cut := (fun_mk (st := s_law_cut) l_law_cut c_law_cut k_law_cut).binds (ps := ["_law_model", "_law_place"]) fun _ _ _ _ _ _ us hl => match us, hl with | [_, _], _ => rfl,
      m_law_cut := PySem.W.mg_of X G a_law_cut,
      k_law_cut := k_law_cut,
      F_law_told := fun_mk (st := s_law_told) l_law_told c_law_told k_law_told,
      q_law_told := (fun_mk (st := s_law_told) l_law_told c_law_told k_law_told).binds (ps := ["_law_thread", "_law_place", "_law_stands"]) fun _ _ _ _ _ _ us hl => match us, hl with | [_, _, _], _ => rfl,
      m_law_told := PySem.W.mg_of X G a_law_told,
      k_law_told := k_law_told,
      F_law_cut_right := fun_mk (st := s_law_cut_right) l_law_cut_right c_law_cut_right k_law_cut_right,
      q_law_cut_right := (fun_mk (st := s_law_cut_right) l_law_cut_right c_law_cut_right k_law_cut_right).binds (ps := ["_law_thread", "_law_model", "_law_number"]) fun _ _ _ _ _ _ us hl => match us, hl with | [_, _, _], _ => rfl,
      m_law_cut_right := PySem.W.mg_of X G a_law_cut_right,
      k_law_cut_right := k_law_cut_right,
      F_law_thrown := fun_mk (st := s_law_thrown) l_law_thrown c_law_thrown k_law_thrown,
      q_law_thrown := (fun_mk (st := s_law_thrown) l_law_thrown c_law_thrown k_law_thrown).binds (ps := ["_law_thread", "_law_model", "_law_place"]) fun _ _ _ _ _ _ us hl => match us, hl with | [_, _, _], _ => rfl,
      m_law_thrown := PySem.W.mg_of X G a_law_thrown,
      k_law_thrown := k_law_thrown,
      F_law := fun_mk (st := s_law) l_law c_law k_law,
      q_law := (fun_mk (st := s_law) l_law c_law k_law).binds (ps := ["_law_script"]) fun _ _ _ _ _ _ us hl => match us, hl with | [_], _ => rfl,
      m_law := PySem.W.mg_of X G a_law,
      k_law := k_law,
      cl_Event := ⟨pg_Event, hd_Event, po_Event, sa_Event⟩,
      in_Event := ⟨⟨pg_Event, hd_Event, po_Event, sa_Event⟩, ca_Event, gs, tk, mr_Event⟩,
      m_Event := PySem.W.mg_of X G a_Event,
      mk_Event := ⟨mk_Event, a_Event_init, i_Event_init, kc_Event⟩,
      cl_Thread := ⟨pg_Thread, hd_Thread, po_Thread, sa_Thread⟩,
      in_Thread := ⟨⟨pg_Thread, hd_Thread, po_Thread, sa_Thread⟩, ca_Thread, gs, tk, mr_Thread⟩,
      m_Thread := PySem.W.mg_of X G a_Thread,
      mk_Thread := ⟨mk_Thread, a_Thread_init, i_Thread_init, kc_Thread⟩,
      cl_Habit := ⟨pg_Habit, hd_Habit, po_Habit, sa_Habit⟩,
      in_Habit := ⟨⟨pg_Habit, hd_Habit, po_Habit, sa_Habit⟩, ca_Habit, gs, tk, mr_Habit⟩,
      m_Habit := PySem.W.mg_of X G a_Habit,
      mkn_Habit := ⟨mk_Habit, ni_Habit, kc_Habit⟩,
      cl_Never := ⟨pg_Never, hd_Never, po_Never, sa_Never⟩,
      in_Never := ⟨⟨pg_Never, hd_Never, po_Never, sa_Never⟩, ca_Never, gs, tk, mr_Never⟩,
      m_Never := PySem.W.mg_of X G a_Never,
      mkn_Never := ⟨mk_Never, ni_Never, kc_Never⟩,
      cl_Each := ⟨pg_Each, hd_Each, po_Each, sa_Each⟩,
      in_Each := ⟨⟨pg_Each, hd_Each, po_Each, sa_Each⟩, ca_Each, gs, tk, mr_Each⟩,
      m_Each := PySem.W.mg_of X G a_Each,
      mkn_Each := ⟨mk_Each, ni_Each, kc_Each⟩,
      cl_Bundle := ⟨pg_Bundle, hd_Bundle, po_Bundle, sa_Bundle⟩,
      in_Bundle := ⟨⟨pg_Bundle, hd_Bundle, po_Bundle, sa_Bundle⟩, ca_Bundle, gs, tk, mr_Bundle⟩,
      m_Bundle := PySem.W.mg_of X G a_Bundle,
      mk_Bundle := ⟨mk_Bundle, a_Bundle_init, i_Bundle_init, kc_Bundle⟩,
      mt_Thread_here := ⟨a_Thread_here, i_Thread_here, k_Thread_here⟩,
      mt_Thread_events := ⟨a_Thread_events, i_Thread_events, k_Thread_events⟩,
      mt_Thread_do := ⟨a_Thread_do, i_Thread_do, k_Thread_do⟩,
      mt_Thread_write := ⟨a_Thread_write, i_Thread_write, k_Thread_write⟩,
      mt_Thread_points := ⟨a_Thread_points, i_Thread_points, k_Thread_points⟩,
      mt_Thread_state_at := ⟨a_Thread_state_at, i_Thread_state_at, k_Thread_state_at⟩,
      mt_Thread_cut := ⟨a_Thread_cut, i_Thread_cut, k_Thread_cut⟩,
      mt_Thread_throw_ahead := ⟨a_Thread_throw_ahead, i_Thread_throw_ahead, k_Thread_throw_ahead⟩,
      mt_Habit_writes_events := ⟨a_Habit_writes_events, i_Habit_writes_events, k_Habit_writes_events⟩,
      mt_Habit_piled_up := ⟨a_Habit_piled_up, i_Habit_piled_up, k_Habit_piled_up⟩,
      mt_Never_writes_events := ⟨ah_Never_writes_events, i_Habit_writes_events, k_Habit_writes_events⟩,
      mt_Never_piled_up := ⟨ah_Never_piled_up, i_Habit_piled_up, k_Habit_piled_up⟩,
      mt_Each_writes_events := ⟨a_Each_writes_events, i_Each_writes_events, k_Each_writes_events⟩,
      mt_Each_piled_up := ⟨a_Each_piled_up, i_Each_piled_up, k_Each_piled_up⟩,
      mt_Bundle_writes_events := ⟨a_Bundle_writes_events, i_Bundle_writes_events, k_Bundle_writes_events⟩,
      mt_Bundle_piled_up := ⟨a_Bundle_piled_up, i_Bundle_piled_up, k_Bundle_piled_up⟩,
      n_Bundle_size := n_Bundle_size,
      n_Event_said := n_Event_said,
      n_Event_sent := n_Event_sent,
      n_Event_state := n_Event_state,
      n_Event_used := n_Event_used,
      n_Thread_done := n_Thread_done,
      n_Thread_habit := n_Thread_habit,
      n_Thread_pile := n_Thread_pile,
      n_Thread_start := n_Thread_start,
      n_Thread_writings := n_Thread_writings,
      b_ValueError := PySem.W.mg_none_of X G b_ValueError,
      b_all := PySem.W.mg_none_of X G b_all,
      b_bool := PySem.W.mg_none_of X G b_bool,
      b_int := PySem.W.mg_none_of X G b_int,
      b_isinstance := PySem.W.mg_none_of X G b_isinstance,
      b_len := PySem.W.mg_none_of X G b_len,
      b_list := PySem.W.mg_none_of X G b_list,
      b_max := PySem.W.mg_none_of X G b_max,
      b_range := PySem.W.mg_none_of X G b_range,
      b_sorted := PySem.W.mg_none_of X G b_sorted,
      x_WeaveError := ⟨xP_WeaveError, PySem.W.mg_of X G a_WeaveError, kP_WeaveError, bP_WeaveError, tP_WeaveError⟩,
      e_WeaveError := ⟨hg_WeaveError, hk_WeaveError, bP_WeaveError, dP_WeaveError, he_WeaveError, gs, tk, hm_WeaveError⟩,
      x_NoSize := ⟨xP_NoSize, PySem.W.mg_of X G a_NoSize, kP_NoSize, bP_NoSize, tP_NoSize⟩,
      e_NoSize := ⟨hg_NoSize, hk_NoSize, bP_NoSize, dP_NoSize, he_NoSize, gs, tk, hm_NoSize⟩,
      x_NoPoint := ⟨xP_NoPoint, PySem.W.mg_of X G a_NoPoint, kP_NoPoint, bP_NoPoint, tP_NoPoint⟩,
      e_NoPoint := ⟨hg_NoPoint, hk_NoPoint, bP_NoPoint, dP_NoPoint, he_NoPoint, gs, tk, hm_NoPoint⟩,
      x_NoHand := ⟨xP_NoHand, PySem.W.mg_of X G a_NoHand, kP_NoHand, bP_NoHand, tP_NoHand⟩,
      e_NoHand := ⟨hg_NoHand, hk_NoHand, bP_NoHand, dP_NoHand, he_NoHand, gs, tk, hm_NoHand⟩,
      x_NoLetter := ⟨xP_NoLetter, PySem.W.mg_of X G a_NoLetter, kP_NoLetter, bP_NoLetter, tP_NoLetter⟩,
      e_NoLetter := ⟨hg_NoLetter, hk_NoLetter, bP_NoLetter, dP_NoLetter, he_NoLetter, gs, tk, hm_NoLetter⟩,
      x_NoText := ⟨xP_NoText, PySem.W.mg_of X G a_NoText, kP_NoText, bP_NoText, tP_NoText⟩,
      e_NoText := ⟨hg_NoText, hk_NoText, bP_NoText, dP_NoText, he_NoText, gs, tk, hm_NoText⟩,
      nd_Never_Each := nd_Never_Each,
      nd_Never_Bundle := nd_Never_Bundle,
      nd_Each_Bundle := nd_Each_Bundle,
      xm_NoPoint_WeaveError := PySem.W.exm_ref bP_WeaveError dP_WeaveError tP_WeaveError xm_NoPoint_WeaveError,
      xm_NoPoint_NoPoint := PySem.W.exm_ref bP_NoPoint dP_NoPoint tP_NoPoint xm_NoPoint_NoPoint,
      kt_int_int := kit_ty (by decide +kernel),
      kt_int_bool := kit_ty (by decide +kernel),
      kt_list_list := kit_ty (by decide +kernel),
      kt_NoPoint_NoSize := kit_ref dP_NoSize tP_NoSize k0_NoSize ks_NoPoint_NoSize,
      kt_NoPoint_NoHand := kit_ref dP_NoHand tP_NoHand k0_NoHand ks_NoPoint_NoHand,
      kt_NoPoint_NoLetter := kit_ref dP_NoLetter tP_NoLetter k0_NoLetter ks_NoPoint_NoLetter,
      kt_NoPoint_NoText := kit_ref dP_NoText tP_NoText k0_NoText ks_NoPoint_NoText,
      kt_NoPoint_NoPoint := kit_ref dP_NoPoint tP_NoPoint k0_NoPoint ks_NoPoint_NoPoint,
      kt_NoPoint_ValueError := kit_rty (by decide +kernel) ks_NoPoint_ValueError }
  exact ⟨_, fun s v => .of_eq rfl, fun base _ _ => ok_law T⟩
theorem walk {l : PySem.W.OpenLaw} {q : Program} {loose : List Str} {XP : (Str → Option Value) → Heap → Prop} {YP : World → Heap → Prop} {d : DefRec} {K : Params → PySem.W.Frag} (hn : l.most = some 63) (hdf : d.params.defaults = [])
    (hY : ∀ (w : World) (h : Heap), YP w h → (K w.params).In h)
    (F : ∀ (w : World) (mg : Str → Option Value) (fa : Addr) (h : Heap), (K w.params).In h → h.Ns mainGlobals mg → mg d.name = some (.ref fa) →
      ∃ fd : FuncData, (∀ (s : Shared) (u : Value), BindsTo s fd ⟨[u], []⟩ [("_law_script", u)]) ∧ ∀ base : Heap, (K w.params).In base → base.Ns mainGlobals mg → LFn l.prog w (K w.params) mg base 8 fa fd ["_law_script"] spTrue) :
    PySem.W.WalkO q loose XP YP l.row.toRowW d [] (fun f vs => PySem.call f vs) :=
  L2.walk_of (n := 63) (k := 8) (x := "_law_script") (CX := fun w => L2.CX l.prog w) (sp := fun w => dn (K w.params) spTrue) hn (by decide) hdf ⟨rfl, by decide, by decide⟩ hY F (fun _ => law_starts) (fun _ => law_ends)
end Law
open PySem PySem.W PyProof.Rows in
set_option maxRecDepth 100000 in
set_option maxHeartbeats 0 in
theorem PySem.Challenge.cw_backline_k03_thrown_away_holds : PySem.Challenge.rw_backline_k03_thrown_away.Holds := by
  w_on; o_law; k_head; (case hw => w_witness2)
  k_fill
  refine Law.walk (l := PySem.Challenge.rw_backline_k03_thrown_away) rfl rfl (fun w h Y => PySem.W.kIn_of Y) ?F
  case F =>
    intro w mg fa h KX G hmg
    refine' Law.all_mk KX G hmg ?a_WeaveError ?a_NoSize ?a_NoPoint ?a_NoHand ?a_NoLetter ?a_NoText ?a_Event ?a_Thread ?a_Habit ?a_Never ?a_Each ?a_Bundle ?a_law ?a_law_thrown ?a_law_cut_right ?a_law_told ?a_law_cut ?a_law_right ?a_law_states_right ?a_law_refused ?a_law_whole ?a_law_event ?a_law_points ?a_law_wrote ?a_law_down ?a_law_done ?a_law_begun ?a_law_made ?a_law_habit ?a_law_mixed ?a_law_cell_at ?a_Bundle_piled_up ?a_Bundle_writes_events ?a_Bundle_init ?a_Each_piled_up ?a_Each_writes_events ?a_Habit_piled_up ?a_Habit_writes_events ?a_Thread_throw_ahead ?a_Thread_cut ?a_Thread_state_at ?a_Thread_points ?a_Thread_write ?a_Thread_do ?a_Thread_events ?a_Thread_here ?a_Thread_init ?a_Event_init ?l_Event_init ?c_Event_init ?k_Event_init ?i_Event_init ?l_Thread_init ?c_Thread_init ?k_Thread_init ?i_Thread_init ?l_Thread_here ?c_Thread_here ?k_Thread_here ?i_Thread_here ?l_Thread_events ?c_Thread_events ?k_Thread_events ?i_Thread_events ?l_Thread_do ?c_Thread_do ?k_Thread_do ?i_Thread_do ?l_Thread_write ?c_Thread_write ?k_Thread_write ?i_Thread_write ?l_Thread_points ?c_Thread_points ?k_Thread_points ?i_Thread_points ?l_Thread_state_at ?c_Thread_state_at ?k_Thread_state_at ?i_Thread_state_at ?l_Thread_cut ?c_Thread_cut ?k_Thread_cut ?i_Thread_cut ?l_Thread_throw_ahead ?c_Thread_throw_ahead ?k_Thread_throw_ahead ?i_Thread_throw_ahead ?l_Habit_writes_events ?c_Habit_writes_events ?k_Habit_writes_events ?i_Habit_writes_events ?l_Habit_piled_up ?c_Habit_piled_up ?k_Habit_piled_up ?i_Habit_piled_up ?l_Each_writes_events ?c_Each_writes_events ?k_Each_writes_events ?i_Each_writes_events ?l_Each_piled_up ?c_Each_piled_up ?k_Each_piled_up ?i_Each_piled_up ?l_Bundle_init ?c_Bundle_init ?k_Bundle_init ?i_Bundle_init ?l_Bundle_writes_events ?c_Bundle_writes_events ?k_Bundle_writes_events ?i_Bundle_writes_events ?l_Bundle_piled_up ?c_Bundle_piled_up ?k_Bundle_piled_up ?i_Bundle_piled_up ?l_law_cell_at ?c_law_cell_at ?k_law_cell_at ?l_law_mixed ?c_law_mixed ?k_law_mixed ?l_law_habit ?c_law_habit ?k_law_habit ?l_law_made ?c_law_made ?k_law_made ?l_law_begun ?c_law_begun ?k_law_begun ?l_law_done ?c_law_done ?k_law_done ?l_law_down ?c_law_down ?k_law_down ?l_law_wrote ?c_law_wrote ?k_law_wrote ?l_law_points ?c_law_points ?k_law_points ?l_law_event ?c_law_event ?k_law_event ?l_law_whole ?c_law_whole ?k_law_whole ?l_law_refused ?c_law_refused ?k_law_refused ?l_law_states_right ?c_law_states_right ?k_law_states_right ?l_law_right ?c_law_right ?k_law_right ?l_law_cut ?c_law_cut ?k_law_cut ?l_law_told ?c_law_told ?k_law_told ?l_law_cut_right ?c_law_cut_right ?k_law_cut_right ?l_law_thrown ?c_law_thrown ?k_law_thrown ?l_law ?c_law ?k_law ?pg_Event ?hd_Event ?po_Event ?sa_Event ?ca_Event ?mr_Event ?kc_Event ?mk_Event ?pg_Thread ?hd_Thread ?po_Thread ?sa_Thread ?ca_Thread ?mr_Thread ?kc_Thread ?mk_Thread ?pg_Habit ?hd_Habit ?po_Habit ?sa_Habit ?ca_Habit ?mr_Habit ?kc_Habit ?mk_Habit ?ni_Habit ?pg_Never ?hd_Never ?po_Never ?sa_Never ?ca_Never ?mr_Never ?kc_Never ?mk_Never ?ni_Never ?pg_Each ?hd_Each ?po_Each ?sa_Each ?ca_Each ?mr_Each ?kc_Each ?mk_Each ?ni_Each ?pg_Bundle ?hd_Bundle ?po_Bundle ?sa_Bundle ?ca_Bundle ?mr_Bundle ?kc_Bundle ?mk_Bundle ?gs ?tk ?ah_Never_writes_events ?ah_Never_piled_up ?n_Bundle_size ?n_Event_said ?n_Event_sent ?n_Event_state ?n_Event_used ?n_Thread_done ?n_Thread_habit ?n_Thread_pile ?n_Thread_start ?n_Thread_writings ?b_ValueError ?b_all ?b_bool ?b_int ?b_isinstance ?b_len ?b_list ?b_max ?b_range ?b_sorted ?xP_WeaveError ?kP_WeaveError ?bP_WeaveError ?tP_WeaveError ?dP_WeaveError ?hg_WeaveError ?hk_WeaveError ?he_WeaveError ?hm_WeaveError ?xP_NoSize ?kP_NoSize ?bP_NoSize ?tP_NoSize ?dP_NoSize ?hg_NoSize ?hk_NoSize ?he_NoSize ?hm_NoSize ?xP_NoPoint ?kP_NoPoint ?bP_NoPoint ?tP_NoPoint ?dP_NoPoint ?hg_NoPoint ?hk_NoPoint ?he_NoPoint ?hm_NoPoint ?xP_NoHand ?kP_NoHand ?bP_NoHand ?tP_NoHand ?dP_NoHand ?hg_NoHand ?hk_NoHand ?he_NoHand ?hm_NoHand ?xP_NoLetter ?kP_NoLetter ?bP_NoLetter ?tP_NoLetter ?dP_NoLetter ?hg_NoLetter ?hk_NoLetter ?he_NoLetter ?hm_NoLetter ?xP_NoText ?kP_NoText ?bP_NoText ?tP_NoText ?dP_NoText ?hg_NoText ?hk_NoText ?he_NoText ?hm_NoText ?nd_Never_Each ?nd_Never_Bundle ?nd_Each_Bundle ?xm_NoPoint_WeaveError ?xm_NoPoint_NoPoint ?ks_NoPoint_NoSize ?k0_NoSize ?ks_NoPoint_NoHand ?k0_NoHand ?ks_NoPoint_NoLetter ?k0_NoLetter ?ks_NoPoint_NoText ?k0_NoText ?ks_NoPoint_NoPoint ?k0_NoPoint ?ks_NoPoint_ValueError
    (case a_WeaveError => k_is)
    (case a_NoSize => k_is)
    (case a_NoPoint => k_is)
    (case a_NoHand => k_is)
    (case a_NoLetter => k_is)
    (case a_NoText => k_is)
    (case a_Event => k_is)
    (case a_Thread => k_is)
    (case a_Habit => k_is)
    (case a_Never => k_is)
    (case a_Each => k_is)
    (case a_Bundle => k_is)
    (case a_law => k_is)
    (case a_law_thrown => k_is)
    (case a_law_cut_right => k_is)
    (case a_law_told => k_is)
    (case a_law_cut => k_is)
    (case a_law_right => k_is)
    (case a_law_states_right => k_is)
    (case a_law_refused => k_is)
    (case a_law_whole => k_is)
    (case a_law_event => k_is)
    (case a_law_points => k_is)
    (case a_law_wrote => k_is)
    (case a_law_down => k_is)
    (case a_law_done => k_is)
    (case a_law_begun => k_is)
    (case a_law_made => k_is)
    (case a_law_habit => k_is)
    (case a_law_mixed => k_is)
    (case a_law_cell_at => k_is)
    (case a_Bundle_piled_up => k_is)
    (case a_Bundle_writes_events => k_is)
    (case a_Bundle_init => k_is)
    (case a_Each_piled_up => k_is)
    (case a_Each_writes_events => k_is)
    (case a_Habit_piled_up => k_is)
    (case a_Habit_writes_events => k_is)
    (case a_Thread_throw_ahead => k_is)
    (case a_Thread_cut => k_is)
    (case a_Thread_state_at => k_is)
    (case a_Thread_points => k_is)
    (case a_Thread_write => k_is)
    (case a_Thread_do => k_is)
    (case a_Thread_events => k_is)
    (case a_Thread_here => k_is)
    (case a_Thread_init => k_is)
    (case a_Event_init => k_is)
    (case l_Event_init => k_is)
    (case c_Event_init => k_is)
    (case k_Event_init => k_is)
    (case i_Event_init => k_is)
    (case l_Thread_init => k_is)
    (case c_Thread_init => k_is)
    (case k_Thread_init => k_is)
    (case i_Thread_init => k_is)
    (case l_Thread_here => k_is)
    (case c_Thread_here => k_is)
    (case k_Thread_here => k_is)
    (case i_Thread_here => k_is)
    (case l_Thread_events => k_is)
    (case c_Thread_events => k_is)
    (case k_Thread_events => k_is)
    (case i_Thread_events => k_is)
    (case l_Thread_do => k_is)
    (case c_Thread_do => k_is)
    (case k_Thread_do => k_is)
    (case i_Thread_do => k_is)
    (case l_Thread_write => k_is)
    (case c_Thread_write => k_is)
    (case k_Thread_write => k_is)
    (case i_Thread_write => k_is)
    (case l_Thread_points => k_is)
    (case c_Thread_points => k_is)
    (case k_Thread_points => k_is)
    (case i_Thread_points => k_is)
    (case l_Thread_state_at => k_is)
    (case c_Thread_state_at => k_is)
    (case k_Thread_state_at => k_is)
    (case i_Thread_state_at => k_is)
    (case l_Thread_cut => k_is)
    (case c_Thread_cut => k_is)
    (case k_Thread_cut => k_is)
    (case i_Thread_cut => k_is)
    (case l_Thread_throw_ahead => k_is)
    (case c_Thread_throw_ahead => k_is)
    (case k_Thread_throw_ahead => k_is)
    (case i_Thread_throw_ahead => k_is)
    (case l_Habit_writes_events => k_is)
    (case c_Habit_writes_events => k_is)
    (case k_Habit_writes_events => k_is)
    (case i_Habit_writes_events => k_is)
    (case l_Habit_piled_up => k_is)
    (case c_Habit_piled_up => k_is)
    (case k_Habit_piled_up => k_is)
    (case i_Habit_piled_up => k_is)
    (case l_Each_writes_events => k_is)
    (case c_Each_writes_events => k_is)
    (case k_Each_writes_events => k_is)
    (case i_Each_writes_events => k_is)
    (case l_Each_piled_up => k_is)
    (case c_Each_piled_up => k_is)
    (case k_Each_piled_up => k_is)
    (case i_Each_piled_up => k_is)
    (case l_Bundle_init => k_is)
    (case c_Bundle_init => k_is)
    (case k_Bundle_init => k_is)
    (case i_Bundle_init => k_is)
    (case l_Bundle_writes_events => k_is)
    (case c_Bundle_writes_events => k_is)
    (case k_Bundle_writes_events => k_is)
    (case i_Bundle_writes_events => k_is)
    (case l_Bundle_piled_up => k_is)
    (case c_Bundle_piled_up => k_is)
    (case k_Bundle_piled_up => k_is)
    (case i_Bundle_piled_up => k_is)
    (case l_law_cell_at => k_is)
    (case c_law_cell_at => k_is)
    (case k_law_cell_at => k_is)
    (case l_law_mixed => k_is)
    (case c_law_mixed => k_is)
    (case k_law_mixed => k_is)
    (case l_law_habit => k_is)
    (case c_law_habit => k_is)
    (case k_law_habit => k_is)
    (case l_law_made => k_is)
    (case c_law_made => k_is)
    (case k_law_made => k_is)
    (case l_law_begun => k_is)
    (case c_law_begun => k_is)
    (case k_law_begun => k_is)
    (case l_law_done => k_is)
    (case c_law_done => k_is)
    (case k_law_done => k_is)
    (case l_law_down => k_is)
    (case c_law_down => k_is)
    (case k_law_down => k_is)
    (case l_law_wrote => k_is)
    (case c_law_wrote => k_is)
    (case k_law_wrote => k_is)
    (case l_law_points => k_is)
    (case c_law_points => k_is)
    (case k_law_points => k_is)
    (case l_law_event => k_is)
    (case c_law_event => k_is)
    (case k_law_event => k_is)
    (case l_law_whole => k_is)
    (case c_law_whole => k_is)
    (case k_law_whole => k_is)
    (case l_law_refused => k_is)
    (case c_law_refused => k_is)
    (case k_law_refused => k_is)
    (case l_law_states_right => k_is)
    (case c_law_states_right => k_is)
    (case k_law_states_right => k_is)
    (case l_law_right => k_is)
    (case c_law_right => k_is)
    (case k_law_right => k_is)
    (case l_law_cut => k_is)
    (case c_law_cut => k_is)
    (case k_law_cut => k_is)
    (case l_law_told => k_is)
    (case c_law_told => k_is)
    (case k_law_told => k_is)
    (case l_law_cut_right => k_is)
    (case c_law_cut_right => k_is)
    (case k_law_cut_right => k_is)
    (case l_law_thrown => k_is)
    (case c_law_thrown => k_is)
    (case k_law_thrown => k_is)
    (case l_law => k_is)
    (case c_law => k_is)
    (case k_law => k_is)
    (case pg_Event => k_is)
    (case hd_Event => k_is)
    (case po_Event => k_is)
    (case sa_Event => k_is)
    (case ca_Event => k_is)
    (case mr_Event => k_is)
    (case kc_Event => k_is)
    (case mk_Event => k_is)
    (case pg_Thread => k_is)
    (case hd_Thread => k_is)
    (case po_Thread => k_is)
    (case sa_Thread => k_is)
    (case ca_Thread => k_is)
    (case mr_Thread => k_is)
    (case kc_Thread => k_is)
    (case mk_Thread => k_is)
    (case pg_Habit => k_is)
    (case hd_Habit => k_is)
    (case po_Habit => k_is)
    (case sa_Habit => k_is)
    (case ca_Habit => k_is)
    (case mr_Habit => k_is)
    (case kc_Habit => k_is)
    (case mk_Habit => k_is)
    (case ni_Habit => k_is)
    (case pg_Never => k_is)
    (case hd_Never => k_is)
    (case po_Never => k_is)
    (case sa_Never => k_is)
    (case ca_Never => k_is)
    (case mr_Never => k_is)
    (case kc_Never => k_is)
    (case mk_Never => k_is)
    (case ni_Never => k_is)
    (case pg_Each => k_is)
    (case hd_Each => k_is)
    (case po_Each => k_is)
    (case sa_Each => k_is)
    (case ca_Each => k_is)
    (case mr_Each => k_is)
    (case kc_Each => k_is)
    (case mk_Each => k_is)
    (case ni_Each => k_is)
    (case pg_Bundle => k_is)
    (case hd_Bundle => k_is)
    (case po_Bundle => k_is)
    (case sa_Bundle => k_is)
    (case ca_Bundle => k_is)
    (case mr_Bundle => k_is)
    (case kc_Bundle => k_is)
    (case mk_Bundle => k_is)
    (case gs => k_is)
    (case tk => k_is)
    (case ah_Never_writes_events => k_is)
    (case ah_Never_piled_up => k_is)
    (case n_Bundle_size => k_is)
    (case n_Event_said => k_is)
    (case n_Event_sent => k_is)
    (case n_Event_state => k_is)
    (case n_Event_used => k_is)
    (case n_Thread_done => k_is)
    (case n_Thread_habit => k_is)
    (case n_Thread_pile => k_is)
    (case n_Thread_start => k_is)
    (case n_Thread_writings => k_is)
    (case b_ValueError => k_is)
    (case b_all => k_is)
    (case b_bool => k_is)
    (case b_int => k_is)
    (case b_isinstance => k_is)
    (case b_len => k_is)
    (case b_list => k_is)
    (case b_max => k_is)
    (case b_range => k_is)
    (case b_sorted => k_is)
    (case xP_WeaveError => k_exc)
    (case kP_WeaveError => k_is)
    (case bP_WeaveError => k_is)
    (case tP_WeaveError => k_is)
    (case dP_WeaveError => k_is)
    (case hg_WeaveError => k_is)
    (case hk_WeaveError => k_is)
    (case he_WeaveError => k_is)
    (case hm_WeaveError => k_is)
    (case xP_NoSize => k_exc)
    (case kP_NoSize => k_is)
    (case bP_NoSize => k_is)
    (case tP_NoSize => k_is)
    (case dP_NoSize => k_is)
    (case hg_NoSize => k_is)
    (case hk_NoSize => k_is)
    (case he_NoSize => k_is)
    (case hm_NoSize => k_is)
    (case xP_NoPoint => k_exc)
    (case kP_NoPoint => k_is)
    (case bP_NoPoint => k_is)
    (case tP_NoPoint => k_is)
    (case dP_NoPoint => k_is)
    (case hg_NoPoint => k_is)
    (case hk_NoPoint => k_is)
    (case he_NoPoint => k_is)
    (case hm_NoPoint => k_is)
    (case xP_NoHand => k_exc)
    (case kP_NoHand => k_is)
    (case bP_NoHand => k_is)
    (case tP_NoHand => k_is)
    (case dP_NoHand => k_is)
    (case hg_NoHand => k_is)
    (case hk_NoHand => k_is)
    (case he_NoHand => k_is)
    (case hm_NoHand => k_is)
    (case xP_NoLetter => k_exc)
    (case kP_NoLetter => k_is)
    (case bP_NoLetter => k_is)
    (case tP_NoLetter => k_is)
    (case dP_NoLetter => k_is)
    (case hg_NoLetter => k_is)
    (case hk_NoLetter => k_is)
    (case he_NoLetter => k_is)
    (case hm_NoLetter => k_is)
    (case xP_NoText => k_exc)
    (case kP_NoText => k_is)
    (case bP_NoText => k_is)
    (case tP_NoText => k_is)
    (case dP_NoText => k_is)
    (case hg_NoText => k_is)
    (case hk_NoText => k_is)
    (case he_NoText => k_is)
    (case hm_NoText => k_is)
    (case nd_Never_Each => decide)
    (case nd_Never_Bundle => decide)
    (case nd_Each_Bundle => decide)
    (case xm_NoPoint_WeaveError => k_is)
    (case xm_NoPoint_NoPoint => k_is)
    (case ks_NoPoint_NoSize => k_is)
    (case k0_NoSize => k_is)
    (case ks_NoPoint_NoHand => k_is)
    (case k0_NoHand => k_is)
    (case ks_NoPoint_NoLetter => k_is)
    (case k0_NoLetter => k_is)
    (case ks_NoPoint_NoText => k_is)
    (case k0_NoText => k_is)
    (case ks_NoPoint_NoPoint => k_is)
    (case k0_NoPoint => k_is)
    (case ks_NoPoint_ValueError => k_is)
